/- Part X13 of the proof. -/
import Derived.Test.YtdhedjbmdnnbkaaGreatDoorX12
import Derived.Lib.ItoaNum
set_option linter.all false
namespace Go.Abs
abbrev nQ (n : Nat) : Rat := ((n : Int) : Rat)
theorem nQ_eq (n : Nat) : nQ n = mkRat n 1 := (Rat.mkRat_one n).symm
theorem nQ_zero {n : Nat} : nQ n = 0 ↔ n = 0 := by
 rw [← Rat.num_eq_zero]
 show (n : Int) = 0 ↔ n = 0
 omega
theorem qs_nQ {n k : Nat} (h : bl n ≤ k) (hk : 1 ≤ k) : qs (nQ n) ≤ k := by
 refine Nat.max_le.2 ⟨?_, ?_⟩
 ·show bl ((n : Int)).natAbs ≤ k
  rwa [Int.natAbs_natCast]
 ·show bl 1 ≤ k
  rw [bl_one]; exact hk
theorem nQ_mul (a b : Nat) : nQ a * nQ b = nQ (a * b) := by
 rw [mul_mkRat, nQ_eq (a * b)]
 show mkRat ((a : Int) * b) (1 * 1) = _
 rw [Int.natCast_mul]
theorem nQ_sub {a b : Nat} (h : b ≤ a) : nQ a - nQ b = nQ (a - b) := by
 show ((a : Int) : Rat) - ((b : Int) : Rat) = _
 rw [← Rat.intCast_sub]
 show ((_ : Int) : Rat) = ((_ : Int) : Rat)
 congr 1
 omega
theorem nQ_div (a b : Nat) (hb : b ≠ 0) : nQ a / nQ b = mkRat a b := by
 rw [div_divInt]
 show Rat.divInt ((a : Int) * ((1 : Nat) : Int)) (((1 : Nat) : Int) * b) = _
 rw [show ((a : Int) * ((1 : Nat) : Int)) = a by omega, show (((1 : Nat) : Int) * (b : Int)) = b by omega, Rat.divInt_ofNat]
theorem mkRat_nat (a b : Nat) (hb : b ≠ 0) (h : b ∣ a) : mkRat a b = nQ (a / b) := by
 obtain ⟨k, rfl⟩ := h
 rw [Nat.mul_div_cancel_left _ (by omega), nQ_eq, Rat.mkRat_eq_iff hb (by decide)]
 rw [Int.natCast_mul, Int.mul_comm (b : Int)]
 simp
theorem mkRat_floor (a b : Nat) (hb : b ≠ 0) : (mkRat a b).floor = ((a / b : Nat) : Int) := by
 have h := mkRat_num (n := (a : Int)) (d := b) (by omega)
 rw [Int.natAbs_natCast] at h
 rw [Rat.floor_def, h.1, h.2]
 have hg : 0 < Nat.gcd a b := Nat.gcd_pos_of_pos_right _ (by omega)
 rw [← Int.natCast_ediv, ← Int.natCast_ediv, Nat.div_div_eq_div_mul, Nat.mul_div_cancel' (Nat.gcd_dvd_right a b)]
def denL : List Rat → Nat → Nat
 | [], d => d
 | c :: l, d => denL l (Nat.lcm d c.den)
def intC (c : Rat) (D : Nat) : Nat := c.num.natAbs * (D / c.den)
def numL (D : Nat) : List Rat → Nat → Nat
 | [], n => n
 | c :: l, n => numL D l (Nat.gcd n (intC c D))
def primP (p : List Rat) : List Rat := scaleP (trimQ p) (nQ (denL (trimQ p) 1) / nQ (numL (denL (trimQ p) 1) (trimQ p) 0))
def okPrim (p : List Rat) : Prop := (p.length + 4) * mxL p ≤ 34359738368 ∧ p.length ≤ 274877906944
instance (p : List Rat) : Decidable (okPrim p) := inferInstanceAs (Decidable (_ ∧ _))
theorem lcm_pos {a b : Nat} (ha : a ≠ 0) (hb : b ≠ 0) : Nat.lcm a b ≠ 0 := fun h => by
 rcases Nat.lcm_eq_zero_iff.1 h with h | h
 ·exact ha h
 ·exact hb h
theorem denL_ne : ∀ (l : List Rat) {d : Nat}, d ≠ 0 → denL l d ≠ 0
 | [], _, h => h
 | c :: l, _, h => denL_ne l (lcm_pos h c.den_nz)
theorem denL_dvd : ∀ (l : List Rat) (d : Nat), d ∣ denL l d ∧ ∀ c ∈ l, c.den ∣ denL l d
 | [], d => ⟨Nat.dvd_refl d, fun _ h => by cases h⟩
 | c :: l, d => by
  obtain ⟨h1, h2⟩ := denL_dvd l (Nat.lcm d c.den)
  refine ⟨Nat.dvd_trans (Nat.dvd_lcm_left d c.den) h1, fun x hx => ?_⟩
  rcases List.mem_cons.1 hx with rfl | hx
  ·exact Nat.dvd_trans (Nat.dvd_lcm_right d x.den) h1
  ·exact h2 x hx
theorem bl_lcm (a b : Nat) : bl (Nat.lcm a b) ≤ bl a + bl b :=
 Nat.le_trans (bl_div_le _ _) (bl_mul a b)
theorem denL_bl {s : Nat} : ∀ (l : List Rat) (d : Nat), bdL l s → bl (denL l d) ≤ bl d + l.length * s
 | [], d, _ => by simp [denL]
 | c :: l, d, h => by
  have h1 := denL_bl l (Nat.lcm d c.den) fun q hq => h q (List.mem_cons_of_mem _ hq)
  have h2 := bl_lcm d c.den
  have h3 := qs_den c
  have h4 := h c (List.mem_cons_self ..)
  rw [List.length_cons, Nat.add_mul, Nat.one_mul]
  unfold denL
  omega
theorem mul_intC (c : Rat) (D : Nat) (h : c.den ∣ D) : absQ (c * nQ D) = nQ (intC c D) := by
 obtain ⟨k, rfl⟩ := h
 have hd := c.den_nz
 have e : c * nQ (c.den * k) = ((c.num * (k : Int) : Int) : Rat) := by
  rw [mul_mkRat]
  show mkRat (c.num * ((c.den * k : Nat) : Int)) (c.den * 1) = _
  rw [show ((c.num * (k : Int) : Int) : Rat) = mkRat (c.num * k) 1 from (Rat.mkRat_one _).symm, Rat.mkRat_eq_iff (by omega) (by decide)]
  rw [Int.natCast_mul, Nat.mul_one]
  simp only [Int.natCast_one, Int.mul_one]
  rw [Int.mul_left_comm, Int.mul_comm]
 rw [e]
 unfold absQ intC
 show mkRat (((c.num * (k : Int)).natAbs : Nat) : Int) 1 = _
 rw [Nat.mul_div_cancel_left _ (by omega), Int.natAbs_mul, Int.natAbs_natCast, nQ_eq]
theorem numL_dvd (D : Nat) : ∀ (l : List Rat) (n : Nat), numL D l n ∣ n ∧ ∀ c ∈ l, numL D l n ∣ intC c D
 | [], n => ⟨Nat.dvd_refl n, fun _ h => by cases h⟩
 | c :: l, n => by
  obtain ⟨h1, h2⟩ := numL_dvd D l (Nat.gcd n (intC c D))
  refine ⟨Nat.dvd_trans h1 (Nat.gcd_dvd_left _ _), fun x hx => ?_⟩
  rcases List.mem_cons.1 hx with rfl | hx
  ·exact Nat.dvd_trans h1 (Nat.gcd_dvd_right _ _)
  ·exact h2 x hx
theorem intC_ne {c : Rat} {D : Nat} (h : c.den ∣ D) (hD : D ≠ 0) (hc : c ≠ 0) : intC c D ≠ 0 := by
 obtain ⟨k, rfl⟩ := h
 unfold intC
 rw [Nat.mul_div_cancel_left _ c.den_pos]
 have h1 : c.num ≠ 0 := fun e => hc (Rat.num_eq_zero.1 e)
 refine Nat.mul_ne_zero (by omega) fun e => hD (by rw [e, Nat.mul_zero])
theorem intC_bl (c : Rat) (D : Nat) : bl (intC c D) ≤ qs c + bl D := by
 have h1 := bl_mul c.num.natAbs (D / c.den)
 have h2 := bl_div_le D c.den
 have h3 := qs_num c
 unfold intC; omega
theorem deriveP_len (p : List Rat) : (deriveP p).length ≤ p.length - 1 := by
 have := trimQ_len (tabP (p.length - 1) fun i => coP p (i + 1) * ((i + 1 : Nat) : Int))
 simpa [deriveP] using this
def sqfM (f : Nat) (p : List Rat) : Option (List Rat) :=
 if smL p ∧ p.length ≤ 274877906944 then (gcdM f p (deriveP p)).bind fun g => if trimQ g ≠ [] ∧ okDiv p g then some (monicP (divP p g).1) else none
 else none
def boL (lead : Rat) : List Rat → Rat → Rat
 | [], m => m
 | c :: l, m => boL lead l (maxL [m, absQ (c / lead)])
def boundP (p : List Rat) : Rat := boL (leadP p) ((trimQ p).take ((trimQ p).length - 1)) 0 + 1
def okBound (p : List Rat) : Prop := mxL p ≤ 34359738368 ∧ p.length ≤ 274877906944
instance (p : List Rat) : Decidable (okBound p) := inferInstanceAs (Decidable (_ ∧ _))
def largeP (p : List Rat) : Int := if degP p < 0 then 10 else if 40 < degP p then 5 else 0
theorem qs_abs (q : Rat) : qs (absQ q) = qs q := by
 unfold qs
 rw [absQ_num, absQ_den, Int.natAbs_natCast]
theorem maxL_le {l : List Rat} {n : Nat} (h : bdL l n) (hn : 1 ≤ n) : qs (maxL l) ≤ n := by
 unfold maxL
 have key : ∀ (bf : Int → Bool) (l : List Rat) (o : Rat), qs o ≤ n → bdL l n → qs (l.foldl (fun o y => if bf (cmpQ y o) then y else o) o) ≤ n := by
  intro bf l
  induction l with
  | nil => intro o ho _; exact ho
  | cons y l ih =>
   intro o ho hl
   refine ih _ ?_ fun q hq => hl q (List.mem_cons_of_mem _ hq)
   show qs (if bf (cmpQ y o) = true then y else o) ≤ n
   split
   ·exact hl y (List.mem_cons_self ..)
   ·exact ho
 cases l with
 | nil => exact Nat.le_trans (by decide : qs 0 ≤ 1) hn
 | cons x l => exact key (fun c => decide (0 < c)) l x (h x (List.mem_cons_self ..)) fun q hq => h q (List.mem_cons_of_mem _ hq)
theorem leadP_trim (p : List Rat) : leadP (trimQ p) = leadP p := by unfold leadP; rw [trimQ_idem]
def chL : List Int → Int → Int → Int
 | [], n, _ => n
 | s :: l, n, last => if s ≠ 0 then chL l (if s = -last then n + 1 else n) s else chL l n last
def chainM (f : Nat) : Nat → List Rat → List Rat → List (List Rat) → Option (List (List Rat))
 | 0, _, _, _ => none
 | k + 1, last, next, acc =>
  if trimQ next = [] then some acc
  else if okPrim next ∧ okDiv last (primP next) ∧ trimQ (primP next) ≠ [] then chainM f k (primP next) (scaleP (divP last (primP next)).2 (-1)) (acc ++ [primP next])
  else none
def sturmM (f : Nat) (p : List Rat) : Option (List (List Rat)) :=
 if smL p ∧ okPrim p ∧ trimQ p ≠ [] then chainM f f (primP p) (deriveP p) [primP p] else none
def cE (l : List (List Rat)) : List (List AV) := l.map fun p => [.arr (pE p)]
@[simp] theorem cE_length (l : List (List Rat)) : (cE l).length = l.length := by simp [cE]
theorem cE_get {l : List (List Rat)} {i : Nat} {p : List Rat} (h : l[i]? = some p) : (cE l)[i]? = some [.arr (pE p)] := by simp [cE, h]
theorem cE_one (l : List (List Rat)) : (cE l).all (·.all AV.one) = true := by
 simp only [cE, List.all_map, List.all_eq_true]; intro q _; rfl
theorem closed_cE (l : List (List Rat)) : ∀ e ∈ cE l, ∀ c ∈ e, Closed c := by
 intro e he c hc
 obtain ⟨q, _, rfl⟩ := List.mem_map.1 he
 rw [List.mem_singleton.1 hc]
 exact closed_pA q
theorem closed_cA (l : List (List Rat)) : Closed (.arr (cE l)) := closed_arr (closed_cE l)
theorem cE_snoc (l : List (List Rat)) (p : List Rat) : cE (l ++ [p]) = cE l ++ [[.arr (pE p)]] := by simp [cE]
theorem AEval.lenC {P : Program} {id : Nat} {ev : Operand → Option AV} {hp : Nat → Option ABlk} {c : Call} {x : Operand} {T : Nat} {d : Nat × Nat} {l : List (List Rat)} (hc : c.callee = .builtin .len) (ha : c.args = #[x]) (ht : c.argTypes = #[T]) (hx : ev x = some (.arr (cE l))) (he : elOf P T = some d) :
    AEval P id ev hp (.call c) ⟨.v (.int .i64 (l.length : Nat)), []⟩ [] := .len hc ha ht hx (by simp [lenA]) he
structure Cnt where
 p : List Rat
 ch : List (List Rat)
 far : Int
def kC (c : Cnt) : List AV := [.arr (pE c.p), .arr (cE c.ch), i64 c.far]
abbrev kA (c : Cnt) : AV := .aptr [kC c] 0 0
theorem closed_kC (c : Cnt) : ∀ x ∈ kC c, Closed x := closed_cons (closed_pA _) (closed_cons (closed_cA _) (closed_cons (closed_v _) closed_nil))
theorem closed_kA (c : Cnt) : Closed (kA c) := closed_box (closed_kC c)
def sgI (q : List Rat) : Int := if degP q % 2 = 1 then -sgZ (leadP q).num else sgZ (leadP q).num
def sgE (x : Rat) (q : List Rat) : Int := sgZ (evalP q x).num
theorem sgZ_abs (z : Int) : -1 ≤ sgZ z ∧ sgZ z ≤ 1 := by
 unfold sgZ; split
 ·omega
 ·split <;> omega
theorem sgI_abs (q : List Rat) : -1 ≤ sgI q ∧ sgI q ≤ 1 := by
 have := sgZ_abs (leadP q).num
 unfold sgI; split <;> omega
theorem chL_bd : ∀ (l : List Int) (n last : Int), n ≤ chL l n last ∧ chL l n last ≤ n + l.length
 | [], n, _ => ⟨Int.le_refl _, by simp [chL]⟩
 | s :: l, n, last => by
  unfold chL
  split
  ·split
   ·have := chL_bd l (n + 1) s; simp only [List.length_cons]; omega
   ·have := chL_bd l n s; simp only [List.length_cons]; omega
  ·have := chL_bd l n last; simp only [List.length_cons]; omega
def okCnt (c : Cnt) : Prop := (∀ q ∈ c.ch, trimQ q ≠ [] ∧ q.length ≤ 274877906944) ∧ c.ch.length ≤ 274877906944 ∧ c.far = chL (c.ch.map sgI) 0 0
instance (c : Cnt) : Decidable (okCnt c) := inferInstanceAs (Decidable (_ ∧ _ ∧ _))
def countsM (f : Nat) (p : List Rat) : Option Cnt :=
 (sqfM f p).bind fun s => (sturmM f s).bind fun ch => if okCnt ⟨s, ch, chL (ch.map sgI) 0 0⟩ then some ⟨s, ch, chL (ch.map sgI) 0 0⟩ else none
def uptoV (c : Cnt) (x : Rat) : Int := c.far - chL (c.ch.map (sgE x)) 0 0
def okUp (c : Cnt) (x : Rat) : Prop := okCnt c ∧ ∀ q ∈ c.ch, okEval q x
instance (c : Cnt) (x : Rat) : Decidable (okUp c x) := inferInstanceAs (Decidable (_ ∧ _))
def belowV (c : Cnt) (x : Rat) : Int := if evalP c.p x = 0 then uptoV c x - 1 else uptoV c x
def okBe (c : Cnt) (x : Rat) : Prop := okUp c x ∧ okEval c.p x
instance (c : Cnt) (x : Rat) : Decidable (okBe c x) := inferInstanceAs (Decidable (_ ∧ _))
def allV (c : Cnt) : Int := uptoV c (boundP c.p)
def okAll (c : Cnt) : Prop := okBound c.p ∧ trimQ c.p ≠ [] ∧ okUp c (boundP c.p)
instance (c : Cnt) : Decidable (okAll c) := inferInstanceAs (Decidable (_ ∧ _ ∧ _))
theorem uptoV_bd {c : Cnt} {x : Rat} (h : okCnt c) : -274877906944 ≤ uptoV c x ∧ uptoV c x ≤ 274877906944 := by
 have h1 := chL_bd (c.ch.map sgI) 0 0
 have h2 := chL_bd (c.ch.map (sgE x)) 0 0
 have h3 := h.2.1
 rw [← h.2.2] at h1
 simp only [List.length_map] at h1 h2
 unfold uptoV
 omega
abbrev plA (c : Cnt) (i : Int) : AV := .aptr [[kA c, i64 i]] 0 0
theorem closed_plA (c : Cnt) (i : Int) : Closed (plA c i) := closed_box (closed_cons (closed_kA c) (closed_cons (closed_v _) closed_nil))
def plC (c : Cnt) (i : Int) (x : Rat) : Int := if i < belowV c x then -1 else if belowV c x = i ∧ belowV c x < uptoV c x then 0 else 1
theorem belowV_bd {c : Cnt} {x : Rat} (h : okCnt c) : -274877906945 ≤ belowV c x ∧ belowV c x ≤ 274877906944 := by
 have := uptoV_bd (x := x) h
 unfold belowV; split <;> omega
def biM (c : Cnt) (i : Int) (step : Rat) : Nat → Rat → Rat → Option Rat
 | 0, _, _ => none
 | f + 1, lo, hi =>
  if sm lo ∧ sm hi ∧ sm (hi - lo) then
   if 0 < cmpQ (hi - lo) 1 then
    if qs (((lo + hi) / 2).floor : Rat) + qs step ≤ 549755813888 ∧ okBe c ((((lo + hi) / 2).floor : Rat) * step) then
     if 0 ≤ plC c i ((((lo + hi) / 2).floor : Rat) * step) then biM c i step f (((lo + hi) / 2).floor : Rat) hi
     else biM c i step f lo (((lo + hi) / 2).floor : Rat)
    else none
   else some lo
  else none
def inK (a v : Rat) (out zeros : List Rat) : Rat := (v - evalP out a) / evalP zeros a
def okIn (a v : Rat) (out zeros : List Rat) : Prop := sm a ∧ sm v ∧ okEval out a ∧ okEval zeros a ∧ evalP zeros a ≠ 0 ∧ sm (inK a v out zeros) ∧ smL out ∧ smL zeros ∧ smL (scaleP zeros (inK a v out zeros)) ∧ okMul zeros [-a, 1] ∧ out.length ≤ 274877906944
instance (a v : Rat) (out zeros : List Rat) : Decidable (okIn a v out zeros) := inferInstanceAs (Decidable (_ ∧ _ ∧ _ ∧ _ ∧ _ ∧ _ ∧ _ ∧ _ ∧ _ ∧ _ ∧ _))
theorem coP_nil (i : Nat) : coP [] i = 0 := rfl
theorem coP_zero (a : Rat) (l : List Rat) : coP (a :: l) 0 = a := rfl
theorem coP_succ (a : Rat) (l : List Rat) (i : Nat) : coP (a :: l) (i + 1) = coP l i := rfl
theorem coP_trim (l : List Rat) (i : Nat) : coP (trimQ l) i = coP l i := by
 induction l generalizing i with
 | nil => rfl
 | cons a l ih =>
  rw [trimQ_cons]
  split
  ·rename_i h
   have h0 : ∀ j, coP l j = 0 := fun j => by rw [← ih j, h]; rfl
   split
   ·rename_i ha
    cases i with
    | zero => rw [coP_zero, ha]; rfl
    | succ i => rw [coP_succ, h0]; rfl
   ·cases i with
    | zero => rfl
    | succ i => rw [coP_succ, coP_succ, h0]; rfl
  ·cases i with
   | zero => rfl
   | succ i => rw [coP_succ, coP_succ, ih]
theorem coP_tab (n : Nat) (f : Nat → Rat) (i : Nat) : coP (tabP n f) i = if i < n then f i else 0 := by
 unfold coP tabP
 rw [List.getD_eq_getElem?_getD, List.getElem?_map]
 by_cases h : i < n
 ·rw [if_pos h, List.getElem?_range h]; rfl
 ·rw [if_neg h, List.getElem?_eq_none (by simp; omega)]; rfl
theorem coP_add (p q : List Rat) (i : Nat) : coP (addP p q) i = coP p i + coP q i := by
 unfold addP
 rw [coP_trim, coP_tab]
 split
 ·rfl
 ·rename_i h
  rw [coP_out (by omega), coP_out (by omega)]; grind
theorem coP_scale (p : List Rat) (k : Rat) (i : Nat) : coP (scaleP p k) i = coP p i * k := by
 unfold scaleP
 rw [coP_trim, coP_tab]
 split
 ·rfl
 ·rename_i h
  rw [coP_out (by omega)]; grind
theorem coP_sub (p q : List Rat) (i : Nat) : coP (subP p q) i = coP p i - coP q i := by
 unfold subP
 rw [coP_add, coP_scale]; grind
theorem trim_ext {p q : List Rat} (h : ∀ i, coP p i = coP q i) : trimQ p = trimQ q := by
 induction p generalizing q with
 | nil =>
  induction q with
  | nil => rfl
  | cons b q ih =>
   have hb : b = 0 := (h 0).symm
   rw [trimQ_cons, ← ih fun i => h (i + 1), if_pos (by rfl), if_pos hb]; rfl
 | cons a p ih =>
  cases q with
  | nil =>
   have ha : a = 0 := h 0
   rw [trimQ_cons, ih (q := []) fun i => h (i + 1), if_pos (by rfl), if_pos ha]; rfl
  | cons b q =>
   have hab : a = b := h 0
   rw [trimQ_cons, trimQ_cons, ih (q := q) fun i => h (i + 1), hab]
theorem trim_nil_iff {p : List Rat} : trimQ p = [] ↔ ∀ i, coP p i = 0 :=
 ⟨fun h i => by rw [← coP_trim p, h]; rfl, fun h => trim_ext (q := []) h⟩
theorem evalP_nil (x : Rat) : evalP [] x = 0 := rfl
theorem evalP_cons (a : Rat) (l : List Rat) (x : Rat) : evalP (a :: l) x = evalP l x * x + a := rfl
theorem evalP_zero {p : List Rat} (h : ∀ i, coP p i = 0) (x : Rat) : evalP p x = 0 := by
 induction p with
 | nil => rfl
 | cons a p ih =>
  have ha : a = 0 := h 0
  rw [evalP_cons, ih fun i => h (i + 1), ha]; grind
theorem evalP_ext {p q : List Rat} (h : ∀ i, coP p i = coP q i) (x : Rat) : evalP p x = evalP q x := by
 induction p generalizing q with
 | nil => exact (evalP_zero (fun i => (h i).symm) x).symm
 | cons a p ih =>
  cases q with
  | nil => exact evalP_zero h x
  | cons b q =>
   have hab : a = b := h 0
   rw [evalP_cons, evalP_cons, ih (q := q) fun i => h (i + 1), hab]
def addL : List Rat → List Rat → List Rat
 | [], q => q
 | p, [] => p
 | a :: p, b :: q => (a + b) :: addL p q
def scaleL (p : List Rat) (k : Rat) : List Rat := p.map (· * k)
def mulL : List Rat → List Rat → List Rat
 | [], _ => []
 | a :: p, q => addL (scaleL q a) (0 :: mulL p q)
theorem coP_addL (p q : List Rat) (i : Nat) : coP (addL p q) i = coP p i + coP q i := by
 induction p generalizing q i with
 | nil => rw [addL, coP_nil]; grind
 | cons a p ih =>
  cases q with
  | nil => rw [addL, coP_nil]; · grind
           ·intro h; cases h
  | cons b q =>
   rw [addL]
   cases i with
   | zero => rfl
   | succ i => exact ih q i
theorem coP_scaleL (p : List Rat) (k : Rat) (i : Nat) : coP (scaleL p k) i = coP p i * k := by
 induction p generalizing i with
 | nil => show (0 : Rat) = 0 * k; grind
 | cons a p ih =>
  cases i with
  | zero => rfl
  | succ i => exact ih i
theorem evalP_addL (p q : List Rat) (x : Rat) : evalP (addL p q) x = evalP p x + evalP q x := by
 induction p generalizing q with
 | nil => rw [addL, evalP_nil]; grind
 | cons a p ih =>
  cases q with
  | nil => rw [addL, evalP_nil]; · grind
           ·intro h; cases h
  | cons b q => rw [addL, evalP_cons, evalP_cons, evalP_cons, ih]; grind
theorem evalP_scaleL (p : List Rat) (k x : Rat) : evalP (scaleL p k) x = evalP p x * k := by
 induction p with
 | nil => show (0 : Rat) = 0 * k; grind
 | cons a p ih => show evalP (scaleL p k) x * x + a * k = _; rw [ih, evalP_cons]; grind
theorem evalP_mulL (p q : List Rat) (x : Rat) : evalP (mulL p q) x = evalP p x * evalP q x := by
 induction p with
 | nil => show (0 : Rat) = 0 * _; grind
 | cons a p ih => rw [mulL, evalP_addL, evalP_scaleL, evalP_cons, ih, evalP_cons]; grind
theorem evalP_add (p q : List Rat) (x : Rat) : evalP (addP p q) x = evalP p x + evalP q x := by
 rw [← evalP_addL]; exact evalP_ext (fun i => by rw [coP_add, coP_addL]) x
theorem evalP_scale (p : List Rat) (k x : Rat) : evalP (scaleP p k) x = evalP p x * k := by
 rw [← evalP_scaleL]; exact evalP_ext (fun i => by rw [coP_scale, coP_scaleL]) x
theorem evalP_sub (p q : List Rat) (x : Rat) : evalP (subP p q) x = evalP p x - evalP q x := by
 unfold subP; rw [evalP_add, evalP_scale]; grind
def convP (p q : List Rat) : Nat → Nat → Rat
 | 0, _ => 0
 | i + 1, n => convP p q i n + (if i ≤ n then coP p i * coP q (n - i) else 0)
theorem coP_rowP (o : List Rat) (a : Rat) (q : List Rat) (i : Nat) (h : ∀ k, k < q.length → i + k < o.length) : ∀ k n, k ≤ q.length → coP (rowP o a q i k) n = coP o n + (if i ≤ n ∧ n < i + k then a * coP q (n - i) else 0)
 | 0, n, _ => by rw [if_neg (by omega)]; show coP o n = _; grind
 | k + 1, n, hk => by
  rw [rowP, coP_addAt, rowP_length]
  by_cases hn : n = i + k
  ·subst hn
   rw [if_pos ⟨rfl, h k (by omega)⟩, rowP_out o a q i k (i + k) (by omega), if_pos (by omega), show i + k - i = k by omega]
  ·rw [if_neg (by omega), coP_rowP o a q i h k n (by omega)]
   by_cases h2 : i ≤ n ∧ n < i + k
   ·rw [if_pos h2, if_pos (by omega)]
   ·rw [if_neg h2, if_neg (by omega)]
theorem coP_mulR (p q : List Rat) (n : Nat) : ∀ i, i ≤ p.length → coP (mulR p q i) n = convP p q i n
 | 0, _ => by
  show coP (List.replicate _ 0) n = 0
  unfold coP
  rw [List.getD_eq_getElem?_getD, List.getElem?_replicate]
  split <;> rfl
 | i + 1, hi => by
  have ih := coP_mulR p q n i (by omega)
  rw [mulR, convP]
  split
  ·rename_i h0
   rw [ih, h0]
   split <;> grind
  ·rw [coP_rowP _ _ _ _ (fun k hk => by rw [mulR_length]; omega) _ _ (Nat.le_refl _), ih]
   congr 1
   by_cases h1 : i ≤ n
   ·rw [if_pos h1]
    by_cases h2 : n < i + q.length
    ·rw [if_pos ⟨h1, h2⟩]
    ·rw [if_neg (by omega), coP_out (p := q) (by omega)]; grind
   ·rw [if_neg (by omega), if_neg h1]
theorem convP_cons (a : Rat) (p q : List Rat) (n : Nat) : ∀ i, convP (a :: p) q (i + 1) n = a * coP q n + (match n with | 0 => 0 | m + 1 => convP p q i m)
 | 0 => by
  show (0 : Rat) + (if 0 ≤ n then coP (a :: p) 0 * coP q (n - 0) else 0) = _
  rw [if_pos (Nat.zero_le _), coP_zero, Nat.sub_zero]
  cases n <;> simp [convP, Rat.add_zero, Rat.zero_add]
 | i + 1 => by
  rw [convP, convP_cons a p q n i]
  cases n with
  | zero => rw [if_neg (by omega)]; show a * coP q 0 + 0 + 0 = a * coP q 0 + 0; grind
  | succ m =>
   show a * coP q (m + 1) + convP p q i m + _ = a * coP q (m + 1) + (convP p q i m + _)
   by_cases h : i ≤ m
   ·rw [if_pos (by omega), if_pos h, coP_succ, show m + 1 - (i + 1) = m - i by omega]; grind
   ·rw [if_neg (by omega), if_neg h]; grind
theorem coP_mulL (p q : List Rat) (n : Nat) : coP (mulL p q) n = convP p q p.length n := by
 induction p generalizing n with
 | nil => rfl
 | cons a p ih =>
  rw [mulL, coP_addL, coP_scaleL, List.length_cons, convP_cons]
  cases n with
  | zero => rw [coP_zero]; grind
  | succ m => rw [coP_succ, ih]; grind
theorem coP_mul (p q : List Rat) (n : Nat) : coP (mulP p q) n = coP (mulL p q) n := by
 unfold mulP
 split
 ·rename_i h
  rcases h with rfl | rfl
  ·rfl
  ·rw [coP_mulL]
   have : ∀ i, convP p [] i n = 0 := by
    intro i
    induction i with
    | zero => rfl
    | succ i ih => rw [convP, ih, coP_nil]; split <;> grind
   rw [this]; rfl
 ·rw [coP_trim, coP_mulR _ _ _ _ (Nat.le_refl _), coP_mulL]
theorem evalP_mul (p q : List Rat) (x : Rat) : evalP (mulP p q) x = evalP p x * evalP q x := by
 rw [← evalP_mulL]; exact evalP_ext (coP_mul p q) x
def synD : List Rat → Rat → List Rat
 | [], _ => []
 | [_], _ => []
 | _ :: b :: l, r => evalP (b :: l) r :: synD (b :: l) r
theorem synD_eval (p : List Rat) (r x : Rat) : evalP p x = evalP (synD p r) x * (x - r) + evalP p r := by
 induction p with
 | nil => show (0 : Rat) = 0 * _ + 0; grind
 | cons a l ih =>
  cases l with
  | nil => show 0 * x + a = 0 * (x - r) + (0 * r + a); grind
  | cons b l =>
   rw [synD, evalP_cons a, evalP_cons a, evalP_cons (evalP (b :: l) r), ih]; grind
theorem synD_len (p : List Rat) (r : Rat) : (synD p r).length = p.length - 1 := by
 induction p with
 | nil => rfl
 | cons a l ih =>
  cases l with
  | nil => rfl
  | cons b l => rw [synD, List.length_cons, ih]; simp
theorem roots_zero : ∀ (n : Nat) (p xs : List Rat), p.length ≤ n → n ≤ xs.length → xs.Nodup → (∀ x ∈ xs, evalP p x = 0) → ∀ x, evalP p x = 0
 | 0, p, _, hp, _, _, _, x => by
  have : p = [] := List.length_eq_zero_iff.1 (by omega)
  rw [this]; rfl
 | n + 1, p, xs, hp, hx, hnd, hz, x => by
  cases xs with
  | nil => simp at hx
  | cons r xs =>
   rw [List.nodup_cons] at hnd
   have hr := hz r (List.mem_cons_self ..)
   have ih := roots_zero n (synD p r) xs (by rw [synD_len]; omega) (by simp at hx; omega) hnd.2 fun y hy => by
    have h1 := synD_eval p r y
    rw [hz y (List.mem_cons_of_mem _ hy), hr] at h1
    have hne : y - r ≠ 0 := fun h => hnd.1 (by have : y = r := by grind
                                               rw [← this]; exact hy)
    have h2 : evalP (synD p r) y * (y - r) = 0 := by grind
    rcases Rat.mul_eq_zero.1 h2 with h3 | h3
    ·exact h3
    ·exact absurd h3 hne
   rw [synD_eval p r x, ih, hr]; grind
theorem eval_zero_co {p : List Rat} (h : ∀ x, evalP p x = 0) : ∀ i, coP p i = 0 := by
 induction p with
 | nil => intro i; rfl
 | cons a p ih =>
  have ha : a = 0 := by
   have := h 0
   rw [evalP_cons] at this; grind
  have hp : ∀ x, evalP p x = 0 := by
   -- at all places but 0, so at all
   refine roots_zero p.length p ((List.range p.length).map fun i => (((i + 1 : Nat) : Int) : Rat)) (Nat.le_refl _) (by simp) ?_ ?_
   ·refine List.Pairwise.map _ (fun i j hij => ?_) List.nodup_range
    intro e
    apply hij
    have := Rat.intCast_inj.1 e
    omega
   ·intro x hx
    obtain ⟨i, _, rfl⟩ := List.mem_map.1 hx
    have h1 := h (((i + 1 : Nat) : Int) : Rat)
    rw [evalP_cons, ha] at h1
    have h2 : evalP p (((i + 1 : Nat) : Int) : Rat) * (((i + 1 : Nat) : Int) : Rat) = 0 := by grind
    rcases Rat.mul_eq_zero.1 h2 with h3 | h3
    ·exact h3
    ·have := Rat.intCast_inj.1 (h3.trans Rat.intCast_zero.symm); omega
  intro i
  cases i with
  | zero => exact ha
  | succ i => exact ih hp i
theorem eval_ext {p q : List Rat} (h : ∀ x, evalP p x = evalP q x) : trimQ p = trimQ q := by
 refine trim_ext fun i => ?_
 have := eval_zero_co (p := subP p q) (fun x => by rw [evalP_sub, h]; grind) i
 rw [coP_sub] at this; grind

theorem evalP_take (q : List Rat) (x : Rat) (m : Nat) (h : m < q.length) : evalP (q.take (m + 1)) x = evalP (q.take m) x + coP q m * x ^ m := by
 induction q generalizing m with
 | nil => cases h
 | cons a q ih =>
  cases m with
  | zero => rw [List.take_succ_cons, List.take_zero, List.take_zero, coP_zero, Rat.pow_zero, evalP_cons]; show 0 * x + a = 0 + a * 1; grind
  | succ m => rw [List.take_succ_cons, List.take_succ_cons, evalP_cons, evalP_cons, coP_succ, ih m (by simpa using h), Rat.pow_succ]; grind
theorem trimQ_len_of {p : List Rat} {n : Nat} (h : ∀ j, n ≤ j → coP p j = 0) : (trimQ p).length ≤ n := by
 apply Nat.le_of_not_lt
 intro hn
 have h1 := leadP_get (l := p) (n := (trimQ p).length - 1) (by omega)
 have h2 : trimQ p ≠ [] := fun e => by rw [e] at hn; simp at hn
 have h3 := h ((trimQ p).length - 1) (by omega)
 rw [← coP_trim] at h3
 unfold coP at h3
 rw [List.getD_eq_getElem?_getD, h1] at h3
 exact leadP_ne h2 h3
section
variable (p q r : List Rat) (a b : Rat)
end

def sg (k : Nat) : Rat := (-1) ^ k




theorem lead_qs {p : List Rat} {t : Nat} (h : bdL p t) (ht : 1 ≤ t) : qs (leadP p) ≤ t := by
 by_cases h0 : trimQ p = []
 ·rw [leadP_nil h0]; exact Nat.le_trans (by decide : qs 0 ≤ 1) ht
 ·have hl := List.length_pos_iff.2 h0
  exact h _ (trimQ_mem (List.mem_of_getElem? (leadP_get (n := (trimQ p).length - 1) (by omega))))
theorem bdL_mono {l : List Rat} {a b : Nat} (h : bdL l a) (hab : a ≤ b) : bdL l b := fun q hq => Nat.le_trans (h q hq) hab
def pd : Nat → Nat → List UInt8
 | 0, _ => []
 | k + 1, n => pd k (n / 10) ++ [UInt8.ofNat (48 + n % 10)]
theorem pd_length (k n : Nat) : (pd k n).length = k := by
 induction k generalizing n with
 | zero => rfl
 | succ k ih => rw [pd, List.length_append, ih]; rfl
theorem pd_add (j k n : Nat) : pd (j + k) n = pd j (n / 10 ^ k) ++ pd k n := by
 induction k generalizing n with
 | zero => rw [Nat.add_zero, Nat.pow_zero, Nat.div_one]; simp [pd]
 | succ k ih => rw [← Nat.add_assoc, pd, pd, ih, Nat.div_div_eq_div_mul, Nat.pow_succ, Nat.mul_comm 10, List.append_assoc]
theorem pd_mod (k n : Nat) : pd k (n % 10 ^ k) = pd k n := by
 induction k generalizing n with
 | zero => rfl
 | succ k ih =>
  rw [pd, pd, Nat.pow_succ]
  have e1 : n % (10 ^ k * 10) / 10 = n / 10 % 10 ^ k := by
   rw [Nat.mul_comm, Nat.mod_mul_right_div_self]
  have e2 : n % (10 ^ k * 10) % 10 = n % 10 := by rw [Nat.mod_mul_left_mod]
  rw [e1, e2, ih]
theorem pd_front (k n : Nat) : pd (k + 1) n = UInt8.ofNat (48 + n / 10 ^ k % 10) :: pd k n := by
 rw [Nat.add_comm, pd_add]; rfl
theorem pd_zero (k : Nat) : pd k 0 = List.replicate k 48 := by
 induction k with
 | zero => rfl
 | succ k ih => rw [pd, ih, List.replicate_succ']; rfl
def dropZ : List UInt8 → List UInt8
 | [] => []
 | c :: l => if c = 48 then dropZ l else c :: l
theorem dropZ_append {a b : List UInt8} (h : dropZ a ≠ []) : dropZ (a ++ b) = dropZ a ++ b := by
 induction a with
 | nil => exact absurd rfl h
 | cons c a ih =>
  rw [List.cons_append, dropZ, dropZ]
  rw [dropZ] at h
  by_cases hc : c = 48
  ·rw [if_pos hc] at h; rw [if_pos hc, if_pos hc, ih h]
  ·rw [if_neg hc, if_neg hc]; rfl
theorem dropZ_zeros (k : Nat) (l : List UInt8) : dropZ (List.replicate k 48 ++ l) = dropZ l := by
 induction k with
 | zero => rfl
 | succ k ih => rw [List.replicate_succ, List.cons_append, dropZ, if_pos rfl, ih]
theorem dig_ne {n : Nat} (h0 : n ≠ 0) (h : n < 10) : UInt8.ofNat (48 + n) ≠ 48 := by
 have : ∀ n, n < 10 → n ≠ 0 → UInt8.ofNat (48 + n) ≠ 48 := by decide
 exact this n h h0
theorem decDigits_ne (n : Nat) : Lib.decDigits n ≠ [] := by
 intro e
 have h1 := Lib.decDigits_length n
 rw [e] at h1
 have := Lib.nDigits_pos n
 simp at h1; omega
theorem dropZ_pd : ∀ (k n : Nat), 0 < n → n < 10 ^ k → dropZ (pd k n) = Lib.decDigits n
 | 0, n, h, h2 => by rw [Nat.pow_zero] at h2; omega
 | k + 1, n, h, h2 => by
  rw [pd, Lib.decDigits]
  by_cases h10 : n < 10
  ·rw [dif_pos h10, Nat.div_eq_of_lt h10, pd_zero, dropZ_zeros, Nat.mod_eq_of_lt h10, dropZ, if_neg (dig_ne (by omega) h10)]
  ·rw [dif_neg h10]
   have ih := dropZ_pd k (n / 10) (by omega) (by rw [Nat.pow_succ] at h2; omega)
   rw [dropZ_append (by rw [ih]; exact decDigits_ne _), ih]
theorem dec_split : ∀ (k a b : Nat), 0 < a → b < 10 ^ k → Lib.decDigits (a * 10 ^ k + b) = Lib.decDigits a ++ pd k b
 | 0, a, b, h, hb => by
  have : b = 0 := by rw [Nat.pow_zero] at hb; omega
  subst this; simp [pd]
 | k + 1, a, b, h, hb => by
  have hp : 1 ≤ 10 ^ k := Nat.one_le_pow _ _ (by decide)
  have hap : 1 ≤ a * 10 ^ k := Nat.mul_le_mul h hp
  have e : a * 10 ^ (k + 1) + b = (a * 10 ^ k) * 10 + b := by rw [Nat.pow_succ, Nat.mul_assoc]
  rw [e, Lib.decDigits, dif_neg (by omega), show (a * 10 ^ k * 10 + b) / 10 = a * 10 ^ k + b / 10 by omega, show (a * 10 ^ k * 10 + b) % 10 = b % 10 by omega, dec_split k a (b / 10) h (by rw [Nat.pow_succ] at hb; omega), pd, List.append_assoc]
theorem pd_dec : ∀ (k n : Nat), 0 < n → n < 10 ^ k → pd k n = List.replicate (k - (Lib.decDigits n).length) 48 ++ Lib.decDigits n
 | 0, n, h, h2 => by rw [Nat.pow_zero] at h2; omega
 | k + 1, n, h, h2 => by
  rw [pd, Lib.decDigits]
  by_cases h10 : n < 10
  ·rw [dif_pos h10, Nat.div_eq_of_lt h10, pd_zero, Nat.mod_eq_of_lt h10]; rfl
  ·rw [dif_neg h10, pd_dec k (n / 10) (by omega) (by rw [Nat.pow_succ] at h2; omega), List.length_append, List.append_assoc]
   congr 2
   simp
end Go.Abs
namespace Go.Proofs.YtdhedjbmdnnbkaaGreatDoor
open Go.Abs
set_option maxRecDepth 20000
def stripS  : List Nat → AState
 | l => ⟨[(0, .arr (iE l))], [], 1, 15⟩
theorem stripS_mk  (l : List Nat) : stripS  l = ⟨[(0, .arr (iE l))], [], 1, 15⟩ := rfl
theorem fs_strip (l : List Nat) (hl : l.length ≤ 281474976710656) : FSpec Tryz.prog 253 [.arr (iE l)] (.arr (iE (stripD l))) := by
 refine FSpec.enter Tryz.func253 rfl (by kernel_rfl) rfl rfl rfl ?_ rfl ?_
 ·exact closed_cons (closed_iA l) closed_nil
 refine r_z 1 ?_
 refine AWp.cut stripS (fun m => m = stripD l) ?_ ?_
 ·refine AWp.block ?_
  refine AWp.loopS stripS (fun m => m.length) (fun m => m.length ≤ 281474976710656 ∧ stripD m = stripD l) l ⟨hl, rfl⟩ ?_ ?_
  ·simp only [stripS_mk]
   exact s_e []
  rintro m ⟨hm, he⟩
  rw [stripS_mk]
  cases m with
  | nil =>
   refine AWp.seq ?_
   refine s_r 9 ?_
   refine a_4 ?_
   refine AR.opN rfl rfl (gn (by first | rfl | assumption | exact decide_eq_false (by omega) | (simp; done) | (simp; omega))) rfl rfl ?_
   refine AR.opN rfl rfl (gn (by first | rfl | assumption | exact decide_eq_false (by omega) | (simp; done) | (simp; omega))) rfl rfl ?_
   refine AR.opN rfl rfl (gn (by first | rfl | assumption | exact decide_eq_false (by omega) | (simp; done) | (simp; omega))) rfl rfl ?_
   refine AR.opN rfl rfl (gn (by first | rfl | assumption | exact decide_eq_false (by omega) | (simp; done) | (simp; omega))) rfl rfl ?_
   refine o_0 (.pickF rfl (by first | rfl | assumption | exact decide_eq_false (by omega) | (simp; done) | (simp; omega)) rfl) ?_
   refine AR.nil ?_
   refine AWp.cond rfl (fun h => ?_) (fun h => ?_)
   ·cases h
   ·refine AWp.exit ⟨[], by simpa [stripD] using he, ?_⟩
    simp only [stripS_mk]
    exact s_e []
  | cons d m =>
   have hd : (iE (d :: m))[(0 : Int).toNat]? = some [i64 d] := rfl
   refine AWp.seq ?_
   refine s_r 9 ?_
   refine a_4 ?_
   refine AR.op0y rfl rfl (gy (by simp)) (.move rfl) rfl rfl ?_
   first | refine AR.op0y rfl rfl (gy (by simp)) (.index_l rfl rfl (by omega) (by omega) te_71.h) rfl rfl ?_ | refine AR.op0y rfl rfl (gy (by simp)) (.index_a rfl rfl (by omega) hd rfl te_71.h) rfl rfl ?_
   first | refine AR.op0y rfl rfl (gy (by simp)) (.load_l1 rfl rfl hd tg_3.h rfl) rfl rfl ?_ | refine AR.op0y rfl rfl (gy (by simp)) (.load_a1 rfl hd tg_3.h rfl) rfl rfl ?_
   refine AR.op0y rfl rfl (gy (by simp)) (.bin rfl rfl binI_eql) rfl rfl ?_
   refine o_0 (.pickT rfl (by simp) rfl) ?_
   refine AR.nil ?_
   refine AWp.cond rfl (fun h => ?_) (fun h => ?_)
   ·have h0 : d = 0 := by simpa using h
    refine AWp.skip ?_
    subst h0
    refine AWp.block ?_
    refine AWp.reg (m := 3) rfl ?_
    refine a_1 ?_
    refine o_0 (.sa_l rfl rfl rfl (by simp) te_71.h (iE_len1 _)) ?_
    refine a_z ?_
    refine ⟨m, by simp, ⟨by simp at hm; omega, by simpa [stripD] using he⟩, ?_⟩
    simp only [stripS_mk]
    exact s_e []
   ·have h0 : d ≠ 0 := by simpa using h
    refine AWp.exit ⟨d :: m, by rw [← he]; simp [stripD, h0], ?_⟩
    simp only [stripS_mk]
    exact s_e []
 rintro m rfl
 rw [stripS_mk]
 refine r_z 2 ?_
 refine AWp.ret ?_
 refine Fin.tmpE rfl ?_ ?_
 ·rfl
 ·exact closed_iA _
theorem fs_with (s : Int) (l : List Nat) (z : Int) (hl : l.length ≤ 281474976710656) (hd : ∀ d ∈ l, d < UB) (hz : hv l = z.natAbs) (hs : z ≠ 0 → s = sgZ z) : FSpec Tryz.prog 201 [i64 s, .arr (iE l)] (.agg (zZ z)) := by
 refine FSpec.enter Tryz.func201 rfl (by kernel_rfl) rfl rfl rfl ?_ rfl ?_
 ·exact closed_cons (closed_v _) (closed_cons (closed_iA l) closed_nil)
 refine r_z 1 ?_
 refine r_c 3 (fs_strip l hl) ?_
 refine a_z ?_
 refine AWp.seq ?_
 refine r_z 3 ?_
 refine AWp.cond rfl (fun h => ?_) (fun h => ?_)
 ·have h0 : stripD l = [] := by
   have : (stripD l).length = 0 := by simpa using h
   exact List.length_eq_zero_iff.1 this
  have hz0 : z = 0 := by have := (stripD_nil hd).1 h0; omega
  subst hz0
  refine r_z 2 ?_
  refine AWp.ret ?_
  refine Fin.cell rfl rfl rfl tg_73.h ts_73.h (nle rfl) ?_
  rw [zZ_zero]
  exact Cv.agg (CvL.cons (Cv.clo shr_nil (closed_v _)) (CvL.cons (Cv.emp _) CvL.nil))
 ·have h0 : stripD l ≠ [] := fun e => by rw [e] at h; simp at h
  have hz0 : z ≠ 0 := by
   intro e
   subst e
   exact h0 ((stripD_nil hd).2 hz)
  refine AWp.skip ?_
  refine r_z 4 ?_
  refine AWp.ret ?_
  refine Fin.cellE rfl rfl rfl tg_73.h ts_73.h (nle rfl) ?_ ?_
  ·show AV.agg [i64 s, .arr (iE (stripD l))] = _
   unfold zZ
   rw [hs hz0, stripD_eq hd, hz]
  ·exact closed_zZA _
theorem zZ_neg (z : Int) : zZ (-z) = [i64 (-sgZ z), .arr (iE (zd z.natAbs))] := by
 unfold zZ
 rw [Int.natAbs_neg]
 congr 2
 unfold sgZ
 split <;> split <;> (try split) <;> (try split) <;> omega
theorem sgZ_cases (z : Int) : sgZ z = -1 ∧ z < 0 ∨ sgZ z = 0 ∧ z = 0 ∨ sgZ z = 1 ∧ 0 < z := by
 unfold sgZ; split
 ·right; left; exact ⟨rfl, by assumption⟩
 ·split
  ·left; exact ⟨rfl, by assumption⟩
  ·right; right; exact ⟨rfl, by omega⟩
theorem fs_ZNeg (z : Int) : FSpec Tryz.prog 195 [.agg (zZ z)] (.agg (zZ (-z))) := by
 have hs := sgZ_cases z
 have hc := closed_zZA (-z)
 rw [zZ_neg] at hc ⊢
 refine FSpec.enter Tryz.func195 rfl (by kernel_rfl) rfl rfl rfl ?_ rfl ?_
 ·exact closed_cons (closed_zZA z) closed_nil
 refine r_z 2 ?_
 refine r_z 7 ?_
 refine AWp.ret ?_
 refine Fin.cellE rfl rfl rfl tg_73.h ts_73.h (nle rfl) ?_ ?_
 ·rfl
 ·exact hc
theorem zZ_abs (z : Int) : zZ (z.natAbs : Int) = [i64 (sgZ z * sgZ z), .arr (iE (zd z.natAbs))] := by
 unfold zZ
 rw [Int.natAbs_natCast]
 congr 2
 rcases sgZ_cases z with ⟨h, h'⟩ | ⟨h, h'⟩ | ⟨h, h'⟩ <;> rcases sgZ_cases (z.natAbs : Int) with ⟨g, g'⟩ | ⟨g, g'⟩ | ⟨g, g'⟩ <;> rw [h, g] <;> omega
theorem fs_ZAbs (z : Int) : FSpec Tryz.prog 215 [.agg (zZ z)] (.agg (zZ (z.natAbs : Int))) := by
 have hs := sgZ_cases z
 have hm : -9223372036854775808 ≤ sgZ z * sgZ z ∧ sgZ z * sgZ z ≤ 9223372036854775807 := by rcases hs with ⟨h, _⟩ | ⟨h, _⟩ | ⟨h, _⟩ <;> rw [h] <;> decide
 have hc := closed_zZA (z.natAbs : Int)
 rw [zZ_abs] at hc ⊢
 refine FSpec.enter Tryz.func215 rfl (by kernel_rfl) rfl rfl rfl ?_ rfl ?_
 ·exact closed_cons (closed_zZA z) closed_nil
 refine r_z 2 ?_
 refine s_r 9 ?_
 refine a_4 ?_
 refine o_0 (.bin rfl rfl (bI64_mul hm)) ?_
 refine a_z ?_
 refine AWp.ret ?_
 refine Fin.cellE rfl rfl rfl tg_73.h ts_73.h (nle rfl) ?_ ?_
 ·rfl
 ·exact hc
theorem fs_digit (l : List Nat) (i : Nat) (hl : l.length ≤ 281474976710656) : FSpec Tryz.prog 278 [.arr (iE l), i64 i] (i64 (l.reverse[i]?.getD 0 : Nat)) := by
 refine FSpec.enter Tryz.func278 rfl (by kernel_rfl) rfl rfl rfl ?_ rfl ?_
 ·exact closed_cons (closed_iA l) (closed_cons (closed_v _) closed_nil)
 refine r_z 1 ?_
 refine AWp.seq ?_
 refine r_z 4 ?_
 refine AWp.cond rfl (fun h => ?_) (fun h => ?_)
 ·have hi : l.length ≤ i := by simpa using h
  refine r_z 1 ?_
  refine AWp.ret (Fin.tmpE rfl ?_ (closed_v _))
  rw [List.getElem?_eq_none (by simpa using hi)]
  rfl
 ·have hi : i < l.length := by simp at h; omega
  refine AWp.skip ?_
  obtain ⟨d, hd⟩ : ∃ d, l[l.length - 1 - i]? = some d := ⟨_, List.getElem?_eq_getElem (by omega)⟩
  have hd' : (iE l)[((l.length : Int) - 1 - i).toNat]? = some [i64 d] := by rw [show ((l.length : Int) - 1 - i).toNat = l.length - 1 - i by omega]; exact iE_get hd
  refine s_r 9 ?_
  refine a_6 ?_
  first | refine AR.op0 (.index_l rfl rfl (by omega) (by omega) te_71.h) rfl rfl ?_ | refine AR.op0 (.index_a rfl rfl (by omega) hd' rfl te_71.h) rfl rfl ?_
  first | refine AR.op0 (.load_l1 rfl rfl hd' tg_3.h rfl) rfl rfl ?_ | refine AR.op0 (.load_a1 rfl hd' tg_3.h rfl) rfl rfl ?_
  refine a_z ?_
  refine AWp.ret (Fin.tmpE rfl ?_ (closed_v _))
  rw [List.getElem?_reverse hi, hd]
  rfl
theorem fs_longest (a b : List Nat) : FSpec Tryz.prog 277 [.arr (iE a), .arr (iE b)] (i64 (max a.length b.length : Nat)) := by
 refine FSpec.enter Tryz.func277 rfl (by kernel_rfl) rfl rfl rfl ?_ rfl ?_
 ·exact closed_cons (closed_iA a) (closed_cons (closed_iA b) closed_nil)
 refine r_z 1 ?_
 refine AWp.seq ?_
 refine r_z 5 ?_
 refine AWp.cond rfl (fun h => ?_) (fun h => ?_)
 ·refine r_z 3 ?_
  refine AWp.ret (Fin.tmpE rfl ?_ (closed_v _))
  have : b.length < a.length := by simpa using h
  simp [i64]; omega
 ·refine AWp.skip ?_
  refine r_z 3 ?_
  refine AWp.ret (Fin.tmpE rfl ?_ (closed_v _))
  have : ¬ b.length < a.length := by simpa using h
  simp [i64]; omega
def aheadS (a : Nat) (b : Nat) : Nat → AState
 | i => ⟨[(0, .arr (iE (zd a))), (1, .arr (iE (zd b))), (5, i64 i)], [], 1, 40⟩
theorem aheadS_mk (a : Nat) (b : Nat) (i : Nat) : aheadS a b i = ⟨[(0, .arr (iE (zd a))), (1, .arr (iE (zd b))), (5, i64 i)], [], 1, 40⟩ := rfl
theorem zd_get {n i d : Nat} (h : (digs UB n)[i]? = some d) : (zd n)[(digs UB n).length - 1 - i]? = some d := by
 have hi : i < (digs UB n).length := (List.getElem?_eq_some_iff.1 h).1
 unfold zd
 rw [List.getElem?_reverse (by omega), show (digs UB n).length - 1 - ((digs UB n).length - 1 - i) = i by omega]; exact h
theorem fs_ahead (a b : Nat) (ha : (zd a).length ≤ 281474976710656) (hb : (zd b).length ≤ 281474976710656) : FSpec Tryz.prog 251 [.arr (iE (zd a)), .arr (iE (zd b))] (i64 (cmpZ a b)) := by
 have hza := zd_length a
 have hzb := zd_length b
 refine FSpec.enter Tryz.func251 rfl (by kernel_rfl) rfl rfl rfl ?_ rfl ?_
 ·exact closed_cons (closed_iA _) (closed_cons (closed_iA _) closed_nil)
 refine r_z 1 ?_
 refine AWp.seq ?_
 refine r_z 5 ?_
 refine AWp.cond rfl (fun h => ?_) (fun h => ?_)
 ·have hne : (zd a).length ≠ (zd b).length := by simp at h; omega
  refine AWp.seq ?_
  refine r_z 5 ?_
  refine AWp.cond rfl (fun h1 => ?_) (fun h1 => ?_)
  ·refine r_z 1 ?_
   refine AWp.ret (Fin.tmpE rfl ?_ (closed_v _))
   have hl : (zd a).length < (zd b).length := by simpa using h1
   rw [cmpZ_lt]
   ·rfl
   ·have := lt_of_len (b := UB) (by decide) (show (digs UB a).length < (digs UB b).length by omega); omega
  ·refine AWp.skip ?_
   refine r_z 1 ?_
   refine AWp.ret (Fin.tmpE rfl ?_ (closed_v _))
   have hl : (zd b).length < (zd a).length := by simp at h1; omega
   rw [cmpZ_gt]
   ·rfl
   ·have := lt_of_len (b := UB) (by decide) (show (digs UB b).length < (digs UB a).length by omega); omega
 have heq : (digs UB a).length = (digs UB b).length := by simp at h; omega
 refine AWp.skip ?_
 refine AWp.seq ?_
 refine r_z 1 ?_
 refine AWp.cutT (aheadS a b) (fun _ => a = b) ?_ ?_
 ·refine AWp.block ?_
  refine AWp.loopS (aheadS a b) (fun i => (digs UB a).length - i) (fun i => i ≤ (digs UB a).length ∧ (digs UB a).drop ((digs UB a).length - i) = (digs UB b).drop ((digs UB a).length - i)) 0 ⟨Nat.zero_le _, by rw [Nat.sub_zero, List.drop_length, heq, List.drop_length]⟩ ?_ ?_
  ·simp only [aheadS_mk]
   exact s_e []
  rintro i ⟨hi, hd⟩
  rw [aheadS_mk]
  refine AWp.seq ?_
  refine r_z 4 ?_
  refine AWp.cond rfl (fun h => ?_) (fun h => ?_)
  ·have hlt : i < (digs UB a).length := by simp at h; omega
   obtain ⟨k, hk⟩ : ∃ k, k = (digs UB a).length - 1 - i := ⟨_, rfl⟩
   have hk1 : (digs UB a).length - i = k + 1 := by omega
   rw [hk1] at hd
   obtain ⟨x, hx⟩ : ∃ x, (digs UB a)[k]? = some x := ⟨_, List.getElem?_eq_getElem (by omega)⟩
   obtain ⟨y, hy⟩ : ∃ y, (digs UB b)[k]? = some y := ⟨_, List.getElem?_eq_getElem (by omega)⟩
   have hx' : (iE (zd a))[((i : Nat) : Int).toNat]? = some [i64 x] := by
    have := zd_get hx
    rw [show (digs UB a).length - 1 - k = i by omega] at this
    exact iE_get this
   have hy' : (iE (zd b))[((i : Nat) : Int).toNat]? = some [i64 y] := by
    have := zd_get hy
    rw [show (digs UB b).length - 1 - k = i by omega] at this
    exact iE_get this
   refine AWp.skip ?_
   refine AWp.seq ?_
   refine AWp.block ?_
   refine AWp.seq ?_
   refine AWp.seq ?_
   refine AWp.regD hmix (m := 9) rfl ?_
   refine a_2 ?_
   first | refine AR.op0 (.index_l rfl rfl (by omega) (by omega) te_71.h) rfl rfl ?_ | refine AR.op0 (.index_a rfl rfl (by omega) hx' rfl te_71.h) rfl rfl ?_
   first | refine AR.op0 (.load_l1 rfl rfl hx' tg_3.h rfl) rfl rfl ?_ | refine AR.op0 (.load_a1 rfl hx' tg_3.h rfl) rfl rfl ?_
   refine a_2 ?_
   first | refine AR.op0 (.index_l rfl rfl (by omega) (by omega) te_71.h) rfl rfl ?_ | refine AR.op0 (.index_a rfl rfl (by omega) hy' rfl te_71.h) rfl rfl ?_
   first | refine AR.op0 (.load_l1 rfl rfl hy' tg_3.h rfl) rfl rfl ?_ | refine AR.op0 (.load_a1 rfl hy' tg_3.h rfl) rfl rfl ?_
   refine a_1 ?_
   refine AR.nil ⟨by kernel_rfl, ?_⟩
   refine AWp.cond rfl (fun h1 => ?_) (fun h1 => ?_)
   ·refine r_z 1 ?_
    refine AWp.ret (Fin.tmpE rfl ?_ (closed_v _))
    have hxy : x < y := by simpa using h1
    have := lt_of_top (fun d hd => digs_lt (by decide) a d hd) hx hy hd hxy
    rw [ofD_digs (by decide), ofD_digs (by decide)] at this
    rw [cmpZ_lt (by omega)]; rfl
   refine AWp.skip ?_
   refine AWp.seq ?_
   refine AWp.regD hmix (m := 9) rfl ?_
   refine a_2 ?_
   first | refine AR.op0 (.index_l rfl rfl (by omega) (by omega) te_71.h) rfl rfl ?_ | refine AR.op0 (.index_a rfl rfl (by omega) hx' rfl te_71.h) rfl rfl ?_
   first | refine AR.op0 (.load_l1 rfl rfl hx' tg_3.h rfl) rfl rfl ?_ | refine AR.op0 (.load_a1 rfl hx' tg_3.h rfl) rfl rfl ?_
   refine a_2 ?_
   first | refine AR.op0 (.index_l rfl rfl (by omega) (by omega) te_71.h) rfl rfl ?_ | refine AR.op0 (.index_a rfl rfl (by omega) hy' rfl te_71.h) rfl rfl ?_
   first | refine AR.op0 (.load_l1 rfl rfl hy' tg_3.h rfl) rfl rfl ?_ | refine AR.op0 (.load_a1 rfl hy' tg_3.h rfl) rfl rfl ?_
   refine a_1 ?_
   refine AR.nil ⟨by kernel_rfl, ?_⟩
   refine AWp.cond rfl (fun h2 => ?_) (fun h2 => ?_)
   ·refine r_z 1 ?_
    refine AWp.ret (Fin.tmpE rfl ?_ (closed_v _))
    have hxy : y < x := by simpa using h2
    have := lt_of_top (fun d hd => digs_lt (by decide) b d hd) hy hx hd.symm hxy
    rw [ofD_digs (by decide), ofD_digs (by decide)] at this
    rw [cmpZ_gt (by omega)]; rfl
   have hxy : x = y := by simp at h1 h2; omega
   subst hxy
   refine AWp.skip ?_
   refine AWp.reg (m := 3) rfl ?_
   refine a_z ?_
   refine ⟨i + 1, by omega, ⟨by omega, ?_⟩, ?_⟩
   ·rw [show (digs UB a).length - (i + 1) = k by omega, drop_cons hx, drop_cons hy, hd]
   ·simp only [aheadS_mk]
    exact s_e []
  ·have hge : i = (digs UB a).length := by simp at h; omega
   refine AWp.exit ⟨i, ?_, ?_⟩
   ·subst hge
    rw [Nat.sub_self, List.drop_zero, List.drop_zero] at hd
    rw [← ofD_digs (b := UB) (by decide) a, ← ofD_digs (b := UB) (by decide) b, hd]
   ·simp only [aheadS_mk]
    exact s_e []
 rintro i rfl
 rw [aheadS_mk]
 refine r_z 1 ?_
 refine AWp.ret (Fin.tmpE rfl ?_ (closed_v _))
 rw [cmpZ_eq rfl]; rfl
def bothS (a : Nat) (b : Nat) (k : Int) (N : Nat) : List Nat × Int → AState
 | (s, c) => ⟨[(0, .arr (iE (zd a))), (1, .arr (iE (zd b))), (2, i64 k), (7, i64 N), (8, .lsl 1 0 N (some N) 1), (9, i64 c), (10, i64 s.length)], [(1, some ⟨3, 1, iE (List.replicate (N - s.length) 0 ++ s.reverse)⟩)], 2, 51⟩
theorem bothS_mk (a : Nat) (b : Nat) (k : Int) (N : Nat) (s : List Nat) (c : Int) : bothS a b k N (s, c) = ⟨[(0, .arr (iE (zd a))), (1, .arr (iE (zd b))), (2, i64 k), (7, i64 N), (8, .lsl 1 0 N (some N) 1), (9, i64 c), (10, i64 s.length)], [(1, some ⟨3, 1, iE (List.replicate (N - s.length) 0 ++ s.reverse)⟩)], 2, 51⟩ := rfl
def bothT (a : Nat) (b : Nat) (k : Int) (N : Nat) (s : List Nat) : Int × Int → AState
 | (x, c) => ⟨[(0, .arr (iE (zd a))), (1, .arr (iE (zd b))), (2, i64 k), (7, i64 N), (8, .lsl 1 0 N (some N) 1), (9, i64 c), (10, i64 s.length), (11, i64 x)], [(1, some ⟨3, 1, iE (List.replicate (N - s.length) 0 ++ s.reverse)⟩)], 2, 51⟩
theorem bothT_mk (a : Nat) (b : Nat) (k : Int) (N : Nat) (s : List Nat) (x : Int) (c : Int) : bothT a b k N s (x, c) = ⟨[(0, .arr (iE (zd a))), (1, .arr (iE (zd b))), (2, i64 k), (7, i64 N), (8, .lsl 1 0 N (some N) 1), (9, i64 c), (10, i64 s.length), (11, i64 x)], [(1, some ⟨3, 1, iE (List.replicate (N - s.length) 0 ++ s.reverse)⟩)], 2, 51⟩ := rfl
theorem fs_both (a b : Nat) (k : Int) (r : Nat) (hk : k = 1 ∨ k = -1) (hr : (r : Int) = a + k * b) (ha : (zd a).length ≤ 17592186044416) (hb : (zd b).length ≤ 17592186044416) : FSpec Tryz.prog 250 [.arr (iE (zd a)), .arr (iE (zd b)), i64 k] (.arr (iE (zd r))) := by
 have hza := zd_length a
 have hzb := zd_length b
 obtain ⟨N, hN⟩ : ∃ N, N = max (zd a).length (zd b).length + 1 := ⟨_, rfl⟩
 refine FSpec.enter Tryz.func250 rfl (by kernel_rfl) rfl rfl rfl ?_ rfl ?_
 ·exact closed_cons (closed_iA _) (closed_cons (closed_iA _) (closed_cons (closed_v _) closed_nil))
 refine r_z 1 ?_
 refine r_c 5 (fs_longest (zd a) (zd b)) ?_
 refine a_z ?_
 have hNI : ((max (zd a).length (zd b).length : Nat) : Int) + 1 = (N : Int) := by omega
 refine s_r 3 ?_
 refine a_1 ?_
 refine o_1 (.makeSlice (congrArg (fun z => some (AV.v (.int .i64 z))) hNI) (congrArg (fun z => some (AV.v (.int .i64 z))) hNI) te_71.h tz_3.h rfl tb_3.h (by first | omega | (simp; done) | (simp; omega)) (by first | omega | (simp; done) | (simp; omega)) (by unfold maxLen; first | omega | (simp; done) | (simp; omega))) ?_
 refine a_z ?_
 refine r_z 1 ?_
 refine AWp.seq ?_
 refine r_z 1 ?_
 have hdl := digs_length_lt (b := UB) (by decide) (n := r) (k := N) (by
  have h1 := ofD_lt (b := UB) (digs_lt (by decide) a)
  have h2 := ofD_lt (b := UB) (digs_lt (by decide) b)
  rw [ofD_digs (by decide)] at h1 h2
  have h3 : UB ^ (digs UB a).length ≤ UB ^ (N - 1) := Nat.pow_le_pow_right (by decide) (by omega)
  have h4 : UB ^ (digs UB b).length ≤ UB ^ (N - 1) := Nat.pow_le_pow_right (by decide) (by omega)
  have h5 : UB ^ N = UB ^ (N - 1) * UB := by rw [← Nat.pow_succ]; congr 1; omega
  rw [h5]
  show r < UB ^ (N - 1) * 32768
  rcases hk with rfl | rfl <;> omega)
 have hrN : r < UB ^ N := by
  have h1 := ofD_lt (b := UB) (digs_lt (by decide) r)
  rw [ofD_digs (by decide)] at h1
  exact Nat.lt_of_lt_of_le h1 (Nat.pow_le_pow_right (by decide) hdl)
 refine AWp.cutT (fun s : List Nat => ⟨[(8, .lsl 1 0 N (some N) 1)], [(1, some ⟨3, 1, iE s.reverse⟩)], 2, 51⟩) (fun s => s.length = N ∧ (∀ d ∈ s, d < UB) ∧ ofD UB s = r) ?_ ?_
 ·refine AWp.block ?_
  refine AWp.loopS (bothS a b k N) (fun x => N - x.1.length) (fun x => x.1.length ≤ N ∧ (∀ d ∈ x.1, d < UB) ∧ (x.2 = -1 ∨ x.2 = 0 ∨ x.2 = 1) ∧ ((ofD UB x.1 : Nat) : Int) + ((UB ^ x.1.length : Nat) : Int) * x.2 = (ofD UB ((digs UB a).take x.1.length) : Nat) + k * (ofD UB ((digs UB b).take x.1.length) : Nat)) ([], 0) ⟨by simp, by simp, by simp, by simp [ofD]⟩ ?_ ?_
  ·simp only [bothS_mk]
   exact s_e [(1, 8)]
  rintro ⟨s, c⟩ ⟨hs, hd, hc, hval⟩
  simp only at hs hd hc hval
  simp only [bothS_mk]
  refine AWp.seq ?_
  refine r_z 3 ?_
  refine AWp.cond rfl (fun h => ?_) (fun h => ?_)
  ·have hlt : s.length < N := by simpa using h
   refine AWp.skip ?_
   obtain ⟨x, hx⟩ : ∃ x, x = (digs UB a)[s.length]?.getD 0 := ⟨_, rfl⟩
   obtain ⟨y, hy⟩ : ∃ y, y = (digs UB b)[s.length]?.getD 0 := ⟨_, rfl⟩
   have hx1 : x < 32768 := by
    rw [hx]; cases hh : (digs UB a)[s.length]? with
    | none => decide
    | some d => exact digs_get_lt (by decide) hh
   have hy1 : y < 32768 := by
    rw [hy]; cases hh : (digs UB b)[s.length]? with
    | none => decide
    | some d => exact digs_get_lt (by decide) hh
   have hda := fs_digit (zd a) s.length (by omega)
   have hdb := fs_digit (zd b) s.length (by omega)
   unfold zd at hda hdb
   rw [List.reverse_reverse, ← hx] at hda
   rw [List.reverse_reverse, ← hy] at hdb
   have hky : -32768 < k * y ∧ k * y < 32768 := by rcases hk with rfl | rfl <;> omega
   obtain ⟨X, hX⟩ : ∃ X : Int, X = x + k * y + c := ⟨_, rfl⟩
   have hXr : -32768 ≤ X ∧ X ≤ 65536 := by omega
   refine AWp.seq ?_
   refine AWp.block ?_
   refine r_c 12 (hda) ?_
   refine c_s (hdb) ?_
   refine a_z ?_
   refine r_z 1 ?_
   refine AWp.cut (bothT a b k N s) (fun v => v.1 = (if X < 0 then X + 32768 else X) ∧ v.2 = (if X < 0 then -1 else 0)) ?_ ?_
   ·refine r_z 2 ?_
    refine AWp.cond rfl (fun h1 => ?_) (fun h1 => ?_)
    ·have hX0 : X < 0 := by rw [hX]; simpa using h1
     refine r_z 3 ?_
     refine AWp.reg (m := 1) rfl ?_
     refine a_z ?_
     refine ⟨(X + 32768, -1), ⟨by rw [if_pos hX0], by rw [if_pos hX0]⟩, ?_⟩
     simp only [bothT_mk]
     refine SEnt.to [] rfl rfl rfl ?_ (fun hs => ?_) (fun hs => ?_)
     ·repeat' (first | exact ShrL.nil | refine ShrL.cons rfl rfl rfl rfl (by first | rfl | (simp; done) | (simp [hX] <;> omega)) ?_)
     ·repeat' (first | exact CvF.nil | refine CvF.cons rfl ?_ ?_)
      all_goals (first | exact au_c | (refine Cv.loE hs ?_ (closed_v _); first | rfl | (simp [i64, u64, u32, bln, hX]; done) | (simp [i64, u64, u32, bln, hX] <;> omega)))
     ·repeat' (first | exact CvH.nil | refine CvH.cons rfl rfl rfl rfl ?_ ?_)
      all_goals (first | exact CvLL.bld rfl rfl rfl rfl rfl rfl | exact CvLL.bld0 hs | exact CvLL.clo hs (closed_bE _) | exact CvLL.clo hs (closed_dE _) | (refine CvLL.cloE hs ?_ (closed_dE _); first | (simp [dE_set, dE_append, dE_replicate, hX]; done) | (simp [dE, u32, ofV, hX]; done)) | exact CvLL.clo hs (closed_pE _) | exact CvLL.clo hs (closed_iE _) | (refine CvLL.cloE hs ?_ (closed_iE _); first | (simp [iE_set, iE_append, iE_replicate, hX]; done) | (simp [iE, i64, ofV, hX]; done)) | (refine CvLL.cloE hs ?_ (closed_pE _); first | (simp [pE_set, pE_append, hX]; done) | (simp [pE, ofV, hX]; done)) | (refine CvLL.box ?_; repeat' (first | exact CvL.nil | exact CvL.clo hs (closed_qC _) | refine CvL.cons ?_ ?_)))
      all_goals (first | exact Cv.clo hs (closed_v _) | exact Cv.ptr rfl rfl rfl | exact Cv.sl rfl rfl rfl | exact Cv.slN rfl rfl rfl | exact Cv.clo hs closed_emp | (refine Cv.clo hs ?_; first | assumption | exact closed_arrD _ | exact closed_mag _ | exact closed_v _ | exact closed_emp | exact closed_pA _ | exact closed_iA _ | exact closed_cA _ | exact closed_zZA _ | exact closed_qA _ | exact closed_mA _ | exact closed_spA _ _ | exact closed_clos closed_nil closed_nil | exact closed_bP _ | exact closed_bQ _ | exact closed_bS _ | exact closed_kA _ | exact closed_plA _ _ | exact closed_bPl _ _ | exact closed_bF | exact closed_rA _ | exact closed_rEA _ | (refine closed_clos closed_nil ?_; first | assumption | exact closed_cons (closed_bP _) closed_nil | exact closed_cons (closed_bQ _) closed_nil | exact closed_cons (closed_bPl _ _) closed_nil)) | (refine Cv.boxp hs rfl (dead_of rfl) rfl ?_; first | exact closed_qC _ | exact closed_spC _ _ | exact closed_zZ _ | exact closed_rC _ | (refine closed_cons ?_ closed_nil; first | assumption | exact closed_arrD _ | exact closed_mag _ | exact closed_v _ | exact closed_emp | exact closed_pA _ | exact closed_iA _ | exact closed_cA _ | exact closed_zZA _ | exact closed_qA _ | exact closed_mA _ | exact closed_spA _ _ | exact closed_clos closed_nil closed_nil | exact closed_bP _ | exact closed_bQ _ | exact closed_bS _ | exact closed_kA _ | exact closed_plA _ _ | exact closed_bPl _ _ | exact closed_bF | exact closed_rA _ | exact closed_rEA _ | (refine closed_clos closed_nil ?_; first | assumption | exact closed_cons (closed_bP _) closed_nil | exact closed_cons (closed_bQ _) closed_nil | exact closed_cons (closed_bPl _ _) closed_nil))) | (refine Cv.loE hs ?_ (closed_v _); first | rfl | (simp [i64, u64, u32, bln, hX]; done) | (simp [i64, u64, u32, bln, hX] <;> omega)) | (refine Cv.slE rfl rfl rfl ?_ ?_ ?_ <;> first | rfl | omega | (congr 1; omega) | (simp; done) | (simp <;> omega)) | exact Cv.emp _)
    ·have hX0 : ¬ X < 0 := by rw [hX]; simpa using h1
     refine AWp.skip ⟨(X, 0), ⟨by rw [if_neg hX0], by rw [if_neg hX0]⟩, ?_⟩
     simp only [bothT_mk]
     refine SEnt.to [] rfl rfl rfl ?_ (fun hs => ?_) (fun hs => ?_)
     ·repeat' (first | exact ShrL.nil | refine ShrL.cons rfl rfl rfl rfl (by first | rfl | (simp; done) | (simp [hX] <;> omega)) ?_)
     ·repeat' (first | exact CvF.nil | refine CvF.cons rfl ?_ ?_)
      all_goals (first | exact au_c | (refine Cv.loE hs ?_ (closed_v _); first | rfl | (simp [i64, u64, u32, bln, hX]; done) | (simp [i64, u64, u32, bln, hX] <;> omega)))
     ·repeat' (first | exact CvH.nil | refine CvH.cons rfl rfl rfl rfl ?_ ?_)
      all_goals (first | exact CvLL.bld rfl rfl rfl rfl rfl rfl | exact CvLL.bld0 hs | exact CvLL.clo hs (closed_bE _) | exact CvLL.clo hs (closed_dE _) | (refine CvLL.cloE hs ?_ (closed_dE _); first | (simp [dE_set, dE_append, dE_replicate, hX]; done) | (simp [dE, u32, ofV, hX]; done)) | exact CvLL.clo hs (closed_pE _) | exact CvLL.clo hs (closed_iE _) | (refine CvLL.cloE hs ?_ (closed_iE _); first | (simp [iE_set, iE_append, iE_replicate, hX]; done) | (simp [iE, i64, ofV, hX]; done)) | (refine CvLL.cloE hs ?_ (closed_pE _); first | (simp [pE_set, pE_append, hX]; done) | (simp [pE, ofV, hX]; done)) | (refine CvLL.box ?_; repeat' (first | exact CvL.nil | exact CvL.clo hs (closed_qC _) | refine CvL.cons ?_ ?_)))
      all_goals (first | exact Cv.clo hs (closed_v _) | exact Cv.ptr rfl rfl rfl | exact Cv.sl rfl rfl rfl | exact Cv.slN rfl rfl rfl | exact Cv.clo hs closed_emp | (refine Cv.clo hs ?_; first | assumption | exact closed_arrD _ | exact closed_mag _ | exact closed_v _ | exact closed_emp | exact closed_pA _ | exact closed_iA _ | exact closed_cA _ | exact closed_zZA _ | exact closed_qA _ | exact closed_mA _ | exact closed_spA _ _ | exact closed_clos closed_nil closed_nil | exact closed_bP _ | exact closed_bQ _ | exact closed_bS _ | exact closed_kA _ | exact closed_plA _ _ | exact closed_bPl _ _ | exact closed_bF | exact closed_rA _ | exact closed_rEA _ | (refine closed_clos closed_nil ?_; first | assumption | exact closed_cons (closed_bP _) closed_nil | exact closed_cons (closed_bQ _) closed_nil | exact closed_cons (closed_bPl _ _) closed_nil)) | (refine Cv.boxp hs rfl (dead_of rfl) rfl ?_; first | exact closed_qC _ | exact closed_spC _ _ | exact closed_zZ _ | exact closed_rC _ | (refine closed_cons ?_ closed_nil; first | assumption | exact closed_arrD _ | exact closed_mag _ | exact closed_v _ | exact closed_emp | exact closed_pA _ | exact closed_iA _ | exact closed_cA _ | exact closed_zZA _ | exact closed_qA _ | exact closed_mA _ | exact closed_spA _ _ | exact closed_clos closed_nil closed_nil | exact closed_bP _ | exact closed_bQ _ | exact closed_bS _ | exact closed_kA _ | exact closed_plA _ _ | exact closed_bPl _ _ | exact closed_bF | exact closed_rA _ | exact closed_rEA _ | (refine closed_clos closed_nil ?_; first | assumption | exact closed_cons (closed_bP _) closed_nil | exact closed_cons (closed_bQ _) closed_nil | exact closed_cons (closed_bPl _ _) closed_nil))) | (refine Cv.loE hs ?_ (closed_v _); first | rfl | (simp [i64, u64, u32, bln, hX]; done) | (simp [i64, u64, u32, bln, hX] <;> omega)) | (refine Cv.slE rfl rfl rfl ?_ ?_ ?_ <;> first | rfl | omega | (congr 1; omega) | (simp; done) | (simp <;> omega)) | exact Cv.emp _)
   rintro ⟨X1, c1⟩ ⟨hX1, hc1⟩
   simp only at hX1 hc1
   rw [bothT_mk]
   refine AWp.cut (bothT a b k N s) (fun v => v.1 = X % 32768 ∧ v.2 = X / 32768) ?_ ?_
   ·refine r_z 2 ?_
    refine AWp.cond rfl (fun h1 => ?_) (fun h1 => ?_)
    ·have h2 : 32768 ≤ X1 := by simpa using h1
     have hX1r : X1 ≤ 65536 := by rw [hX1]; split <;> omega
     refine r_z 3 ?_
     refine AWp.reg (m := 1) rfl ?_
     refine a_z ?_
     have hX0 : ¬ X < 0 := by intro h0; rw [if_pos h0] at hX1; omega
     rw [if_neg hX0] at hX1
     refine ⟨(X1 - 32768, 1), ⟨by simp only; omega, by simp only; omega⟩, ?_⟩
     simp only [bothT_mk]
     exact s_e []
    ·have h2 : X1 < 32768 := by simp at h1; omega
     refine AWp.skip ⟨(X1, c1), ⟨by rw [hX1] at h2 ⊢; simp only; split <;> rename_i h3 <;> simp only [h3, if_true, if_false] at h2 <;> omega, by rw [hX1] at h2; rw [hc1]; simp only; split <;> rename_i h3 <;> simp only [h3, if_true, if_false] at h2 <;> omega⟩, ?_⟩
     simp only [bothT_mk]
     exact s_e []
   rintro ⟨X2, c2⟩ ⟨hX2, hc2⟩
   simp only at hX2 hc2
   rw [bothT_mk]
   obtain ⟨d, hdX⟩ : ∃ d : Nat, X2 = d := ⟨X2.toNat, by omega⟩
   have hd1 : d < 32768 := by omega
   subst hdX
   have hlen : (List.replicate (N - s.length) 0 ++ s.reverse).length = N := by simp; omega
   have hrep : List.replicate (N - s.length) 0 = List.replicate (N - (s.length + 1)) 0 ++ [0] := by
    rw [show N - s.length = (N - (s.length + 1)) + 1 by omega, List.replicate_succ']
   have hget : (iE (List.replicate (N - s.length) 0 ++ s.reverse))[0 + ((N : Int) - 1 - s.length).toNat]? = some [i64 0] := by
    rw [show 0 + ((N : Int) - 1 - s.length).toNat = N - (s.length + 1) by omega]
    refine iE_get ?_
    rw [hrep, List.append_assoc]
    exact get_mid _ _ _ _ (by simp)
   have hset : (iE (List.replicate (N - s.length) 0 ++ s.reverse)).set (0 + ((N : Int) - 1 - s.length).toNat) [i64 d] = iE (List.replicate (N - (s ++ [d]).length) 0 ++ (s ++ [d]).reverse) := by
    rw [show 0 + ((N : Int) - 1 - s.length).toNat = N - (s.length + 1) by omega, iE_set, hrep, List.append_assoc]
    simp only [List.singleton_append, List.length_append, List.length_cons, List.length_nil, List.reverse_append, List.reverse_cons, List.reverse_nil, List.nil_append]
    rw [set_mid _ _ _ _ _ (by simp)]
    simp
   refine AWp.reg (m := 8) rfl ?_
   refine a_7 ?_
   refine o_1n (.store rfl rfl hget rfl rfl rfl ts_3.h (nle rfl)) ?_
   refine AR.nil ?_
   refine AWp.reg (m := 3) rfl ?_
   refine a_z ?_
   refine ⟨(s ++ [d], c2), by simp; omega, ⟨by simp; omega, ?_, by simp only; omega, ?_⟩, ?_⟩
   ·intro e he
    rcases List.mem_append.1 he with he | he
    ·exact hd e he
    ·simp at he; subst he; exact hd1
   ·simp only [List.length_append, List.length_cons, List.length_nil, Nat.zero_add]
    rw [ofD_snoc, ofD_takeD_succ, ofD_takeD_succ, ← hx, ← hy, Nat.pow_succ]
    obtain ⟨B, hB⟩ : ∃ B, B = UB ^ s.length := ⟨_, rfl⟩
    rw [← hB] at hval ⊢
    have hXX : X = 32768 * c2 + d := by omega
    have hBX : (B : Int) * X = B * x + k * (B * y) + B * c := by
     rw [hX, Int.mul_add, Int.mul_add, Int.mul_left_comm]
    rw [hXX, Int.mul_add] at hBX
    have e1 : ((B * 32768 : Nat) : Int) * c2 = B * (32768 * c2) := by rw [Int.natCast_mul, Int.mul_assoc]; rfl
    have e2 : k * ((ofD UB ((digs UB b).take s.length) + B * y : Nat) : Int) = k * (ofD UB ((digs UB b).take s.length) : Nat) + k * (B * y) := by
     rw [Int.natCast_add, Int.mul_add, Int.natCast_mul]
    show ((ofD UB s + B * d : Nat) : Int) + ((B * 32768 : Nat) : Int) * c2 = _
    rw [e1, e2, Int.natCast_add, Int.natCast_add, Int.natCast_mul, Int.natCast_mul]
    omega
   ·simp only [bothS_mk]
    refine SEnt.to [] rfl rfl rfl ?_ (fun hs => au_f) (fun hs => ?_)
    ·repeat' (first | exact ShrL.nil | refine ShrL.cons rfl rfl rfl rfl (by first | (exact congrArg List.length hset) | rfl | (simp; done) | (simp <;> omega)) ?_)
    ·repeat' (first | exact CvH.nil | refine CvH.cons rfl rfl rfl rfl ?_ ?_)
     all_goals (first | (exact CvLL.cloE hs hset (closed_iE _)) | exact au_e)
  ·have hge : s.length = N := by simp at h; omega
   refine AWp.exit ⟨s, ⟨hge, hd, ?_⟩, ?_⟩
   ·rw [hge, List.take_of_length_le (by omega), List.take_of_length_le (by omega), ofD_digs (by decide), ofD_digs (by decide), ← hr] at hval
    have hsl := ofD_lt hd
    rw [hge] at hsl
    obtain ⟨B, hB⟩ : ∃ B, B = UB ^ N := ⟨_, rfl⟩
    rw [← hB] at hval hsl hrN
    rcases hc with rfl | rfl | rfl <;> omega
   ·have e : iE (List.replicate (N - s.length) 0 ++ s.reverse) = iE s.reverse := by rw [hge]; simp
    refine SEnt.to [] rfl rfl rfl ?_ (fun hs => au_f) (fun hs => ?_)
    ·repeat' (first | exact ShrL.nil | refine ShrL.cons rfl rfl rfl rfl (by first | (exact congrArg List.length e) | rfl | (simp; done) | (simp <;> omega)) ?_)
    ·repeat' (first | exact CvH.nil | refine CvH.cons rfl rfl rfl rfl ?_ ?_)
     all_goals (first | (exact CvLL.cloE hs e (closed_iE _)) | exact au_e)
 rintro s ⟨hs, hd, hval⟩
 have hd' : ∀ d ∈ s.reverse, d < UB := fun d h => hd d (List.mem_reverse.1 h)
 have hst := fs_strip s.reverse (by simp; omega)
 rw [stripD_eq hd', show hv s.reverse = r by unfold hv; rw [List.reverse_reverse]; assumption] at hst
 have hfull : ((iE s.reverse).drop 0).take N = iE s.reverse := by rw [List.drop_zero, List.take_of_length_le (by simp; omega)]
 refine s_r 3 ?_
 refine a_1 ?_
 refine o_1 (.callS1 rfl rfl rfl (.shut rfl (by first | exact nle rfl | (simp; done) | (simp; omega)) (.nil)) rfl ((by rw [hfull]; exact hst))) ?_
 refine a_z ?_
 refine AWp.ret ?_
 refine Fin.tmpE rfl ?_ ?_
 ·rfl
 ·exact closed_iA _
def zl (z : Int) : Prop := bl z.natAbs ≤ 8796093022208
theorem zl_len {z : Int} (h : zl z) : (zd z.natAbs).length ≤ 17592186044416 := by
 have := digs_length (b := UB) (by decide) z.natAbs
 rw [zd_length]; unfold zl at h; omega
theorem sgZ_add_same {x y : Int} (h : sgZ x = sgZ y) (hx : x ≠ 0) : (x + y).natAbs = x.natAbs + y.natAbs ∧ (x + y ≠ 0 → sgZ x = sgZ (x + y)) := by
 rcases sgZ_cases x with ⟨a, b⟩ | ⟨a, b⟩ | ⟨a, b⟩ <;> rcases sgZ_cases y with ⟨c, d⟩ | ⟨c, d⟩ | ⟨c, d⟩ <;> rcases sgZ_cases (x + y) with ⟨e, f⟩ | ⟨e, f⟩ | ⟨e, f⟩ <;> rw [a, c] at h <;> rw [a, e] <;> first | omega | (constructor <;> omega)
theorem sgZ_add_ge {x y : Int} (h : sgZ x ≠ sgZ y) (hx : x ≠ 0) (hy : y ≠ 0) (hg : y.natAbs ≤ x.natAbs) : (x + y).natAbs = x.natAbs - y.natAbs ∧ (x + y ≠ 0 → sgZ x = sgZ (x + y)) := by
 rcases sgZ_cases x with ⟨a, b⟩ | ⟨a, b⟩ | ⟨a, b⟩ <;> rcases sgZ_cases y with ⟨c, d⟩ | ⟨c, d⟩ | ⟨c, d⟩ <;> rcases sgZ_cases (x + y) with ⟨e, f⟩ | ⟨e, f⟩ | ⟨e, f⟩ <;> rw [a, c] at h <;> rw [a, e] <;> first | omega | (constructor <;> omega)
theorem fs_ZAdd (x y : Int) (hx : zl x) (hy : zl y) : FSpec Tryz.prog 197 [.agg (zZ x), .agg (zZ y)] (.agg (zZ (x + y))) := by
 have hlx := zl_len hx
 have hly := zl_len hy
 have bound : ∀ r : Nat, r ≤ x.natAbs + y.natAbs → (zd r).length ≤ 281474976710656 := by
  intro r hr
  have h1 := digs_length (b := UB) (by decide) r
  have h2 := bl_mono hr
  have h3 := bl_add x.natAbs y.natAbs
  unfold zl at hx hy
  rw [zd_length]; omega
 refine FSpec.enter Tryz.func197 rfl (by kernel_rfl) rfl rfl rfl ?_ rfl ?_
 ·exact closed_cons (closed_zZA x) (closed_cons (closed_zZA y) closed_nil)
 refine r_z 3 ?_
 refine AWp.seq ?_
 refine r_z 3 ?_
 refine AWp.cond rfl (fun h => ?_) (fun h => ?_)
 ·have h0 : x = 0 := by
   have : sgZ x = 0 := by simpa using h
   rcases sgZ_cases x with ⟨a, b⟩ | ⟨a, b⟩ | ⟨a, b⟩ <;> omega
  refine r_z 2 ?_
  refine AWp.ret ?_
  refine Fin.cellE rfl rfl rfl tg_73.h ts_73.h (nle rfl) ?_ ?_
  ·rw [h0, Int.zero_add]; rfl
  ·exact closed_zZA _
 have hx0 : x ≠ 0 := by rintro rfl; simp [sgZ] at h
 refine AWp.skip ?_
 refine AWp.seq ?_
 refine r_z 3 ?_
 refine AWp.cond rfl (fun h1 => ?_) (fun h1 => ?_)
 ·have h0 : y = 0 := by
   have : sgZ y = 0 := by simpa using h1
   rcases sgZ_cases y with ⟨a, b⟩ | ⟨a, b⟩ | ⟨a, b⟩ <;> omega
  refine r_z 2 ?_
  refine AWp.ret ?_
  refine Fin.cellE rfl rfl rfl tg_73.h ts_73.h (nle rfl) ?_ ?_
  ·rw [h0, Int.add_zero]; rfl
  ·exact closed_zZA _
 have hy0 : y ≠ 0 := by rintro rfl; simp [sgZ] at h1
 refine AWp.skip ?_
 refine AWp.seq ?_
 refine r_z 5 ?_
 refine AWp.cond rfl (fun h2 => ?_) (fun h2 => ?_)
 ·have hs : sgZ x = sgZ y := by simpa using h2
  obtain ⟨e1, e2⟩ := sgZ_add_same hs hx0
  refine AWp.seq ?_
  refine AWp.regD hmix (m := 9) rfl ?_
  refine c_s (fs_both x.natAbs y.natAbs 1 (x.natAbs + y.natAbs) (.inl rfl) (by omega) hlx hly) ?_
  refine c_s (fs_with (sgZ x) (zd (x.natAbs + y.natAbs)) (x + y) (bound _ (Nat.le_refl _)) (zd_lt _) (by rw [hv_zd, e1]) e2) ?_
  refine a_1 ?_
  refine AR.nil ⟨by kernel_rfl, ?_⟩
  refine AWp.ret ?_
  refine Fin.cellE rfl rfl rfl tg_73.h ts_73.h (nle rfl) ?_ ?_
  ·rfl
  ·exact closed_zZA _
 have hs : sgZ x ≠ sgZ y := by simpa using h2
 refine AWp.skip ?_
 refine AWp.seq ?_
 refine r_c 6 (fs_ahead x.natAbs y.natAbs (by omega) (by omega)) ?_
 refine a_z ?_
 refine AWp.cond rfl (fun h3 => ?_) (fun h3 => ?_)
 ·have hge : y.natAbs ≤ x.natAbs := by
   have := of_decide_eq_true h3
   unfold cmpZ at this; split at this
   ·omega
   ·omega
  obtain ⟨e1, e2⟩ := sgZ_add_ge hs hx0 hy0 hge
  refine AWp.seq ?_
  refine AWp.regD hmix (m := 9) rfl ?_
  refine c_s (fs_both x.natAbs y.natAbs (-1) (x.natAbs - y.natAbs) (.inr rfl) (by omega) hlx hly) ?_
  refine c_s (fs_with (sgZ x) (zd (x.natAbs - y.natAbs)) (x + y) (bound _ (by omega)) (zd_lt _) (by rw [hv_zd, e1]) e2) ?_
  refine a_1 ?_
  refine AR.nil ⟨by kernel_rfl, ?_⟩
  refine AWp.ret ?_
  refine Fin.cellE rfl rfl rfl tg_73.h ts_73.h (nle rfl) ?_ ?_
  ·rfl
  ·exact closed_zZA _
 ·have hlt : x.natAbs ≤ y.natAbs := by
   have := of_decide_eq_false h3
   unfold cmpZ at this; split at this
   ·omega
   ·split at this <;> omega
  obtain ⟨e1, e2⟩ := sgZ_add_ge (fun h => hs h.symm) hy0 hx0 hlt
  rw [Int.add_comm] at e1 e2
  refine AWp.skip ?_
  refine AWp.seq ?_
  refine AWp.regD hmix (m := 9) rfl ?_
  refine c_s (fs_both y.natAbs x.natAbs (-1) (y.natAbs - x.natAbs) (.inr rfl) (by omega) hly hlx) ?_
  refine c_s (fs_with (sgZ y) (zd (y.natAbs - x.natAbs)) (x + y) (bound _ (by omega)) (zd_lt _) (by rw [hv_zd, e1]) e2) ?_
  refine a_1 ?_
  refine AR.nil ⟨by kernel_rfl, ?_⟩
  refine AWp.ret ?_
  refine Fin.cellE rfl rfl rfl tg_73.h ts_73.h (nle rfl) ?_ ?_
  ·rfl
  ·exact closed_zZA _
theorem zl_neg {z : Int} (h : zl z) : zl (-z) := by unfold zl at *; rwa [Int.natAbs_neg]
theorem fs_ZSub (x y : Int) (hx : zl x) (hy : zl y) : FSpec Tryz.prog 229 [.agg (zZ x), .agg (zZ y)] (.agg (zZ (x - y))) := by
 have hs := fs_ZAdd x (-y) hx (zl_neg hy)
 rw [← Int.sub_eq_add_neg] at hs
 refine FSpec.enter Tryz.func229 rfl (by kernel_rfl) rfl rfl rfl ?_ rfl ?_
 ·exact closed_cons (closed_zZA x) (closed_cons (closed_zZA y) closed_nil)
 refine r_z 3 ?_
 refine AWp.seq ?_
 refine AWp.regD hmix (m := 5) rfl ?_
 refine c_s (fs_ZNeg y) ?_
 refine c_s (hs) ?_
 refine a_1 ?_
 refine AR.nil ⟨by kernel_rfl, ?_⟩
 refine AWp.ret ?_
 refine Fin.cellE rfl rfl rfl tg_73.h ts_73.h (nle rfl) ?_ ?_
 ·rfl
 ·exact closed_zZA _
theorem fs_ZCmp (x y : Int) (hx : zl x) (hy : zl y) : FSpec Tryz.prog 165 [.agg (zZ x), .agg (zZ y)] (i64 (cmpZ x y)) := by
 have e : cmpZ x y = sgZ (x - y) := by
  unfold cmpZ sgZ
  split <;> split <;> (try split) <;> (try split) <;> omega
 rw [e]
 refine FSpec.enter Tryz.func165 rfl (by kernel_rfl) rfl rfl rfl ?_ rfl ?_
 ·exact closed_cons (closed_zZA x) (closed_cons (closed_zZA y) closed_nil)
 refine r_z 3 ?_
 refine r_c 5 (fs_ZSub x y hx hy) ?_
 refine a_z ?_
 refine AWp.ret ?_
 refine Fin.tmpE rfl ?_ ?_
 ·rfl
 ·exact closed_v _
def shortS (l : List Nat) : Nat → AState
 | i => ⟨[(0, .arr (iE l)), (3, i64 (hv (l.take i))), (4, i64 i)], [], 1, 19⟩
theorem shortS_mk (l : List Nat) (i : Nat) : shortS l i = ⟨[(0, .arr (iE l)), (3, i64 (hv (l.take i))), (4, i64 i)], [], 1, 19⟩ := rfl
theorem hv_take_lt {l : List Nat} (hd : ∀ d ∈ l, d < UB) (hl : l.length ≤ 4) (i : Nat) : hv (l.take i) < 1152921504606846976 := by
 have h1 := hv_lt (l := l.take i) fun d h => hd d (List.mem_of_mem_take h)
 have h2 : (l.take i).length ≤ 4 := by rw [List.length_take]; omega
 exact Nat.lt_of_lt_of_le h1 (Nat.pow_le_pow_right (by decide) h2)
theorem fs_short (l : List Nat) (hl : l.length ≤ 4) (hd : ∀ d ∈ l, d < UB) : FSpec Tryz.prog 258 [.arr (iE l)] (i64 (hv l)) := by
 refine FSpec.enter Tryz.func258 rfl (by kernel_rfl) rfl rfl rfl ?_ rfl ?_
 ·exact closed_cons (closed_iA l) closed_nil
 refine r_z 1 ?_
 refine r_z 1 ?_
 refine AWp.seq ?_
 refine r_z 1 ?_
 refine AWp.cutT (shortS l) (fun i => i = l.length) ?_ ?_
 ·refine AWp.block ?_
  refine AWp.loopS (shortS l) (fun i => l.length - i) (fun i => i ≤ l.length) 0 (Nat.zero_le _) ?_ ?_
  ·simp only [shortS_mk]
   exact s_e []
  intro i hi
  rw [shortS_mk]
  refine AWp.seq ?_
  refine r_z 4 ?_
  refine AWp.cond rfl (fun h => ?_) (fun h => ?_)
  ·have hlt : i < l.length := by simpa using h
   obtain ⟨d, hdi⟩ : ∃ d, l[i]? = some d := ⟨_, List.getElem?_eq_getElem hlt⟩
   have hd1 := hd d (List.mem_of_getElem? hdi)
   have hdi' : (iE l)[((i : Nat) : Int).toNat]? = some [i64 d] := iE_get hdi
   have hsn := hv_snoc (l.take i) d
   rw [← take_snoc hdi] at hsn
   have hb := hv_take_lt hd hl (i + 1)
   obtain ⟨V, hV⟩ : ∃ V, V = hv (l.take i) := ⟨_, rfl⟩
   rw [← hV] at hsn ⊢
   have hsn' : hv (l.take (i + 1)) = V * 32768 + d := hsn
   refine AWp.skip ?_
   refine AWp.seq ?_
   refine AWp.block ?_
   refine AWp.reg (m := 8) rfl ?_
   refine a_4 ?_
   first | refine AR.op0 (.index_l rfl rfl (by omega) (by omega) te_71.h) rfl rfl ?_ | refine AR.op0 (.index_a rfl rfl (by omega) hdi' rfl te_71.h) rfl rfl ?_
   first | refine AR.op0 (.load_l1 rfl rfl hdi' tg_3.h rfl) rfl rfl ?_ | refine AR.op0 (.load_a1 rfl hdi' tg_3.h rfl) rfl rfl ?_
   refine a_z ?_
   refine AWp.reg (m := 3) rfl ?_
   refine a_z ?_
   refine ⟨i + 1, by omega, hlt, ?_⟩
   simp only [shortS_mk]
   refine SEnt.to [] rfl rfl rfl ?_ (fun hs => ?_) (fun hs => ?_)
   ·repeat' (first | exact ShrL.nil | refine ShrL.cons rfl rfl rfl rfl (by first | rfl | (simp; done) | (simp [hsn'] <;> omega)) ?_)
   ·repeat' (first | exact CvF.nil | refine CvF.cons rfl ?_ ?_)
    all_goals (first | exact au_c | (refine Cv.loE hs ?_ (closed_v _); first | rfl | (simp [i64, u64, u32, bln, hsn']; done) | (simp [i64, u64, u32, bln, hsn'] <;> omega)))
   ·repeat' (first | exact CvH.nil | refine CvH.cons rfl rfl rfl rfl ?_ ?_)
    all_goals (first | exact CvLL.bld rfl rfl rfl rfl rfl rfl | exact CvLL.bld0 hs | exact CvLL.clo hs (closed_bE _) | exact CvLL.clo hs (closed_dE _) | (refine CvLL.cloE hs ?_ (closed_dE _); first | (simp [dE_set, dE_append, dE_replicate, hsn']; done) | (simp [dE, u32, ofV, hsn']; done)) | exact CvLL.clo hs (closed_pE _) | exact CvLL.clo hs (closed_iE _) | (refine CvLL.cloE hs ?_ (closed_iE _); first | (simp [iE_set, iE_append, iE_replicate, hsn']; done) | (simp [iE, i64, ofV, hsn']; done)) | (refine CvLL.cloE hs ?_ (closed_pE _); first | (simp [pE_set, pE_append, hsn']; done) | (simp [pE, ofV, hsn']; done)) | (refine CvLL.box ?_; repeat' (first | exact CvL.nil | exact CvL.clo hs (closed_qC _) | refine CvL.cons ?_ ?_)))
    all_goals (first | exact Cv.clo hs (closed_v _) | exact Cv.ptr rfl rfl rfl | exact Cv.sl rfl rfl rfl | exact Cv.slN rfl rfl rfl | exact Cv.clo hs closed_emp | (refine Cv.clo hs ?_; first | assumption | exact closed_arrD _ | exact closed_mag _ | exact closed_v _ | exact closed_emp | exact closed_pA _ | exact closed_iA _ | exact closed_cA _ | exact closed_zZA _ | exact closed_qA _ | exact closed_mA _ | exact closed_spA _ _ | exact closed_clos closed_nil closed_nil | exact closed_bP _ | exact closed_bQ _ | exact closed_bS _ | exact closed_kA _ | exact closed_plA _ _ | exact closed_bPl _ _ | exact closed_bF | exact closed_rA _ | exact closed_rEA _ | (refine closed_clos closed_nil ?_; first | assumption | exact closed_cons (closed_bP _) closed_nil | exact closed_cons (closed_bQ _) closed_nil | exact closed_cons (closed_bPl _ _) closed_nil)) | (refine Cv.boxp hs rfl (dead_of rfl) rfl ?_; first | exact closed_qC _ | exact closed_spC _ _ | exact closed_zZ _ | exact closed_rC _ | (refine closed_cons ?_ closed_nil; first | assumption | exact closed_arrD _ | exact closed_mag _ | exact closed_v _ | exact closed_emp | exact closed_pA _ | exact closed_iA _ | exact closed_cA _ | exact closed_zZA _ | exact closed_qA _ | exact closed_mA _ | exact closed_spA _ _ | exact closed_clos closed_nil closed_nil | exact closed_bP _ | exact closed_bQ _ | exact closed_bS _ | exact closed_kA _ | exact closed_plA _ _ | exact closed_bPl _ _ | exact closed_bF | exact closed_rA _ | exact closed_rEA _ | (refine closed_clos closed_nil ?_; first | assumption | exact closed_cons (closed_bP _) closed_nil | exact closed_cons (closed_bQ _) closed_nil | exact closed_cons (closed_bPl _ _) closed_nil))) | (refine Cv.loE hs ?_ (closed_v _); first | rfl | (simp [i64, u64, u32, bln, hsn']; done) | (simp [i64, u64, u32, bln, hsn'] <;> omega)) | (refine Cv.slE rfl rfl rfl ?_ ?_ ?_ <;> first | rfl | omega | (congr 1; omega) | (simp; done) | (simp <;> omega)) | exact Cv.emp _)
  ·have hge : i = l.length := by simp at h; omega
   refine AWp.exit ⟨i, hge, ?_⟩
   exact s_e []
 rintro i rfl
 rw [shortS_mk, List.take_length]
 refine r_z 2 ?_
 refine AWp.ret (Fin.tmpE rfl rfl (closed_v _))
end Go.Proofs.YtdhedjbmdnnbkaaGreatDoor
