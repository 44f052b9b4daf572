/- Part V13 of the proof. -/
import Derived.Test.YtdhedjbmdnnbkaaGreatDoorV12
import Derived.Lib.ItoaNum
set_option linter.all false
namespace Go.Abs
abbrev nQ (n : Nat) : Rat := ((n : Int) : Rat)
theorem nQ_eq (n : Nat) : nQ n = mkRat n 1 := (Rat.mkRat_one n).symm
theorem nQ_zero {n : Nat} : nQ n = 0 ↔ n = 0 := by
 rw [← Rat.num_eq_zero]
 show (n : Int) = 0 ↔ n = 0
 omega
theorem qs_nQ {n k : Nat} (h : bl n ≤ k) (hk : 1 ≤ k) : qs (nQ n) ≤ k := by
 refine Nat.max_le.2 ⟨?_, ?_⟩
 ·show bl ((n : Int)).natAbs ≤ k
  rwa [Int.natAbs_natCast]
 ·show bl 1 ≤ k
  rw [jy_]; exact hk
theorem nQ_mul (a b : Nat) : nQ a * nQ b = nQ (a * b) := by
 rw [ij_, nQ_eq (a * b)]
 show mkRat ((a : Int) * b) (1 * 1) = _
 rw [Int.natCast_mul]
theorem nQ_sub {a b : Nat} (h : b ≤ a) : nQ a - nQ b = nQ (a - b) := by
 show ((a : Int) : Rat) - ((b : Int) : Rat) = _
 rw [← Rat.intCast_sub]
 show ((_ : Int) : Rat) = ((_ : Int) : Rat)
 congr 1
 omega
theorem nQ_div (a b : Nat) (hb : b ≠ 0) : nQ a / nQ b = mkRat a b := by
 rw [sa_]
 show Rat.divInt ((a : Int) * ((1 : Nat) : Int)) (((1 : Nat) : Int) * b) = _
 rw [show ((a : Int) * ((1 : Nat) : Int)) = a by omega, show (((1 : Nat) : Int) * (b : Int)) = b by omega, Rat.divInt_ofNat]
theorem mkRat_nat (a b : Nat) (hb : b ≠ 0) (h : b ∣ a) : mkRat a b = nQ (a / b) := by
 obtain ⟨k, rfl⟩ := h
 rw [Nat.mul_div_cancel_left _ (by omega), nQ_eq, Rat.mkRat_eq_iff hb (by decide)]
 rw [Int.natCast_mul, Int.mul_comm (b : Int)]
 simp
theorem xo_ (a b : Nat) (hb : b ≠ 0) : (mkRat a b).floor = ((a / b : Nat) : Int) := by
 have h := ik_ (n := (a : Int)) (d := b) (by omega)
 rw [Int.natAbs_natCast] at h
 rw [Rat.floor_def, h.1, h.2]
 have hg : 0 < Nat.gcd a b := Nat.gcd_pos_of_pos_right _ (by omega)
 rw [← Int.natCast_ediv, ← Int.natCast_ediv, Nat.div_div_eq_div_mul, Nat.mul_div_cancel' (Nat.gcd_dvd_right a b)]
def denL : List Rat → Nat → Nat
 | [], d => d
 | c :: l, d => denL l (Nat.lcm d c.den)
def intC (c : Rat) (D : Nat) : Nat := c.num.natAbs * (D / c.den)
def numL (D : Nat) : List Rat → Nat → Nat
 | [], n => n
 | c :: l, n => numL D l (Nat.gcd n (intC c D))
def primP (p : List Rat) : List Rat := bp_ (trimQ p) (nQ (denL (trimQ p) 1) / nQ (numL (denL (trimQ p) 1) (trimQ p) 0))
def zq_ (p : List Rat) : Prop := (p.length + 4) * mxL p ≤ 34359738368 ∧ p.length ≤ 274877906944
instance (p : List Rat) : Decidable (zq_ p) := inferInstanceAs (Decidable (_ ∧ _))
theorem lcm_pos {a b : Nat} (ha : a ≠ 0) (hb : b ≠ 0) : Nat.lcm a b ≠ 0 := fun h => by
 rcases Nat.lcm_eq_zero_iff.1 h with h | h
 ·exact ha h
 ·exact hb h
theorem denL_ne : ∀ (l : List Rat) {d : Nat}, d ≠ 0 → denL l d ≠ 0
 | [], _, h => h
 | c :: l, _, h => denL_ne l (lcm_pos h c.den_nz)
theorem tl_ : ∀ (l : List Rat) (d : Nat), d ∣ denL l d ∧ ∀ c ∈ l, c.den ∣ denL l d
 | [], d => ⟨Nat.dvd_refl d, fun _ h => by cases h⟩
 | c :: l, d => by
  obtain ⟨h1, h2⟩ := tl_ l (Nat.lcm d c.den)
  refine ⟨Nat.dvd_trans (Nat.dvd_lcm_left d c.den) h1, fun x hx => ?_⟩
  rcases List.mem_cons.1 hx with rfl | hx
  ·exact Nat.dvd_trans (Nat.dvd_lcm_right d x.den) h1
  ·exact h2 x hx
theorem bl_lcm (a b : Nat) : bl (Nat.lcm a b) ≤ bl a + bl b :=
 Nat.le_trans (ea_ _ _) (hc_ a b)
theorem denL_bl {s : Nat} : ∀ (l : List Rat) (d : Nat), bdL l s → bl (denL l d) ≤ bl d + l.length * s
 | [], d, _ => by simp [denL]
 | c :: l, d, h => by
  have h1 := denL_bl l (Nat.lcm d c.den) fun q hq => h q (List.mem_cons_of_mem _ hq)
  have h2 := bl_lcm d c.den
  have h3 := ci_ c
  have h4 := h c (List.mem_cons_self ..)
  rw [List.length_cons, Nat.add_mul, Nat.one_mul]
  unfold denL
  omega
theorem mul_intC (c : Rat) (D : Nat) (h : c.den ∣ D) : absQ (c * nQ D) = nQ (intC c D) := by
 obtain ⟨k, rfl⟩ := h
 have hd := c.den_nz
 have e : c * nQ (c.den * k) = ((c.num * (k : Int) : Int) : Rat) := by
  rw [ij_]
  show mkRat (c.num * ((c.den * k : Nat) : Int)) (c.den * 1) = _
  rw [show ((c.num * (k : Int) : Int) : Rat) = mkRat (c.num * k) 1 from (Rat.mkRat_one _).symm, Rat.mkRat_eq_iff (by omega) (by decide)]
  rw [Int.natCast_mul, Nat.mul_one]
  simp only [Int.natCast_one, Int.mul_one]
  rw [Int.mul_left_comm, Int.mul_comm]
 rw [e]
 unfold absQ intC
 show mkRat (((c.num * (k : Int)).natAbs : Nat) : Int) 1 = _
 rw [Nat.mul_div_cancel_left _ (by omega), Int.natAbs_mul, Int.natAbs_natCast, nQ_eq]
theorem zt_ (D : Nat) : ∀ (l : List Rat) (n : Nat), numL D l n ∣ n ∧ ∀ c ∈ l, numL D l n ∣ intC c D
 | [], n => ⟨Nat.dvd_refl n, fun _ h => by cases h⟩
 | c :: l, n => by
  obtain ⟨h1, h2⟩ := zt_ D l (Nat.gcd n (intC c D))
  refine ⟨Nat.dvd_trans h1 (Nat.gcd_dvd_left _ _), fun x hx => ?_⟩
  rcases List.mem_cons.1 hx with rfl | hx
  ·exact Nat.dvd_trans h1 (Nat.gcd_dvd_right _ _)
  ·exact h2 x hx
theorem intC_ne {c : Rat} {D : Nat} (h : c.den ∣ D) (hD : D ≠ 0) (hc : c ≠ 0) : intC c D ≠ 0 := by
 obtain ⟨k, rfl⟩ := h
 unfold intC
 rw [Nat.mul_div_cancel_left _ c.den_pos]
 have h1 : c.num ≠ 0 := fun e => hc (Rat.num_eq_zero.1 e)
 refine Nat.mul_ne_zero (by omega) fun e => hD (by rw [e, Nat.mul_zero])
theorem intC_bl (c : Rat) (D : Nat) : bl (intC c D) ≤ qs c + bl D := by
 have h1 := hc_ c.num.natAbs (D / c.den)
 have h2 := ea_ D c.den
 have h3 := co_ c
 unfold intC; omega
theorem lf_ (p : List Rat) : (ei_ p).length ≤ p.length - 1 := by
 have := bm_ (tabP (p.length - 1) fun i => coP p (i + 1) * ((i + 1 : Nat) : Int))
 simpa [ei_] using this
def sqfM (f : Nat) (p : List Rat) : Option (List Rat) :=
 if smL p ∧ p.length ≤ 274877906944 then (gcdM f p (ei_ p)).bind fun g => if trimQ g ≠ [] ∧ okDiv p g then some (jv_ (divP p g).1) else none
 else none
def boL (lead : Rat) : List Rat → Rat → Rat
 | [], m => m
 | c :: l, m => boL lead l (maxL [m, absQ (c / lead)])
def id_ (p : List Rat) : Rat := boL (leadP p) ((trimQ p).take ((trimQ p).length - 1)) 0 + 1
def ss_ (p : List Rat) : Prop := mxL p ≤ 34359738368 ∧ p.length ≤ 274877906944
instance (p : List Rat) : Decidable (ss_ p) := inferInstanceAs (Decidable (_ ∧ _))
def rn_ (p : List Rat) : Int := if degP p < 0 then 10 else if 40 < degP p then 5 else 0
theorem qs_abs (q : Rat) : qs (absQ q) = qs q := by
 unfold qs
 rw [absQ_num, absQ_den, Int.natAbs_natCast]
theorem maxL_le {l : List Rat} {n : Nat} (h : bdL l n) (hn : 1 ≤ n) : qs (maxL l) ≤ n := by
 unfold maxL
 have key : ∀ (bf : Int → Bool) (l : List Rat) (o : Rat), qs o ≤ n → bdL l n → qs (l.foldl (fun o y => if bf (cmpQ y o) then y else o) o) ≤ n := by
  intro bf l
  induction l with
  | nil => intro o ho _; exact ho
  | cons y l ih =>
   intro o ho hl
   refine ih _ ?_ fun q hq => hl q (List.mem_cons_of_mem _ hq)
   show qs (if bf (cmpQ y o) = true then y else o) ≤ n
   split
   ·exact hl y (List.mem_cons_self ..)
   ·exact ho
 cases l with
 | nil => exact Nat.le_trans (by decide : qs 0 ≤ 1) hn
 | cons x l => exact key (fun c => decide (0 < c)) l x (h x (List.mem_cons_self ..)) fun q hq => h q (List.mem_cons_of_mem _ hq)
theorem leadP_trim (p : List Rat) : leadP (trimQ p) = leadP p := by unfold leadP; rw [ek_]
def chL : List Int → Int → Int → Int
 | [], n, _ => n
 | s :: l, n, last => if s ≠ 0 then chL l (if s = -last then n + 1 else n) s else chL l n last
def chainM (f : Nat) : Nat → List Rat → List Rat → List (List Rat) → Option (List (List Rat))
 | 0, _, _, _ => none
 | k + 1, last, next, acc =>
  if trimQ next = [] then some acc
  else if zq_ next ∧ okDiv last (primP next) ∧ trimQ (primP next) ≠ [] then chainM f k (primP next) (bp_ (divP last (primP next)).2 (-1)) (acc ++ [primP next])
  else none
def sturmM (f : Nat) (p : List Rat) : Option (List (List Rat)) :=
 if smL p ∧ zq_ p ∧ trimQ p ≠ [] then chainM f f (primP p) (ei_ p) [primP p] else none
def cE (l : List (List Rat)) : List (List AV) := l.map fun p => [.arr (pE p)]
@[simp] theorem cE_length (l : List (List Rat)) : (cE l).length = l.length := by simp [cE]
theorem cE_get {l : List (List Rat)} {i : Nat} {p : List Rat} (h : l[i]? = some p) : (cE l)[i]? = some [.arr (pE p)] := by simp [cE, h]
theorem ic_ (l : List (List Rat)) : (cE l).all (·.all AV.one) = true := by
 simp only [cE, List.all_map, List.all_eq_true]; intro q _; rfl
theorem dy_ (l : List (List Rat)) : ∀ e ∈ cE l, ∀ c ∈ e, Closed c := by
 intro e he c hc
 obtain ⟨q, _, rfl⟩ := List.mem_map.1 he
 rw [List.mem_singleton.1 hc]
 exact ad_ q
theorem bi_ (l : List (List Rat)) : Closed (.arr (cE l)) := ao_ (dy_ l)
theorem yn_ (l : List (List Rat)) (p : List Rat) : cE (l ++ [p]) = cE l ++ [[.arr (pE p)]] := by simp [cE]
theorem AEval.lenC {P : Program} {id : Nat} {ev : Operand → Option AV} {hp : Nat → Option ABlk} {c : Call} {x : Operand} {T : Nat} {d : Nat × Nat} {l : List (List Rat)} (hc : c.callee = .builtin .len) (ha : c.args = #[x]) (ht : c.argTypes = #[T]) (hx : ev x = some (.arr (cE l))) (he : elOf P T = some d) :
    AEval P id ev hp (.call c) ⟨.v (.int .i64 (l.length : Nat)), []⟩ [] := .len hc ha ht hx (by simp [lenA]) he
structure Cnt where
 p : List Rat
 ch : List (List Rat)
 far : Int
def kC (c : Cnt) : List AV := [.arr (pE c.p), .arr (cE c.ch), i64 c.far]
abbrev kA (c : Cnt) : AV := .aptr [kC c] 0 0
theorem wp_ (c : Cnt) : ∀ x ∈ kC c, Closed x := aa_ (ad_ _) (aa_ (bi_ _) (aa_ (ac_ _) ab_))
theorem bf_ (c : Cnt) : Closed (kA c) := bb_ (wp_ c)
def sgI (q : List Rat) : Int := if degP q % 2 = 1 then -sgZ (leadP q).num else sgZ (leadP q).num
def sgE (x : Rat) (q : List Rat) : Int := sgZ (evalP q x).num
theorem xf_ (z : Int) : -1 ≤ sgZ z ∧ sgZ z ≤ 1 := by
 unfold sgZ; split
 ·omega
 ·split <;> omega
theorem sgI_abs (q : List Rat) : -1 ≤ sgI q ∧ sgI q ≤ 1 := by
 have := xf_ (leadP q).num
 unfold sgI; split <;> omega
theorem ws_ : ∀ (l : List Int) (n last : Int), n ≤ chL l n last ∧ chL l n last ≤ n + l.length
 | [], n, _ => ⟨Int.le_refl _, by simp [chL]⟩
 | s :: l, n, last => by
  unfold chL
  split
  ·split
   ·have := ws_ l (n + 1) s; simp only [List.length_cons]; omega
   ·have := ws_ l n s; simp only [List.length_cons]; omega
  ·have := ws_ l n last; simp only [List.length_cons]; omega
def okCnt (c : Cnt) : Prop := (∀ q ∈ c.ch, trimQ q ≠ [] ∧ q.length ≤ 274877906944) ∧ c.ch.length ≤ 274877906944 ∧ c.far = chL (c.ch.map sgI) 0 0
instance (c : Cnt) : Decidable (okCnt c) := inferInstanceAs (Decidable (_ ∧ _ ∧ _))
def mt_ (f : Nat) (p : List Rat) : Option Cnt :=
 (sqfM f p).bind fun s => (sturmM f s).bind fun ch => if okCnt ⟨s, ch, chL (ch.map sgI) 0 0⟩ then some ⟨s, ch, chL (ch.map sgI) 0 0⟩ else none
def uptoV (c : Cnt) (x : Rat) : Int := c.far - chL (c.ch.map (sgE x)) 0 0
def okUp (c : Cnt) (x : Rat) : Prop := okCnt c ∧ ∀ q ∈ c.ch, gu_ q x
instance (c : Cnt) (x : Rat) : Decidable (okUp c x) := inferInstanceAs (Decidable (_ ∧ _))
def eb_ (c : Cnt) (x : Rat) : Int := if evalP c.p x = 0 then uptoV c x - 1 else uptoV c x
def okBe (c : Cnt) (x : Rat) : Prop := okUp c x ∧ gu_ c.p x
instance (c : Cnt) (x : Rat) : Decidable (okBe c x) := inferInstanceAs (Decidable (_ ∧ _))
def allV (c : Cnt) : Int := uptoV c (id_ c.p)
def okAll (c : Cnt) : Prop := ss_ c.p ∧ trimQ c.p ≠ [] ∧ okUp c (id_ c.p)
instance (c : Cnt) : Decidable (okAll c) := inferInstanceAs (Decidable (_ ∧ _ ∧ _))
theorem nl_ {c : Cnt} {x : Rat} (h : okCnt c) : -274877906944 ≤ uptoV c x ∧ uptoV c x ≤ 274877906944 := by
 have h1 := ws_ (c.ch.map sgI) 0 0
 have h2 := ws_ (c.ch.map (sgE x)) 0 0
 have h3 := h.2.1
 rw [← h.2.2] at h1
 simp only [List.length_map] at h1 h2
 unfold uptoV
 omega
abbrev plA (c : Cnt) (i : Int) : AV := .aptr [[kA c, i64 i]] 0 0
theorem ba_ (c : Cnt) (i : Int) : Closed (plA c i) := bb_ (aa_ (bf_ c) (aa_ (ac_ _) ab_))
def plC (c : Cnt) (i : Int) (x : Rat) : Int := if i < eb_ c x then -1 else if eb_ c x = i ∧ eb_ c x < uptoV c x then 0 else 1
theorem belowV_bd {c : Cnt} {x : Rat} (h : okCnt c) : -274877906945 ≤ eb_ c x ∧ eb_ c x ≤ 274877906944 := by
 have := nl_ (x := x) h
 unfold eb_; split <;> omega
def biM (c : Cnt) (i : Int) (step : Rat) : Nat → Rat → Rat → Option Rat
 | 0, _, _ => none
 | f + 1, lo, hi =>
  if sm lo ∧ sm hi ∧ sm (hi - lo) then
   if 0 < cmpQ (hi - lo) 1 then
    if qs (((lo + hi) / 2).floor : Rat) + qs step ≤ 549755813888 ∧ okBe c ((((lo + hi) / 2).floor : Rat) * step) then
     if 0 ≤ plC c i ((((lo + hi) / 2).floor : Rat) * step) then biM c i step f (((lo + hi) / 2).floor : Rat) hi
     else biM c i step f lo (((lo + hi) / 2).floor : Rat)
    else none
   else some lo
  else none
def inK (a v : Rat) (out zeros : List Rat) : Rat := (v - evalP out a) / evalP zeros a
def okIn (a v : Rat) (out zeros : List Rat) : Prop := sm a ∧ sm v ∧ gu_ out a ∧ gu_ zeros a ∧ evalP zeros a ≠ 0 ∧ sm (inK a v out zeros) ∧ smL out ∧ smL zeros ∧ smL (bp_ zeros (inK a v out zeros)) ∧ okMul zeros [-a, 1] ∧ out.length ≤ 274877906944
instance (a v : Rat) (out zeros : List Rat) : Decidable (okIn a v out zeros) := inferInstanceAs (Decidable (_ ∧ _ ∧ _ ∧ _ ∧ _ ∧ _ ∧ _ ∧ _ ∧ _ ∧ _ ∧ _))
def intM : List Rat → List Rat → List Rat → List Rat → Option (List Rat)
 | [], _, out, _ => some out
 | _ :: _, [], _, _ => none
 | a :: ps, v :: vs, out, zeros => if okIn a v out zeros then intM ps vs (addP out (bp_ zeros (inK a v out zeros))) (mulP zeros [-a, 1]) else none
def ej_ : List Rat → List Rat → Bool
 | _, [] => false
 | pre, a :: l => pre.any (fun b => decide (a = b)) || ej_ (pre ++ [a]) l
theorem mv_ (i : Nat) : coP [] i = 0 := rfl
theorem gn_ (a : Rat) (l : List Rat) : coP (a :: l) 0 = a := rfl
theorem fi_ (a : Rat) (l : List Rat) (i : Nat) : coP (a :: l) (i + 1) = coP l i := rfl
theorem fv_ (l : List Rat) (i : Nat) : coP (trimQ l) i = coP l i := by
 induction l generalizing i with
 | nil => rfl
 | cons a l ih =>
  rw [di_]
  split
  ·rename_i h
   have h0 : ∀ j, coP l j = 0 := fun j => by rw [← ih j, h]; rfl
   split
   ·rename_i ha
    cases i with
    | zero => rw [gn_, ha]; rfl
    | succ i => rw [fi_, h0]; rfl
   ·cases i with
    | zero => rfl
    | succ i => rw [fi_, fi_, h0]; rfl
  ·cases i with
   | zero => rfl
   | succ i => rw [fi_, fi_, ih]
theorem mu_ (n : Nat) (f : Nat → Rat) (i : Nat) : coP (tabP n f) i = if i < n then f i else 0 := by
 unfold coP tabP
 rw [List.getD_eq_getElem?_getD, List.getElem?_map]
 by_cases h : i < n
 ·rw [if_pos h, List.getElem?_range h]; rfl
 ·rw [if_neg h, List.getElem?_eq_none (by simp; omega)]; rfl
theorem iv_ (p q : List Rat) (i : Nat) : coP (addP p q) i = coP p i + coP q i := by
 unfold addP
 rw [fv_, mu_]
 split
 ·rfl
 ·rename_i h
  rw [ho_ (by omega), ho_ (by omega)]; grind
theorem ex_ (p : List Rat) (k : Rat) (i : Nat) : coP (bp_ p k) i = coP p i * k := by
 unfold bp_
 rw [fv_, mu_]
 split
 ·rfl
 ·rename_i h
  rw [ho_ (by omega)]; grind
theorem coP_sub (p q : List Rat) (i : Nat) : coP (subP p q) i = coP p i - coP q i := by
 unfold subP
 rw [iv_, ex_]; grind
theorem sf_ {p q : List Rat} (h : ∀ i, coP p i = coP q i) : trimQ p = trimQ q := by
 induction p generalizing q with
 | nil =>
  induction q with
  | nil => rfl
  | cons b q ih =>
   have hb : b = 0 := (h 0).symm
   rw [di_, ← ih fun i => h (i + 1), if_pos (by rfl), if_pos hb]; rfl
 | cons a p ih =>
  cases q with
  | nil =>
   have ha : a = 0 := h 0
   rw [di_, ih (q := []) fun i => h (i + 1), if_pos (by rfl), if_pos ha]; rfl
  | cons b q =>
   have hab : a = b := h 0
   rw [di_, di_, ih (q := q) fun i => h (i + 1), hab]
theorem trim_iff {p q : List Rat} : trimQ p = trimQ q ↔ ∀ i, coP p i = coP q i :=
 ⟨fun h i => by rw [← fv_ p, h, fv_], sf_⟩
theorem trim_nil_iff {p : List Rat} : trimQ p = [] ↔ ∀ i, coP p i = 0 :=
 ⟨fun h i => by rw [← fv_ p, h]; rfl, fun h => sf_ (q := []) h⟩
theorem qb_ (x : Rat) : evalP [] x = 0 := rfl
theorem bs_ (a : Rat) (l : List Rat) (x : Rat) : evalP (a :: l) x = evalP l x * x + a := rfl
theorem rx_ {p : List Rat} (h : ∀ i, coP p i = 0) (x : Rat) : evalP p x = 0 := by
 induction p with
 | nil => rfl
 | cons a p ih =>
  have ha : a = 0 := h 0
  rw [bs_, ih fun i => h (i + 1), ha]; grind
theorem mb_ {p q : List Rat} (h : ∀ i, coP p i = coP q i) (x : Rat) : evalP p x = evalP q x := by
 induction p generalizing q with
 | nil => exact (rx_ (fun i => (h i).symm) x).symm
 | cons a p ih =>
  cases q with
  | nil => exact rx_ h x
  | cons b q =>
   have hab : a = b := h 0
   rw [bs_, bs_, ih (q := q) fun i => h (i + 1), hab]
theorem gx_ (p : List Rat) (x : Rat) : evalP (trimQ p) x = evalP p x := mb_ (fv_ p) x
def addL : List Rat → List Rat → List Rat
 | [], q => q
 | p, [] => p
 | a :: p, b :: q => (a + b) :: addL p q
def rc_ (p : List Rat) (k : Rat) : List Rat := p.map (· * k)
def mulL : List Rat → List Rat → List Rat
 | [], _ => []
 | a :: p, q => addL (rc_ q a) (0 :: mulL p q)
theorem og_ (p q : List Rat) (i : Nat) : coP (addL p q) i = coP p i + coP q i := by
 induction p generalizing q i with
 | nil => rw [addL, mv_]; grind
 | cons a p ih =>
  cases q with
  | nil => rw [addL, mv_]; · grind
           ·intro h; cases h
  | cons b q =>
   rw [addL]
   cases i with
   | zero => rfl
   | succ i => exact ih q i
theorem jm_ (p : List Rat) (k : Rat) (i : Nat) : coP (rc_ p k) i = coP p i * k := by
 induction p generalizing i with
 | nil => show (0 : Rat) = 0 * k; grind
 | cons a p ih =>
  cases i with
  | zero => rfl
  | succ i => exact ih i
theorem ry_ (p q : List Rat) (x : Rat) : evalP (addL p q) x = evalP p x + evalP q x := by
 induction p generalizing q with
 | nil => rw [addL, qb_]; grind
 | cons a p ih =>
  cases q with
  | nil => rw [addL, qb_]; · grind
           ·intro h; cases h
  | cons b q => rw [addL, bs_, bs_, bs_, ih]; grind
theorem nh_ (p : List Rat) (k x : Rat) : evalP (rc_ p k) x = evalP p x * k := by
 induction p with
 | nil => show (0 : Rat) = 0 * k; grind
 | cons a p ih => show evalP (rc_ p k) x * x + a * k = _; rw [ih, bs_]; grind
theorem evalP_mulL (p q : List Rat) (x : Rat) : evalP (mulL p q) x = evalP p x * evalP q x := by
 induction p with
 | nil => show (0 : Rat) = 0 * _; grind
 | cons a p ih => rw [mulL, ry_, nh_, bs_, ih, bs_]; grind
theorem gy_ (p q : List Rat) (x : Rat) : evalP (addP p q) x = evalP p x + evalP q x := by
 rw [← ry_]; exact mb_ (fun i => by rw [iv_, og_]) x
theorem fc_ (p : List Rat) (k x : Rat) : evalP (bp_ p k) x = evalP p x * k := by
 rw [← nh_]; exact mb_ (fun i => by rw [ex_, jm_]) x
theorem ma_ (p q : List Rat) (x : Rat) : evalP (subP p q) x = evalP p x - evalP q x := by
 unfold subP; rw [gy_, fc_]; grind
theorem qc_ (a x : Rat) : evalP (ew_ a) x = a := by
 rw [ew_, gx_]; show 0 * x + a = a; grind
def convP (p q : List Rat) : Nat → Nat → Rat
 | 0, _ => 0
 | i + 1, n => convP p q i n + (if i ≤ n then coP p i * coP q (n - i) else 0)
theorem coP_rowP (o : List Rat) (a : Rat) (q : List Rat) (i : Nat) (h : ∀ k, k < q.length → i + k < o.length) : ∀ k n, k ≤ q.length → coP (rowP o a q i k) n = coP o n + (if i ≤ n ∧ n < i + k then a * coP q (n - i) else 0)
 | 0, n, _ => by rw [if_neg (by omega)]; show coP o n = _; grind
 | k + 1, n, hk => by
  rw [rowP, qk_, xj_]
  by_cases hn : n = i + k
  ·subst hn
   rw [if_pos ⟨rfl, h k (by omega)⟩, sn_ o a q i k (i + k) (by omega), if_pos (by omega), show i + k - i = k by omega]
  ·rw [if_neg (by omega), coP_rowP o a q i h k n (by omega)]
   by_cases h2 : i ≤ n ∧ n < i + k
   ·rw [if_pos h2, if_pos (by omega)]
   ·rw [if_neg h2, if_neg (by omega)]
theorem coP_mulR (p q : List Rat) (n : Nat) : ∀ i, i ≤ p.length → coP (mulR p q i) n = convP p q i n
 | 0, _ => by
  show coP (List.replicate _ 0) n = 0
  unfold coP
  rw [List.getD_eq_getElem?_getD, List.getElem?_replicate]
  split <;> rfl
 | i + 1, hi => by
  have ih := coP_mulR p q n i (by omega)
  rw [mulR, convP]
  split
  ·rename_i h0
   rw [ih, h0]
   split <;> grind
  ·rw [coP_rowP _ _ _ _ (fun k hk => by rw [pa_]; omega) _ _ (Nat.le_refl _), ih]
   congr 1
   by_cases h1 : i ≤ n
   ·rw [if_pos h1]
    by_cases h2 : n < i + q.length
    ·rw [if_pos ⟨h1, h2⟩]
    ·rw [if_neg (by omega), ho_ (p := q) (by omega)]; grind
   ·rw [if_neg (by omega), if_neg h1]
theorem sc_ (a : Rat) (p q : List Rat) (n : Nat) : ∀ i, convP (a :: p) q (i + 1) n = a * coP q n + (match n with | 0 => 0 | m + 1 => convP p q i m)
 | 0 => by
  show (0 : Rat) + (if 0 ≤ n then coP (a :: p) 0 * coP q (n - 0) else 0) = _
  rw [if_pos (Nat.zero_le _), gn_, Nat.sub_zero]
  cases n <;> simp [convP, Rat.add_zero, Rat.zero_add]
 | i + 1 => by
  rw [convP, sc_ a p q n i]
  cases n with
  | zero => rw [if_neg (by omega)]; show a * coP q 0 + 0 + 0 = a * coP q 0 + 0; grind
  | succ m =>
   show a * coP q (m + 1) + convP p q i m + _ = a * coP q (m + 1) + (convP p q i m + _)
   by_cases h : i ≤ m
   ·rw [if_pos (by omega), if_pos h, fi_, show m + 1 - (i + 1) = m - i by omega]; grind
   ·rw [if_neg (by omega), if_neg h]; grind
theorem coP_mulL (p q : List Rat) (n : Nat) : coP (mulL p q) n = convP p q p.length n := by
 induction p generalizing n with
 | nil => rfl
 | cons a p ih =>
  rw [mulL, og_, jm_, List.length_cons, sc_]
  cases n with
  | zero => rw [gn_]; grind
  | succ m => rw [fi_, ih]; grind
theorem coP_mul (p q : List Rat) (n : Nat) : coP (mulP p q) n = coP (mulL p q) n := by
 unfold mulP
 split
 ·rename_i h
  rcases h with rfl | rfl
  ·rfl
  ·rw [coP_mulL]
   have : ∀ i, convP p [] i n = 0 := by
    intro i
    induction i with
    | zero => rfl
    | succ i ih => rw [convP, ih, mv_]; split <;> grind
   rw [this]; rfl
 ·rw [fv_, coP_mulR _ _ _ _ (Nat.le_refl _), coP_mulL]
theorem gg_ (p q : List Rat) (x : Rat) : evalP (mulP p q) x = evalP p x * evalP q x := by
 rw [← evalP_mulL]; exact mb_ (coP_mul p q) x
def synD : List Rat → Rat → List Rat
 | [], _ => []
 | [_], _ => []
 | _ :: b :: l, r => evalP (b :: l) r :: synD (b :: l) r
theorem uo_ (p : List Rat) (r x : Rat) : evalP p x = evalP (synD p r) x * (x - r) + evalP p r := by
 induction p with
 | nil => show (0 : Rat) = 0 * _ + 0; grind
 | cons a l ih =>
  cases l with
  | nil => show 0 * x + a = 0 * (x - r) + (0 * r + a); grind
  | cons b l =>
   rw [synD, bs_ a, bs_ a, bs_ (evalP (b :: l) r), ih]; grind
theorem synD_len (p : List Rat) (r : Rat) : (synD p r).length = p.length - 1 := by
 induction p with
 | nil => rfl
 | cons a l ih =>
  cases l with
  | nil => rfl
  | cons b l => rw [synD, List.length_cons, ih]; simp
theorem mm_ : ∀ (n : Nat) (p xs : List Rat), p.length ≤ n → n ≤ xs.length → xs.Nodup → (∀ x ∈ xs, evalP p x = 0) → ∀ x, evalP p x = 0
 | 0, p, _, hp, _, _, _, x => by
  have : p = [] := List.length_eq_zero_iff.1 (by omega)
  rw [this]; rfl
 | n + 1, p, xs, hp, hx, hnd, hz, x => by
  cases xs with
  | nil => simp at hx
  | cons r xs =>
   rw [List.nodup_cons] at hnd
   have hr := hz r (List.mem_cons_self ..)
   have ih := mm_ n (synD p r) xs (by rw [synD_len]; omega) (by simp at hx; omega) hnd.2 fun y hy => by
    have h1 := uo_ p r y
    rw [hz y (List.mem_cons_of_mem _ hy), hr] at h1
    have hne : y - r ≠ 0 := fun h => hnd.1 (by have : y = r := by grind
                                               rw [← this]; exact hy)
    have h2 : evalP (synD p r) y * (y - r) = 0 := by grind
    rcases Rat.mul_eq_zero.1 h2 with h3 | h3
    ·exact h3
    ·exact absurd h3 hne
   rw [uo_ p r x, ih, hr]; grind
theorem wf_ {p : List Rat} (h : ∀ x, evalP p x = 0) : ∀ i, coP p i = 0 := by
 induction p with
 | nil => intro i; rfl
 | cons a p ih =>
  have ha : a = 0 := by
   have := h 0
   rw [bs_] at this; grind
  have hp : ∀ x, evalP p x = 0 := by
   -- at all places but 0, so at all
   refine mm_ p.length p ((List.range p.length).map fun i => (((i + 1 : Nat) : Int) : Rat)) (Nat.le_refl _) (by simp) ?_ ?_
   ·refine List.Pairwise.map _ (fun i j hij => ?_) List.nodup_range
    intro e
    apply hij
    have := Rat.intCast_inj.1 e
    omega
   ·intro x hx
    obtain ⟨i, _, rfl⟩ := List.mem_map.1 hx
    have h1 := h (((i + 1 : Nat) : Int) : Rat)
    rw [bs_, ha] at h1
    have h2 : evalP p (((i + 1 : Nat) : Int) : Rat) * (((i + 1 : Nat) : Int) : Rat) = 0 := by grind
    rcases Rat.mul_eq_zero.1 h2 with h3 | h3
    ·exact h3
    ·have := Rat.intCast_inj.1 (h3.trans Rat.intCast_zero.symm); omega
  intro i
  cases i with
  | zero => exact ha
  | succ i => exact ih hp i
theorem tj_ {p q : List Rat} (h : ∀ x, evalP p x = evalP q x) : trimQ p = trimQ q := by
 refine sf_ fun i => ?_
 have := wf_ (p := subP p q) (fun x => by rw [ma_, h]; grind) i
 rw [coP_sub] at this; grind
theorem yb_ {p q xs : List Rat} (hp : (trimQ p).length ≤ xs.length) (hq : (trimQ q).length ≤ xs.length) (hnd : xs.Nodup) (h : ∀ x ∈ xs, evalP p x = evalP q x) : trimQ p = trimQ q := by
 refine tj_ fun x => ?_
 have hl : (subP (trimQ p) (trimQ q)).length ≤ xs.length := by
  have h1 := hr_ (trimQ p) (bp_ (trimQ q) (-1))
  have h2 := cg_ (trimQ q) (-1)
  unfold subP; omega
 have := mm_ xs.length _ xs hl (Nat.le_refl _) hnd (fun y hy => by rw [ma_, gx_, gx_, h y hy]; grind) x
 rw [ma_, gx_, gx_] at this; grind
theorem pb_ (p q : List Rat) (hp : p ≠ []) : (mulP p q).length ≤ p.length + q.length - 1 := by
 unfold mulP
 split
 ·simp
 ·have := bm_ (mulR p q p.length)
  rwa [pa_] at this
theorem mq_ (a x : Rat) : evalP [-a, 1] x = x - a := by
 show (0 * x + 1) * x + -a = x - a; grind
theorem qa_ (zeros : List Rat) (a x : Rat) : evalP (mulP zeros [-a, 1]) x = evalP zeros x * (x - a) := by
 rw [gg_, mq_]
theorem evalP_step {a v : Rat} {out zeros : List Rat} (hz : evalP zeros a ≠ 0) : evalP (addP out (bp_ zeros (inK a v out zeros))) a = v := by
 rw [gy_, fc_]
 unfold inK
 rw [Rat.mul_comm, Rat.div_mul_cancel hz]; grind
theorem vm_ : ∀ (ps vs out zeros r : List Rat) (D : List Rat), intM ps vs out zeros = some r → ps.length = vs.length → (∀ d ∈ D, evalP zeros d = 0) → out.length ≤ D.length → zeros.length ≤ D.length + 1 →
    (∀ d ∈ D, evalP r d = evalP out d) ∧ (∀ (i : Nat) (a v : Rat), ps[i]? = some a → vs[i]? = some v → evalP r a = v) ∧ r.length ≤ D.length + ps.length
 | [], vs, out, zeros, r, D, h, _, hz, ho, _ => by
  simp only [intM, Option.some.injEq] at h
  subst h
  exact ⟨fun _ _ => rfl, (fun i a v hi => by simp at hi), by simpa using ho⟩
 | a :: ps, [], out, zeros, r, D, h, hl, _, _, _ => by simp at hl
 | a :: ps, v :: vs, out, zeros, r, D, h, hl, hz, ho, hzl => by
  rw [intM] at h
  split at h
  ·rename_i hok
   have hza : evalP zeros a ≠ 0 := hok.2.2.2.2.1
   have hz0 : zeros ≠ [] := fun e => hza (by rw [e]; rfl)
   have l1 := hr_ out (bp_ zeros (inK a v out zeros))
   have l2 := cg_ zeros (inK a v out zeros)
   have l3 := pb_ zeros [-a, 1] hz0
   simp at l3
   obtain ⟨h1, h2, h3⟩ := vm_ ps vs _ _ r (D ++ [a]) h (by simpa using hl) (fun d hd => by
    rw [qa_]
    rcases List.mem_append.1 hd with hd | hd
    ·rw [hz d hd]; grind
    ·rw [List.mem_singleton.1 hd]; grind) (by simp; omega) (by simp; omega)
   refine ⟨fun d hd => ?_, fun i b u hi hu => ?_, by simp at h3 ⊢; omega⟩
   ·rw [h1 d (List.mem_append_left _ hd), gy_, fc_, hz d hd]; grind
   ·cases i with
    | zero =>
     simp only [List.getElem?_cons_zero, Option.some.injEq] at hi hu
     subst hi hu
     rw [h1 a (List.mem_append_right _ (List.mem_singleton.2 rfl)), evalP_step hza]
    | succ i => exact h2 i b u (by simpa using hi) (by simpa using hu)
  ·cases h
def intB (s sv : Nat) : Nat → Nat → Nat → Nat → Bool
 | 0, _, _, _ => true
 | n + 1, i, So, Sz =>
  let qk := sv + (i * (So + s + 1) + 1) + 1 + ((i + 1) * (Sz + s + 1) + 1)
  Nat.ble ((i + 1) * (So + s + 1) + So + s + 2) 137438953472 && Nat.ble ((i + 2) * (Sz + s + 1) + Sz + s + 2) 137438953472 && Nat.ble (Sz + qk) 137438953472 && Nat.ble s 137438953472 && Nat.ble sv 137438953472 && intB s sv n (i + 1) (So + (Sz + qk) + 1) ((i + 1) * (Sz + s + 1) + 1)
theorem scaleP_bd {p : List Rat} {k : Rat} {s t : Nat} (hp : bdL p s) (hs : 1 ≤ s) (hk : qs k ≤ t) : bdL (bp_ p k) (s + t) :=
 iu_ fun i => by
  rw [ex_]
  have h1 := gf_ (coP p i) k
  have h2 := fo_ hp hs i
  omega
theorem addP_bd {p q : List Rat} {s t : Nat} (hp : bdL p s) (hq : bdL q t) (hs : 1 ≤ s) (ht : 1 ≤ t) : bdL (addP p q) (s + t + 1) :=
 iu_ fun i => by
  rw [iv_]
  have h1 := ln_ (coP p i) (coP q i)
  have h2 := fo_ hp hs i
  have h3 := fo_ hq ht i
  omega
theorem vn_ (s sv : Nat) (hs1 : 1 ≤ s) : ∀ (ps vs out zeros : List Rat) (D : List Rat) (So Sz : Nat), ps.length = vs.length → (∀ a ∈ ps, qs a ≤ s) → (∀ v ∈ vs, qs v ≤ sv) → bdL out So → bdL zeros Sz → 1 ≤ So → 1 ≤ Sz → out.length ≤ D.length → zeros.length ≤ D.length + 1 → D.length + ps.length ≤ 1000 →
    (∀ x, evalP zeros x = 0 → x ∈ D) → (D ++ ps).Nodup → intB s sv ps.length D.length So Sz = true → ∃ r, intM ps vs out zeros = some r
 | [], _, out, _, _, _, _, _, _, _, _, _, _, _, _, _, _, _, _, _ => ⟨out, rfl⟩
 | _ :: _, [], _, _, _, _, _, h, _, _, _, _, _, _, _, _, _, _, _, _ => by simp at h
 | a :: ps, v :: vs, out, zeros, D, So, Sz, hl, ha, hv, ho, hz, ho1, hz1, hol, hzl, hlen, hD, hnd, hb => by
  rw [List.length_cons, intB] at hb
  simp only [Bool.and_eq_true, Nat.ble_eq] at hb
  obtain ⟨⟨⟨⟨⟨b1, b2⟩, b3⟩, b4⟩, b5⟩, b6⟩ := hb
  have ha1 := ha a (List.mem_cons_self ..)
  have hv1 := hv v (List.mem_cons_self ..)
  simp only [List.length_cons] at hlen
  have hza : evalP zeros a ≠ 0 := fun e => by
   have h1 := hD a e
   rw [List.nodup_append] at hnd
   exact hnd.2.2 a h1 a (List.mem_cons_self ..) rfl
  have mo := zv_ ho ho1
  have mz := zv_ hz hz1
  have eo := mc_ ha1 ho
  have ez := mc_ ha1 hz
  have hmo : out.length * (So + s + 1) ≤ D.length * (So + s + 1) := Nat.mul_le_mul_right _ hol
  have hmz : zeros.length * (Sz + s + 1) ≤ (D.length + 1) * (Sz + s + 1) := Nat.mul_le_mul_right _ hzl
  have hqk : qs (inK a v out zeros) ≤ sv + (D.length * (So + s + 1) + 1) + 1 + ((D.length + 1) * (Sz + s + 1) + 1) := by
   unfold inK
   have h1 := ih_ (v - evalP out a) (evalP zeros a)
   have h2 := vb_ v (evalP out a)
   omega
  have okE : ∀ (l : List Rat) (L S : Nat), l.length ≤ L → L ≤ 2000 → bdL l S → 1 ≤ S → L * (S + s + 1) + S + s + 2 ≤ 137438953472 → gu_ l a := by
   intro l L S h1 hL h2 h3 h4
   have h5 := zv_ h2 h3
   have h6 : l.length * (mxL l + qs a + 1) ≤ L * (S + s + 1) := Nat.mul_le_mul h1 (by omega)
   exact ⟨by omega, by omega⟩
  have hsc := scaleP_bd hz hz1 hqk
  have hln : bdL [-a, 1] s := by
   intro x hx
   rcases List.mem_cons.1 hx with rfl | hx
   ·rw [hu_]; exact ha1
   ·rw [List.mem_singleton.1 hx]; exact Nat.le_trans (by decide) hs1
  have hml := mulP_bd hz hln hz1 hs1
  have hml2 : zeros.length * (Sz + s + 1) + 1 ≤ (D.length + 1) * (Sz + s + 1) + 1 := by omega
  have hz0 : zeros ≠ [] := fun e => hza (by rw [e]; rfl)
  have l1 := hr_ out (bp_ zeros (inK a v out zeros))
  have l2 := cg_ zeros (inK a v out zeros)
  have l3 := pb_ zeros [-a, 1] hz0
  simp at l3
  have hmulS : (D.length + 2) * (Sz + s + 1) = (D.length + 1) * (Sz + s + 1) + (Sz + s + 1) := by rw [show D.length + 2 = (D.length + 1) + 1 from rfl, Nat.add_mul (D.length + 1), Nat.one_mul]
  have hmulO : (D.length + 1) * (So + s + 1) = D.length * (So + s + 1) + (So + s + 1) := by rw [Nat.add_mul, Nat.one_mul]
  have hok : okIn a v out zeros := by
   refine ⟨Nat.le_trans ha1 b4, Nat.le_trans hv1 b5, okE out (D.length + 1) So (by omega) (by omega) ho ho1 b1, okE zeros (D.length + 2) Sz (by omega) (by omega) hz hz1 b2, hza, ?_, mi_ ho (by omega), mi_ hz (by omega), mi_ hsc b3, ?_, by omega⟩
   ·show _ ≤ _; omega
   ·have h5 := zv_ hln hs1
    have h6 : zeros.length * (mxL zeros + mxL [-a, 1] + 1) ≤ (D.length + 1) * (Sz + s + 1) := Nat.mul_le_mul hzl (by omega)
    exact ⟨by omega, by omega, by omega, by simp⟩
  rw [intM, if_pos hok]
  refine vn_ s sv hs1 ps vs _ _ (D ++ [a]) _ _ (by simpa using hl) (fun x hx => ha x (List.mem_cons_of_mem _ hx)) (fun x hx => hv x (List.mem_cons_of_mem _ hx)) (addP_bd ho hsc ho1 (by omega)) (fun x hx => Nat.le_trans (hml x hx) hml2) (by omega) (by omega) (by simp; omega) (by simp; omega) (by simp; omega) (fun x hx => ?_) (by simpa using hnd) (by simpa using b6)
  rw [qa_] at hx
  rcases Rat.mul_eq_zero.1 hx with h1 | h1
  ·exact List.mem_append_left _ (hD x h1)
  ·exact List.mem_append_right _ (List.mem_singleton.2 (by grind))
theorem gb_ : ∀ (pre l : List Rat), pre.Nodup → (ej_ pre l = false ↔ (pre ++ l).Nodup)
 | pre, [], h => by simp [ej_, h]
 | pre, a :: l, h => by
  rw [ej_, Bool.or_eq_false_iff, List.any_eq_false]
  by_cases hm : a ∈ pre
  ·refine ⟨fun h1 => absurd (h1.1 a hm) (by simp), fun h1 => ?_⟩
   rw [List.nodup_append] at h1
   exact absurd rfl (h1.2.2 a hm a (List.mem_cons_self ..))
  ·have hn : (pre ++ [a]).Nodup := by
    rw [List.nodup_append]; exact ⟨h, by simp, fun x hx y hy e => hm (by rw [List.mem_singleton.1 hy] at e; exact e ▸ hx)⟩
   rw [gb_ (pre ++ [a]) l hn]
   simp only [List.append_assoc, List.singleton_append]
   refine ⟨fun h1 => h1.2, fun h1 => ⟨fun b hb => ?_, h1⟩⟩
   simp; intro e; exact hm (e ▸ hb)
theorem evalP_take (q : List Rat) (x : Rat) (m : Nat) (h : m < q.length) : evalP (q.take (m + 1)) x = evalP (q.take m) x + coP q m * x ^ m := by
 induction q generalizing m with
 | nil => cases h
 | cons a q ih =>
  cases m with
  | zero => rw [List.take_succ_cons, List.take_zero, List.take_zero, gn_, Rat.pow_zero, bs_]; show 0 * x + a = 0 + a * 1; grind
  | succ m => rw [List.take_succ_cons, List.take_succ_cons, bs_, bs_, fi_, ih m (by simpa using h), Rat.pow_succ]; grind
theorem uj_ {p : List Rat} {n : Nat} (h : ∀ j, n ≤ j → coP p j = 0) : (trimQ p).length ≤ n := by
 apply Nat.le_of_not_lt
 intro hn
 have h1 := dt_ (l := p) (n := (trimQ p).length - 1) (by omega)
 have h2 : trimQ p ≠ [] := fun e => by rw [e] at hn; simp at hn
 have h3 := h ((trimQ p).length - 1) (by omega)
 rw [← fv_] at h3
 unfold coP at h3
 rw [List.getD_eq_getElem?_getD, h1] at h3
 exact jg_ h2 h3
section
variable (p q r : List Rat) (a b : Rat)
end

def sg (k : Nat) : Rat := (-1) ^ k




theorem lead_qs {p : List Rat} {t : Nat} (h : bdL p t) (ht : 1 ≤ t) : qs (leadP p) ≤ t := by
 by_cases h0 : trimQ p = []
 ·rw [pf_ h0]; exact Nat.le_trans (by decide : qs 0 ≤ 1) ht
 ·have hl := List.length_pos_iff.2 h0
  exact h _ (ca_ (List.mem_of_getElem? (dt_ (n := (trimQ p).length - 1) (by omega))))
def lag (v : List Rat) : Nat → Rat
 | 0 => 0
 | m + 1 => coP v m
theorem coP_line (v : List Rat) (c : Rat) (n : Nat) : coP (mulP v [c, 1]) n = coP v n * c + lag v n := by
 have e : trimQ (mulP v [c, 1]) = trimQ (mulP [c, 1] v) := tj_ fun x => by rw [gg_, gg_]; grind
 rw [trim_iff.1 e n, coP_mul]
 show coP (addL (rc_ v c) (0 :: addL (rc_ v 1) (0 :: []))) n = _
 rw [og_, jm_]
 cases n with
 | zero => rw [gn_]; rfl
 | succ m =>
  rw [fi_, og_, jm_]
  have : coP [(0 : Rat)] m = 0 := by cases m <;> rfl
  rw [this]; show _ + (coP v m * 1 + 0) = _ + coP v m; grind
theorem nf_ {v : List Rat} {c : Rat} {B t : Nat} (hv : bdL v B) (hB : 1 ≤ B) (hc : qs c ≤ t) : bdL (mulP v [c, 1]) (2 * B + t + 1) :=
 iu_ fun i => by
  rw [coP_line]
  have h1 := fo_ hv hB i
  have h2 := gf_ (coP v i) c
  have h3 := ln_ (coP v i * c) (lag v i)
  have h4 : qs (lag v i) ≤ B := by
   cases i with
   | zero => exact Nat.le_trans (by decide : qs 0 ≤ 1) hB
   | succ m => exact fo_ hv hB m
  omega
theorem lo_ (v : List Rat) (c : Rat) : (mulP v [c, 1]).length ≤ v.length + 1 := by
 by_cases h : v = []
 ·subst h; unfold mulP; simp
 ·have := pb_ v [c, 1] h; simpa using this
theorem hq_ {l : List Rat} {a b : Nat} (h : bdL l a) (hab : a ≤ b) : bdL l b := fun q hq => Nat.le_trans (h q hq) hab
def pd : Nat → Nat → List UInt8
 | 0, _ => []
 | k + 1, n => pd k (n / 10) ++ [UInt8.ofNat (48 + n % 10)]
theorem vf_ (k n : Nat) : (pd k n).length = k := by
 induction k generalizing n with
 | zero => rfl
 | succ k ih => rw [pd, List.length_append, ih]; rfl
theorem pd_add (j k n : Nat) : pd (j + k) n = pd j (n / 10 ^ k) ++ pd k n := by
 induction k generalizing n with
 | zero => rw [Nat.add_zero, Nat.pow_zero, Nat.div_one]; simp [pd]
 | succ k ih => rw [← Nat.add_assoc, pd, pd, ih, Nat.div_div_eq_div_mul, Nat.pow_succ, Nat.mul_comm 10, List.append_assoc]
theorem pd_mod (k n : Nat) : pd k (n % 10 ^ k) = pd k n := by
 induction k generalizing n with
 | zero => rfl
 | succ k ih =>
  rw [pd, pd, Nat.pow_succ]
  have e1 : n % (10 ^ k * 10) / 10 = n / 10 % 10 ^ k := by
   rw [Nat.mul_comm, Nat.mod_mul_right_div_self]
  have e2 : n % (10 ^ k * 10) % 10 = n % 10 := by rw [Nat.mod_mul_left_mod]
  rw [e1, e2, ih]
theorem pd_front (k n : Nat) : pd (k + 1) n = UInt8.ofNat (48 + n / 10 ^ k % 10) :: pd k n := by
 rw [Nat.add_comm, pd_add]; rfl
theorem pd_zero (k : Nat) : pd k 0 = List.replicate k 48 := by
 induction k with
 | zero => rfl
 | succ k ih => rw [pd, ih, List.replicate_succ']; rfl
def dropZ : List UInt8 → List UInt8
 | [] => []
 | c :: l => if c = 48 then dropZ l else c :: l
theorem wh_ {a b : List UInt8} (h : dropZ a ≠ []) : dropZ (a ++ b) = dropZ a ++ b := by
 induction a with
 | nil => exact absurd rfl h
 | cons c a ih =>
  rw [List.cons_append, dropZ, dropZ]
  rw [dropZ] at h
  by_cases hc : c = 48
  ·rw [if_pos hc] at h; rw [if_pos hc, if_pos hc, ih h]
  ·rw [if_neg hc, if_neg hc]; rfl
theorem yf_ (k : Nat) (l : List UInt8) : dropZ (List.replicate k 48 ++ l) = dropZ l := by
 induction k with
 | zero => rfl
 | succ k ih => rw [List.replicate_succ, List.cons_append, dropZ, if_pos rfl, ih]
theorem dig_ne {n : Nat} (h0 : n ≠ 0) (h : n < 10) : UInt8.ofNat (48 + n) ≠ 48 := by
 have : ∀ n, n < 10 → n ≠ 0 → UInt8.ofNat (48 + n) ≠ 48 := by decide
 exact this n h h0
theorem ni_ (n : Nat) : Lib.decDigits n ≠ [] := by
 intro e
 have h1 := Lib.decDigits_length n
 rw [e] at h1
 have := Lib.nDigits_pos n
 simp at h1; omega
theorem dropZ_pd : ∀ (k n : Nat), 0 < n → n < 10 ^ k → dropZ (pd k n) = Lib.decDigits n
 | 0, n, h, h2 => by rw [Nat.pow_zero] at h2; omega
 | k + 1, n, h, h2 => by
  rw [pd, Lib.decDigits]
  by_cases h10 : n < 10
  ·rw [dif_pos h10, Nat.div_eq_of_lt h10, pd_zero, yf_, Nat.mod_eq_of_lt h10, dropZ, if_neg (dig_ne (by omega) h10)]
  ·rw [dif_neg h10]
   have ih := dropZ_pd k (n / 10) (by omega) (by rw [Nat.pow_succ] at h2; omega)
   rw [wh_ (by rw [ih]; exact ni_ _), ih]
theorem wk_ : ∀ (k a b : Nat), 0 < a → b < 10 ^ k → Lib.decDigits (a * 10 ^ k + b) = Lib.decDigits a ++ pd k b
 | 0, a, b, h, hb => by
  have : b = 0 := by rw [Nat.pow_zero] at hb; omega
  subst this; simp [pd]
 | k + 1, a, b, h, hb => by
  have hp : 1 ≤ 10 ^ k := Nat.one_le_pow _ _ (by decide)
  have hap : 1 ≤ a * 10 ^ k := Nat.mul_le_mul h hp
  have e : a * 10 ^ (k + 1) + b = (a * 10 ^ k) * 10 + b := by rw [Nat.pow_succ, Nat.mul_assoc]
  rw [e, Lib.decDigits, dif_neg (by omega), show (a * 10 ^ k * 10 + b) / 10 = a * 10 ^ k + b / 10 by omega, show (a * 10 ^ k * 10 + b) % 10 = b % 10 by omega, wk_ k a (b / 10) h (by rw [Nat.pow_succ] at hb; omega), pd, List.append_assoc]
theorem pd_dec : ∀ (k n : Nat), 0 < n → n < 10 ^ k → pd k n = List.replicate (k - (Lib.decDigits n).length) 48 ++ Lib.decDigits n
 | 0, n, h, h2 => by rw [Nat.pow_zero] at h2; omega
 | k + 1, n, h, h2 => by
  rw [pd, Lib.decDigits]
  by_cases h10 : n < 10
  ·rw [dif_pos h10, Nat.div_eq_of_lt h10, pd_zero, Nat.mod_eq_of_lt h10]; rfl
  ·rw [dif_neg h10, pd_dec k (n / 10) (by omega) (by rw [Nat.pow_succ] at h2; omega), List.length_append, List.append_assoc]
   congr 2
   simp
end Go.Abs
namespace Go.Proofs.YtdhedjbmdnnbkaaGreatDoor
open Go.Abs
set_option maxRecDepth 20000
def stripS  : List Nat → AState
 | l => ⟨[(0, .arr (iE l))], [], 1, 15⟩
theorem gq_  (l : List Nat) : stripS  l = ⟨[(0, .arr (iE l))], [], 1, 15⟩ := rfl
theorem gm_ (l : List Nat) (hl : l.length ≤ 281474976710656) : FSpec Tryz.prog 253 [.arr (iE l)] (.arr (iE (fp_ l))) := by
 refine FSpec.enter Tryz.func253 rfl (by kernel_rfl) rfl rfl rfl ?_ rfl ?_
 ·exact aa_ (av_ l) ab_
 refine r_z 1 ?_
 refine AWp.cut stripS (fun m => m = fp_ l) ?_ ?_
 ·refine AWp.block ?_
  refine AWp.loopS stripS (fun m => m.length) (fun m => m.length ≤ 281474976710656 ∧ fp_ m = fp_ l) l ⟨hl, rfl⟩ ?_ ?_
  ·simp only [gq_]
   exact s_e []
  rintro m ⟨hm, he⟩
  rw [gq_]
  cases m with
  | nil =>
   refine AWp.seq ?_
   refine s_r 9 ?_
   refine a_4 ?_
   refine AR.opN rfl rfl (gn (by first | rfl | assumption | exact decide_eq_false (by omega) | (simp; done) | (simp; omega))) rfl rfl ?_
   refine AR.opN rfl rfl (gn (by first | rfl | assumption | exact decide_eq_false (by omega) | (simp; done) | (simp; omega))) rfl rfl ?_
   refine AR.opN rfl rfl (gn (by first | rfl | assumption | exact decide_eq_false (by omega) | (simp; done) | (simp; omega))) rfl rfl ?_
   refine AR.opN rfl rfl (gn (by first | rfl | assumption | exact decide_eq_false (by omega) | (simp; done) | (simp; omega))) rfl rfl ?_
   refine o_0 (.pickF rfl (by first | rfl | assumption | exact decide_eq_false (by omega) | (simp; done) | (simp; omega)) rfl) ?_
   refine AR.nil ?_
   refine AWp.cond rfl (fun h => ?_) (fun h => ?_)
   ·cases h
   ·refine AWp.exit ⟨[], by simpa [fp_] using he, ?_⟩
    simp only [gq_]
    exact s_e []
  | cons d m =>
   have hd : (iE (d :: m))[(0 : Int).toNat]? = some [i64 d] := rfl
   refine AWp.seq ?_
   refine s_r 9 ?_
   refine a_4 ?_
   refine AR.op0y rfl rfl (gy (by simp)) (.move rfl) rfl rfl ?_
   first | refine AR.op0y rfl rfl (gy (by simp)) (.index_l rfl rfl (by omega) (by omega) te_71.h) rfl rfl ?_ | refine AR.op0y rfl rfl (gy (by simp)) (.index_a rfl rfl (by omega) hd rfl te_71.h) rfl rfl ?_
   first | refine AR.op0y rfl rfl (gy (by simp)) (.load_l1 rfl rfl hd tg_3.h rfl) rfl rfl ?_ | refine AR.op0y rfl rfl (gy (by simp)) (.load_a1 rfl hd tg_3.h rfl) rfl rfl ?_
   refine AR.op0y rfl rfl (gy (by simp)) (.bin rfl rfl bo_) rfl rfl ?_
   refine o_0 (.pickT rfl (by simp) rfl) ?_
   refine AR.nil ?_
   refine AWp.cond rfl (fun h => ?_) (fun h => ?_)
   ·have h0 : d = 0 := by simpa using h
    refine AWp.skip ?_
    subst h0
    refine AWp.block ?_
    refine AWp.reg (m := 3) rfl ?_
    refine a_1 ?_
    refine o_0 (.sa_l rfl rfl rfl (by simp) te_71.h (ky_ _)) ?_
    refine a_z ?_
    refine ⟨m, by simp, ⟨by simp at hm; omega, by simpa [fp_] using he⟩, ?_⟩
    simp only [gq_]
    exact s_e []
   ·have h0 : d ≠ 0 := by simpa using h
    refine AWp.exit ⟨d :: m, by rw [← he]; simp [fp_, h0], ?_⟩
    simp only [gq_]
    exact s_e []
 rintro m rfl
 rw [gq_]
 refine r_z 2 ?_
 refine AWp.ret ?_
 refine Fin.tmpE rfl ?_ ?_
 ·rfl
 ·exact av_ _
theorem im_ (s : Int) (l : List Nat) (z : Int) (hl : l.length ≤ 281474976710656) (hd : ∀ d ∈ l, d < UB) (hz : hv l = z.natAbs) (hs : z ≠ 0 → s = sgZ z) : FSpec Tryz.prog 201 [i64 s, .arr (iE l)] (.agg (zZ z)) := by
 refine FSpec.enter Tryz.func201 rfl (by kernel_rfl) rfl rfl rfl ?_ rfl ?_
 ·exact aa_ (ac_ _) (aa_ (av_ l) ab_)
 refine r_z 1 ?_
 refine r_c 3 (gm_ l hl) ?_
 refine a_z ?_
 refine AWp.seq ?_
 refine r_z 3 ?_
 refine AWp.cond rfl (fun h => ?_) (fun h => ?_)
 ·have h0 : fp_ l = [] := by
   have : (fp_ l).length = 0 := by simpa using h
   exact List.length_eq_zero_iff.1 this
  have hz0 : z = 0 := by have := (qy_ hd).1 h0; omega
  subst hz0
  refine r_z 2 ?_
  refine AWp.ret ?_
  refine Fin.cell rfl rfl rfl tg_73.h ts_73.h (nle rfl) ?_
  rw [zZ_zero]
  exact Cv.agg (CvL.cons (Cv.clo am_ (ac_ _)) (CvL.cons (Cv.emp _) CvL.nil))
 ·have h0 : fp_ l ≠ [] := fun e => by rw [e] at h; simp at h
  have hz0 : z ≠ 0 := by
   intro e
   subst e
   exact h0 ((qy_ hd).2 hz)
  refine AWp.skip ?_
  refine r_z 4 ?_
  refine AWp.ret ?_
  refine Fin.cellE rfl rfl rfl tg_73.h ts_73.h (nle rfl) ?_ ?_
  ·show AV.agg [i64 s, .arr (iE (fp_ l))] = _
   unfold zZ
   rw [hs hz0, eo_ hd, hz]
  ·exact al_ _
theorem zZ_neg (z : Int) : zZ (-z) = [i64 (-sgZ z), .arr (iE (zd z.natAbs))] := by
 unfold zZ
 rw [Int.natAbs_neg]
 congr 2
 unfold sgZ
 split <;> split <;> (try split) <;> (try split) <;> omega
theorem cb_ (z : Int) : sgZ z = -1 ∧ z < 0 ∨ sgZ z = 0 ∧ z = 0 ∨ sgZ z = 1 ∧ 0 < z := by
 unfold sgZ; split
 ·right; left; exact ⟨rfl, by assumption⟩
 ·split
  ·left; exact ⟨rfl, by assumption⟩
  ·right; right; exact ⟨rfl, by omega⟩
theorem tf_ (z : Int) : FSpec Tryz.prog 195 [.agg (zZ z)] (.agg (zZ (-z))) := by
 have hs := cb_ z
 have hc := al_ (-z)
 rw [zZ_neg] at hc ⊢
 refine FSpec.enter Tryz.func195 rfl (by kernel_rfl) rfl rfl rfl ?_ rfl ?_
 ·exact aa_ (al_ z) ab_
 refine r_z 2 ?_
 refine r_z 7 ?_
 refine AWp.ret ?_
 refine Fin.cellE rfl rfl rfl tg_73.h ts_73.h (nle rfl) ?_ ?_
 ·rfl
 ·exact hc
theorem te_ (l : List Nat) (i : Nat) (hl : l.length ≤ 281474976710656) : FSpec Tryz.prog 278 [.arr (iE l), i64 i] (i64 (l.reverse[i]?.getD 0 : Nat)) := by
 refine FSpec.enter Tryz.func278 rfl (by kernel_rfl) rfl rfl rfl ?_ rfl ?_
 ·exact aa_ (av_ l) (aa_ (ac_ _) ab_)
 refine r_z 1 ?_
 refine AWp.seq ?_
 refine r_z 4 ?_
 refine AWp.cond rfl (fun h => ?_) (fun h => ?_)
 ·have hi : l.length ≤ i := by simpa using h
  refine r_z 1 ?_
  refine AWp.ret (Fin.tmpE rfl ?_ (ac_ _))
  rw [List.getElem?_eq_none (by simpa using hi)]
  rfl
 ·have hi : i < l.length := by simp at h; omega
  refine AWp.skip ?_
  obtain ⟨d, hd⟩ : ∃ d, l[l.length - 1 - i]? = some d := ⟨_, List.getElem?_eq_getElem (by omega)⟩
  have hd' : (iE l)[((l.length : Int) - 1 - i).toNat]? = some [i64 d] := by rw [show ((l.length : Int) - 1 - i).toNat = l.length - 1 - i by omega]; exact jw_ hd
  refine s_r 9 ?_
  refine a_6 ?_
  first | refine AR.op0 (.index_l rfl rfl (by omega) (by omega) te_71.h) rfl rfl ?_ | refine AR.op0 (.index_a rfl rfl (by omega) hd' rfl te_71.h) rfl rfl ?_
  first | refine AR.op0 (.load_l1 rfl rfl hd' tg_3.h rfl) rfl rfl ?_ | refine AR.op0 (.load_a1 rfl hd' tg_3.h rfl) rfl rfl ?_
  refine a_z ?_
  refine AWp.ret (Fin.tmpE rfl ?_ (ac_ _))
  rw [List.getElem?_reverse hi, hd]
  rfl
theorem fs_longest (a b : List Nat) : FSpec Tryz.prog 277 [.arr (iE a), .arr (iE b)] (i64 (max a.length b.length : Nat)) := by
 refine FSpec.enter Tryz.func277 rfl (by kernel_rfl) rfl rfl rfl ?_ rfl ?_
 ·exact aa_ (av_ a) (aa_ (av_ b) ab_)
 refine r_z 1 ?_
 refine AWp.seq ?_
 refine r_z 5 ?_
 refine AWp.cond rfl (fun h => ?_) (fun h => ?_)
 ·refine r_z 3 ?_
  refine AWp.ret (Fin.tmpE rfl ?_ (ac_ _))
  have : b.length < a.length := by simpa using h
  simp [i64]; omega
 ·refine AWp.skip ?_
  refine r_z 3 ?_
  refine AWp.ret (Fin.tmpE rfl ?_ (ac_ _))
  have : ¬ b.length < a.length := by simpa using h
  simp [i64]; omega
def aheadS (a : Nat) (b : Nat) : Nat → AState
 | i => ⟨[(0, .arr (iE (zd a))), (1, .arr (iE (zd b))), (5, i64 i)], [], 1, 40⟩
theorem ix_ (a : Nat) (b : Nat) (i : Nat) : aheadS a b i = ⟨[(0, .arr (iE (zd a))), (1, .arr (iE (zd b))), (5, i64 i)], [], 1, 40⟩ := rfl
theorem ys_ {n i d : Nat} (h : (digs UB n)[i]? = some d) : (zd n)[(digs UB n).length - 1 - i]? = some d := by
 have hi : i < (digs UB n).length := (List.getElem?_eq_some_iff.1 h).1
 unfold zd
 rw [List.getElem?_reverse (by omega), show (digs UB n).length - 1 - ((digs UB n).length - 1 - i) = i by omega]; exact h
theorem fs_ahead (a b : Nat) (ha : (zd a).length ≤ 281474976710656) (hb : (zd b).length ≤ 281474976710656) : FSpec Tryz.prog 251 [.arr (iE (zd a)), .arr (iE (zd b))] (i64 (cmpZ a b)) := by
 have hza := bt_ a
 have hzb := bt_ b
 refine FSpec.enter Tryz.func251 rfl (by kernel_rfl) rfl rfl rfl ?_ rfl ?_
 ·exact aa_ (av_ _) (aa_ (av_ _) ab_)
 refine r_z 1 ?_
 refine AWp.seq ?_
 refine r_z 5 ?_
 refine AWp.cond rfl (fun h => ?_) (fun h => ?_)
 ·have hne : (zd a).length ≠ (zd b).length := by simp at h; omega
  refine AWp.seq ?_
  refine r_z 5 ?_
  refine AWp.cond rfl (fun h1 => ?_) (fun h1 => ?_)
  ·refine r_z 1 ?_
   refine AWp.ret (Fin.tmpE rfl ?_ (ac_ _))
   have hl : (zd a).length < (zd b).length := by simpa using h1
   rw [lg_]
   ·rfl
   ·have := gw_ (b := UB) (by decide) (show (digs UB a).length < (digs UB b).length by omega); omega
  ·refine AWp.skip ?_
   refine r_z 1 ?_
   refine AWp.ret (Fin.tmpE rfl ?_ (ac_ _))
   have hl : (zd b).length < (zd a).length := by simp at h1; omega
   rw [mw_]
   ·rfl
   ·have := gw_ (b := UB) (by decide) (show (digs UB b).length < (digs UB a).length by omega); omega
 have heq : (digs UB a).length = (digs UB b).length := by simp at h; omega
 refine AWp.skip ?_
 refine AWp.seq ?_
 refine r_z 1 ?_
 refine AWp.cutT (aheadS a b) (fun _ => a = b) ?_ ?_
 ·refine AWp.block ?_
  refine AWp.loopS (aheadS a b) (fun i => (digs UB a).length - i) (fun i => i ≤ (digs UB a).length ∧ (digs UB a).drop ((digs UB a).length - i) = (digs UB b).drop ((digs UB a).length - i)) 0 ⟨Nat.zero_le _, by rw [Nat.sub_zero, List.drop_length, heq, List.drop_length]⟩ ?_ ?_
  ·simp only [ix_]
   exact s_e []
  rintro i ⟨hi, hd⟩
  rw [ix_]
  refine AWp.seq ?_
  refine r_z 4 ?_
  refine AWp.cond rfl (fun h => ?_) (fun h => ?_)
  ·have hlt : i < (digs UB a).length := by simp at h; omega
   obtain ⟨k, hk⟩ : ∃ k, k = (digs UB a).length - 1 - i := ⟨_, rfl⟩
   have hk1 : (digs UB a).length - i = k + 1 := by omega
   rw [hk1] at hd
   obtain ⟨x, hx⟩ : ∃ x, (digs UB a)[k]? = some x := ⟨_, List.getElem?_eq_getElem (by omega)⟩
   obtain ⟨y, hy⟩ : ∃ y, (digs UB b)[k]? = some y := ⟨_, List.getElem?_eq_getElem (by omega)⟩
   have hx' : (iE (zd a))[((i : Nat) : Int).toNat]? = some [i64 x] := by
    have := ys_ hx
    rw [show (digs UB a).length - 1 - k = i by omega] at this
    exact jw_ this
   have hy' : (iE (zd b))[((i : Nat) : Int).toNat]? = some [i64 y] := by
    have := ys_ hy
    rw [show (digs UB b).length - 1 - k = i by omega] at this
    exact jw_ this
   refine AWp.skip ?_
   refine AWp.seq ?_
   refine AWp.block ?_
   refine AWp.seq ?_
   refine AWp.seq ?_
   refine AWp.regD hmix (m := 9) rfl ?_
   refine a_2 ?_
   first | refine AR.op0 (.index_l rfl rfl (by omega) (by omega) te_71.h) rfl rfl ?_ | refine AR.op0 (.index_a rfl rfl (by omega) hx' rfl te_71.h) rfl rfl ?_
   first | refine AR.op0 (.load_l1 rfl rfl hx' tg_3.h rfl) rfl rfl ?_ | refine AR.op0 (.load_a1 rfl hx' tg_3.h rfl) rfl rfl ?_
   refine a_2 ?_
   first | refine AR.op0 (.index_l rfl rfl (by omega) (by omega) te_71.h) rfl rfl ?_ | refine AR.op0 (.index_a rfl rfl (by omega) hy' rfl te_71.h) rfl rfl ?_
   first | refine AR.op0 (.load_l1 rfl rfl hy' tg_3.h rfl) rfl rfl ?_ | refine AR.op0 (.load_a1 rfl hy' tg_3.h rfl) rfl rfl ?_
   refine a_1 ?_
   refine AR.nil ⟨by kernel_rfl, ?_⟩
   refine AWp.cond rfl (fun h1 => ?_) (fun h1 => ?_)
   ·refine r_z 1 ?_
    refine AWp.ret (Fin.tmpE rfl ?_ (ac_ _))
    have hxy : x < y := by simpa using h1
    have := lp_ (fun d hd => cm_ (by decide) a d hd) hx hy hd hxy
    rw [bd_ (by decide), bd_ (by decide)] at this
    rw [lg_ (by omega)]; rfl
   refine AWp.skip ?_
   refine AWp.seq ?_
   refine AWp.regD hmix (m := 9) rfl ?_
   refine a_2 ?_
   first | refine AR.op0 (.index_l rfl rfl (by omega) (by omega) te_71.h) rfl rfl ?_ | refine AR.op0 (.index_a rfl rfl (by omega) hx' rfl te_71.h) rfl rfl ?_
   first | refine AR.op0 (.load_l1 rfl rfl hx' tg_3.h rfl) rfl rfl ?_ | refine AR.op0 (.load_a1 rfl hx' tg_3.h rfl) rfl rfl ?_
   refine a_2 ?_
   first | refine AR.op0 (.index_l rfl rfl (by omega) (by omega) te_71.h) rfl rfl ?_ | refine AR.op0 (.index_a rfl rfl (by omega) hy' rfl te_71.h) rfl rfl ?_
   first | refine AR.op0 (.load_l1 rfl rfl hy' tg_3.h rfl) rfl rfl ?_ | refine AR.op0 (.load_a1 rfl hy' tg_3.h rfl) rfl rfl ?_
   refine a_1 ?_
   refine AR.nil ⟨by kernel_rfl, ?_⟩
   refine AWp.cond rfl (fun h2 => ?_) (fun h2 => ?_)
   ·refine r_z 1 ?_
    refine AWp.ret (Fin.tmpE rfl ?_ (ac_ _))
    have hxy : y < x := by simpa using h2
    have := lp_ (fun d hd => cm_ (by decide) b d hd) hy hx hd.symm hxy
    rw [bd_ (by decide), bd_ (by decide)] at this
    rw [mw_ (by omega)]; rfl
   have hxy : x = y := by simp at h1 h2; omega
   subst hxy
   refine AWp.skip ?_
   refine AWp.reg (m := 3) rfl ?_
   refine a_z ?_
   refine ⟨i + 1, by omega, ⟨by omega, ?_⟩, ?_⟩
   ·rw [show (digs UB a).length - (i + 1) = k by omega, eu_ hx, eu_ hy, hd]
   ·simp only [ix_]
    exact s_e []
  ·have hge : i = (digs UB a).length := by simp at h; omega
   refine AWp.exit ⟨i, ?_, ?_⟩
   ·subst hge
    rw [Nat.sub_self, List.drop_zero, List.drop_zero] at hd
    rw [← bd_ (b := UB) (by decide) a, ← bd_ (b := UB) (by decide) b, hd]
   ·simp only [ix_]
    exact s_e []
 rintro i rfl
 rw [ix_]
 refine r_z 1 ?_
 refine AWp.ret (Fin.tmpE rfl ?_ (ac_ _))
 rw [cmpZ_eq rfl]; rfl
def bothS (a : Nat) (b : Nat) (k : Int) (N : Nat) : List Nat × Int → AState
 | (s, c) => ⟨[(0, .arr (iE (zd a))), (1, .arr (iE (zd b))), (2, i64 k), (7, i64 N), (8, .lsl 1 0 N (some N) 1), (9, i64 c), (10, i64 s.length)], [(1, some ⟨3, 1, iE (List.replicate (N - s.length) 0 ++ s.reverse)⟩)], 2, 51⟩
theorem tq_ (a : Nat) (b : Nat) (k : Int) (N : Nat) (s : List Nat) (c : Int) : bothS a b k N (s, c) = ⟨[(0, .arr (iE (zd a))), (1, .arr (iE (zd b))), (2, i64 k), (7, i64 N), (8, .lsl 1 0 N (some N) 1), (9, i64 c), (10, i64 s.length)], [(1, some ⟨3, 1, iE (List.replicate (N - s.length) 0 ++ s.reverse)⟩)], 2, 51⟩ := rfl
def bothT (a : Nat) (b : Nat) (k : Int) (N : Nat) (s : List Nat) : Int × Int → AState
 | (x, c) => ⟨[(0, .arr (iE (zd a))), (1, .arr (iE (zd b))), (2, i64 k), (7, i64 N), (8, .lsl 1 0 N (some N) 1), (9, i64 c), (10, i64 s.length), (11, i64 x)], [(1, some ⟨3, 1, iE (List.replicate (N - s.length) 0 ++ s.reverse)⟩)], 2, 51⟩
theorem jp_ (a : Nat) (b : Nat) (k : Int) (N : Nat) (s : List Nat) (x : Int) (c : Int) : bothT a b k N s (x, c) = ⟨[(0, .arr (iE (zd a))), (1, .arr (iE (zd b))), (2, i64 k), (7, i64 N), (8, .lsl 1 0 N (some N) 1), (9, i64 c), (10, i64 s.length), (11, i64 x)], [(1, some ⟨3, 1, iE (List.replicate (N - s.length) 0 ++ s.reverse)⟩)], 2, 51⟩ := rfl
theorem pt_ (a b : Nat) (k : Int) (r : Nat) (hk : k = 1 ∨ k = -1) (hr : (r : Int) = a + k * b) (ha : (zd a).length ≤ 17592186044416) (hb : (zd b).length ≤ 17592186044416) : FSpec Tryz.prog 250 [.arr (iE (zd a)), .arr (iE (zd b)), i64 k] (.arr (iE (zd r))) := by
 have hza := bt_ a
 have hzb := bt_ b
 obtain ⟨N, hN⟩ : ∃ N, N = max (zd a).length (zd b).length + 1 := ⟨_, rfl⟩
 refine FSpec.enter Tryz.func250 rfl (by kernel_rfl) rfl rfl rfl ?_ rfl ?_
 ·exact aa_ (av_ _) (aa_ (av_ _) (aa_ (ac_ _) ab_))
 refine r_z 1 ?_
 refine r_c 5 (fs_longest (zd a) (zd b)) ?_
 refine a_z ?_
 have hNI : ((max (zd a).length (zd b).length : Nat) : Int) + 1 = (N : Int) := by omega
 refine s_r 3 ?_
 refine a_1 ?_
 refine o_1 (.makeSlice (congrArg (fun z => some (AV.v (.int .i64 z))) hNI) (congrArg (fun z => some (AV.v (.int .i64 z))) hNI) te_71.h tz_3.h rfl tb_3.h (by first | omega | (simp; done) | (simp; omega)) (by first | omega | (simp; done) | (simp; omega)) (by unfold maxLen; first | omega | (simp; done) | (simp; omega))) ?_
 refine a_z ?_
 refine r_z 1 ?_
 refine AWp.seq ?_
 refine r_z 1 ?_
 have hdl := dl_ (b := UB) (by decide) (n := r) (k := N) (by
  have h1 := fl_ (b := UB) (cm_ (by decide) a)
  have h2 := fl_ (b := UB) (cm_ (by decide) b)
  rw [bd_ (by decide)] at h1 h2
  have h3 : UB ^ (digs UB a).length ≤ UB ^ (N - 1) := Nat.pow_le_pow_right (by decide) (by omega)
  have h4 : UB ^ (digs UB b).length ≤ UB ^ (N - 1) := Nat.pow_le_pow_right (by decide) (by omega)
  have h5 : UB ^ N = UB ^ (N - 1) * UB := by rw [← Nat.pow_succ]; congr 1; omega
  rw [h5]
  show r < UB ^ (N - 1) * 32768
  rcases hk with rfl | rfl <;> omega)
 have hrN : r < UB ^ N := by
  have h1 := fl_ (b := UB) (cm_ (by decide) r)
  rw [bd_ (by decide)] at h1
  exact Nat.lt_of_lt_of_le h1 (Nat.pow_le_pow_right (by decide) hdl)
 refine AWp.cutT (fun s : List Nat => ⟨[(8, .lsl 1 0 N (some N) 1)], [(1, some ⟨3, 1, iE s.reverse⟩)], 2, 51⟩) (fun s => s.length = N ∧ (∀ d ∈ s, d < UB) ∧ ofD UB s = r) ?_ ?_
 ·refine AWp.block ?_
  refine AWp.loopS (bothS a b k N) (fun x => N - x.1.length) (fun x => x.1.length ≤ N ∧ (∀ d ∈ x.1, d < UB) ∧ (x.2 = -1 ∨ x.2 = 0 ∨ x.2 = 1) ∧ ((ofD UB x.1 : Nat) : Int) + ((UB ^ x.1.length : Nat) : Int) * x.2 = (ofD UB ((digs UB a).take x.1.length) : Nat) + k * (ofD UB ((digs UB b).take x.1.length) : Nat)) ([], 0) ⟨by simp, by simp, by simp, by simp [ofD]⟩ ?_ ?_
  ·simp only [tq_]
   exact s_e [(1, 8)]
  rintro ⟨s, c⟩ ⟨hs, hd, hc, hval⟩
  simp only at hs hd hc hval
  simp only [tq_]
  refine AWp.seq ?_
  refine r_z 3 ?_
  refine AWp.cond rfl (fun h => ?_) (fun h => ?_)
  ·have hlt : s.length < N := by simpa using h
   refine AWp.skip ?_
   obtain ⟨x, hx⟩ : ∃ x, x = (digs UB a)[s.length]?.getD 0 := ⟨_, rfl⟩
   obtain ⟨y, hy⟩ : ∃ y, y = (digs UB b)[s.length]?.getD 0 := ⟨_, rfl⟩
   have hx1 : x < 32768 := by
    rw [hx]; cases hh : (digs UB a)[s.length]? with
    | none => decide
    | some d => exact br_ (by decide) hh
   have hy1 : y < 32768 := by
    rw [hy]; cases hh : (digs UB b)[s.length]? with
    | none => decide
    | some d => exact br_ (by decide) hh
   have hda := te_ (zd a) s.length (by omega)
   have hdb := te_ (zd b) s.length (by omega)
   unfold zd at hda hdb
   rw [List.reverse_reverse, ← hx] at hda
   rw [List.reverse_reverse, ← hy] at hdb
   have hky : -32768 < k * y ∧ k * y < 32768 := by rcases hk with rfl | rfl <;> omega
   obtain ⟨X, hX⟩ : ∃ X : Int, X = x + k * y + c := ⟨_, rfl⟩
   have hXr : -32768 ≤ X ∧ X ≤ 65536 := by omega
   refine AWp.seq ?_
   refine AWp.block ?_
   refine r_c 12 (hda) ?_
   refine c_s (hdb) ?_
   refine a_z ?_
   refine r_z 1 ?_
   refine AWp.cut (bothT a b k N s) (fun v => v.1 = (if X < 0 then X + 32768 else X) ∧ v.2 = (if X < 0 then -1 else 0)) ?_ ?_
   ·refine r_z 2 ?_
    refine AWp.cond rfl (fun h1 => ?_) (fun h1 => ?_)
    ·have hX0 : X < 0 := by rw [hX]; simpa using h1
     refine r_z 3 ?_
     refine AWp.reg (m := 1) rfl ?_
     refine a_z ?_
     refine ⟨(X + 32768, -1), ⟨by rw [if_pos hX0], by rw [if_pos hX0]⟩, ?_⟩
     simp only [jp_]
     refine SEnt.to [] rfl rfl rfl ?_ (fun hs => ?_) (fun hs => ?_)
     ·repeat' (first | exact ShrL.nil | refine ShrL.cons rfl rfl rfl rfl (by first | rfl | (simp; done) | (simp [hX] <;> omega)) ?_)
     ·repeat' (first | exact CvF.nil | refine CvF.cons rfl ?_ ?_)
      all_goals (first | exact au_c | (refine Cv.loE hs ?_ (ac_ _); first | rfl | (simp [i64, u64, u32, bln, hX]; done) | (simp [i64, u64, u32, bln, hX] <;> omega)))
     ·repeat' (first | exact CvH.nil | refine CvH.cons rfl rfl rfl rfl ?_ ?_)
      all_goals (first | exact CvLL.bld rfl rfl rfl rfl rfl rfl | exact CvLL.bld0 hs | exact CvLL.clo hs (ef_ _) | exact CvLL.clo hs (an_ _) | (refine CvLL.cloE hs ?_ (an_ _); first | (simp [ev_, ee_, cf_, hX]; done) | (simp [dE, u32, ofV, hX]; done)) | exact CvLL.clo hs (ar_ _) | exact CvLL.clo hs (bh_ _) | (refine CvLL.cloE hs ?_ (bh_ _); first | (simp [hy_, er_, cq_, hX]; done) | (simp [iE, i64, ofV, hX]; done)) | (refine CvLL.cloE hs ?_ (ar_ _); first | (simp [gt_, eq_, hX]; done) | (simp [pE, ofV, hX]; done)) | (refine CvLL.box ?_; repeat' (first | exact CvL.nil | exact CvL.clo hs (aq_ _) | refine CvL.cons ?_ ?_)))
      all_goals (first | exact Cv.clo hs (ac_ _) | exact Cv.ptr rfl rfl rfl | exact Cv.sl rfl rfl rfl | exact Cv.slN rfl rfl rfl | exact Cv.clo hs az_ | (refine Cv.clo hs ?_; first | assumption | exact aw_ _ | exact ah_ _ | exact ac_ _ | exact az_ | exact ad_ _ | exact av_ _ | exact bi_ _ | exact al_ _ | exact ae_ _ | exact bj_ _ | exact ai_ _ _ | exact af_ ab_ ab_ | exact ak_ _ | exact as_ _ | exact bx_ _ | exact bf_ _ | exact ba_ _ _ | exact aj_ _ _ | exact bk_ | exact ay_ _ | exact au_ _ | (refine af_ ab_ ?_; first | assumption | exact aa_ (ak_ _) ab_ | exact aa_ (as_ _) ab_ | exact aa_ (aj_ _ _) ab_)) | (refine Cv.boxp hs rfl (bl_ rfl) rfl ?_; first | exact aq_ _ | exact da_ _ _ | exact bv_ _ | exact bz_ _ | (refine aa_ ?_ ab_; first | assumption | exact aw_ _ | exact ah_ _ | exact ac_ _ | exact az_ | exact ad_ _ | exact av_ _ | exact bi_ _ | exact al_ _ | exact ae_ _ | exact bj_ _ | exact ai_ _ _ | exact af_ ab_ ab_ | exact ak_ _ | exact as_ _ | exact bx_ _ | exact bf_ _ | exact ba_ _ _ | exact aj_ _ _ | exact bk_ | exact ay_ _ | exact au_ _ | (refine af_ ab_ ?_; first | assumption | exact aa_ (ak_ _) ab_ | exact aa_ (as_ _) ab_ | exact aa_ (aj_ _ _) ab_))) | (refine Cv.loE hs ?_ (ac_ _); first | rfl | (simp [i64, u64, u32, bln, hX]; done) | (simp [i64, u64, u32, bln, hX] <;> omega)) | (refine Cv.slE rfl rfl rfl ?_ ?_ ?_ <;> first | rfl | omega | (congr 1; omega) | (simp; done) | (simp <;> omega)) | exact Cv.emp _)
    ·have hX0 : ¬ X < 0 := by rw [hX]; simpa using h1
     refine AWp.skip ⟨(X, 0), ⟨by rw [if_neg hX0], by rw [if_neg hX0]⟩, ?_⟩
     simp only [jp_]
     refine SEnt.to [] rfl rfl rfl ?_ (fun hs => ?_) (fun hs => ?_)
     ·repeat' (first | exact ShrL.nil | refine ShrL.cons rfl rfl rfl rfl (by first | rfl | (simp; done) | (simp [hX] <;> omega)) ?_)
     ·repeat' (first | exact CvF.nil | refine CvF.cons rfl ?_ ?_)
      all_goals (first | exact au_c | (refine Cv.loE hs ?_ (ac_ _); first | rfl | (simp [i64, u64, u32, bln, hX]; done) | (simp [i64, u64, u32, bln, hX] <;> omega)))
     ·repeat' (first | exact CvH.nil | refine CvH.cons rfl rfl rfl rfl ?_ ?_)
      all_goals (first | exact CvLL.bld rfl rfl rfl rfl rfl rfl | exact CvLL.bld0 hs | exact CvLL.clo hs (ef_ _) | exact CvLL.clo hs (an_ _) | (refine CvLL.cloE hs ?_ (an_ _); first | (simp [ev_, ee_, cf_, hX]; done) | (simp [dE, u32, ofV, hX]; done)) | exact CvLL.clo hs (ar_ _) | exact CvLL.clo hs (bh_ _) | (refine CvLL.cloE hs ?_ (bh_ _); first | (simp [hy_, er_, cq_, hX]; done) | (simp [iE, i64, ofV, hX]; done)) | (refine CvLL.cloE hs ?_ (ar_ _); first | (simp [gt_, eq_, hX]; done) | (simp [pE, ofV, hX]; done)) | (refine CvLL.box ?_; repeat' (first | exact CvL.nil | exact CvL.clo hs (aq_ _) | refine CvL.cons ?_ ?_)))
      all_goals (first | exact Cv.clo hs (ac_ _) | exact Cv.ptr rfl rfl rfl | exact Cv.sl rfl rfl rfl | exact Cv.slN rfl rfl rfl | exact Cv.clo hs az_ | (refine Cv.clo hs ?_; first | assumption | exact aw_ _ | exact ah_ _ | exact ac_ _ | exact az_ | exact ad_ _ | exact av_ _ | exact bi_ _ | exact al_ _ | exact ae_ _ | exact bj_ _ | exact ai_ _ _ | exact af_ ab_ ab_ | exact ak_ _ | exact as_ _ | exact bx_ _ | exact bf_ _ | exact ba_ _ _ | exact aj_ _ _ | exact bk_ | exact ay_ _ | exact au_ _ | (refine af_ ab_ ?_; first | assumption | exact aa_ (ak_ _) ab_ | exact aa_ (as_ _) ab_ | exact aa_ (aj_ _ _) ab_)) | (refine Cv.boxp hs rfl (bl_ rfl) rfl ?_; first | exact aq_ _ | exact da_ _ _ | exact bv_ _ | exact bz_ _ | (refine aa_ ?_ ab_; first | assumption | exact aw_ _ | exact ah_ _ | exact ac_ _ | exact az_ | exact ad_ _ | exact av_ _ | exact bi_ _ | exact al_ _ | exact ae_ _ | exact bj_ _ | exact ai_ _ _ | exact af_ ab_ ab_ | exact ak_ _ | exact as_ _ | exact bx_ _ | exact bf_ _ | exact ba_ _ _ | exact aj_ _ _ | exact bk_ | exact ay_ _ | exact au_ _ | (refine af_ ab_ ?_; first | assumption | exact aa_ (ak_ _) ab_ | exact aa_ (as_ _) ab_ | exact aa_ (aj_ _ _) ab_))) | (refine Cv.loE hs ?_ (ac_ _); first | rfl | (simp [i64, u64, u32, bln, hX]; done) | (simp [i64, u64, u32, bln, hX] <;> omega)) | (refine Cv.slE rfl rfl rfl ?_ ?_ ?_ <;> first | rfl | omega | (congr 1; omega) | (simp; done) | (simp <;> omega)) | exact Cv.emp _)
   rintro ⟨X1, c1⟩ ⟨hX1, hc1⟩
   simp only at hX1 hc1
   rw [jp_]
   refine AWp.cut (bothT a b k N s) (fun v => v.1 = X % 32768 ∧ v.2 = X / 32768) ?_ ?_
   ·refine r_z 2 ?_
    refine AWp.cond rfl (fun h1 => ?_) (fun h1 => ?_)
    ·have h2 : 32768 ≤ X1 := by simpa using h1
     have hX1r : X1 ≤ 65536 := by rw [hX1]; split <;> omega
     refine r_z 3 ?_
     refine AWp.reg (m := 1) rfl ?_
     refine a_z ?_
     have hX0 : ¬ X < 0 := by intro h0; rw [if_pos h0] at hX1; omega
     rw [if_neg hX0] at hX1
     refine ⟨(X1 - 32768, 1), ⟨by simp only; omega, by simp only; omega⟩, ?_⟩
     simp only [jp_]
     exact s_e []
    ·have h2 : X1 < 32768 := by simp at h1; omega
     refine AWp.skip ⟨(X1, c1), ⟨by rw [hX1] at h2 ⊢; simp only; split <;> rename_i h3 <;> simp only [h3, if_true, if_false] at h2 <;> omega, by rw [hX1] at h2; rw [hc1]; simp only; split <;> rename_i h3 <;> simp only [h3, if_true, if_false] at h2 <;> omega⟩, ?_⟩
     simp only [jp_]
     exact s_e []
   rintro ⟨X2, c2⟩ ⟨hX2, hc2⟩
   simp only at hX2 hc2
   rw [jp_]
   obtain ⟨d, hdX⟩ : ∃ d : Nat, X2 = d := ⟨X2.toNat, by omega⟩
   have hd1 : d < 32768 := by omega
   subst hdX
   have hlen : (List.replicate (N - s.length) 0 ++ s.reverse).length = N := by simp; omega
   have hrep : List.replicate (N - s.length) 0 = List.replicate (N - (s.length + 1)) 0 ++ [0] := by
    rw [show N - s.length = (N - (s.length + 1)) + 1 by omega, List.replicate_succ']
   have hget : (iE (List.replicate (N - s.length) 0 ++ s.reverse))[0 + ((N : Int) - 1 - s.length).toNat]? = some [i64 0] := by
    rw [show 0 + ((N : Int) - 1 - s.length).toNat = N - (s.length + 1) by omega]
    refine jw_ ?_
    rw [hrep, List.append_assoc]
    exact pn_ _ _ _ _ (by simp)
   have hset : (iE (List.replicate (N - s.length) 0 ++ s.reverse)).set (0 + ((N : Int) - 1 - s.length).toNat) [i64 d] = iE (List.replicate (N - (s ++ [d]).length) 0 ++ (s ++ [d]).reverse) := by
    rw [show 0 + ((N : Int) - 1 - s.length).toNat = N - (s.length + 1) by omega, hy_, hrep, List.append_assoc]
    simp only [List.singleton_append, List.length_append, List.length_cons, List.length_nil, List.reverse_append, List.reverse_cons, List.reverse_nil, List.nil_append]
    rw [on_ _ _ _ _ _ (by simp)]
    simp
   refine AWp.reg (m := 8) rfl ?_
   refine a_7 ?_
   refine o_1n (.store rfl rfl hget rfl rfl rfl ts_3.h (nle rfl)) ?_
   refine AR.nil ?_
   refine AWp.reg (m := 3) rfl ?_
   refine a_z ?_
   refine ⟨(s ++ [d], c2), by simp; omega, ⟨by simp; omega, ?_, by simp only; omega, ?_⟩, ?_⟩
   ·intro e he
    rcases List.mem_append.1 he with he | he
    ·exact hd e he
    ·simp at he; subst he; exact hd1
   ·simp only [List.length_append, List.length_cons, List.length_nil, Nat.zero_add]
    rw [fu_, dk_, dk_, ← hx, ← hy, Nat.pow_succ]
    obtain ⟨B, hB⟩ : ∃ B, B = UB ^ s.length := ⟨_, rfl⟩
    rw [← hB] at hval ⊢
    have hXX : X = 32768 * c2 + d := by omega
    have hBX : (B : Int) * X = B * x + k * (B * y) + B * c := by
     rw [hX, Int.mul_add, Int.mul_add, Int.mul_left_comm]
    rw [hXX, Int.mul_add] at hBX
    have e1 : ((B * 32768 : Nat) : Int) * c2 = B * (32768 * c2) := by rw [Int.natCast_mul, Int.mul_assoc]; rfl
    have e2 : k * ((ofD UB ((digs UB b).take s.length) + B * y : Nat) : Int) = k * (ofD UB ((digs UB b).take s.length) : Nat) + k * (B * y) := by
     rw [Int.natCast_add, Int.mul_add, Int.natCast_mul]
    show ((ofD UB s + B * d : Nat) : Int) + ((B * 32768 : Nat) : Int) * c2 = _
    rw [e1, e2, Int.natCast_add, Int.natCast_add, Int.natCast_mul, Int.natCast_mul]
    omega
   ·simp only [tq_]
    refine SEnt.to [] rfl rfl rfl ?_ (fun hs => au_f) (fun hs => ?_)
    ·repeat' (first | exact ShrL.nil | refine ShrL.cons rfl rfl rfl rfl (by first | (exact congrArg List.length hset) | rfl | (simp; done) | (simp <;> omega)) ?_)
    ·repeat' (first | exact CvH.nil | refine CvH.cons rfl rfl rfl rfl ?_ ?_)
     all_goals (first | (exact CvLL.cloE hs hset (bh_ _)) | exact au_e)
  ·have hge : s.length = N := by simp at h; omega
   refine AWp.exit ⟨s, ⟨hge, hd, ?_⟩, ?_⟩
   ·rw [hge, List.take_of_length_le (by omega), List.take_of_length_le (by omega), bd_ (by decide), bd_ (by decide), ← hr] at hval
    have hsl := fl_ hd
    rw [hge] at hsl
    obtain ⟨B, hB⟩ : ∃ B, B = UB ^ N := ⟨_, rfl⟩
    rw [← hB] at hval hsl hrN
    rcases hc with rfl | rfl | rfl <;> omega
   ·have e : iE (List.replicate (N - s.length) 0 ++ s.reverse) = iE s.reverse := by rw [hge]; simp
    refine SEnt.to [] rfl rfl rfl ?_ (fun hs => au_f) (fun hs => ?_)
    ·repeat' (first | exact ShrL.nil | refine ShrL.cons rfl rfl rfl rfl (by first | (exact congrArg List.length e) | rfl | (simp; done) | (simp <;> omega)) ?_)
    ·repeat' (first | exact CvH.nil | refine CvH.cons rfl rfl rfl rfl ?_ ?_)
     all_goals (first | (exact CvLL.cloE hs e (bh_ _)) | exact au_e)
 rintro s ⟨hs, hd, hval⟩
 have hd' : ∀ d ∈ s.reverse, d < UB := fun d h => hd d (List.mem_reverse.1 h)
 have hst := gm_ s.reverse (by simp; omega)
 rw [eo_ hd', show hv s.reverse = r by unfold hv; rw [List.reverse_reverse]; assumption] at hst
 have hfull : ((iE s.reverse).drop 0).take N = iE s.reverse := by rw [List.drop_zero, List.take_of_length_le (by simp; omega)]
 refine s_r 3 ?_
 refine a_1 ?_
 refine o_1 (.callS1 rfl rfl rfl (.shut rfl (by first | exact nle rfl | (simp; done) | (simp; omega)) (.nil)) rfl ((by rw [hfull]; exact hst))) ?_
 refine a_z ?_
 refine AWp.ret ?_
 refine Fin.tmpE rfl ?_ ?_
 ·rfl
 ·exact av_ _
end Go.Proofs.YtdhedjbmdnnbkaaGreatDoor
