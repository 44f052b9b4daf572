/- Part Y08 of the proof. -/
import Derived.Test.YtdhedjbmdnnbkaaGreatDoorY07
import Derived.Lib.ItoaNum
set_option linter.all false
namespace Go.Abs
abbrev Sp := Rat × Rat
def prods (a b : Sp) : List Rat := [a.1 * b.1, a.1 * b.2, a.2 * b.1, a.2 * b.2]
def spMul (a b : Sp) : Sp := (minL (prods a b), maxL (prods a b))
def spAdd (a b : Sp) : Sp := (a.1 + b.1, a.2 + b.2)
def smS (a : Sp) : Prop := sm a.1 ∧ sm a.2
instance (a : Sp) : Decidable (smS a) := inferInstanceAs (Decidable (_ ∧ _))
def ovP (v0 s : Sp) : List Rat → Sp
 | [] => v0
 | a :: l => spAdd (spMul (ovP v0 s l) s) (a, a)
def okOv (v0 s : Sp) : List Rat → Prop
 | [] => smS v0
 | a :: l => okOv v0 s l ∧ smL (prods (ovP v0 s l) s) ∧ sm a ∧ smS (spAdd (spMul (ovP v0 s l) s) (a, a))
instance okOv_dec (v0 s : Sp) : (l : List Rat) → Decidable (okOv v0 s l)
 | [] => inferInstanceAs (Decidable (smS v0))
 | a :: l => @instDecidableAnd _ _ (okOv_dec v0 s l) (inferInstanceAs (Decidable (_ ∧ _ ∧ _)))
theorem okOv_sm {v0 s : Sp} : ∀ {l : List Rat}, okOv v0 s l → smS (ovP v0 s l)
 | [], h => h
 | _ :: _, h => h.2.2.2
theorem kK_ {v0 s : Sp} : ∀ {l : List Rat} (n : Nat), okOv v0 s l → okOv v0 s (l.drop n)
 | _, 0, h => h
 | [], _ + 1, h => h
 | _ :: _, n + 1, h => kK_ n h.1
def overP (p : List Rat) (s : Sp) : Sp := if ¬ cmpQ s.1 s.2 ≤ 0 ∨ trimQ p = [] then (0, 0) else ovP (leadP p, leadP p) s ((trimQ p).take ((trimQ p).length - 1))
def mM_ (p : List Rat) (s : Sp) : Prop := smL p ∧ smS s ∧ p.length ≤ 274877906944 ∧ okOv (leadP p, leadP p) s ((trimQ p).take ((trimQ p).length - 1))
instance (p : List Rat) (s : Sp) : Decidable (mM_ p s) := inferInstanceAs (Decidable (_ ∧ _ ∧ _ ∧ _))
def okMul (p q : List Rat) : Prop := p.length * (mxL p + mxL q + 1) + 1 ≤ 137438953472 ∧ mxL q ≤ 137438953472 ∧ p.length ≤ 274877906944 ∧ q.length ≤ 274877906944
instance (p q : List Rat) : Decidable (okMul p q) := inferInstanceAs (Decidable (_ ∧ _ ∧ _ ∧ _))
theorem okMul_sm {p q : List Rat} (h : okMul p q) : smL (mulP p q) :=
 gD_ (mulP_bd (cv_ p) (cv_ q) (cb_ p) (cb_ q)) h.1
theorem j6_ (p q : List Rat) : (addP p q).length ≤ max p.length q.length := by
 have := aU_ (tabP (max p.length q.length) fun i => coP p i + coP q i)
 simpa [addP] using this
theorem n8_ (a : Rat) : (gB_ a).length ≤ 1 := aU_ [a]
def compP (q : List Rat) : List Rat → List Rat
 | [] => []
 | a :: l => addP (mulP (compP q l) q) (gB_ a)
def okComp (q : List Rat) : List Rat → Prop
 | [] => True
 | a :: l => okComp q l ∧ okMul (compP q l) q ∧ sm a ∧ (mulP (compP q l) q).length ≤ 274877906944
instance okComp_dec (q : List Rat) : (l : List Rat) → Decidable (okComp q l)
 | [] => inferInstanceAs (Decidable True)
 | a :: l => @instDecidableAnd _ _ (okComp_dec q l) (inferInstanceAs (Decidable (_ ∧ _ ∧ _)))
abbrev UB : Nat := 32768
def iE (l : List Nat) : List (List AV) := l.map fun (d : Nat) => [i64 d]
def hv (l : List Nat) : Nat := ofD UB l.reverse
def zd (n : Nat) : List Nat := (digs UB n).reverse
def zZ (z : Int) : List AV := [i64 (sgZ z), .arr (iE (zd z.natAbs))]
def dd_ : List Nat → List Nat
 | [] => []
 | d :: l => if d = 0 then dd_ l else d :: l
@[simp] theorem hB_ (l : List Nat) : (iE l).length = l.length := by simp [iE]
theorem fg_ {l : List Nat} {i d : Nat} (h : l[i]? = some d) : (iE l)[i]? = some [i64 d] := by simp [iE, h]
theorem iE_take (l : List Nat) (k : Nat) : (iE l).take k = iE (l.take k) := by simp [iE]
theorem ey_ (l m : List Nat) : iE (l ++ m) = iE l ++ iE m := by simp [iE]
theorem gx_ (l : List Nat) (i d : Nat) : (iE l).set i [i64 d] = iE (l.set i d) := by simp [iE, List.map_set]
theorem c8_ (k : Nat) : List.replicate k [i64 0] = iE (List.replicate k 0) := by simp [iE]
theorem cR_ (l : List Nat) : (iE l).all (·.all AV.one) = true := by
 simp only [iE, List.all_map, List.all_eq_true]; intro d _; rfl
theorem fo_ (l : List Nat) : ∀ e ∈ iE l, e.length = 1 := by intro e he; simp [iE] at he; obtain ⟨d, _, rfl⟩ := he; rfl
theorem bw_ (l : List Nat) : ∀ e ∈ iE l, ∀ c ∈ e, Closed c := by
 intro e he c hc
 simp [iE] at he
 obtain ⟨d, _, rfl⟩ := he
 simp at hc; subst hc
 exact ad_ _
theorem a4_ (l : List Nat) : Closed (.arr (iE l)) := aw_ (bw_ l)
theorem bt_ (z : Int) : ∀ c ∈ zZ z, Closed c := aa_ (ad_ _) (aa_ (a4_ _) ab_)
theorem aN_ (z : Int) : Closed (.agg (zZ z)) := aq_ (bt_ z)
theorem nH_ (m : List Nat) (d : Nat) : trimD (m ++ [d]) = if d = 0 then trimD m else m ++ [d] := by
 induction m with
 | nil => simp [trimD]
 | cons a m ih =>
  rw [List.cons_append, trimD, ih]
  by_cases hd : d = 0
  ·rw [if_pos hd, if_pos hd]; rfl
  ·rw [if_neg hd, if_neg hd]
   cases m <;> rfl
theorem lA_ (l : List Nat) : dd_ l = (trimD l.reverse).reverse := by
 induction l with
 | nil => rfl
 | cons d l ih =>
  rw [dd_, List.reverse_cons, nH_]
  split
  ·exact ih
  ·simp
theorem cJ_ {l : List Nat} (h : ∀ d ∈ l, d < UB) : dd_ l = zd (hv l) := by
 rw [lA_, d8_ (b := UB) (by decide) (fun d hd => h d (List.mem_reverse.1 hd))]; rfl
theorem hv_zd (n : Nat) : hv (zd n) = n := by unfold hv zd; rw [List.reverse_reverse, aS_ (by decide)]
theorem zd_lt (n : Nat) : ∀ d ∈ zd n, d < UB := fun d hd => bK_ (by decide) n d (List.mem_reverse.1 hd)
theorem bd_ (n : Nat) : (zd n).length = (digs UB n).length := List.length_reverse
theorem hD_ (d : Nat) (l : List Nat) : hv (d :: l) = hv l + UB ^ l.length * d := by
 unfold hv; rw [List.reverse_cons, di_, List.length_reverse]
theorem hC_ (l : List Nat) (d : Nat) : hv (l ++ [d]) = hv l * UB + d := by
 unfold hv; simp [ofD]; rw [Nat.mul_comm, Nat.add_comm]
theorem kP_ : hv [] = 0 := rfl
theorem f1_ : zd 0 = [] := by unfold zd; rw [a8_]; rfl
theorem zd_eq_nil {n : Nat} : zd n = [] ↔ n = 0 := by
 unfold zd; rw [List.reverse_eq_nil_iff]; exact cC_ (by decide)
theorem ij_ {l : List Nat} (h : ∀ d ∈ l, d < UB) : dd_ l = [] ↔ hv l = 0 := by rw [cJ_ h]; exact zd_eq_nil
theorem oj_ : zZ 0 = [i64 0, .arr []] := by unfold zZ; show [i64 0, AV.arr (iE (zd 0))] = _; rw [f1_]; rfl
theorem hv_lt {l : List Nat} (h : ∀ d ∈ l, d < UB) : hv l < UB ^ l.length := by
 have := c6_ (b := UB) (l := l.reverse) fun d hd => h d (List.mem_reverse.1 hd)
 rwa [List.length_reverse] at this
theorem AEval.lenI {P : Program} {id : Nat} {ev : Operand → Option AV} {hp : Nat → Option ABlk} {c : Call} {x : Operand} {T : Nat} {d : Nat × Nat} {l : List Nat} (hc : c.callee = .builtin .len) (ha : c.args = #[x]) (ht : c.argTypes = #[T]) (hx : ev x = some (.arr (iE l))) (he : elOf P T = some d) :
    AEval P id ev hp (.call c) ⟨.v (.int .i64 (l.length : Nat)), []⟩ [] := .len hc ha ht hx (by simp [lenA]) he
abbrev RQ := Rat × Bool
def rok (x : RQ) : Prop := x.2 = true → x.1 = 0
def rC (x : RQ) : List AV := zZ x.1.num ++ zZ (if x.2 then 0 else (x.1.den : Int))
def rq (q : Rat) : RQ := (q, false)
def r0 : RQ := (0, true)
theorem bA_ (q : Rat) : rok (rq q) := fun h => by cases h
theorem rok_r0 : rok r0 := fun _ => rfl
@[simp] theorem rC_length (x : RQ) : (rC x).length = 4 := rfl
theorem cO_ (x : RQ) : ∀ c ∈ rC x, Closed c := fun c hc => (List.mem_append.1 hc).elim (bt_ _ c) (bt_ _ c)
theorem aV_ (x : RQ) : Closed (.agg (rC x)) := aq_ (cO_ x)
theorem rC_rq (q : Rat) : rC (rq q) = zZ q.num ++ zZ (q.den : Int) := rfl
theorem rC_r0 : rC r0 = [i64 0, .arr [], i64 0, .arr []] := by
 show zZ 0 ++ zZ 0 = _
 rw [oj_]; rfl
def rE (l : List RQ) : List (List AV) := l.map rC
@[simp] theorem rE_length (l : List RQ) : (rE l).length = l.length := by simp [rE]
theorem dH_ {l : List RQ} {i : Nat} {q : RQ} (h : l[i]? = some q) : (rE l)[i]? = some (rC q) := by simp [rE, h]
theorem rE_take (l : List RQ) (k : Nat) : (rE l).take k = rE (l.take k) := by simp [rE]
theorem cL_ (l : List RQ) : (rE l).all (·.all AV.one) = true := by
 simp only [rE, List.all_map, List.all_eq_true]; intro q _; rfl
theorem i6_ (l : List RQ) : ∀ e ∈ rE l, e.length = 4 := by
 intro e he
 obtain ⟨q, _, rfl⟩ := List.mem_map.1 he
 rfl
theorem b3_ (l : List RQ) : ∀ e ∈ rE l, ∀ c ∈ e, Closed c := by
 intro e he c hc
 obtain ⟨q, _, rfl⟩ := List.mem_map.1 he
 exact cO_ q c hc
theorem ay_ (l : List RQ) : Closed (.arr (rE l)) := aw_ (b3_ l)
theorem AEval.lenR {P : Program} {id : Nat} {ev : Operand → Option AV} {hp : Nat → Option ABlk} {c : Call} {x : Operand} {T : Nat} {d : Nat × Nat} {l : List RQ} (hc : c.callee = .builtin .len) (ha : c.args = #[x]) (ht : c.argTypes = #[T]) (hx : ev x = some (.arr (rE l))) (he : elOf P T = some d) :
    AEval P id ev hp (.call c) ⟨.v (.int .i64 (l.length : Nat)), []⟩ [] := .len hc ha ht hx (by simp [lenA]) he
theorem oK_ {n : Int} {d : Nat} (hd : 0 < d) : sgZ (mkRat n d).num = sgZ n := by
 rw [dU_ hd]
 have hg : 0 < Nat.gcd n.natAbs d := Nat.gcd_pos_of_pos_right _ hd
 have h1 : n ≠ 0 → 0 < n.natAbs / Nat.gcd n.natAbs d := fun h => Nat.div_pos (Nat.gcd_le_left _ (by omega)) hg
 unfold sgZ sgn
 by_cases h0 : n = 0
 ·subst h0; simp
 ·have := h1 h0
  by_cases hn : n < 0
  ·simp [hn, h0]; omega
  ·simp [hn, h0]; omega
theorem e3_ (n d : Int) (hd : d < 0) : Rat.divInt n d = mkRat (-n) d.natAbs := by
 obtain ⟨m, rfl⟩ : ∃ m : Nat, d = Int.negSucc m := ⟨d.natAbs - 1, by omega⟩
 rfl
theorem e2_ (n d : Int) (hd : 0 < d) : Rat.divInt n d = mkRat n d.natAbs := by
 obtain ⟨m, rfl⟩ : ∃ m : Nat, d = (m : Int) := ⟨d.natAbs, by omega⟩
 rfl
theorem dZ_ (a b : Rat) : a / b = Rat.divInt (a.num * b.den) (a.den * b.num) := by
 rw [Rat.div_def, Rat.inv_def]
 conv => lhs; rw [← Rat.num_divInt_den a]
 rw [Rat.divInt_mul_divInt]
abbrev nQ (n : Nat) : Rat := ((n : Int) : Rat)
theorem nQ_eq (n : Nat) : nQ n = mkRat n 1 := (Rat.mkRat_one n).symm
theorem nQ_zero {n : Nat} : nQ n = 0 ↔ n = 0 := by
 rw [← Rat.num_eq_zero]
 show (n : Int) = 0 ↔ n = 0
 omega
theorem qs_nQ {n k : Nat} (h : bl n ≤ k) (hk : 1 ≤ k) : qs (nQ n) ≤ k := by
 refine Nat.max_le.2 ⟨?_, ?_⟩
 ·show bl ((n : Int)).natAbs ≤ k
  rwa [Int.natAbs_natCast]
 ·show bl 1 ≤ k
  rw [eq_]; exact hk
theorem mP_ (a b : Nat) : nQ a * nQ b = nQ (a * b) := by
 rw [ev_, nQ_eq (a * b)]
 show mkRat ((a : Int) * b) (1 * 1) = _
 rw [Int.natCast_mul]
theorem nQ_sub {a b : Nat} (h : b ≤ a) : nQ a - nQ b = nQ (a - b) := by
 show ((a : Int) : Rat) - ((b : Int) : Rat) = _
 rw [← Rat.intCast_sub]
 show ((_ : Int) : Rat) = ((_ : Int) : Rat)
 congr 1
 omega
theorem mQ_ (a b : Nat) (hb : b ≠ 0) : nQ a / nQ b = mkRat a b := by
 rw [dZ_]
 show Rat.divInt ((a : Int) * ((1 : Nat) : Int)) (((1 : Nat) : Int) * b) = _
 rw [show ((a : Int) * ((1 : Nat) : Int)) = a by omega, show (((1 : Nat) : Int) * (b : Int)) = b by omega, Rat.divInt_ofNat]
theorem kL_ (a b : Nat) (hb : b ≠ 0) (h : b ∣ a) : mkRat a b = nQ (a / b) := by
 obtain ⟨k, rfl⟩ := h
 rw [Nat.mul_div_cancel_left _ (by omega), nQ_eq, Rat.mkRat_eq_iff hb (by decide)]
 rw [Int.natCast_mul, Int.mul_comm (b : Int)]
 simp
theorem lP_ (a b : Nat) (hb : b ≠ 0) : (mkRat a b).floor = ((a / b : Nat) : Int) := by
 have h := ew_ (n := (a : Int)) (d := b) (by omega)
 rw [Int.natAbs_natCast] at h
 rw [Rat.floor_def, h.1, h.2]
 have hg : 0 < Nat.gcd a b := Nat.gcd_pos_of_pos_right _ (by omega)
 rw [← Int.natCast_ediv, ← Int.natCast_ediv, Nat.div_div_eq_div_mul, Nat.mul_div_cancel' (Nat.gcd_dvd_right a b)]
def denL : List Rat → Nat → Nat
 | [], d => d
 | c :: l, d => denL l (Nat.lcm d c.den)
def intC (c : Rat) (D : Nat) : Nat := c.num.natAbs * (D / c.den)
def numL (D : Nat) : List Rat → Nat → Nat
 | [], n => n
 | c :: l, n => numL D l (Nat.gcd n (intC c D))
def primP (p : List Rat) : List Rat := aI_ (trimQ p) (nQ (denL (trimQ p) 1) / nQ (numL (denL (trimQ p) 1) (trimQ p) 0))
def kJ_ (p : List Rat) : Prop := (p.length + 4) * mxL p ≤ 34359738368 ∧ p.length ≤ 274877906944
instance (p : List Rat) : Decidable (kJ_ p) := inferInstanceAs (Decidable (_ ∧ _))
theorem pi_ {a b : Nat} (ha : a ≠ 0) (hb : b ≠ 0) : Nat.lcm a b ≠ 0 := fun h => by
 rcases Nat.lcm_eq_zero_iff.1 h with h | h
 ·exact ha h
 ·exact hb h
theorem gj_ : ∀ (l : List Rat) {d : Nat}, d ≠ 0 → denL l d ≠ 0
 | [], _, h => h
 | c :: l, _, h => gj_ l (pi_ h c.den_nz)
theorem dM_ : ∀ (l : List Rat) (d : Nat), d ∣ denL l d ∧ ∀ c ∈ l, c.den ∣ denL l d
 | [], d => ⟨Nat.dvd_refl d, fun _ h => by cases h⟩
 | c :: l, d => by
  obtain ⟨h1, h2⟩ := dM_ l (Nat.lcm d c.den)
  refine ⟨Nat.dvd_trans (Nat.dvd_lcm_left d c.den) h1, fun x hx => ?_⟩
  rcases List.mem_cons.1 hx with rfl | hx
  ·exact Nat.dvd_trans (Nat.dvd_lcm_right d x.den) h1
  ·exact h2 x hx
theorem bl_lcm (a b : Nat) : bl (Nat.lcm a b) ≤ bl a + bl b :=
 Nat.le_trans (cp_ _ _) (dD_ a b)
theorem ma_ {s : Nat} : ∀ (l : List Rat) (d : Nat), bdL l s → bl (denL l d) ≤ bl d + l.length * s
 | [], d, _ => by simp [denL]
 | c :: l, d, h => by
  have h1 := ma_ l (Nat.lcm d c.den) fun q hq => h q (List.mem_cons_of_mem _ hq)
  have h2 := bl_lcm d c.den
  have h3 := bv_ c
  have h4 := h c (List.mem_cons_self ..)
  rw [List.length_cons, Nat.add_mul, Nat.one_mul]
  unfold denL
  omega
theorem fG_ (c : Rat) (D : Nat) (h : c.den ∣ D) : absQ (c * nQ D) = nQ (intC c D) := by
 obtain ⟨k, rfl⟩ := h
 have hd := c.den_nz
 have e : c * nQ (c.den * k) = ((c.num * (k : Int) : Int) : Rat) := by
  rw [ev_]
  show mkRat (c.num * ((c.den * k : Nat) : Int)) (c.den * 1) = _
  rw [show ((c.num * (k : Int) : Int) : Rat) = mkRat (c.num * k) 1 from (Rat.mkRat_one _).symm, Rat.mkRat_eq_iff (by omega) (by decide)]
  rw [Int.natCast_mul, Nat.mul_one]
  simp only [Int.natCast_one, Int.mul_one]
  rw [Int.mul_left_comm, Int.mul_comm]
 rw [e]
 unfold absQ intC
 show mkRat (((c.num * (k : Int)).natAbs : Nat) : Int) 1 = _
 rw [Nat.mul_div_cancel_left _ (by omega), Int.natAbs_mul, Int.natAbs_natCast, nQ_eq]
theorem fF_ (D : Nat) : ∀ (l : List Rat) (n : Nat), numL D l n ∣ n ∧ ∀ c ∈ l, numL D l n ∣ intC c D
 | [], n => ⟨Nat.dvd_refl n, fun _ h => by cases h⟩
 | c :: l, n => by
  obtain ⟨h1, h2⟩ := fF_ D l (Nat.gcd n (intC c D))
  refine ⟨Nat.dvd_trans h1 (Nat.gcd_dvd_left _ _), fun x hx => ?_⟩
  rcases List.mem_cons.1 hx with rfl | hx
  ·exact Nat.dvd_trans h1 (Nat.gcd_dvd_right _ _)
  ·exact h2 x hx
theorem jD_ {c : Rat} {D : Nat} (h : c.den ∣ D) (hD : D ≠ 0) (hc : c ≠ 0) : intC c D ≠ 0 := by
 obtain ⟨k, rfl⟩ := h
 unfold intC
 rw [Nat.mul_div_cancel_left _ c.den_pos]
 have h1 : c.num ≠ 0 := fun e => hc (Rat.num_eq_zero.1 e)
 refine Nat.mul_ne_zero (by omega) fun e => hD (by rw [e, Nat.mul_zero])
theorem lS_ (c : Rat) (D : Nat) : bl (intC c D) ≤ qs c + bl D := by
 have h1 := dD_ c.num.natAbs (D / c.den)
 have h2 := cp_ D c.den
 have h3 := bJ_ c
 unfold intC; omega
theorem cX_ (p : List Rat) : (aB_ p).length ≤ p.length - 1 := by
 have := aU_ (tabP (p.length - 1) fun i => coP p (i + 1) * ((i + 1 : Nat) : Int))
 simpa [aB_] using this
def sqfM (f : Nat) (p : List Rat) : Option (List Rat) :=
 if smL p ∧ p.length ≤ 274877906944 then (gcdM f p (aB_ p)).bind fun g => if trimQ g ≠ [] ∧ okDiv p g then some (a9_ (divP p g).1) else none
 else none
def boL (lead : Rat) : List Rat → Rat → Rat
 | [], m => m
 | c :: l, m => boL lead l (maxL [m, absQ (c / lead)])
def bW_ (p : List Rat) : Rat := boL (leadP p) ((trimQ p).take ((trimQ p).length - 1)) 0 + 1
def ju_ (p : List Rat) : Prop := mxL p ≤ 34359738368 ∧ p.length ≤ 274877906944
instance (p : List Rat) : Decidable (ju_ p) := inferInstanceAs (Decidable (_ ∧ _))
def ce_ (p : List Rat) : Int := if degP p < 0 then 10 else if 40 < degP p then 5 else 0
theorem kB_ (q : Rat) : qs (absQ q) = qs q := by
 unfold qs
 rw [j7_, j8_, Int.natAbs_natCast]
theorem lQ_ {l : List Rat} {n : Nat} (h : bdL l n) (hn : 1 ≤ n) : qs (maxL l) ≤ n := by
 unfold maxL
 have key : ∀ (bf : Int → Bool) (l : List Rat) (o : Rat), qs o ≤ n → bdL l n → qs (l.foldl (fun o y => if bf (cmpQ y o) then y else o) o) ≤ n := by
  intro bf l
  induction l with
  | nil => intro o ho _; exact ho
  | cons y l ih =>
   intro o ho hl
   refine ih _ ?_ fun q hq => hl q (List.mem_cons_of_mem _ hq)
   show qs (if bf (cmpQ y o) = true then y else o) ≤ n
   split
   ·exact hl y (List.mem_cons_self ..)
   ·exact ho
 cases l with
 | nil => exact Nat.le_trans (by decide : qs 0 ≤ 1) hn
 | cons x l => exact key (fun c => decide (0 < c)) l x (h x (List.mem_cons_self ..)) fun q hq => h q (List.mem_cons_of_mem _ hq)
theorem gd_ (p : List Rat) : leadP (trimQ p) = leadP p := by unfold leadP; rw [a1_]
def chL : List Int → Int → Int → Int
 | [], n, _ => n
 | s :: l, n, last => if s ≠ 0 then chL l (if s = -last then n + 1 else n) s else chL l n last
def d4_ (f : Nat) : Nat → List Rat → List Rat → List (List Rat) → Option (List (List Rat))
 | 0, _, _, _ => none
 | k + 1, last, next, acc =>
  if trimQ next = [] then some acc
  else if kJ_ next ∧ okDiv last (primP next) ∧ trimQ (primP next) ≠ [] then d4_ f k (primP next) (aI_ (divP last (primP next)).2 (-1)) (acc ++ [primP next])
  else none
def fb_ (f : Nat) (p : List Rat) : Option (List (List Rat)) :=
 if smL p ∧ kJ_ p ∧ trimQ p ≠ [] then d4_ f f (primP p) (aB_ p) [primP p] else none
def cE (l : List (List Rat)) : List (List AV) := l.map fun p => [.arr (pE p)]
@[simp] theorem cE_length (l : List (List Rat)) : (cE l).length = l.length := by simp [cE]
theorem nv_ {l : List (List Rat)} {i : Nat} {p : List Rat} (h : l[i]? = some p) : (cE l)[i]? = some [.arr (pE p)] := by simp [cE, h]
theorem cT_ (l : List (List Rat)) : (cE l).all (·.all AV.one) = true := by
 simp only [cE, List.all_map, List.all_eq_true]; intro q _; rfl
theorem cz_ (l : List (List Rat)) : ∀ e ∈ cE l, ∀ c ∈ e, Closed c := by
 intro e he c hc
 obtain ⟨q, _, rfl⟩ := List.mem_map.1 he
 rw [List.mem_singleton.1 hc]
 exact am_ q
theorem da_ (l : List (List Rat)) : Closed (.arr (cE l)) := aw_ (cz_ l)
theorem mi_ (l : List (List Rat)) (p : List Rat) : cE (l ++ [p]) = cE l ++ [[.arr (pE p)]] := by simp [cE]
theorem AEval.lenC {P : Program} {id : Nat} {ev : Operand → Option AV} {hp : Nat → Option ABlk} {c : Call} {x : Operand} {T : Nat} {d : Nat × Nat} {l : List (List Rat)} (hc : c.callee = .builtin .len) (ha : c.args = #[x]) (ht : c.argTypes = #[T]) (hx : ev x = some (.arr (cE l))) (he : elOf P T = some d) :
    AEval P id ev hp (.call c) ⟨.v (.int .i64 (l.length : Nat)), []⟩ [] := .len hc ha ht hx (by simp [lenA]) he
structure Cnt where
 p : List Rat
 ch : List (List Rat)
 far : Int
def kC (c : Cnt) : List AV := [.arr (pE c.p), .arr (cE c.ch), i64 c.far]
abbrev kA (c : Cnt) : AV := .aptr [kC c] 0 0
theorem ln_ (c : Cnt) : ∀ x ∈ kC c, Closed x := aa_ (am_ _) (aa_ (da_ _) (aa_ (ad_ _) ab_))
theorem b4_ (c : Cnt) : Closed (kA c) := aP_ (ln_ c)
def sgI (q : List Rat) : Int := if degP q % 2 = 1 then -sgZ (leadP q).num else sgZ (leadP q).num
def sgE (x : Rat) (q : List Rat) : Int := sgZ (evalP q x).num
theorem f3_ (z : Int) : -1 ≤ sgZ z ∧ sgZ z ≤ 1 := by
 unfold sgZ; split
 ·omega
 ·split <;> omega
theorem sgI_abs (q : List Rat) : -1 ≤ sgI q ∧ sgI q ≤ 1 := by
 have := f3_ (leadP q).num
 unfold sgI; split <;> omega
theorem h6_ : ∀ (l : List Int) (n last : Int), n ≤ chL l n last ∧ chL l n last ≤ n + l.length
 | [], n, _ => ⟨Int.le_refl _, by simp [chL]⟩
 | s :: l, n, last => by
  unfold chL
  split
  ·split
   ·have := h6_ l (n + 1) s; simp only [List.length_cons]; omega
   ·have := h6_ l n s; simp only [List.length_cons]; omega
  ·have := h6_ l n last; simp only [List.length_cons]; omega
def okCnt (c : Cnt) : Prop := (∀ q ∈ c.ch, trimQ q ≠ [] ∧ q.length ≤ 274877906944) ∧ c.ch.length ≤ 274877906944 ∧ c.far = chL (c.ch.map sgI) 0 0
instance (c : Cnt) : Decidable (okCnt c) := inferInstanceAs (Decidable (_ ∧ _ ∧ _))
def cY_ (f : Nat) (p : List Rat) : Option Cnt :=
 (sqfM f p).bind fun s => (fb_ f s).bind fun ch => if okCnt ⟨s, ch, chL (ch.map sgI) 0 0⟩ then some ⟨s, ch, chL (ch.map sgI) 0 0⟩ else none
def uptoV (c : Cnt) (x : Rat) : Int := c.far - chL (c.ch.map (sgE x)) 0 0
def okUp (c : Cnt) (x : Rat) : Prop := okCnt c ∧ ∀ q ∈ c.ch, em_ q x
instance (c : Cnt) (x : Rat) : Decidable (okUp c x) := inferInstanceAs (Decidable (_ ∧ _))
def bo_ (c : Cnt) (x : Rat) : Int := if evalP c.p x = 0 then uptoV c x - 1 else uptoV c x
def okBe (c : Cnt) (x : Rat) : Prop := okUp c x ∧ em_ c.p x
instance (c : Cnt) (x : Rat) : Decidable (okBe c x) := inferInstanceAs (Decidable (_ ∧ _))
def allV (c : Cnt) : Int := uptoV c (bW_ c.p)
def okAll (c : Cnt) : Prop := ju_ c.p ∧ trimQ c.p ≠ [] ∧ okUp c (bW_ c.p)
instance (c : Cnt) : Decidable (okAll c) := inferInstanceAs (Decidable (_ ∧ _ ∧ _))
theorem dE_ {c : Cnt} {x : Rat} (h : okCnt c) : -274877906944 ≤ uptoV c x ∧ uptoV c x ≤ 274877906944 := by
 have h1 := h6_ (c.ch.map sgI) 0 0
 have h2 := h6_ (c.ch.map (sgE x)) 0 0
 have h3 := h.2.1
 rw [← h.2.2] at h1
 simp only [List.length_map] at h1 h2
 unfold uptoV
 omega
abbrev plA (c : Cnt) (i : Int) : AV := .aptr [[kA c, i64 i]] 0 0
theorem bu_ (c : Cnt) (i : Int) : Closed (plA c i) := aP_ (aa_ (b4_ c) (aa_ (ad_ _) ab_))
def plC (c : Cnt) (i : Int) (x : Rat) : Int := if i < bo_ c x then -1 else if bo_ c x = i ∧ bo_ c x < uptoV c x then 0 else 1
theorem f0_ {c : Cnt} {x : Rat} (h : okCnt c) : -274877906945 ≤ bo_ c x ∧ bo_ c x ≤ 274877906944 := by
 have := dE_ (x := x) h
 unfold bo_; split <;> omega
def biM (c : Cnt) (i : Int) (step : Rat) : Nat → Rat → Rat → Option Rat
 | 0, _, _ => none
 | f + 1, lo, hi =>
  if sm lo ∧ sm hi ∧ sm (hi - lo) then
   if 0 < cmpQ (hi - lo) 1 then
    if qs (((lo + hi) / 2).floor : Rat) + qs step ≤ 549755813888 ∧ okBe c ((((lo + hi) / 2).floor : Rat) * step) then
     if 0 ≤ plC c i ((((lo + hi) / 2).floor : Rat) * step) then biM c i step f (((lo + hi) / 2).floor : Rat) hi
     else biM c i step f lo (((lo + hi) / 2).floor : Rat)
    else none
   else some lo
  else none
def inK (a v : Rat) (out zeros : List Rat) : Rat := (v - evalP out a) / evalP zeros a
def okIn (a v : Rat) (out zeros : List Rat) : Prop := sm a ∧ sm v ∧ em_ out a ∧ em_ zeros a ∧ evalP zeros a ≠ 0 ∧ sm (inK a v out zeros) ∧ smL out ∧ smL zeros ∧ smL (aI_ zeros (inK a v out zeros)) ∧ okMul zeros [-a, 1] ∧ out.length ≤ 274877906944
instance (a v : Rat) (out zeros : List Rat) : Decidable (okIn a v out zeros) := inferInstanceAs (Decidable (_ ∧ _ ∧ _ ∧ _ ∧ _ ∧ _ ∧ _ ∧ _ ∧ _ ∧ _ ∧ _))
theorem fq_ (i : Nat) : coP [] i = 0 := rfl
theorem bN_ (a : Rat) (l : List Rat) : coP (a :: l) 0 = a := rfl
theorem bq_ (a : Rat) (l : List Rat) (i : Nat) : coP (a :: l) (i + 1) = coP l i := rfl
theorem a6_ (l : List Rat) (i : Nat) : coP (trimQ l) i = coP l i := by
 induction l generalizing i with
 | nil => rfl
 | cons a l ih =>
  rw [b5_]
  split
  ·rename_i h
   have h0 : ∀ j, coP l j = 0 := fun j => by rw [← ih j, h]; rfl
   split
   ·rename_i ha
    cases i with
    | zero => rw [bN_, ha]; rfl
    | succ i => rw [bq_, h0]; rfl
   ·cases i with
    | zero => rfl
    | succ i => rw [bq_, bq_, h0]; rfl
  ·cases i with
   | zero => rfl
   | succ i => rw [bq_, bq_, ih]
theorem eG_ (n : Nat) (f : Nat → Rat) (i : Nat) : coP (tabP n f) i = if i < n then f i else 0 := by
 unfold coP tabP
 rw [List.getD_eq_getElem?_getD, List.getElem?_map]
 by_cases h : i < n
 ·rw [if_pos h, List.getElem?_range h]; rfl
 ·rw [if_neg h, List.getElem?_eq_none (by simp; omega)]; rfl
theorem gk_ (p q : List Rat) (i : Nat) : coP (addP p q) i = coP p i + coP q i := by
 unfold addP
 rw [a6_, eG_]
 split
 ·rfl
 ·rename_i h
  rw [cn_ (by omega), cn_ (by omega)]; grind
theorem bs_ (p : List Rat) (k : Rat) (i : Nat) : coP (aI_ p k) i = coP p i * k := by
 unfold aI_
 rw [a6_, eG_]
 split
 ·rfl
 ·rename_i h
  rw [cn_ (by omega)]; grind
theorem mf_ (p q : List Rat) (i : Nat) : coP (subP p q) i = coP p i - coP q i := by
 unfold subP
 rw [gk_, bs_]; grind
theorem ca_ (p : List Rat) (i : Nat) : coP (aB_ p) i = coP p (i + 1) * ((i + 1 : Nat) : Int) := by
 unfold aB_
 rw [a6_, eG_]
 split
 ·rfl
 ·rename_i h
  rw [cn_ (by omega)]; grind
theorem fx_ {p q : List Rat} (h : ∀ i, coP p i = coP q i) : trimQ p = trimQ q := by
 induction p generalizing q with
 | nil =>
  induction q with
  | nil => rfl
  | cons b q ih =>
   have hb : b = 0 := (h 0).symm
   rw [b5_, ← ih fun i => h (i + 1), if_pos (by rfl), if_pos hb]; rfl
 | cons a p ih =>
  cases q with
  | nil =>
   have ha : a = 0 := h 0
   rw [b5_, ih (q := []) fun i => h (i + 1), if_pos (by rfl), if_pos ha]; rfl
  | cons b q =>
   have hab : a = b := h 0
   rw [b5_, b5_, ih (q := q) fun i => h (i + 1), hab]
theorem trim_iff {p q : List Rat} : trimQ p = trimQ q ↔ ∀ i, coP p i = coP q i :=
 ⟨fun h i => by rw [← a6_ p, h, a6_], fx_⟩
theorem trim_nil_iff {p : List Rat} : trimQ p = [] ↔ ∀ i, coP p i = 0 :=
 ⟨fun h i => by rw [← a6_ p, h]; rfl, fun h => fx_ (q := []) h⟩
theorem aK_ (x : Rat) : evalP [] x = 0 := rfl
theorem av_ (a : Rat) (l : List Rat) (x : Rat) : evalP (a :: l) x = evalP l x * x + a := rfl
theorem eY_ {p : List Rat} (h : ∀ i, coP p i = 0) (x : Rat) : evalP p x = 0 := by
 induction p with
 | nil => rfl
 | cons a p ih =>
  have ha : a = 0 := h 0
  rw [av_, ih fun i => h (i + 1), ha]; grind
theorem dY_ {p q : List Rat} (h : ∀ i, coP p i = coP q i) (x : Rat) : evalP p x = evalP q x := by
 induction p generalizing q with
 | nil => exact (eY_ (fun i => (h i).symm) x).symm
 | cons a p ih =>
  cases q with
  | nil => exact eY_ h x
  | cons b q =>
   have hab : a = b := h 0
   rw [av_, av_, ih (q := q) fun i => h (i + 1), hab]
theorem bj_ (p : List Rat) (x : Rat) : evalP (trimQ p) x = evalP p x := dY_ (a6_ p) x
def addL : List Rat → List Rat → List Rat
 | [], q => q
 | p, [] => p
 | a :: p, b :: q => (a + b) :: addL p q
def gs_ (p : List Rat) (k : Rat) : List Rat := p.map (· * k)
def mulL : List Rat → List Rat → List Rat
 | [], _ => []
 | a :: p, q => addL (gs_ q a) (0 :: mulL p q)
theorem e6_ (p q : List Rat) (i : Nat) : coP (addL p q) i = coP p i + coP q i := by
 induction p generalizing q i with
 | nil => rw [addL, fq_]; grind
 | cons a p ih =>
  cases q with
  | nil => rw [addL, fq_]; · grind
           ·intro h; cases h
  | cons b q =>
   rw [addL]
   cases i with
   | zero => rfl
   | succ i => exact ih q i
theorem d1_ (p : List Rat) (k : Rat) (i : Nat) : coP (gs_ p k) i = coP p i * k := by
 induction p generalizing i with
 | nil => show (0 : Rat) = 0 * k; grind
 | cons a p ih =>
  cases i with
  | zero => rfl
  | succ i => exact ih i
theorem e0_ (p q : List Rat) (x : Rat) : evalP (addL p q) x = evalP p x + evalP q x := by
 induction p generalizing q with
 | nil => rw [addL, aK_]; grind
 | cons a p ih =>
  cases q with
  | nil => rw [addL, aK_]; · grind
           ·intro h; cases h
  | cons b q => rw [addL, av_, av_, av_, ih]; grind
theorem dL_ (p : List Rat) (k x : Rat) : evalP (gs_ p k) x = evalP p x * k := by
 induction p with
 | nil => show (0 : Rat) = 0 * k; grind
 | cons a p ih => show evalP (gs_ p k) x * x + a * k = _; rw [ih, av_]; grind
theorem iM_ (p q : List Rat) (x : Rat) : evalP (mulL p q) x = evalP p x * evalP q x := by
 induction p with
 | nil => show (0 : Rat) = 0 * _; grind
 | cons a p ih => rw [mulL, e0_, dL_, av_, ih, av_]; grind
theorem dz_ (p q : List Rat) (x : Rat) : evalP (addP p q) x = evalP p x + evalP q x := by
 rw [← e0_]; exact dY_ (fun i => by rw [gk_, e6_]) x
theorem bb_ (p : List Rat) (k x : Rat) : evalP (aI_ p k) x = evalP p x * k := by
 rw [← dL_]; exact dY_ (fun i => by rw [bs_, d1_]) x
theorem bU_ (p q : List Rat) (x : Rat) : evalP (subP p q) x = evalP p x - evalP q x := by
 unfold subP; rw [dz_, bb_]; grind
def convP (p q : List Rat) : Nat → Nat → Rat
 | 0, _ => 0
 | i + 1, n => convP p q i n + (if i ≤ n then coP p i * coP q (n - i) else 0)
theorem nn_ (o : List Rat) (a : Rat) (q : List Rat) (i : Nat) (h : ∀ k, k < q.length → i + k < o.length) : ∀ k n, k ≤ q.length → coP (rowP o a q i k) n = coP o n + (if i ≤ n ∧ n < i + k then a * coP q (n - i) else 0)
 | 0, n, _ => by rw [if_neg (by omega)]; show coP o n = _; grind
 | k + 1, n, hk => by
  rw [rowP, h4_, lI_]
  by_cases hn : n = i + k
  ·subst hn
   rw [if_pos ⟨rfl, h k (by omega)⟩, i5_ o a q i k (i + k) (by omega), if_pos (by omega), show i + k - i = k by omega]
  ·rw [if_neg (by omega), nn_ o a q i h k n (by omega)]
   by_cases h2 : i ≤ n ∧ n < i + k
   ·rw [if_pos h2, if_pos (by omega)]
   ·rw [if_neg h2, if_neg (by omega)]
theorem np_ (p q : List Rat) (n : Nat) : ∀ i, i ≤ p.length → coP (mulR p q i) n = convP p q i n
 | 0, _ => by
  show coP (List.replicate _ 0) n = 0
  unfold coP
  rw [List.getD_eq_getElem?_getD, List.getElem?_replicate]
  split <;> rfl
 | i + 1, hi => by
  have ih := np_ p q n i (by omega)
  rw [mulR, convP]
  split
  ·rename_i h0
   rw [ih, h0]
   split <;> grind
  ·rw [nn_ _ _ _ _ (fun k hk => by rw [lO_]; omega) _ _ (Nat.le_refl _), ih]
   congr 1
   by_cases h1 : i ≤ n
   ·rw [if_pos h1]
    by_cases h2 : n < i + q.length
    ·rw [if_pos ⟨h1, h2⟩]
    ·rw [if_neg (by omega), cn_ (p := q) (by omega)]; grind
   ·rw [if_neg (by omega), if_neg h1]
theorem iR_ (a : Rat) (p q : List Rat) (n : Nat) : ∀ i, convP (a :: p) q (i + 1) n = a * coP q n + (match n with | 0 => 0 | m + 1 => convP p q i m)
 | 0 => by
  show (0 : Rat) + (if 0 ≤ n then coP (a :: p) 0 * coP q (n - 0) else 0) = _
  rw [if_pos (Nat.zero_le _), bN_, Nat.sub_zero]
  cases n <;> simp [convP, Rat.add_zero, Rat.zero_add]
 | i + 1 => by
  rw [convP, iR_ a p q n i]
  cases n with
  | zero => rw [if_neg (by omega)]; show a * coP q 0 + 0 + 0 = a * coP q 0 + 0; grind
  | succ m =>
   show a * coP q (m + 1) + convP p q i m + _ = a * coP q (m + 1) + (convP p q i m + _)
   by_cases h : i ≤ m
   ·rw [if_pos (by omega), if_pos h, bq_, show m + 1 - (i + 1) = m - i by omega]; grind
   ·rw [if_neg (by omega), if_neg h]; grind
theorem nq_ (p q : List Rat) (n : Nat) : coP (mulL p q) n = convP p q p.length n := by
 induction p generalizing n with
 | nil => rfl
 | cons a p ih =>
  rw [mulL, e6_, d1_, List.length_cons, iR_]
  cases n with
  | zero => rw [bN_]; grind
  | succ m => rw [bq_, ih]; grind
theorem h3_ (p q : List Rat) (n : Nat) : coP (mulP p q) n = coP (mulL p q) n := by
 unfold mulP
 split
 ·rename_i h
  rcases h with rfl | rfl
  ·rfl
  ·rw [nq_]
   have : ∀ i, convP p [] i n = 0 := by
    intro i
    induction i with
    | zero => rfl
    | succ i ih => rw [convP, ih, fq_]; split <;> grind
   rw [this]; rfl
 ·rw [a6_, np_ _ _ _ _ (Nat.le_refl _), nq_]
theorem a3_ (p q : List Rat) (x : Rat) : evalP (mulP p q) x = evalP p x * evalP q x := by
 rw [← iM_]; exact dY_ (h3_ p q) x
def synD : List Rat → Rat → List Rat
 | [], _ => []
 | [_], _ => []
 | _ :: b :: l, r => evalP (b :: l) r :: synD (b :: l) r
theorem ko_ (p : List Rat) (r x : Rat) : evalP p x = evalP (synD p r) x * (x - r) + evalP p r := by
 induction p with
 | nil => show (0 : Rat) = 0 * _ + 0; grind
 | cons a l ih =>
  cases l with
  | nil => show 0 * x + a = 0 * (x - r) + (0 * r + a); grind
  | cons b l =>
   rw [synD, av_ a, av_ a, av_ (evalP (b :: l) r), ih]; grind
theorem synD_len (p : List Rat) (r : Rat) : (synD p r).length = p.length - 1 := by
 induction p with
 | nil => rfl
 | cons a l ih =>
  cases l with
  | nil => rfl
  | cons b l => rw [synD, List.length_cons, ih]; simp
theorem in_ : ∀ (n : Nat) (p xs : List Rat), p.length ≤ n → n ≤ xs.length → xs.Nodup → (∀ x ∈ xs, evalP p x = 0) → ∀ x, evalP p x = 0
 | 0, p, _, hp, _, _, _, x => by
  have : p = [] := List.length_eq_zero_iff.1 (by omega)
  rw [this]; rfl
 | n + 1, p, xs, hp, hx, hnd, hz, x => by
  cases xs with
  | nil => simp at hx
  | cons r xs =>
   rw [List.nodup_cons] at hnd
   have hr := hz r (List.mem_cons_self ..)
   have ih := in_ n (synD p r) xs (by rw [synD_len]; omega) (by simp at hx; omega) hnd.2 fun y hy => by
    have h1 := ko_ p r y
    rw [hz y (List.mem_cons_of_mem _ hy), hr] at h1
    have hne : y - r ≠ 0 := fun h => hnd.1 (by have : y = r := by grind
                                               rw [← this]; exact hy)
    have h2 : evalP (synD p r) y * (y - r) = 0 := by grind
    rcases Rat.mul_eq_zero.1 h2 with h3 | h3
    ·exact h3
    ·exact absurd h3 hne
   rw [ko_ p r x, ih, hr]; grind
theorem k6_ {p : List Rat} (h : ∀ x, evalP p x = 0) : ∀ i, coP p i = 0 := by
 induction p with
 | nil => intro i; rfl
 | cons a p ih =>
  have ha : a = 0 := by
   have := h 0
   rw [av_] at this; grind
  have hp : ∀ x, evalP p x = 0 := by
   -- at all places but 0, so at all
   refine in_ p.length p ((List.range p.length).map fun i => (((i + 1 : Nat) : Int) : Rat)) (Nat.le_refl _) (by simp) ?_ ?_
   ·refine List.Pairwise.map _ (fun i j hij => ?_) List.nodup_range
    intro e
    apply hij
    have := Rat.intCast_inj.1 e
    omega
   ·intro x hx
    obtain ⟨i, _, rfl⟩ := List.mem_map.1 hx
    have h1 := h (((i + 1 : Nat) : Int) : Rat)
    rw [av_, ha] at h1
    have h2 : evalP p (((i + 1 : Nat) : Int) : Rat) * (((i + 1 : Nat) : Int) : Rat) = 0 := by grind
    rcases Rat.mul_eq_zero.1 h2 with h3 | h3
    ·exact h3
    ·have := Rat.intCast_inj.1 (h3.trans Rat.intCast_zero.symm); omega
  intro i
  cases i with
  | zero => exact ha
  | succ i => exact ih hp i
theorem gZ_ {p q : List Rat} (h : ∀ x, evalP p x = evalP q x) : trimQ p = trimQ q := by
 refine fx_ fun i => ?_
 have := k6_ (p := subP p q) (fun x => by rw [bU_, h]; grind) i
 rw [mf_] at this; grind
theorem iN_ (a x : Rat) : evalP [-a, 1] x = x - a := by
 show (0 * x + 1) * x + -a = x - a; grind
theorem oO_ {p : List Rat} {k : Rat} {s t : Nat} (hp : bdL p s) (hs : 1 ≤ s) (hk : qs k ≤ t) : bdL (aI_ p k) (s + t) :=
 df_ fun i => by
  rw [bs_]
  have h1 := c4_ (coP p i) k
  have h2 := cq_ hp hs i
  omega
def dvE : List Rat → Rat → Rat
 | [], _ => 0
 | _ :: l, x => evalP l x + dvE l x * x
theorem cg_ (a : Rat) (l : List Rat) (x : Rat) : dvE (a :: l) x = evalP l x + dvE l x * x := rfl
theorem ni_ {p : List Rat} (h : ∀ i, coP p i = 0) (x : Rat) : dvE p x = 0 := by
 induction p with
 | nil => rfl
 | cons a p ih => rw [cg_, ih fun i => h (i + 1), eY_ fun i => h (i + 1)]; grind
theorem p2_ {p q : List Rat} (h : ∀ i, coP p i = coP q i) (x : Rat) : dvE p x = dvE q x := by
 induction p generalizing q with
 | nil => exact (ni_ (fun i => (h i).symm) x).symm
 | cons a p ih =>
  cases q with
  | nil => exact ni_ h x
  | cons b q => rw [cg_, cg_, ih (q := q) fun i => h (i + 1), dY_ (q := q) fun i => h (i + 1)]
theorem dvE_addL (p q : List Rat) (x : Rat) : dvE (addL p q) x = dvE p x + dvE q x := by
 induction p generalizing q with
 | nil => rw [addL]; show dvE q x = 0 + dvE q x; grind
 | cons a p ih =>
  cases q with
  | nil => rw [addL]; · show _ = _ + (0 : Rat); grind
           ·intro h; cases h
  | cons b q => rw [addL, cg_, cg_, cg_, ih, e0_]; grind
theorem iO_ (p : List Rat) (k x : Rat) : dvE (gs_ p k) x = dvE p x * k := by
 induction p with
 | nil => show (0 : Rat) = 0 * k; grind
 | cons a p ih => show evalP (gs_ p k) x + dvE (gs_ p k) x * x = _; rw [ih, cg_, dL_]; grind
theorem dvE_mulL (p q : List Rat) (x : Rat) : dvE (mulL p q) x = dvE p x * evalP q x + evalP p x * dvE q x := by
 induction p with
 | nil => show (0 : Rat) = 0 * _ + 0 * _; grind
 | cons a p ih => rw [mulL, dvE_addL, iO_, cg_, cg_, ih, iM_, av_]; grind
def derL : List Rat → List Rat
 | [] => []
 | _ :: l => addL l (0 :: derL l)
theorem eZ_ (p : List Rat) (x : Rat) : evalP (derL p) x = dvE p x := by
 induction p with
 | nil => rfl
 | cons a p ih => rw [derL, e0_, av_, ih, cg_]; grind
theorem coP_derL (p : List Rat) (i : Nat) : coP (derL p) i = coP p (i + 1) * ((i + 1 : Nat) : Int) := by
 induction p generalizing i with
 | nil => show (0 : Rat) = 0 * _; grind
 | cons a p ih =>
  rw [derL, e6_, bq_]
  cases i with
  | zero => rw [bN_]; simp; grind
  | succ i => rw [bq_, ih]; simp only [Int.natCast_add, Rat.intCast_add]; grind
theorem cm_ (p : List Rat) (x : Rat) : evalP (aB_ p) x = dvE p x := by
 rw [← eZ_]; exact dY_ (fun i => by rw [ca_, coP_derL]) x
theorem hV_ (p q : List Rat) (x : Rat) : dvE (mulP p q) x = dvE p x * evalP q x + evalP p x * dvE q x := by
 rw [← dvE_mulL]; exact p2_ (h3_ p q) x
theorem k8_ (o : List Rat) (x v : Rat) : ∀ j, j < o.length → evalP (o.set j v) x = evalP o x + (v - coP o j) * x ^ j := by
 induction o with
 | nil => intro j h; cases h
 | cons a o ih =>
  intro j h
  cases j with
  | zero => rw [List.set_cons_zero, av_, av_, bN_, Rat.pow_zero]; grind
  | succ j => rw [List.set_cons_succ, av_, av_, bq_, ih j (by simpa using h), Rat.pow_succ]; grind
theorem gh_ (q : List Rat) (x : Rat) (m : Nat) (h : m < q.length) : evalP (q.take (m + 1)) x = evalP (q.take m) x + coP q m * x ^ m := by
 induction q generalizing m with
 | nil => cases h
 | cons a q ih =>
  cases m with
  | zero => rw [List.take_succ_cons, List.take_zero, List.take_zero, bN_, Rat.pow_zero, av_]; show 0 * x + a = 0 + a * 1; grind
  | succ m => rw [List.take_succ_cons, List.take_succ_cons, av_, av_, bq_, ih m (by simpa using h), Rat.pow_succ]; grind
theorem hj_ (x : Rat) (n : Nat) : ∀ m, x ^ (n + m) = x ^ n * x ^ m
 | 0 => by rw [Nat.add_zero, Rat.pow_zero]; grind
 | m + 1 => by rw [← Nat.add_assoc, Rat.pow_succ, Rat.pow_succ, hj_ x n m]; grind
theorem iL_ (o : List Rat) (k : Rat) (q : List Rat) (n : Nat) (x : Rat) (h : n + q.length ≤ o.length) : ∀ m, m ≤ q.length → evalP (rowM o k q n m) x = evalP o x - k * x ^ n * evalP (q.take m) x
 | 0, _ => by rw [rowM, List.take_zero]; show _ = _ - _ * 0; grind
 | m + 1, hm => by
  rw [rowM, subAt, k8_ _ _ _ _ (by rw [cV_]; omega), iL_ o k q n x h m (by omega), gh_ q x m (by omega), hj_]
  grind
theorem coP_rowM (o : List Rat) (k : Rat) (q : List Rat) (n m : Nat) (hm : m < q.length) (h : n + q.length ≤ o.length) : coP (rowM o k q n q.length) (n + m) = coP o (n + m) - k * coP q m := by
 have : ∀ j, m < j → j ≤ q.length → coP (rowM o k q n j) (n + m) = coP o (n + m) - k * coP q m := by
  intro j
  induction j with
  | zero => intro h; omega
  | succ j ih =>
   intro h1 h2
   rw [rowM, fX_]
   by_cases e : m = j
   ·subst e
    rw [if_pos ⟨rfl, by rw [cV_]; omega⟩, fC_ o k q n m (n + m) (by omega)]
   ·rw [if_neg (by omega)]
    exact ih (by omega) (by omega)
 exact this q.length hm (Nat.le_refl _)
theorem lc_ (q : List Rat) (lead : Rat) (hq : q ≠ []) (hl : coP q (q.length - 1) = lead) (hl0 : lead ≠ 0) (x : Rat) : ∀ c u o, (∀ i, i < c → coP u i = 0) → c ≤ u.length → c + q.length ≤ o.length + 1 → (∀ j, c + q.length - 1 ≤ j → coP o j = 0) →
    evalP (divR q lead c u o).1 x * evalP q x + evalP (divR q lead c u o).2 x = evalP u x * evalP q x + evalP o x ∧ ∀ j, q.length - 1 ≤ j → coP (divR q lead c u o).2 j = 0
 | 0, u, o, _, _, _, h4 => ⟨rfl, fun j hj => h4 j (by omega)⟩
 | n + 1, u, o, h1, h2, h3, h4 => by
  have hlen := List.length_pos_iff.2 hq
  rw [divR]
  obtain ⟨k, hk⟩ : ∃ k, k = coP o (n + q.length - 1) / lead := ⟨_, rfl⟩
  rw [← hk]
  have hkl : k * lead = coP o (n + q.length - 1) := by rw [hk]; grind
  have hu : coP u n = 0 := h1 n (by omega)
  have ho : evalP (if k = 0 then o else rowM o k q n q.length) x = evalP o x - k * x ^ n * evalP q x := by
   by_cases h0 : k = 0
   ·rw [if_pos h0, h0]; grind
   ·rw [if_neg h0, iL_ o k q n x (by omega) _ (Nat.le_refl _), List.take_length]
  obtain ⟨e1, e2⟩ := lc_ q lead hq hl hl0 x n (u.set n k) (if k = 0 then o else rowM o k q n q.length) (fun i hi => by
   rw [jX_, if_neg (by omega)]; exact h1 i (by omega)) (by simp; omega) (by split <;> (try simp) <;> omega) (fun j hj => by
   by_cases h0 : k = 0
   ·rw [if_pos h0]
    by_cases hj' : j = n + q.length - 1
    ·rw [hj', ← hkl, h0]; grind
    ·exact h4 j (by omega)
   ·rw [if_neg h0]
    by_cases hj' : j = n + q.length - 1
    ·have := coP_rowM o k q n (q.length - 1) (by omega) (by omega)
     rw [hj', show n + q.length - 1 = n + (q.length - 1) by omega, this, hl, hkl, show n + (q.length - 1) = n + q.length - 1 by omega]; grind
    ·rw [fC_ o k q n q.length j (by omega)]
     exact h4 j (by omega))
  refine ⟨?_, e2⟩
  rw [e1, ho, k8_ u x k n (by omega), hu]
  grind
theorem gr_ {p : List Rat} {n : Nat} (h : ∀ j, n ≤ j → coP p j = 0) : (trimQ p).length ≤ n := by
 apply Nat.le_of_not_lt
 intro hn
 have h1 := bm_ (l := p) (n := (trimQ p).length - 1) (by omega)
 have h2 : trimQ p ≠ [] := fun e => by rw [e] at hn; simp at hn
 have h3 := h ((trimQ p).length - 1) (by omega)
 rw [← a6_] at h3
 unfold coP at h3
 rw [List.getD_eq_getElem?_getD, h1] at h3
 exact bp_ h2 h3
theorem eE_ (p q : List Rat) (hq : trimQ q ≠ []) : (∀ x, evalP (divP p q).1 x * evalP q x + evalP (divP p q).2 x = evalP p x) ∧ (trimQ (divP p q).2).length < (trimQ q).length := by
 have hlen := List.length_pos_iff.2 hq
 have hl : coP (trimQ q) ((trimQ q).length - 1) = leadP q := by
  have := bm_ (l := q) (n := (trimQ q).length - 1) (by omega)
  unfold coP; rw [List.getD_eq_getElem?_getD, this]; rfl
 have hz : ∀ i m, coP (List.replicate m 0) i = 0 := fun i m => by
  unfold coP
  rw [List.getD_eq_getElem?_getD, List.getElem?_replicate]
  split <;> rfl
 have key := fun x (h : (trimQ q).length ≤ (trimQ p).length + 1) => lc_ (trimQ q) (leadP q) hq hl (bp_ hq) x ((trimQ p).length + 1 - (trimQ q).length) (List.replicate ((trimQ p).length + 1 - (trimQ q).length) 0) (trimQ p)
  (fun i _ => hz i _) (by simp) (by omega) (fun j hj => cn_ (by omega))
 by_cases h : (trimQ q).length ≤ (trimQ p).length + 1
 ·refine ⟨fun x => ?_, ?_⟩
  ·have e := (key x h).1
   unfold divP
   simp only
   rw [bj_, bj_, ← bj_ q, e, eY_ (fun i => hz i _), bj_ p]; grind
  ·have e := (key 0 h).2
   unfold divP
   simp only
   rw [a1_]
   have := gr_ e
   omega
 ·unfold divP
  simp only
  rw [show (trimQ p).length + 1 - (trimQ q).length = 0 by omega]
  refine ⟨fun x => ?_, ?_⟩
  ·rw [divR, bj_, bj_, bj_]; show 0 * _ + _ = _; grind
  ·rw [divR]; simp only; rw [a1_, a1_]; omega
section
variable (p q r : List Rat) (a b : Rat)
end
def nz (p : List Rat) : Prop := trimQ p ≠ []
def dg (p : List Rat) : Nat := (trimQ p).length - 1
def md (p q : List Rat) : List Rat := (divP p q).2
def Eqv (p q : List Rat) : Prop := ∀ x, evalP p x = evalP q x
theorem eqv_trim {p q : List Rat} : Eqv p q ↔ trimQ p = trimQ q :=
 ⟨gZ_, fun h x => by rw [← bj_ p, h, bj_]⟩
theorem o6_ {p q : List Rat} (h : Eqv p q) : nz p ↔ nz q := by unfold nz; rw [eqv_trim.1 h]
theorem dg_eqv {p q : List Rat} (h : Eqv p q) : dg p = dg q := by unfold dg; rw [eqv_trim.1 h]
theorem lead_eqv {p q : List Rat} (h : Eqv p q) : leadP p = leadP q := by unfold leadP; rw [eqv_trim.1 h]
theorem en_ {p : List Rat} (h : ¬ nz p) : ∀ x, evalP p x = 0 := fun x => by
 have : trimQ p = [] := by unfold nz at h; exact Decidable.byContradiction h
 rw [← bj_, this]; rfl
def isDeg (p : List Rat) (n : Nat) : Prop := coP p n ≠ 0 ∧ ∀ i, n < i → coP p i = 0
theorem dj_ {p : List Rat} (h : nz p) : isDeg p (dg p) ∧ coP p (dg p) = leadP p := by
 have hl := List.length_pos_iff.2 h
 have h1 := bm_ (l := p) (n := dg p) (by unfold dg; omega)
 have h2 : coP p (dg p) = leadP p := by
  rw [← a6_]; unfold coP; rw [List.getD_eq_getElem?_getD, h1]; rfl
 refine ⟨⟨by rw [h2]; exact bp_ h, fun i hi => ?_⟩, h2⟩
 rw [← a6_]
 exact cn_ (by unfold dg at hi; omega)
theorem fE_ {p : List Rat} {n : Nat} (h : isDeg p n) : nz p ∧ dg p = n ∧ leadP p = coP p n := by
 have h0 : nz p := fun e => h.1 (trim_nil_iff.1 e n)
 obtain ⟨h1, h2⟩ := dj_ h0
 have e : dg p = n := by
  rcases Nat.lt_trichotomy (dg p) n with h3 | h3 | h3
  ·exact absurd (h1.2 n h3) h.1
  ·exact h3
  ·exact absurd (h.2 _ h3) h1.1
 exact ⟨h0, e, by rw [← h2, e]⟩
theorem lk_ {p : List Rat} (h : ∀ i, coP p i = 0) (q : List Rat) (k : Nat) : coP (mulL p q) k = 0 := by
 induction p generalizing k with
 | nil => rfl
 | cons a p ih =>
  have ha : a = 0 := h 0
  rw [mulL, e6_, d1_, ha]
  cases k with
  | zero => rw [bN_]; grind
  | succ k => rw [bq_, ih fun i => h (i + 1)]; grind
theorem lj_ (p q : List Rat) : ∀ (n m : Nat), (∀ i, n < i → coP p i = 0) → (∀ i, m < i → coP q i = 0) → coP (mulL p q) (n + m) = coP p n * coP q m ∧ ∀ k, n + m < k → coP (mulL p q) k = 0 := by
 induction p with
 | nil => intro n m _ _; exact ⟨by show (0 : Rat) = 0 * _; grind, fun _ _ => rfl⟩
 | cons a p ih =>
  intro n m hn hm
  cases n with
  | zero =>
   have h0 : ∀ i, coP p i = 0 := fun i => hn (i + 1) (by omega)
   have hk : ∀ k, coP (mulL (a :: p) q) k = coP q k * a := fun k => by
    rw [mulL, e6_, d1_]
    cases k with
    | zero => rw [bN_]; grind
    | succ k => rw [bq_, lk_ h0]; grind
   refine ⟨by rw [Nat.zero_add, hk, bN_]; grind, fun k hk' => ?_⟩
   rw [hk, hm k (by omega)]; grind
  | succ n =>
   obtain ⟨h1, h2⟩ := ih n m (fun i hi => hn (i + 1) (by omega)) hm
   have hk : ∀ k, m < k + 1 → coP (mulL (a :: p) q) (k + 1) = coP (mulL p q) k := fun k h => by
    rw [mulL, e6_, d1_, bq_, hm _ h]; grind
   refine ⟨by rw [show n + 1 + m = (n + m) + 1 by omega, hk _ (by omega), h1, bq_], fun k hk' => ?_⟩
   obtain ⟨j, rfl⟩ : ∃ j, k = j + 1 := ⟨k - 1, by omega⟩
   rw [hk _ (by omega)]; exact h2 j (by omega)
theorem pl_ {p q : List Rat} {n m : Nat} (hp : isDeg p n) (hq : isDeg q m) : isDeg (mulP p q) (n + m) ∧ coP (mulP p q) (n + m) = coP p n * coP q m := by
 obtain ⟨h1, h2⟩ := lj_ p q n m hp.2 hq.2
 refine ⟨⟨?_, fun i hi => by rw [h3_]; exact h2 i hi⟩, by rw [h3_]; exact h1⟩
 rw [h3_, h1]
 have a := hp.1; have b := hq.1
 intro e
 rcases Rat.mul_eq_zero.1 e with h | h
 ·exact a h
 ·exact b h
theorem dg_mul {p q : List Rat} (hp : nz p) (hq : nz q) : nz (mulP p q) ∧ dg (mulP p q) = dg p + dg q ∧ leadP (mulP p q) = leadP p * leadP q := by
 obtain ⟨a1, a2⟩ := dj_ hp
 obtain ⟨b1, b2⟩ := dj_ hq
 obtain ⟨c1, c2⟩ := pl_ a1 b1
 obtain ⟨d1, d2, d3⟩ := fE_ c1
 exact ⟨d1, d2, by rw [d3, c2, a2, b2]⟩
theorem dg_mul' {p q r : List Rat} (hp : nz p) (hq : nz q) (h : ∀ x, evalP r x = evalP p x * evalP q x) : nz r ∧ dg r = dg p + dg q ∧ leadP r = leadP p * leadP q := by
 have e : Eqv r (mulP p q) := fun x => by rw [h, a3_]
 obtain ⟨h1, h2, h3⟩ := dg_mul hp hq
 exact ⟨(o6_ e).2 h1, (dg_eqv e).trans h2, (lead_eqv e).trans h3⟩
theorem fV_ {p : List Rat} {k : Rat} (hp : nz p) (hk : k ≠ 0) {r : List Rat} (h : ∀ x, evalP r x = evalP p x * k) : nz r ∧ dg r = dg p ∧ leadP r = leadP p * k := by
 have hc : isDeg [k] 0 := ⟨hk, fun i hi => by obtain ⟨j, rfl⟩ : ∃ j, i = j + 1 := ⟨i - 1, by omega⟩; rfl⟩
 obtain ⟨c1, c2, c3⟩ := fE_ hc
 obtain ⟨h1, h2, h3⟩ := dg_mul' hp c1 (r := r) (fun x => by rw [h]; show _ = _ * (0 * x + k); grind)
 exact ⟨h1, by omega, by rw [h3, c3]; rfl⟩
theorem ea_ (p : List Rat) {q : List Rat} (hq : nz q) : (∀ x, evalP p x = evalP (divP p q).1 x * evalP q x + evalP (md p q) x) ∧ (nz (md p q) → dg (md p q) < dg q) := by
 obtain ⟨h1, h2⟩ := eE_ p q hq
 refine ⟨fun x => (h1 x).symm, fun h => ?_⟩
 have := List.length_pos_iff.2 h
 unfold md at *
 unfold dg; omega
theorem jy_ {p q u v : List Rat} (hq : nz q) (h : ∀ x, evalP p x = evalP u x * evalP q x + evalP v x) (hv : nz v → dg v < dg q) : Eqv (md p q) v := by
 obtain ⟨h1, h2⟩ := ea_ p hq
 by_cases hw : nz (subP u (divP p q).1)
 ·exfalso
  obtain ⟨c1, c2, _⟩ := dg_mul' hw hq (r := subP (md p q) v) (fun x => by
   rw [bU_, bU_]; have := h x; have := h1 x; grind)
  have hz : ∀ r, (nz r → dg r < dg q) → ∀ i, dg q ≤ i → coP r i = 0 := fun r hr i hi => by
   by_cases hz : nz r
   ·exact (dj_ hz).1.2 i (by have := hr hz; omega)
   ·exact trim_nil_iff.1 (Decidable.byContradiction hz) i
  have := (dj_ c1).1.1
  rw [c2, mf_, hz _ h2 _ (by omega), hz _ hv _ (by omega)] at this
  grind
 ·intro x
  have := en_ hw x
  rw [bU_] at this
  have := h x; have := h1 x
  grind
def sg (k : Nat) : Rat := (-1) ^ k
def resF : Nat → List Rat → List Rat → Rat
 | 0, _, _ => 1
 | f + 1, q, p => if dg q = 0 then 1 else if trimQ (md p q) = [] then 0 else sg (dg q * dg (md p q)) * leadP (md p q) ^ dg q / leadP q ^ dg (md p q) * resF f (md p q) q
def rS (q p : List Rat) : Rat := resF (dg q) q p
theorem jB_ {p : List Rat} (h : nz p) : leadP p ≠ 0 := bp_ h
def Dv (d p : List Rat) : Prop := ∃ u, ∀ x, evalP p x = evalP u x * evalP d x
theorem dw_ {p q r : List Rat} (h : ∀ x, evalP r x = evalP p x * evalP q x) (hr : nz r) : nz p ∧ nz q := by
 constructor
 ·intro e
  have e' : ¬ nz p := fun h => h e
  exact absurd rfl ((o6_ (q := []) fun x => by rw [h, en_ e', aK_]; grind).1 hr)
 ·intro e
  have e' : ¬ nz q := fun h => h e
  exact absurd rfl ((o6_ (q := []) fun x => by rw [h, en_ e', aK_]; grind).1 hr)


theorem p9_ {p : List Rat} (h : nz p) : degP p = (dg p : Int) := by
 have := List.length_pos_iff.2 h
 unfold degP dg; omega
theorem dx_ {p : List Rat} (h : nz p) : (∀ x, evalP (a9_ p) x = evalP p x * (1 / leadP p)) ∧ nz (a9_ p) ∧ dg (a9_ p) = dg p := by
 have hl := jB_ h
 have e : ∀ x, evalP (a9_ p) x = evalP p x * (1 / leadP p) := fun x => by unfold a9_; rw [if_neg h, bb_]
 have hk : 1 / leadP p ≠ 0 := fun e => by have : 1 / leadP p * leadP p = 1 := by grind
                                          rw [e] at this; grind
 obtain ⟨a, b, _⟩ := fV_ h hk e
 exact ⟨e, a, b⟩
def rB : Nat → Nat → Nat → Nat → Nat → Nat → Bool
 | 0, _, _, _, _, _ => false
 | f + 1, m, n, s, t, o => if n = 1 then decide (o + 1 + 2 * ((m - 1) * t) ≤ 68719476736) else if m < n then rB f n m t s o else
  decide (2 ^ (m + 1 - n) * (s + 2 * t + 1) ≤ 137438953472) && (List.range n).all fun k => k == 0 || (decide (o + 1 + 2 * ((m - k) * t) ≤ 68719476736) && rB f k n (2 ^ (m + 1 - n) * (s + 2 * t + 1)) t (o + 1 + (m - k) * t))
theorem it_ : qs 1 = 1 := by decide
theorem hw_ {p : List Rat} {t : Nat} (h : bdL p t) (ht : 1 ≤ t) : qs (leadP p) ≤ t := by
 by_cases h0 : trimQ p = []
 ·rw [hx_ h0]; exact Nat.le_trans (by decide : qs 0 ≤ 1) ht
 ·have hl := List.length_pos_iff.2 h0
  exact h _ (be_ (List.mem_of_getElem? (bm_ (n := (trimQ p).length - 1) (by omega))))
theorem es_ {p : List Rat} {k : Rat} (hk : k ≠ 0) : (trimQ (aI_ p k)).length = (trimQ p).length := by
 by_cases h : nz p
 ·obtain ⟨a, b, _⟩ := fV_ h hk (r := aI_ p k) fun x => bb_ p k x
  have h1 := List.length_pos_iff.2 a
  have h2 := List.length_pos_iff.2 h
  unfold dg at b; omega
 ·have e : trimQ p = [] := Classical.byContradiction h
  have e2 : trimQ (aI_ p k) = [] := by
   have : Eqv (aI_ p k) [] := fun x => by rw [bb_, en_ h, aK_]; grind
   exact eqv_trim.1 this
  rw [e, e2]
theorem g5_ {l : List Rat} {a b : Nat} (h : bdL l a) (hab : a ≤ b) : bdL l b := fun q hq => Nat.le_trans (h q hq) hab
def pd : Nat → Nat → List UInt8
 | 0, _ => []
 | k + 1, n => pd k (n / 10) ++ [UInt8.ofNat (48 + n % 10)]
theorem kE_ (k n : Nat) : (pd k n).length = k := by
 induction k generalizing n with
 | zero => rfl
 | succ k ih => rw [pd, List.length_append, ih]; rfl
theorem pd_add (j k n : Nat) : pd (j + k) n = pd j (n / 10 ^ k) ++ pd k n := by
 induction k generalizing n with
 | zero => rw [Nat.add_zero, Nat.pow_zero, Nat.div_one]; simp [pd]
 | succ k ih => rw [← Nat.add_assoc, pd, pd, ih, Nat.div_div_eq_div_mul, Nat.pow_succ, Nat.mul_comm 10, List.append_assoc]
theorem pd_mod (k n : Nat) : pd k (n % 10 ^ k) = pd k n := by
 induction k generalizing n with
 | zero => rfl
 | succ k ih =>
  rw [pd, pd, Nat.pow_succ]
  have e1 : n % (10 ^ k * 10) / 10 = n / 10 % 10 ^ k := by
   rw [Nat.mul_comm, Nat.mod_mul_right_div_self]
  have e2 : n % (10 ^ k * 10) % 10 = n % 10 := by rw [Nat.mod_mul_left_mod]
  rw [e1, e2, ih]
theorem pd_front (k n : Nat) : pd (k + 1) n = UInt8.ofNat (48 + n / 10 ^ k % 10) :: pd k n := by
 rw [Nat.add_comm, pd_add]; rfl
theorem o3_ (k : Nat) : pd k 0 = List.replicate k 48 := by
 induction k with
 | zero => rfl
 | succ k ih => rw [pd, ih, List.replicate_succ']; rfl
def dropZ : List UInt8 → List UInt8
 | [] => []
 | c :: l => if c = 48 then dropZ l else c :: l
theorem la_ {a b : List UInt8} (h : dropZ a ≠ []) : dropZ (a ++ b) = dropZ a ++ b := by
 induction a with
 | nil => exact absurd rfl h
 | cons c a ih =>
  rw [List.cons_append, dropZ, dropZ]
  rw [dropZ] at h
  by_cases hc : c = 48
  ·rw [if_pos hc] at h; rw [if_pos hc, if_pos hc, ih h]
  ·rw [if_neg hc, if_neg hc]; rfl
theorem l6_ (k : Nat) (l : List UInt8) : dropZ (List.replicate k 48 ++ l) = dropZ l := by
 induction k with
 | zero => rfl
 | succ k ih => rw [List.replicate_succ, List.cons_append, dropZ, if_pos rfl, ih]
theorem dig_ne {n : Nat} (h0 : n ≠ 0) (h : n < 10) : UInt8.ofNat (48 + n) ≠ 48 := by
 have : ∀ n, n < 10 → n ≠ 0 → UInt8.ofNat (48 + n) ≠ 48 := by decide
 exact this n h h0
theorem gz_ (n : Nat) : Lib.decDigits n ≠ [] := by
 intro e
 have h1 := Lib.decDigits_length n
 rw [e] at h1
 have := Lib.nDigits_pos n
 simp at h1; omega
theorem nj_ : ∀ (k n : Nat), 0 < n → n < 10 ^ k → dropZ (pd k n) = Lib.decDigits n
 | 0, n, h, h2 => by rw [Nat.pow_zero] at h2; omega
 | k + 1, n, h, h2 => by
  rw [pd, Lib.decDigits]
  by_cases h10 : n < 10
  ·rw [dif_pos h10, Nat.div_eq_of_lt h10, o3_, l6_, Nat.mod_eq_of_lt h10, dropZ, if_neg (dig_ne (by omega) h10)]
  ·rw [dif_neg h10]
   have ih := nj_ k (n / 10) (by omega) (by rw [Nat.pow_succ] at h2; omega)
   rw [la_ (by rw [ih]; exact gz_ _), ih]
theorem lf_ : ∀ (k a b : Nat), 0 < a → b < 10 ^ k → Lib.decDigits (a * 10 ^ k + b) = Lib.decDigits a ++ pd k b
 | 0, a, b, h, hb => by
  have : b = 0 := by rw [Nat.pow_zero] at hb; omega
  subst this; simp [pd]
 | k + 1, a, b, h, hb => by
  have hp : 1 ≤ 10 ^ k := Nat.one_le_pow _ _ (by decide)
  have hap : 1 ≤ a * 10 ^ k := Nat.mul_le_mul h hp
  have e : a * 10 ^ (k + 1) + b = (a * 10 ^ k) * 10 + b := by rw [Nat.pow_succ, Nat.mul_assoc]
  rw [e, Lib.decDigits, dif_neg (by omega), show (a * 10 ^ k * 10 + b) / 10 = a * 10 ^ k + b / 10 by omega, show (a * 10 ^ k * 10 + b) % 10 = b % 10 by omega, lf_ k a (b / 10) h (by rw [Nat.pow_succ] at hb; omega), pd, List.append_assoc]
theorem pd_dec : ∀ (k n : Nat), 0 < n → n < 10 ^ k → pd k n = List.replicate (k - (Lib.decDigits n).length) 48 ++ Lib.decDigits n
 | 0, n, h, h2 => by rw [Nat.pow_zero] at h2; omega
 | k + 1, n, h, h2 => by
  rw [pd, Lib.decDigits]
  by_cases h10 : n < 10
  ·rw [dif_pos h10, Nat.div_eq_of_lt h10, o3_, Nat.mod_eq_of_lt h10]; rfl
  ·rw [dif_neg h10, pd_dec k (n / 10) (by omega) (by rw [Nat.pow_succ] at h2; omega), List.length_append, List.append_assoc]
   congr 2
   simp
theorem bd_co' {p : List Rat} {s : Nat} (h : bdL p s) (hs : 1 ≤ s) : ∀ i, qs (coP p i) ≤ s := fun i => cq_ h hs i
theorem oe_ {p : List Rat} {k : Rat} {s : Nat} (h : bdL p s) (hs : 1 ≤ s) : bdL (aI_ p k) (s + qs k) := df_ fun i => by
 rw [bs_]
 have := c4_ (coP p i) k
 have := bd_co' h hs i
 omega
theorem qt_ {p : List Rat} {s : Nat} (h : bdL p s) (hs : 1 ≤ s) : bdL (aI_ p (-1)) s := df_ fun i => by
 rw [bs_, show coP p i * (-1) = -coP p i by grind, ff_]
 exact bd_co' h hs i
theorem nC_ {p q : List Rat} {s t : Nat} (hp : bdL p s) (hq : bdL q t) (hs : 1 ≤ s) (ht : 1 ≤ t) : bdL (addP p q) (s + t + 1) := df_ fun i => by
 rw [gk_]
 have := hk_ (coP p i) (coP q i)
 have := bd_co' hp hs i
 have := bd_co' hq ht i
 omega
theorem bdL_subP {p q : List Rat} {s t : Nat} (hp : bdL p s) (hq : bdL q t) (hs : 1 ≤ s) (ht : 1 ≤ t) : bdL (subP p q) (s + t + 1) := nC_ hp (qt_ hq ht) hs ht
theorem g4_ {p : List Rat} {s : Nat} (h : bdL p s) : bdL (trimQ p) s := fun q hq => h q (be_ hq)
def shP (i : Nat) (v : List Rat) : List Rat := List.replicate i 0 ++ v
theorem dS_ (i : Nat) (v : List Rat) : (shP i v).length = i + v.length := by simp [shP]
theorem mt_ (i : Nat) (v : List Rat) : shP (i + 1) v = 0 :: shP i v := by simp [shP, List.replicate_succ]
theorem ne_ (v : List Rat) (x : Rat) : ∀ i, evalP (shP i v) x = evalP v x * x ^ i
 | 0 => by simp [shP]
 | i + 1 => by
  rw [mt_, av_, ne_ v x i, Rat.pow_succ]
  grind
theorem iS_ (v : List Rat) (i n : Nat) : coP (shP i v) n = if n < i then 0 else coP v (n - i) := by
 induction i generalizing n with
 | zero => simp [shP]
 | succ i ih =>
  rw [mt_]
  cases n with
  | zero => rw [bN_, if_pos (by omega)]
  | succ n =>
   rw [bq_, ih, Nat.add_sub_add_right]
   by_cases h : n < i
   ·rw [if_pos h, if_pos (by omega)]
   ·rw [if_neg h, if_neg (by omega)]
def mR (p q : List Rat) : Nat → List Rat
 | 0 => []
 | n + 1 => addP (mR p q n) (shP n (aI_ p (coP q n)))
theorem nf_ (p q : List Rat) (x : Rat) : ∀ n, n ≤ q.length → evalP (mR p q n) x = evalP p x * evalP (q.take n) x
 | 0, _ => by simp [mR, aK_]
 | n + 1, h => by
  rw [mR, dz_, nf_ p q x n (by omega), ne_, bb_, gh_ q x n (by omega)]
  grind
theorem trim_mR (p q : List Rat) : ∀ n, trimQ (mR p q n) = mR p q n
 | 0 => rfl
 | n + 1 => a1_ _
theorem ou_ (p q : List Rat) : trimQ (mulP p q) = mulP p q := by
 unfold mulP
 split
 ·rfl
 ·exact a1_ _
theorem mR_ (p q : List Rat) : mR p q q.length = mulP p q := by
 rw [← trim_mR, ← ou_]
 refine gZ_ fun x => ?_
 rw [nf_ p q x _ (Nat.le_refl _), List.take_length, a3_]
theorem pf_ (p q : List Rat) : ∀ n, (mR p q n).length ≤ n + p.length
 | 0 => Nat.zero_le _
 | n + 1 => by
  have h1 := pf_ p q n
  have h2 := j6_ (mR p q n) (shP n (aI_ p (coP q n)))
  have h3 := b7_ p (coP q n)
  rw [dS_] at h2
  rw [mR]
  omega
theorem jz_ {p : List Rat} {a : Rat} {d : Nat} : ∀ n, n ≤ d → mR p (shP d [a]) n = []
 | 0, _ => rfl
 | n + 1, h => by
  rw [mR, jz_ n (by omega)]
  refine trim_nil_iff.2 fun i => ?_
  have h1 : coP (shP d [a]) n = 0 := by rw [iS_, if_pos (by omega)]
  have h2 : coP (tabP (max ([] : List Rat).length (shP n (aI_ p (coP (shP d [a]) n))).length) fun i => coP [] i + coP (shP n (aI_ p (coP (shP d [a]) n))) i) i = coP [] i + coP (shP n (aI_ p (coP (shP d [a]) n))) i := by
   rw [← a6_]; exact gk_ _ _ i
  rw [h2, fq_, iS_, bs_, h1]
  split <;> grind
theorem iz_ {p : List Rat} {a : Rat} {d s : Nat} (hp : bdL p s) (hs : 1 ≤ s) (n : Nat) (hn : n ≤ d + 1) : bdL (mR p (shP d [a]) n) (s + qs a + 2) := by
 by_cases h : n ≤ d
 ·rw [jz_ n h]; exact fun _ h => by cases h
 ·have : n = d + 1 := by omega
  subst this
  refine df_ fun i => ?_
  rw [mR, gk_, jz_ d (Nat.le_refl _), fq_, Rat.zero_add, iS_]
  split
  ·have : qs 0 = 1 := by decide
   omega
  ·rw [bs_, iS_, if_neg (by omega), Nat.sub_self, bN_]
   have := c4_ (coP p (i - d)) a
   have := bd_co' hp hs (i - d)
   omega
theorem coP_mono (d : List Rat) (a : Rat) (k j : Nat) : coP (mulP d (shP k [a])) j = if j < k then 0 else coP d (j - k) * a := by
 have e : mR d (shP k [a]) (shP k [a]).length = mulP d (shP k [a]) := mR_ _ _
 rw [← e, show (shP k [a]).length = k + 1 by rw [dS_]; rfl, mR, gk_, jz_ k (Nat.le_refl _), fq_, Rat.zero_add, iS_, bs_, iS_, if_neg (Nat.lt_irrefl k), Nat.sub_self, bN_]
theorem mU_ {v : List Rat} {n : Nat} (h : trimQ v = v) (hn : v.length = n + 1) : coP v n = leadP v := by
 have := bm_ (l := v) (n := n) (by rw [h]; exact hn)
 rw [h, bn_ (by omega)] at this
 exact Option.some.inj this
theorem step_len {v d : List Rat} (hv : trimQ v = v) (hd : trimQ d = d) (hd0 : d ≠ []) (hl : d.length ≤ v.length) : (subP v (mulP d (shP (v.length - d.length) [leadP v / leadP d]))).length < v.length := by
 have hdl := List.length_pos_iff.2 hd0
 obtain ⟨m, hm⟩ : ∃ m, d.length = m + 1 := ⟨d.length - 1, by omega⟩
 obtain ⟨n, hn⟩ : ∃ n, v.length = n + 1 := ⟨v.length - 1, by omega⟩
 have hld : leadP d ≠ 0 := bp_ (by rw [hd]; exact hd0)
 have key : ∀ j, n ≤ j → coP (subP v (mulP d (shP (v.length - d.length) [leadP v / leadP d]))) j = 0 := fun j hj => by
  rw [mf_, coP_mono, if_neg (by omega)]
  by_cases h : j = n
  ·subst h
   rw [mU_ hv hn, show j - (v.length - d.length) = m by omega, mU_ hd hm]
   grind
  ·rw [cn_ (p := v) (by omega), cn_ (p := d) (by omega)]
   grind
 have h1 := gr_ key
 have h2 : trimQ (subP v (mulP d (shP (v.length - d.length) [leadP v / leadP d]))) = subP v (mulP d (shP (v.length - d.length) [leadP v / leadP d])) := a1_ _
 rw [h2] at h1
 omega
theorem ot_ (p q : List Rat) : trimQ (subP p q) = subP p q := a1_ _
theorem oB_ {v d : List Rat} {b t : Nat} (hv : bdL v b) (hd : bdL d t) (hb : 1 ≤ b) (ht : 1 ≤ t) (hd0 : d ≠ []) (k : Nat) : qs (leadP v / leadP d) ≤ b + t ∧ bdL (mulP d (shP k [leadP v / leadP d])) (2 * t + b + 2) ∧ bdL (subP v (mulP d (shP k [leadP v / leadP d]))) (2 * b + 2 * t + 3) := by
 have h1 := hw_ hv hb
 have h2 := hw_ hd ht
 have h3 := ek_ (leadP v) (leadP d)
 have h4 : bdL (mulP d (shP k [leadP v / leadP d])) (2 * t + b + 2) := by
  have := iz_ (a := leadP v / leadP d) (d := k) hd ht (k + 1) (Nat.le_refl _)
  rw [show k + 1 = (shP k [leadP v / leadP d]).length by rw [dS_]; rfl, mR_] at this
  exact g5_ this (by omega)
 exact ⟨by omega, h4, g5_ (bdL_subP hv h4 hb (by omega)) (by omega)⟩
theorem bdL_sh {v : List Rat} {b : Nat} (h : bdL v b) (hb : 1 ≤ b) (k : Nat) : bdL (shP k v) b := fun q hq => by
 rcases List.mem_append.1 hq with h' | h'
 ·rw [List.eq_of_mem_replicate h']
  have : qs 0 = 1 := by decide
  omega
 ·exact h q h'
theorem trim_div (p q : List Rat) : trimQ (divP p q).1 = (divP p q).1 ∧ trimQ (divP p q).2 = (divP p q).2 := ⟨a1_ _, a1_ _⟩
theorem div_uniq {p q u v : List Rat} (hq : nz q) (h : ∀ x, evalP p x = evalP u x * evalP q x + evalP v x) (hv : (trimQ v).length < (trimQ q).length) : trimQ u = (divP p q).1 ∧ trimQ v = (divP p q).2 := by
 have hqp := List.length_pos_iff.2 hq
 have hd : nz v → dg v < dg q := fun hz => by
  have := List.length_pos_iff.2 hz
  unfold dg; omega
 have e := jy_ hq h hd
 obtain ⟨h1, _⟩ := ea_ p hq
 obtain ⟨t1, t2⟩ := trim_div p q
 refine ⟨?_, by rw [← eqv_trim.1 e]; exact t2⟩
 rw [← t1]
 have hz : ¬ nz (subP u (divP p q).1) := fun hn => by
  have hx := dg_mul' hn hq (r := []) (fun x => by
   have := h x; have := h1 x; have := e x
   rw [bU_, aK_]; grind)
  exact absurd rfl hx.1
 refine gZ_ fun x => ?_
 have := en_ hz x
 rw [bU_] at this
 grind
def ab (x : Rat) : Rat := if x < 0 then -x else x
theorem ab_nn (x : Rat) : 0 ≤ ab x := by unfold ab; split <;> grind
theorem ab_le {x c : Rat} : ab x ≤ c ↔ -c ≤ x ∧ x ≤ c := by unfold ab; split <;> grind
theorem nG_ (x y : Rat) : ab (x + y) ≤ ab x + ab y := by unfold ab; split <;> split <;> split <;> grind
theorem ab_neg (x : Rat) : ab (-x) = ab x := by unfold ab; split <;> split <;> grind
theorem eM_ (x y : Rat) : ab (x * y) = ab x * ab y := by
 have key : ∀ a b : Rat, 0 ≤ a → 0 ≤ b → ab (a * b) = a * b := fun a b ha hb => by
  have := Rat.mul_nonneg ha hb
  unfold ab; rw [if_neg (by grind)]
 by_cases hx : x < 0
 ·by_cases hy : y < 0
  ·have := key (-x) (-y) (by grind) (by grind)
   rw [show x * y = -x * -y by grind, this]
   unfold ab; rw [if_pos hx, if_pos hy]
  ·have := key (-x) y (by grind) (by grind)
   rw [show x * y = -(-x * y) by grind, ab_neg, this]
   unfold ab; rw [if_pos hx, if_neg hy]
 ·by_cases hy : y < 0
  ·have := key x (-y) (by grind) (by grind)
   rw [show x * y = -(x * -y) by grind, ab_neg, this]
   unfold ab; rw [if_neg hx, if_pos hy]
  ·have := key x y (by grind) (by grind)
   rw [this]
   unfold ab; rw [if_neg hx, if_neg hy]
theorem eT_ {a b c d : Rat} (h1 : a ≤ b) (h2 : c ≤ d) (h3 : 0 ≤ c) (h4 : 0 ≤ b) : a * c ≤ b * d := by
 have e1 := Rat.mul_le_mul_of_nonneg_right h1 h3
 have e2 := Rat.mul_le_mul_of_nonneg_left h2 h4
 grind
def bV (R : Rat) : List Rat → Rat
 | [] => 0
 | a :: l => bV R l * R + ab a
theorem bV_nn {R : Rat} (hR : 0 ≤ R) : ∀ l, 0 ≤ bV R l
 | [] => by simp [bV]
 | a :: l => by
  have h1 := Rat.mul_nonneg (bV_nn hR l) hR
  have h2 := ab_nn a
  rw [bV]; grind
theorem fS_ {R x : Rat} (hR : 0 ≤ R) (hx : ab x ≤ R) : ∀ l, ab (evalP l x) ≤ bV R l
 | [] => by rw [aK_, bV]; decide
 | a :: l => by
  have h1 := fS_ hR hx l
  have h2 := eT_ h1 hx (ab_nn x) (bV_nn hR l)
  have h3 := nG_ (evalP l x * x) a
  rw [eM_] at h3
  rw [av_, bV]; grind
def bL (R : Rat) : List Rat → Rat
 | [] => 0
 | _ :: l => bL R l * R + bV R l
theorem bL_nn {R : Rat} (hR : 0 ≤ R) : ∀ l, 0 ≤ bL R l
 | [] => by simp [bL]
 | a :: l => by
  have h1 := Rat.mul_nonneg (bL_nn hR l) hR
  have h2 := bV_nn hR l
  rw [bL]; grind
theorem hT_ {R x y : Rat} (hR : 0 ≤ R) (hx : ab x ≤ R) (hy : ab y ≤ R) : ∀ l, ab (evalP l y - evalP l x) ≤ bL R l * ab (y - x)
 | [] => by
  rw [aK_, aK_, bL, Rat.zero_mul]
  decide +kernel
 | a :: l => by
  have h1 := hT_ hR hx hy l
  have h2 := fS_ hR hx l
  have e : evalP (a :: l) y - evalP (a :: l) x = (evalP l y - evalP l x) * y + evalP l x * (y - x) := by rw [av_, av_]; grind
  have h3 := nG_ ((evalP l y - evalP l x) * y) (evalP l x * (y - x))
  rw [eM_, eM_] at h3
  have hd := ab_nn (y - x)
  have h4 := eT_ h1 hy (ab_nn y) (Rat.mul_nonneg (bL_nn hR l) hd)
  have h5 := Rat.mul_le_mul_of_nonneg_right h2 hd
  rw [e, bL]; grind
def bT (R : Rat) : List Rat → Rat
 | [] => 0
 | _ :: l => bT R l * R + bL R l
theorem bT_nn {R : Rat} (hR : 0 ≤ R) : ∀ l, 0 ≤ bT R l
 | [] => by simp [bT]
 | a :: l => by
  have h1 := Rat.mul_nonneg (bT_nn hR l) hR
  have h2 := bL_nn hR l
  rw [bT]; grind
theorem k7_ {R x y : Rat} (hR : 0 ≤ R) (hx : ab x ≤ R) (hy : ab y ≤ R) : ∀ l, ab (evalP l y - evalP l x - (y - x) * dvE l x) ≤ bT R l * (ab (y - x) * ab (y - x))
 | [] => by
  rw [aK_, aK_, bT, show dvE [] x = 0 from rfl, Rat.zero_mul, Rat.mul_zero]
  decide +kernel
 | a :: l => by
  have h1 := k7_ hR hx hy l
  have h2 := hT_ hR hx hy l
  have e : evalP (a :: l) y - evalP (a :: l) x - (y - x) * dvE (a :: l) x = (evalP l y - evalP l x - (y - x) * dvE l x) * x + (evalP l y - evalP l x) * (y - x) := by rw [av_, av_, cg_]; grind
  have h3 := nG_ ((evalP l y - evalP l x - (y - x) * dvE l x) * x) ((evalP l y - evalP l x) * (y - x))
  rw [eM_, eM_] at h3
  have hd := ab_nn (y - x)
  have h4 := eT_ h1 hx (ab_nn x) (Rat.mul_nonneg (bT_nn hR l) (Rat.mul_nonneg hd hd))
  have h5 := Rat.mul_le_mul_of_nonneg_right h2 hd
  rw [e, bT]; grind
inductive Gsn : Int → List Int → List Int → Prop
 | nil {t : Int} : Gsn t [] []
 | solid {t s : Int} {l l' : List Int} : s ≠ 0 → Gsn s l l' → Gsn t (s :: l) (s :: l')
 | weak {t x y : Int} {l l' : List Int} : (x = 0 ∨ x = t ∨ x = -t) → (y = 0 ∨ y = t ∨ y = -t) → Gsn (-t) l l' → Gsn t (x :: -t :: l) (y :: -t :: l')
theorem jZ_ : ∀ (l : List Int) (n t : Int), chL l n t = n + chL l 0 t
 | [], n, t => by simp [chL]
 | s :: l, n, t => by
  unfold chL
  by_cases hs : s ≠ 0
  ·rw [if_pos hs, if_pos hs, jZ_ l (if s = -t then n + 1 else n), jZ_ l (if s = -t then 0 + 1 else 0)]
   split <;> omega
  ·rw [if_neg hs, if_neg hs]
   exact jZ_ l n t
theorem nr_ {t x : Int} (ht : t ≠ 0) (hx : x = 0 ∨ x = t ∨ x = -t) (l : List Int) (n : Int) : chL (x :: -t :: l) n t = chL l (n + 1) (-t) := by
 rcases hx with rfl | rfl | rfl
 ·rw [chL, if_neg (by simp), chL, if_pos (by omega), if_pos rfl]
 ·rw [chL, if_pos ht, if_neg (by omega), chL, if_pos (by omega), if_pos rfl]
 ·rw [chL, if_pos (by omega), if_pos rfl, chL, if_pos (by omega), if_neg (by omega)]
theorem nt_ {t : Int} {l l' : List Int} (h : Gsn t l l') : t ≠ 0 → ∀ n, chL l n t = chL l' n t := by
 induction h with
 | nil => exact fun _ _ => rfl
 | solid hs _ ih =>
  intro ht n
  rw [chL, if_pos hs, chL, if_pos hs]
  exact ih hs _
 | weak hx hy _ ih =>
  intro ht n
  rw [nr_ ht hx, nr_ ht hy]
  exact ih (by omega) _
theorem ns_ {s : Int} {l l' : List Int} (hs : s ≠ 0) (h : Gsn s l l') : chL (s :: l) 0 0 = chL (s :: l') 0 0 := by
 rw [chL, if_pos hs, chL, if_pos hs]
 exact nt_ h hs _
theorem nu_ {s s' t : Int} {l l' : List Int} (ht : t = 1 ∨ t = -1) (hs : -1 ≤ s ∧ s ≤ 1) (hs' : -1 ≤ s' ∧ s' ≤ 1) (hm : t * s ≤ t * s') (h : Gsn t l l') : chL (s' :: t :: l') 0 0 ≤ chL (s :: t :: l) 0 0 := by
 have ht0 : t ≠ 0 := by omega
 have key : ∀ (u : Int) (k : List Int), -1 ≤ u ∧ u ≤ 1 → chL (u :: t :: k) 0 0 = (if u = -t then 1 else 0) + chL k 0 t := fun u k hu => by
  by_cases h0 : u = 0
  ·subst h0
   rw [chL, if_neg (by simp), chL, if_pos ht0, if_neg (by omega), if_neg (by omega)]
   omega
  ·rw [chL, if_pos h0, if_neg (by omega), chL, if_pos ht0, jZ_]
   by_cases h1 : u = -t
   ·rw [if_pos (by omega), if_pos h1]; omega
   ·rw [if_neg (by omega), if_neg h1]
 rw [key s l hs, key s' l' hs', nt_ h ht0 0]
 rcases ht with rfl | rfl <;> split <;> split <;> omega
theorem num_pos {q : Rat} : 0 < q.num ↔ 0 < q := by
 have h1 := ga_ q
 have h2 : 0 ≤ q.num ↔ 0 ≤ q := Rat.num_nonneg
 have h3 : q.num = 0 ↔ q = 0 := Rat.num_eq_zero
 constructor
 ·intro h
  have a := h2.1 (by omega)
  have b : q ≠ 0 := fun e => by have := h3.2 e; omega
  grind
 ·intro h
  have a := h2.2 (by grind)
  have b : q.num ≠ 0 := fun e => by have := h3.1 e; grind
  omega
theorem f4_ {q : List Rat} {x : Rat} (h : 0 < evalP q x) : sgE x q = 1 := by
 have := sgZ_num_gt.2 h
 have := f3_ (evalP q x).num
 unfold sgE; omega
theorem iZ_ {q : List Rat} {x : Rat} (h : evalP q x < 0) : sgE x q = -1 := by
 have := sgZ_num_lt.2 h
 have := f3_ (evalP q x).num
 unfold sgE; omega
theorem mu_ {q : List Rat} {x : Rat} (h : evalP q x = 0) : sgE x q = 0 := sgZ_num_eq.2 h
theorem fd_ (x : Rat) (q : List Rat) : -1 ≤ sgE x q ∧ sgE x q ≤ 1 := f3_ _
theorem dT_ (x : Rat) (q : List Rat) : (sgE x q = 1 ∧ 0 < evalP q x) ∨ (sgE x q = -1 ∧ evalP q x < 0) ∨ (sgE x q = 0 ∧ evalP q x = 0) := by
 by_cases h : 0 < evalP q x
 ·exact .inl ⟨f4_ h, h⟩
 ·by_cases h' : evalP q x < 0
  ·exact .inr (.inl ⟨iZ_ h', h'⟩)
  ·have e : evalP q x = 0 := by grind
   exact .inr (.inr ⟨mu_ e, e⟩)
theorem mv_ {q : List Rat} {x y : Rat} (h : evalP q x ≤ evalP q y) : sgE x q ≤ sgE y q := by
 rcases dT_ x q with ⟨a, b⟩ | ⟨a, b⟩ | ⟨a, b⟩
 ·rw [a, f4_ (by grind)]; decide
 ·have := fd_ y q; omega
 ·by_cases h0 : 0 < evalP q y
  ·rw [a, f4_ h0]; decide
  ·rw [a, mu_ (by grind)]; decide
theorem part (e : Rat) {d : Rat} (he : 0 < e) (hd : 0 < d) : ∃ h : Rat, 0 < h ∧ h * d = e := by
 refine ⟨e / d, ?_, Rat.div_mul_cancel (by grind)⟩
 have e1 : e / d * d = e := Rat.div_mul_cancel (by grind)
 by_cases h : 0 < e / d
 ·exact h
 ·have h2 : e / d * d ≤ 0 * d := Rat.mul_le_mul_of_nonneg_right (by grind) (by grind)
  rw [Rat.zero_mul] at h2
  grind
theorem less (a b : Rat) (ha : 0 < a) (hb : 0 < b) : ∃ h : Rat, 0 < h ∧ h ≤ a ∧ h ≤ b := by
 by_cases h : a ≤ b
 ·exact ⟨a, ha, by grind, h⟩
 ·exact ⟨b, hb, by grind, by grind⟩
theorem keep (u : List Rat) {R e : Rat} (hR : 0 ≤ R) (he : 0 < e) : ∃ h : Rat, 0 < h ∧ ∀ x y : Rat, ab x ≤ R → ab y ≤ R → ab (y - x) ≤ h → e ≤ ab (evalP u x) → sgE y u = sgE x u ∧ sgE x u ≠ 0 := by
 have hL := bL_nn hR u
 obtain ⟨h, h0, h1⟩ := part e (d := 2 * (bL R u + 1)) he (by grind)
 refine ⟨h, h0, fun x y hx hy hd ha => ?_⟩
 have h2 := hT_ hR hx hy u
 have h3 := Rat.mul_le_mul_of_nonneg_left hd hL
 have h4 : ab (evalP u y - evalP u x) < e := by grind
 have h5 := ab_le (x := evalP u y - evalP u x) (c := ab (evalP u y - evalP u x)) |>.1 (by grind)
 rcases dT_ x u with ⟨a, b⟩ | ⟨a, b⟩ | ⟨a, b⟩
 ·have h6 : ab (evalP u x) = evalP u x := by unfold ab; rw [if_neg (by grind)]
  rw [a, f4_ (by grind)]; decide
 ·have h6 : ab (evalP u x) = -evalP u x := by unfold ab; rw [if_pos b]
  rw [a, iZ_ (by grind)]; decide
 ·have h6 : ab (evalP u x) = 0 := by rw [b]; decide
  grind
inductive Ch : List Rat → List (List Rat) → Prop
 | one {u : List Rat} {c : Rat} : c ≠ 0 → (∀ x, evalP u x = c) → Ch u []
 | pair {u v : List Rat} : Ch v [] → Ch u [v]
 | step {u v w : List Rat} {L : List (List Rat)} {a c : Rat} {q : List Rat} : 0 < a → 0 < c → (∀ x, a * evalP u x + c * evalP w x = evalP q x * evalP v x) → Ch v (w :: L) → Ch u (v :: w :: L)
def Cl (u : List Rat) (L : List (List Rat)) : Prop := ∀ R e : Rat, 0 ≤ R → 0 < e → ∃ h : Rat, 0 < h ∧ ∀ x y : Rat, ab x ≤ R → ab y ≤ R → ab (y - x) ≤ h → e ≤ ab (evalP u x) →
 sgE y u = sgE x u ∧ sgE x u ≠ 0 ∧ Gsn (sgE x u) (L.map (sgE x)) (L.map (sgE y))
theorem Ch.const {v : List Rat} (h : Ch v []) : ∃ c : Rat, c ≠ 0 ∧ ∀ x, evalP v x = c := by
 cases h with
 | one hc h => exact ⟨_, hc, h⟩
theorem Ch.sg {v : List Rat} (h : Ch v []) (x y : Rat) : sgE y v = sgE x v ∧ sgE x v ≠ 0 := by
 obtain ⟨c, hc, h⟩ := h.const
 have e : sgE y v = sgE x v := by unfold sgE; rw [h, h]
 refine ⟨e, ?_⟩
 rcases dT_ x v with ⟨a, b⟩ | ⟨a, b⟩ | ⟨a, b⟩
 ·omega
 ·omega
 ·rw [h] at b; exact absurd b hc
theorem Ch.cl {u : List Rat} {L : List (List Rat)} (H : Ch u L) : Cl u L ∧ ∀ v L', L = v :: L' → Cl v L' := by
 induction H with
 | @one u c hc hu =>
  refine ⟨fun R e hR he => ?_, fun _ _ h => by cases h⟩
  obtain ⟨h, h0, h1⟩ := keep u hR he
  exact ⟨h, h0, fun x y hx hy hd ha => ⟨(h1 x y hx hy hd ha).1, (h1 x y hx hy hd ha).2, .nil⟩⟩
 | @pair u v hv ih =>
  refine ⟨fun R e hR he => ?_, fun _ _ h => by cases h; exact ih.1⟩
  obtain ⟨h, h0, h1⟩ := keep u hR he
  refine ⟨h, h0, fun x y hx hy hd ha => ⟨(h1 x y hx hy hd ha).1, (h1 x y hx hy hd ha).2, ?_⟩⟩
  simp only [List.map_cons, List.map_nil]
  rw [(hv.sg x y).1]
  exact .solid (hv.sg x y).2 .nil
 | @step u v w L a c q ha hc hrel hv ih =>
  refine ⟨fun R e hR he => ?_, fun _ _ h => by cases h; exact ih.1⟩
  have hQ := bV_nn hR q
  have hae := Rat.mul_pos ha he
  obtain ⟨e1, he1, he1'⟩ := part (a * e) (d := 2 * (bV R q + 1)) hae (by grind)
  obtain ⟨e2, he2, he2'⟩ := part (a * e) (d := 2 * c) hae (by grind)
  obtain ⟨h0, p0, k0⟩ := keep u hR he
  obtain ⟨h1, p1, k1⟩ := ih.1 R e1 hR he1
  obtain ⟨h2, p2, k2⟩ := ih.2 w L rfl R e2 hR he2
  obtain ⟨h3, p3, l3, m3⟩ := less h0 h1 p0 p1
  obtain ⟨h, p, l, m⟩ := less h3 h2 p3 p2
  refine ⟨h, p, fun x y hx hy hd hu => ?_⟩
  obtain ⟨s1, s2⟩ := k0 x y hx hy (by grind) hu
  refine ⟨s1, s2, ?_⟩
  by_cases hvx : e1 ≤ ab (evalP v x)
  ·obtain ⟨t1, t2, t3⟩ := k1 x y hx hy (by grind) hvx
   simp only [List.map_cons] at t3 ⊢
   rw [t1]
   exact .solid t2 t3
  ·have b1 := eT_ (fS_ hR hx q) (show ab (evalP v x) ≤ e1 by grind) (ab_nn _) hQ
   rw [← eM_, ← hrel x] at b1
   have b2 := ab_le.1 b1
   have b3 : bV R q * e1 + e1 = a * e / 2 := by grind
   have key : sgE x w = -sgE x u ∧ e2 ≤ ab (evalP w x) := by
    rcases dT_ x u with ⟨g1, g2⟩ | ⟨g1, g2⟩ | ⟨g1, g2⟩
    ·have g3 : ab (evalP u x) = evalP u x := by unfold ab; rw [if_neg (by grind)]
     rw [g3] at hu
     have g4 := Rat.mul_le_mul_of_nonneg_left hu (show 0 ≤ a by grind)
     have g5 : evalP w x ≤ -e2 := by
      by_cases g : evalP w x ≤ -e2
      ·exact g
      ·have := Rat.mul_pos hc (show 0 < evalP w x + e2 by grind)
       grind
     refine ⟨by rw [g1, iZ_ (by grind)], ?_⟩
     unfold ab; rw [if_pos (by grind)]; grind
    ·have g3 : ab (evalP u x) = -evalP u x := by unfold ab; rw [if_pos g2]
     rw [g3] at hu
     have g4 := Rat.mul_le_mul_of_nonneg_left hu (show 0 ≤ a by grind)
     have g5 : e2 ≤ evalP w x := by
      by_cases g : e2 ≤ evalP w x
      ·exact g
      ·have := Rat.mul_pos hc (show 0 < e2 - evalP w x by grind)
       grind
     refine ⟨by rw [g1, f4_ (by grind)]; decide, ?_⟩
     unfold ab; rw [if_neg (by grind)]; grind
    ·exact absurd g1 s2
   obtain ⟨t1, t2, t3⟩ := k2 x y hx hy (by grind) key.2
   simp only [List.map_cons]
   rw [t1, key.1]
   rw [key.1] at t3
   have c1 := fd_ x u
   have c2 := fd_ x v
   have c3 := fd_ y v
   exact .weak (by omega) (by omega) t3
theorem Ch.bez {u : List Rat} {M : List (List Rat)} (H : Ch u M) : ∀ v L, M = v :: L → ∃ a b : List Rat, ∀ x, evalP a x * evalP u x + evalP b x * evalP v x = 1 := by
 induction H with
 | one hc hu => exact fun _ _ h => by cases h
 | @pair u v hv ih =>
  intro v' L h
  cases h
  obtain ⟨c, hc, h⟩ := hv.const
  refine ⟨[], [1 / c], fun x => ?_⟩
  rw [h, aK_, av_, aK_]
  have : 1 / c * c = 1 := Rat.div_mul_cancel hc
  grind
 | @step u v w L a c q ha hc hrel hv ih =>
  intro v' L' h
  cases h
  obtain ⟨a', b', h⟩ := ih w L rfl
  refine ⟨aI_ b' (-(a / c)), addP a' (aI_ (mulP b' q) (1 / c)), fun x => ?_⟩
  rw [bb_, dz_, bb_, a3_]
  have h1 := h x
  have h2 := hrel x
  have h3 : 1 / c * c = 1 := Rat.div_mul_cancel (by grind)
  have h4 : a / c = a * (1 / c) := by grind
  have h5 : evalP w x = (1 / c) * (evalP q x * evalP v x - a * evalP u x) := by
   have : evalP w x = (1 / c * c) * evalP w x := by rw [h3]; grind
   rw [this, ← h2]; grind
  rw [h5] at h1
  rw [h4]; grind
theorem arch (c : Rat) {h : Rat} (hh : 0 < h) : ∃ n : Nat, c ≤ ((n : Int) : Rat) * h := by
 by_cases hc : c ≤ 0
 ·exact ⟨0, by rw [show ((((0 : Nat) : Int)) : Rat) = 0 from rfl, Rat.zero_mul]; exact hc⟩
 ·obtain ⟨k, hk, e⟩ := part c (d := h) (by grind) hh
  refine ⟨k.num.natAbs, ?_⟩
  have h1 : k ≤ ((k.num.natAbs : Int) : Rat) := by
   have hn : 0 < k.num := num_pos.2 hk
   rw [Rat.le_iff]
   show k.num * 1 ≤ (k.num.natAbs : Int) * (k.den : Int)
   have h3 : (k.num.natAbs : Int) = k.num := by omega
   have h4 := Int.mul_le_mul_of_nonneg_left (show (1 : Int) ≤ (k.den : Int) by have := k.den_pos; omega) (show 0 ≤ k.num by omega)
   rw [h3]; exact h4
  have h5 := Rat.mul_le_mul_of_nonneg_right h1 (show 0 ≤ h by grind)
  grind
theorem grid {f : Rat → Int} (r : Int → Int → Prop) (hr : ∀ a, r a a) (ht : ∀ a b c, r a b → r b c → r a c) {lo hi h : Rat} (hh : 0 < h)
    (hs : ∀ x y, lo ≤ x → x ≤ y → y ≤ hi → y - x ≤ h → r (f x) (f y)) : ∀ (n : Nat) (x y : Rat), lo ≤ x → x ≤ y → y ≤ hi → y - x ≤ ((n : Int) : Rat) * h → r (f x) (f y)
 | 0, x, y, h1, h2, h3, h4 => by
  have : y = x := by
   rw [show ((((0 : Nat) : Int)) : Rat) = 0 from rfl, Rat.zero_mul] at h4
   grind
  rw [this]; exact hr _
 | n + 1, x, y, h1, h2, h3, h4 => by
  by_cases hd : y - x ≤ h
  ·exact hs x y h1 h2 h3 hd
  ·refine ht _ _ _ (hs x (x + h) h1 (by grind) (by grind) (by grind)) (grid r hr ht hh hs n (x + h) y (by grind) (by grind) h3 ?_)
   have e : (((n + 1 : Nat) : Int) : Rat) = ((n : Int) : Rat) + 1 := by
    rw [Int.natCast_add, Rat.intCast_add]; rfl
   rw [e] at h4
   grind
theorem way {f : Rat → Int} (r : Int → Int → Prop) (hr : ∀ a, r a a) (ht : ∀ a b c, r a b → r b c → r a c) {x y h : Rat} (hh : 0 < h) (hxy : x ≤ y)
    (hs : ∀ u v, x ≤ u → u ≤ v → v ≤ y → v - u ≤ h → r (f u) (f v)) : r (f x) (f y) := by
 obtain ⟨n, hn⟩ := arch (y - x) hh
 exact grid r hr ht hh hs n x y (by grind) hxy (by grind) hn
def chV (l : List (List Rat)) (x : Rat) : Int := chL (l.map (sgE x)) 0 0
theorem ab_in {x y u : Rat} (h1 : x ≤ u) (h2 : u ≤ y) : ab u ≤ ab x + ab y := by
 have a1 := ab_le (x := x) (c := ab x) |>.1 (by grind)
 have a2 := ab_le (x := y) (c := ab y) |>.1 (by grind)
 have a3 := ab_nn x
 have a4 := ab_nn y
 exact ab_le.2 ⟨by grind, by grind⟩
theorem ab_sub {u v h : Rat} (h1 : u ≤ v) (h2 : v - u ≤ h) : ab (v - u) ≤ h := by
 unfold ab; rw [if_neg (by grind)]; exact h2
theorem Ch.same {u : List Rat} {L : List (List Rat)} (H : Ch u L) {e x y : Rat} (he : 0 < e) (hxy : x ≤ y) (ha : ∀ z, x ≤ z → z ≤ y → e ≤ ab (evalP u z)) : chV (u :: L) x = chV (u :: L) y := by
 obtain ⟨h, h0, h1⟩ := H.cl.1 (ab x + ab y) e (by have := ab_nn x; have := ab_nn y; grind) he
 refine way (f := chV (u :: L)) (· = ·) (fun _ => rfl) (fun _ _ _ => Eq.trans) h0 hxy fun z w a b c d => ?_
 obtain ⟨s1, s2, s3⟩ := h1 z w (ab_in a (by grind)) (ab_in (by grind) c) (ab_sub b d) (ha z a (by grind))
 unfold chV
 simp only [List.map_cons]
 rw [s1]
 exact ns_ s2 s3
theorem outweigh {k T d uz uw D e v : Rat} (hk : 0 < k) (h1 : k * -T ≤ k * (uw - uz - d * D)) (h2 : T * k ≤ d * e) (h3 : d * e ≤ d * v) (h4 : v = k * D) : uz ≤ uw := by
 subst h4
 by_cases h : uz ≤ uw
 ·exact h
 ·have := Rat.mul_pos hk (show 0 < uz - uw by grind)
  grind
theorem outweigh' {k T d uz uw D e v : Rat} (hk : 0 < k) (h1 : k * (uw - uz - d * D) ≤ k * T) (h2 : T * k ≤ d * e) (h3 : d * e ≤ d * -v) (h4 : v = k * D) : uw ≤ uz := by
 subst h4
 by_cases h : uw ≤ uz
 ·exact h
 ·have := Rat.mul_pos hk (show 0 < uw - uz by grind)
  grind
theorem Ch.fall {u v : List Rat} {L : List (List Rat)} {k : Rat} (H : Ch u (v :: L)) (hk : 0 < k) (hd : ∀ x, evalP v x = k * dvE u x) {x y : Rat} (hxy : x ≤ y) : chV (u :: v :: L) y ≤ chV (u :: v :: L) x := by
 have hR : 0 ≤ ab x + ab y := by have := ab_nn x; have := ab_nn y; grind
 generalize hRe : ab x + ab y = R at hR
 obtain ⟨a, b, hb⟩ := H.bez v L rfl
 have hA := bV_nn hR a
 have hB := bV_nn hR b
 obtain ⟨e, he, he'⟩ := part 1 (d := 2 * (bV R a + bV R b + 1)) (by decide +kernel) (by grind)
 obtain ⟨h1, p1, k1⟩ := H.cl.1 R e hR he
 obtain ⟨h2, p2, k2⟩ := H.cl.2 v L rfl R e hR he
 have hT := bT_nn hR u
 obtain ⟨h3, p3, e3⟩ := part e (d := k * (bT R u + 1)) he (Rat.mul_pos hk (by grind))
 obtain ⟨h4, p4, l4, m4⟩ := less h1 h2 p1 p2
 obtain ⟨h, p, l, m⟩ := less h4 h3 p4 p3
 refine way (f := chV (u :: v :: L)) (fun s t => t ≤ s) (fun _ => Int.le_refl _) (fun _ _ _ g1 g2 => Int.le_trans g2 g1) p hxy fun z w g1 g2 g3 g4 => ?_
 have hz : ab z ≤ R := by rw [← hRe]; exact ab_in g1 (by grind)
 have hw : ab w ≤ R := by rw [← hRe]; exact ab_in (by grind) g3
 have hzw : ab (w - z) = w - z := by unfold ab; rw [if_neg (by grind)]
 by_cases hu : e ≤ ab (evalP u z)
 ·obtain ⟨s1, s2, s3⟩ := k1 z w hz hw (by grind) hu
  refine Int.le_of_eq ?_
  unfold chV
  simp only [List.map_cons] at s3 ⊢
  rw [s1]
  exact (ns_ s2 s3).symm
 ·have hv : e ≤ ab (evalP v z) := by
   by_cases hv : e ≤ ab (evalP v z)
   ·exact hv
   ·have n1 := eT_ (fS_ hR hz a) (show ab (evalP u z) ≤ e by grind) (ab_nn _) hA
    have n2 := eT_ (fS_ hR hz b) (show ab (evalP v z) ≤ e by grind) (ab_nn _) hB
    have n3 := nG_ (evalP a z * evalP u z) (evalP b z * evalP v z)
    rw [hb z, eM_, eM_, show ab 1 = 1 by decide +kernel] at n3
    grind
  obtain ⟨s1, s2, s3⟩ := k2 z w hz hw (by grind) hv
  have htan := k7_ hR hz hw u
  rw [hzw] at htan
  have ht2 := ab_le.1 htan
  have hvz := hd z
  -- the derivative outweighs what leaves the tangent
  have small : bT R u * ((w - z) * (w - z)) * k ≤ (w - z) * e := by
   have q1 := Rat.mul_le_mul_of_nonneg_right (show w - z ≤ h3 by grind) (show 0 ≤ w - z by grind)
   have q2 := Rat.mul_le_mul_of_nonneg_left q1 hT
   have q3 := Rat.mul_le_mul_of_nonneg_right q2 (show 0 ≤ k by grind)
   have q4 : (w - z) * e = bT R u * (h3 * (w - z)) * k + (w - z) * h3 * k := by rw [← e3]; grind
   have q5 := Rat.mul_nonneg (Rat.mul_nonneg (show 0 ≤ w - z by grind) (show 0 ≤ h3 by grind)) (show 0 ≤ k by grind)
   grind
  have hwz : 0 ≤ w - z := by grind
  unfold chV
  simp only [List.map_cons]
  rw [s1]
  rcases dT_ z v with ⟨c1, c2⟩ | ⟨c1, c2⟩ | ⟨c1, c2⟩
  ·have c3 : ab (evalP v z) = evalP v z := by unfold ab; rw [if_neg (by grind)]
   rw [c3] at hv
   have c4 := Rat.mul_le_mul_of_nonneg_left hv hwz
   have up : evalP u z ≤ evalP u w := outweigh hk (Rat.mul_le_mul_of_nonneg_left ht2.1 (by grind)) small c4 hvz
   exact nu_ (.inl c1) (fd_ z u) (fd_ w u) (by rw [c1]; have := mv_ up; omega) s3
  ·have c3 : ab (evalP v z) = -evalP v z := by unfold ab; rw [if_pos c2]
   rw [c3] at hv
   have c4 := Rat.mul_le_mul_of_nonneg_left hv hwz
   have up : evalP u w ≤ evalP u z := outweigh' hk (Rat.mul_le_mul_of_nonneg_left ht2.2 (by grind)) small c4 hvz
   exact nu_ (.inr c1) (fd_ z u) (fd_ w u) (by rw [c1]; have := mv_ up; omega) s3
  ·exact absurd c1 s2
theorem maxL2 (m a : Rat) : m ≤ maxL [m, a] ∧ a ≤ maxL [m, a] := by
 have e : maxL [m, a] = if 0 < cmpQ a m then a else m := by
  unfold maxL bR_
  simp only [List.foldl_cons, List.foldl_nil, decide_eq_true_eq]
 rw [e]
 unfold cmpQ
 by_cases h1 : a < m
 ·rw [if_pos h1, if_neg (by decide)]; grind
 ·rw [if_neg h1]
  by_cases h2 : a = m
  ·rw [if_pos h2, if_neg (by decide)]; grind
  ·rw [if_neg h2, if_pos (by decide)]; grind
theorem j9_ (q : Rat) : absQ q = ab q := go_ q
theorem j1_ (lead : Rat) : ∀ (l : List Rat) (m : Rat), m ≤ boL lead l m ∧ ∀ c ∈ l, ab (c / lead) ≤ boL lead l m
 | [], m => ⟨by rw [boL]; grind, fun _ h => by cases h⟩
 | c :: l, m => by
  obtain ⟨h1, h2⟩ := j1_ lead l (maxL [m, absQ (c / lead)])
  obtain ⟨h3, h4⟩ := maxL2 m (absQ (c / lead))
  rw [j9_] at h4
  rw [boL]
  refine ⟨by grind, fun d hd => ?_⟩
  rcases List.mem_cons.1 hd with rfl | hd
  ·rw [j9_] at *; grind
  ·exact h2 d hd
theorem qn_ (p : List Rat) : 1 ≤ bW_ p := by
 have := (j1_ (leadP p) ((trimQ p).take ((trimQ p).length - 1)) 0).1
 unfold bW_; grind
theorem big {B x : Rat} (hB : 1 ≤ B) (hx : x ≤ -B) : ∀ (l : List Rat) (lead : Rat), l.getLast? = some lead → lead ≠ 0 → (∀ c ∈ l.dropLast, ab c ≤ (B - 1) * ab lead) →
    ab lead ≤ ab (evalP l x) ∧ sgE x l = if l.length % 2 = 1 then sgZ lead.num else -sgZ lead.num
 | [], _, h, _, _ => by cases h
 | [a], lead, h, h0, _ => by
  have e : a = lead := by simpa using h
  subst e
  have e : evalP [a] x = a := by rw [av_, aK_]; grind
  refine ⟨by rw [e]; grind, ?_⟩
  unfold sgE
  rw [e]; rfl
 | a :: b :: m, lead, h, h0, hc => by
  rw [List.getLast?_cons_cons] at h
  rw [List.dropLast_cons_cons] at hc
  obtain ⟨i1, i2⟩ := big hB hx (b :: m) lead h h0 fun c hcm => hc c (List.mem_cons_of_mem _ hcm)
  have ha := hc a (List.mem_cons_self ..)
  have e : evalP (a :: b :: m) x = evalP (b :: m) x * x + a := av_ ..
  have flip : (if (a :: b :: m).length % 2 = 1 then sgZ lead.num else -sgZ lead.num) = -sgE x (b :: m) := by
   rw [i2]
   by_cases hq : (b :: m).length % 2 = 1
   ·rw [if_pos hq, if_neg (by simp only [List.length_cons] at hq ⊢; omega)]
   ·rw [if_neg hq, if_pos (by simp only [List.length_cons] at hq ⊢; omega)]; omega
  rw [flip]
  have hE : 0 < ab (evalP (b :: m) x) := by
   have : 0 < ab lead := by unfold ab; split <;> grind
   grind
  have h1 := Rat.mul_le_mul_of_nonneg_left i1 (show 0 ≤ B - 1 by grind)
  have h2 := ab_le.1 (show ab a ≤ (B - 1) * ab (evalP (b :: m) x) by grind)
  rcases dT_ x (b :: m) with ⟨c1, c2⟩ | ⟨c1, c2⟩ | ⟨c1, c2⟩
  ·have h3 : ab (evalP (b :: m) x) = evalP (b :: m) x := by unfold ab; rw [if_neg (by grind)]
   have h4 := Rat.mul_le_mul_of_nonneg_left hx (show 0 ≤ evalP (b :: m) x by grind)
   rw [h3] at h2 i1
   have h5 : evalP (a :: b :: m) x ≤ -evalP (b :: m) x := by rw [e]; grind
   refine ⟨?_, by rw [c1, iZ_ (by grind)]⟩
   have h6 : ab (evalP (a :: b :: m) x) = -evalP (a :: b :: m) x := by unfold ab; rw [if_pos (by grind)]
   grind
  ·have h3 : ab (evalP (b :: m) x) = -evalP (b :: m) x := by unfold ab; rw [if_pos c2]
   have h4 := Rat.mul_le_mul_of_nonneg_left hx (show 0 ≤ -evalP (b :: m) x by grind)
   rw [h3] at h2 i1
   have h5 : -evalP (b :: m) x ≤ evalP (a :: b :: m) x := by rw [e]; grind
   refine ⟨?_, by rw [c1, f4_ (by grind)]; decide⟩
   have h6 : ab (evalP (a :: b :: m) x) = evalP (a :: b :: m) x := by unfold ab; rw [if_neg (by grind)]
   grind
  ·rw [c2] at hE
   exact absurd hE (by decide +kernel)
theorem h7_ {q : List Rat} (h : nz q) {x : Rat} (hx : x ≤ -bW_ q) : ab (leadP q) ≤ ab (evalP q x) ∧ sgE x q = sgI q := by
 have hl := List.length_pos_iff.2 h
 have hg := bm_ (l := q) (n := (trimQ q).length - 1) (by omega)
 have h1 := big (qn_ q) hx (trimQ q) (leadP q) (by rw [List.getLast?_eq_getElem?]; exact hg) (bp_ h) fun c hc => by
  rw [List.dropLast_eq_take] at hc
  have h2 := (j1_ (leadP q) _ 0).2 c hc
  have h3 := eM_ (c / leadP q) (leadP q)
  rw [Rat.div_mul_cancel (bp_ h)] at h3
  rw [h3]
  have h4 := Rat.mul_le_mul_of_nonneg_right h2 (ab_nn (leadP q))
  unfold bW_
  grind
 have e : sgE x (trimQ q) = sgE x q := by unfold sgE; rw [bj_]
 rw [bj_, e] at h1
 refine ⟨h1.1, h1.2.trans ?_⟩
 unfold sgI degP
 by_cases hp : (trimQ q).length % 2 = 1
 ·rw [if_pos hp, if_neg (by omega)]
 ·rw [if_neg hp, if_pos (by omega)]
theorem pg_ : ∀ l : List (List Rat), (∀ q ∈ l, nz q) → ∃ M : Rat, ∀ x, x ≤ -M → l.map (sgE x) = l.map sgI
 | [], _ => ⟨0, fun _ _ => rfl⟩
 | q :: l, h => by
  obtain ⟨M, hM⟩ := pg_ l fun r hr => h r (List.mem_cons_of_mem _ hr)
  have hq := h q (List.mem_cons_self ..)
  by_cases hb : bW_ q ≤ M
  ·exact ⟨M, fun x hx => by rw [List.map_cons, List.map_cons, hM x hx, (h7_ hq (by grind)).2]⟩
  ·exact ⟨bW_ q, fun x hx => by rw [List.map_cons, List.map_cons, hM x (by grind), (h7_ hq hx).2]⟩
end Go.Abs
