/- Part Y09 of the proof. -/
import Derived.Test.YtdhedjbmdnnbkaaGreatDoorY08
import Derived.Test.YtdhedjbmdnnbkaaGreatDoorChecked
import Derived.KernelRfl
set_option linter.all false
namespace Go.Abs
theorem jw_ (p : List Rat) : ∃ k k' : Rat, k * k' = 1 ∧ ∀ x, evalP (a9_ p) x = evalP p x * k := by
 by_cases h : nz p
 ·refine ⟨1 / leadP p, leadP p, Rat.div_mul_cancel (jB_ h), (dx_ h).1⟩
 ·refine ⟨1, 1, by decide +kernel, fun x => ?_⟩
  have e : trimQ p = [] := Decidable.byContradiction h
  unfold a9_
  rw [if_pos e, en_ h, aK_]; decide +kernel
theorem Dv.refl (d : List Rat) : Dv d d := ⟨[1], fun x => by rw [av_, aK_]; grind⟩
theorem Dv.zero (d : List Rat) {r : List Rat} (h : ∀ x, evalP r x = 0) : Dv d r := ⟨[], fun x => by rw [h, aK_]; grind⟩
theorem Dv.trans {a b c : List Rat} (h : Dv a b) (k : Dv b c) : Dv a c := by
 obtain ⟨u, hu⟩ := h
 obtain ⟨v, hv⟩ := k
 exact ⟨mulP v u, fun x => by rw [hv, hu, a3_]; grind⟩
theorem Dv.lin {d p q r : List Rat} {u v : List Rat} (h : Dv d p) (k : Dv d q) (e : ∀ x, evalP r x = evalP u x * evalP p x + evalP v x * evalP q x) : Dv d r := by
 obtain ⟨s, hs⟩ := h
 obtain ⟨t, ht⟩ := k
 exact ⟨addP (mulP u s) (mulP v t), fun x => by rw [e, hs, ht, dz_, a3_, a3_]; grind⟩
theorem Dv.mul {d p q r : List Rat} (h : Dv d p) (e : ∀ x, evalP r x = evalP q x * evalP p x) : Dv d r :=
 h.lin h (u := q) (v := []) fun x => by rw [e, aK_]; grind
theorem Dv.scale {d p r : List Rat} {k : Rat} (h : Dv d p) (e : ∀ x, evalP r x = evalP p x * k) : Dv d r :=
 h.mul (q := [k]) fun x => by rw [e, av_, aK_]; grind
theorem Dv.dg {d p : List Rat} (h : Dv d p) (hp : nz p) : dg d ≤ dg p := by
 obtain ⟨u, hu⟩ := h
 obtain ⟨n1, n2⟩ := dw_ hu hp
 have := (dg_mul' n1 n2 hu).2.1
 omega
theorem mL_ {d : List Rat} (h : nz d) (h0 : dg d = 0) : ∃ c : Rat, c ≠ 0 ∧ ∀ x, evalP d x = c := by
 obtain ⟨e1, e2⟩ := dj_ h
 refine ⟨leadP d, jB_ h, fun x => ?_⟩
 have : trimQ d = trimQ [leadP d] := trim_iff.2 fun i => by
  cases i with
  | zero => rw [bN_, ← e2, h0]
  | succ i => rw [bq_, fq_]; exact e1.2 _ (by omega)
 rw [← bj_, this, bj_, av_, aK_]; grind
theorem nz_one : nz [1] := by unfold nz; decide +kernel
theorem bez : ∀ (n : Nat) (p q : List Rat), (trimQ q).length = n → nz p ∨ nz q → ∃ g a b : List Rat, nz g ∧ Dv g p ∧ Dv g q ∧ ∀ x, evalP g x = evalP a x * evalP p x + evalP b x * evalP q x := by
 intro n
 induction n using Nat.strongRecOn with
 | ind n ih =>
  intro p q hn h
  by_cases hq : nz q
  ·obtain ⟨m1, m2⟩ := ea_ p hq
   have hlt : (trimQ (md p q)).length < n := by
    have := (eE_ p q hq).2
    unfold md; omega
   obtain ⟨g, a, b, g0, g1, g2, g3⟩ := ih _ hlt q (md p q) rfl (.inl hq)
   refine ⟨g, b, subP a (mulP b (divP p q).1), g0, g1.lin g2 (u := (divP p q).1) (v := [1]) fun x => ?_, g1, fun x => ?_⟩
   ·rw [m1, av_, aK_]; grind
   ·rw [g3, bU_, a3_, m1 x]; grind
  ·have hp : nz p := h.resolve_right hq
   exact ⟨p, [1], [], hp, .refl p, .zero p (en_ hq), fun x => by rw [av_, aK_, en_ hq]; grind⟩
theorem gP_ : ∀ (f : Nat) (p q g : List Rat), gcdM f p q = some g → nz p ∨ nz q → nz g ∧ Dv g p ∧ Dv g q ∧ ∃ a b : List Rat, ∀ x, evalP g x = evalP a x * evalP p x + evalP b x * evalP q x
 | 0, _, _, _, h, _ => by cases h
 | f + 1, p, q, g, h, hz => by
  rw [gcdM] at h
  split at h
  ·rename_i h0
   split at h
   ·cases h
    have hq : ¬ nz q := fun e => e h0
    have hp : nz p := hz.resolve_right hq
    obtain ⟨m1, m2, _⟩ := dx_ hp
    obtain ⟨k, k', hk, m⟩ := jw_ p
    refine ⟨m2, ⟨[k'], fun x => by rw [m, av_, aK_]; grind⟩, .zero _ (en_ hq), [k], [], fun x => by rw [m, av_, aK_]; grind⟩
   ·cases h
  ·rename_i h0
   split at h
   ·obtain ⟨m1, _⟩ := ea_ p h0
    obtain ⟨k, k', hk, m⟩ := jw_ (divP p q).2
    obtain ⟨g0, g1, g2, a, b, g3⟩ := gP_ f _ _ _ h (.inl h0)
    refine ⟨g0, g1.lin g2 (u := (divP p q).1) (v := [k']) fun x => ?_, g1, aI_ b k, subP a (aI_ (mulP b (divP p q).1) k), fun x => ?_⟩
    ·rw [m1, m, av_, aK_]
     show _ + evalP (divP p q).2 x = _
     grind
    ·rw [g3, m, bb_, bU_, bb_, a3_, m1 x]
     show _ = _ * (_ + evalP (divP p q).2 x) + _
     grind
   ·cases h
theorem jS_ {p q : List Rat} (h : ∀ x, evalP p x = evalP q x) (x : Rat) : dvE p x = dvE q x := p2_ (trim_iff.1 (gZ_ h)) x
theorem dvE_k {p r : List Rat} {k : Rat} (h : ∀ x, evalP r x = evalP p x * k) (x : Rat) : dvE r x = dvE p x * k := by
 rw [jS_ (q := gs_ p k) (fun x => by rw [h, dL_]) x, iO_]
def pw (d : List Rat) : Nat → List Rat
 | 0 => [1]
 | k + 1 => mulP (pw d k) d
theorem pw_dv (d : List Rat) (k : Nat) (x : Rat) : dvE (pw d (k + 1)) x = (((k + 1 : Nat) : Int) : Rat) * evalP (pw d k) x * dvE d x := by
 induction k with
 | zero =>
  show dvE (mulP [1] d) x = _
  rw [hV_, cg_, aK_, show dvE [] x = 0 from rfl, av_, aK_]
  show _ = ((1 : Int) : Rat) * evalP [1] x * _
  rw [av_, aK_, show (((1 : Int)) : Rat) = 1 from rfl]; grind
 | succ k ih =>
  show dvE (mulP (pw d (k + 1)) d) x = _
  rw [hV_, ih]
  have e : (((k + 1 + 1 : Nat) : Int) : Rat) = (((k + 1 : Nat) : Int) : Rat) + 1 := by rw [Int.natCast_add, Rat.intCast_add]; rfl
  have e2 : evalP (pw d (k + 1)) x = evalP (pw d k) x * evalP d x := a3_ _ _ _
  rw [e, e2]; grind
theorem pw_dg {d : List Rat} (hd : nz d) (k : Nat) : nz (pw d k) ∧ dg (pw d k) = k * dg d := by
 induction k with
 | zero => exact ⟨nz_one, by rw [Nat.zero_mul]; show dg [1] = 0; decide +kernel⟩
 | succ k ih =>
  obtain ⟨a, b, _⟩ := dg_mul ih.1 hd
  exact ⟨a, by show dg (mulP _ _) = _; rw [b, ih.2, Nat.succ_mul]⟩
theorem le_ {d : List Rat} (h : dg d ≠ 0) (hd : nz d) : nz (aB_ d) ∧ dg (aB_ d) < dg d := by
 obtain ⟨⟨e1, e2⟩, _⟩ := dj_ hd
 have h1 : isDeg (aB_ d) (dg d - 1) := by
  refine ⟨?_, fun i hi => ?_⟩
  ·rw [ca_, show dg d - 1 + 1 = dg d by omega]
   intro e
   rcases Rat.mul_eq_zero.1 e with e | e
   ·exact e1 e
   ·have : ((dg d : Nat) : Int) = 0 := by exact_mod_cast e
    omega
  ·rw [ca_, e2 _ (by omega), Rat.zero_mul]
 obtain ⟨a, b, _⟩ := fE_ h1
 exact ⟨a, by omega⟩
theorem sqfree {p s g a b : List Rat} (hp : nz p) (h1 : ∀ x, evalP p x = evalP s x * evalP g x) (h3 : ∀ x, evalP g x = evalP a x * evalP p x + evalP b x * evalP (aB_ p) x) :
    ∀ n d, dg d = n → nz d → Dv d s → Dv d (aB_ s) → dg d = 0 := by
 intro n
 induction n using Nat.strongRecOn with
 | ind n ih =>
  intro d hn hd ⟨u, hu⟩ ⟨v, hv⟩
  by_cases h0 : dg d = 0
  ·exact h0
  exfalso
  obtain ⟨d1, d2⟩ := le_ h0 hd
  obtain ⟨e, a0, b0, e1, e2, e3, e4⟩ := bez _ d (aB_ d) rfl (.inl hd)
  have e5 := e3.dg d1
  have e6 := ih (dg e) (by omega) e rfl e1 (e2.trans ⟨u, hu⟩) (e2.trans ⟨v, hv⟩)
  obtain ⟨c, c0, hc⟩ := mL_ e1 e6
  -- the square divides s
  have hs : ∀ x, dvE s x = dvE u x * evalP d x + evalP u x * dvE d x := fun x => by
   rw [jS_ (q := mulP u d) (fun x => by rw [hu, a3_]) x, hV_]
  have hc1 : 1 / c * c = 1 := Rat.div_mul_cancel c0
  obtain ⟨t, ht⟩ : ∃ t : List Rat, ∀ x, evalP u x = evalP t x * evalP d x := by
   refine ⟨aI_ (addP (mulP a0 u) (mulP b0 (subP v (derL u)))) (1 / c), fun x => ?_⟩
   rw [bb_, dz_, a3_, a3_, bU_, eZ_]
   have k1 := e4 x
   have k2 := hv x
   rw [hc, cm_] at k1
   rw [cm_, hs] at k2
   have k3 : evalP u x = (1 / c * c) * evalP u x := by rw [hc1]; grind
   rw [k3]
   generalize 1 / c = m at *
   grind
  obtain ⟨n1, n2⟩ := dw_ h1 hp
  have key : ∀ k, ∃ w : List Rat, ∀ x, evalP g x = evalP w x * evalP (pw d k) x := by
   intro k
   induction k with
   | zero => exact ⟨g, fun x => by rw [pw, av_, aK_]; grind⟩
   | succ k ihk =>
    obtain ⟨w, hw⟩ := ihk
    obtain ⟨W, hW⟩ : ∃ W, W = mulP t w := ⟨_, rfl⟩
    have q1 : ∀ x, evalP p x = evalP W x * evalP (pw d (k + 2)) x := fun x => by
     rw [h1, hw, hu, ht, hW, a3_, pw, a3_, pw, a3_]; grind
    have q2 : ∀ x, evalP (aB_ p) x = dvE W x * evalP (pw d (k + 2)) x + evalP W x * dvE (pw d (k + 2)) x := fun x => by
     rw [cm_, jS_ (q := mulP W (pw d (k + 2))) (fun x => by rw [q1, a3_]) x, hV_]
    refine ⟨addP (mulP a (mulP W d)) (mulP b (addP (mulP (derL W) d) (mulP (aI_ W (((k + 1 + 1 : Nat) : Int) : Rat)) (derL d)))), fun x => ?_⟩
    have q3 := pw_dv d (k + 1) x
    have q4 : evalP (pw d (k + 2)) x = evalP (pw d (k + 1)) x * evalP d x := a3_ _ _ _
    rw [h3, q2, q1, q3, q4]
    simp only [dz_, a3_, bb_, eZ_]
    grind
  obtain ⟨w, hw⟩ := key (dg g + 1)
  obtain ⟨m1, m2⟩ := dw_ hw n2
  have m3 := (dg_mul' m1 m2 hw).2.1
  rw [(pw_dg hd _).2] at m3
  have m4 : dg g + 1 ≤ (dg g + 1) * dg d := Nat.le_mul_of_pos_right _ (by omega)
  omega
theorem hl_ {p : List Rat} (h : nz p) : ∃ k : Rat, 0 < k ∧ ∀ x, evalP (primP p) x = evalP p x * k := by
 have hD : denL (trimQ p) 1 ≠ 0 := gj_ _ (by decide)
 have hN : numL (denL (trimQ p) 1) (trimQ p) 0 ≠ 0 := by
  intro e
  have h1 := (fF_ (denL (trimQ p) 1) (trimQ p) 0).2
  have h2 := (dM_ (trimQ p) 1).2
  have hl := List.length_pos_iff.2 h
  have hg := bm_ (l := p) (n := (trimQ p).length - 1) (by omega)
  have hm := List.mem_of_getElem? hg
  have h3 := h1 _ hm
  rw [e] at h3
  exact jD_ (h2 _ hm) hD (bp_ h) (Nat.eq_zero_of_zero_dvd h3)
 refine ⟨nQ (denL (trimQ p) 1) / nQ (numL (denL (trimQ p) 1) (trimQ p) 0), ?_, fun x => by unfold primP; rw [bb_, bj_]⟩
 have pos : ∀ n : Nat, n ≠ 0 → (0 : Rat) < nQ n := fun n hn => by
  rw [← num_pos]
  show 0 < (n : Int)
  omega
 obtain ⟨k, k0, e⟩ := part (nQ (denL (trimQ p) 1)) (pos _ hD) (pos _ hN)
 rw [← e, Rat.mul_div_cancel (fun e => hN (nQ_zero.1 e))]
 exact k0
inductive Cx : List Rat → List Rat → List (List Rat) → Prop
 | nil {u n : List Rat} : ¬ nz n → Cx u n []
 | cons {u n v n' q : List Rat} {L : List (List Rat)} {c : Rat} : 0 < c → (∀ x, evalP v x = evalP n x * c) → nz v → (∀ x, evalP n' x = evalP q x * evalP v x - evalP u x) → Cx v n' L → Cx u n (v :: L)
theorem fs_ : ∀ (f k : Nat) (last next : List Rat) (acc out : List (List Rat)), d4_ f k last next acc = some out → ∃ L, out = acc ++ L ∧ Cx last next L
 | _, 0, _, _, _, _, h => by cases h
 | f, k + 1, last, next, acc, out, h => by
  rw [d4_] at h
  split at h
  ·rename_i h0
   cases h
   exact ⟨[], by simp, .nil fun e => e h0⟩
  ·rename_i h0
   split at h
   ·rename_i h1
    obtain ⟨L, e, hL⟩ := fs_ f k _ _ _ _ h
    obtain ⟨c, c0, hc⟩ := hl_ h0
    refine ⟨primP next :: L, by rw [e, List.append_assoc]; rfl, .cons (q := (divP last (primP next)).1) c0 hc h1.2.2 (fun x => ?_) hL⟩
    have := (ea_ last h1.2.2).1 x
    unfold md at this
    rw [bb_, this]; grind
   ·cases h
theorem Cx.ch {u n : List Rat} {L : List (List Rat)} (H : Cx u n L) : nz u → (∀ d, nz d → Dv d u → Dv d n → dg d = 0) → Ch u L ∧ ∀ v L', L = v :: L' → ∃ c : Rat, 0 < c ∧ ∀ x, evalP v x = c * evalP n x := by
 induction H with
 | @nil u n hn =>
  intro hu hd
  obtain ⟨c, c0, hc⟩ := mL_ hu (hd u hu (.refl u) (.zero u (en_ hn)))
  exact ⟨.one c0 hc, fun _ _ h => by cases h⟩
 | @cons u n v n' q L c hc hv hnv hn' hL ih =>
  intro hu hd
  obtain ⟨i1, i2⟩ := ih hnv fun d d0 d1 d2 => hd d d0 (d1.lin d2 (u := q) (v := [-1]) fun x => by rw [hn', av_, aK_]; grind)
   (d1.scale (k := 1 / c) fun x => by
    rw [hv]
    have : c * (1 / c) = 1 := by have := Rat.div_mul_cancel (a := 1) (b := c) (by grind); grind
    generalize 1 / c = m at *
    grind)
  refine ⟨?_, fun _ _ h => by cases h; exact ⟨c, hc, fun x => by rw [hv]; grind⟩⟩
  cases L with
  | nil => exact .pair i1
  | cons w L =>
   obtain ⟨c', c0, hw⟩ := i2 w L rfl
   exact .step (a := c') (c := 1) (q := aI_ q c') c0 (by decide +kernel) (fun x => by rw [hw, hn', bb_]; grind) i1
theorem oG_ {f : Nat} {p s : List Rat} (h : sqfM f p = some s) (hp : nz p) : nz s ∧ ∀ d, nz d → Dv d s → Dv d (aB_ s) → dg d = 0 := by
 unfold sqfM at h
 split at h
 ·cases hg : gcdM f p (aB_ p) with
  | none => rw [hg] at h; cases h
  | some g =>
   rw [hg, Option.bind_some] at h
   split at h
   ·cases h
    obtain ⟨g0, g1, g2, a, b, g3⟩ := gP_ f _ _ _ hg (.inl hp)
    obtain ⟨m1, m2⟩ := ea_ p g0
    obtain ⟨u, hu⟩ := g1
    have hm := jy_ (u := u) (v := []) g0 (fun x => by rw [hu x, aK_]; exact (Rat.add_zero _).symm) (fun e => absurd rfl e)
    have hs : ∀ x, evalP p x = evalP (divP p g).1 x * evalP g x := fun x => by
     have := m1 x
     rw [hm x, aK_] at this
     rw [this]; grind
    obtain ⟨n1, n2⟩ := dw_ hs hp
    obtain ⟨k, k', hk, m⟩ := jw_ (divP p g).1
    refine ⟨(dx_ n1).2.1, fun d d0 d1 d2 => sqfree hp hs g3 _ d rfl d0 (d1.scale (k := k') fun x => by rw [m]; grind) (d2.scale (k := k') fun x => ?_)⟩
    rw [cm_, cm_, dvE_k m x]
    grind
   ·cases h
 ·cases h
theorem qi_ (u : List Rat) (x : Rat) : chV [u] x = 0 := by
 unfold chV
 simp only [List.map_cons, List.map_nil]
 unfold chL chL
 split
 ·rename_i h
  have := fd_ x u
  by_cases e : sgE x u = -0
  ·omega
  ·rw [if_neg e]
 ·rfl
theorem dO_ {f : Nat} {p : List Rat} {c : Cnt} (h : cY_ f p = some c) (hp : nz p) : nz c.p ∧ sqfM f p = some c.p ∧ fb_ f c.p = some c.ch ∧ c.far = chV c.ch (-bW_ c.p) ∧ (∀ x, x ≤ -bW_ c.p → uptoV c x = 0) ∧ ∀ x y, x ≤ y → uptoV c x ≤ uptoV c y := by
 unfold cY_ at h
 cases hs : sqfM f p with
 | none => rw [hs] at h; cases h
 | some s =>
  rw [hs, Option.bind_some] at h
  cases hc : fb_ f s with
  | none => rw [hc] at h; cases h
  | some ch =>
   rw [hc, Option.bind_some] at h
   split at h
   ·rename_i hok
    cases h
    obtain ⟨s0, s1⟩ := oG_ hs hp
    have hc' := hc
    unfold fb_ at hc
    split at hc
    ·obtain ⟨L, e, hL⟩ := fs_ _ _ _ _ _ _ hc
     obtain ⟨k, k0, hk⟩ := hl_ s0
     have hkne : k ≠ 0 := by grind
     have hu0 : nz (primP s) := (fV_ s0 hkne hk).1
     have hk1 : k * (1 / k) = 1 := by have := Rat.div_mul_cancel (a := 1) hkne; grind
     have hk2 : 0 < 1 / k := by
      obtain ⟨m, m0, m1⟩ := part 1 (d := k) (by decide +kernel) k0
      rw [← m1, Rat.mul_div_cancel hkne]; exact m0
     obtain ⟨c1, c2⟩ := hL.ch hu0 fun d d0 d1 d2 => s1 d d0 (d1.scale (k := 1 / k) fun x => by rw [hk]; generalize 1 / k = m at *; grind) d2
     have e' : ch = primP s :: L := e
     subst e'
     have mono : ∀ x y, x ≤ y → chV (primP s :: L) y ≤ chV (primP s :: L) x := fun x y hxy => by
      cases L with
      | nil => rw [qi_, qi_]; exact Int.le_refl _
      | cons v L =>
       obtain ⟨c', c0, hv⟩ := c2 v L rfl
       refine c1.fall (k := c' * (1 / k)) (Rat.mul_pos c0 hk2) (fun x => ?_) hxy
       rw [hv, cm_, dvE_k hk x]
       generalize 1 / k = m at *
       grind
     obtain ⟨M, hM⟩ := pg_ (primP s :: L) fun q hq => (hok.1 q hq).1
     have low : ∀ x, x ≤ -bW_ s → chV (primP s :: L) x = chL ((primP s :: L).map sgI) 0 0 := fun x hx => by
      by_cases hxM : x ≤ -M
      ·unfold chV; rw [hM x hxM]
      ·rw [← c1.same (e := ab (leadP s) * k) (x := -M) (y := x) (Rat.mul_pos (by have := bp_ s0; unfold ab; split <;> grind) k0) (by grind) (fun z z1 z2 => by
        rw [hk, eM_, show ab k = k by unfold ab; rw [if_neg (by grind)]]
        exact Rat.mul_le_mul_of_nonneg_right (h7_ s0 (by grind)).1 (by grind))]
       unfold chV; rw [hM _ (by grind)]
     refine ⟨s0, rfl, hc', (low _ (by grind)).symm, fun x hx => ?_, fun x y hxy => ?_⟩
     ·have := low x hx
      unfold uptoV
      unfold chV at this
      show _ - chL ((primP s :: L).map (sgE x)) 0 0 = 0
      rw [this]; simp
     ·have := mono x y hxy
      unfold uptoV
      unfold chV at this
      show _ - chL ((primP s :: L).map (sgE x)) 0 0 ≤ _ - chL ((primP s :: L).map (sgE y)) 0 0
      omega
    ·cases hc
   ·cases h
def HtF (f : Nat → Rat) (k : Rat) (h : Nat) : Prop := ∀ i, ∃ z : Int, f i * k = (z : Rat) ∧ bl z.natAbs ≤ h
def Ht (p : List Rat) (h : Nat) : Prop := ∃ k : Rat, k ≠ 0 ∧ HtF (coP p) k h
theorem HtF.mono {f : Nat → Rat} {k : Rat} {h h' : Nat} (H : HtF f k h) (hh : h ≤ h') : HtF f k h' := fun i => by
 obtain ⟨z, z1, z2⟩ := H i
 exact ⟨z, z1, Nat.le_trans z2 hh⟩
theorem Ht.mono {p : List Rat} {h h' : Nat} (H : Ht p h) (hh : h ≤ h') : Ht p h' := by
 obtain ⟨k, k0, H⟩ := H
 exact ⟨k, k0, H.mono hh⟩
theorem Ht.scale {p r : List Rat} {h : Nat} {c : Rat} (H : Ht p h) (hc : c ≠ 0) (e : ∀ i, coP r i = coP p i * c) : Ht r h := by
 obtain ⟨k, k0, H⟩ := H
 refine ⟨k / c, fun e => ?_, fun i => ?_⟩
 ·have : k / c * c = k := Rat.div_mul_cancel hc
  rw [e] at this; grind
 ·obtain ⟨z, z1, z2⟩ := H i
  refine ⟨z, ?_, z2⟩
  have : k / c * c = k := Rat.div_mul_cancel hc
  rw [e, ← z1]; grind
theorem Ht.trim {p : List Rat} {h : Nat} (H : Ht p h) : Ht (trimQ p) h := H.scale (c := 1) (by decide +kernel) fun i => by rw [a6_]; grind
theorem Ht.untrim {p : List Rat} {h : Nat} (H : Ht (trimQ p) h) : Ht p h := H.scale (c := 1) (by decide +kernel) fun i => by rw [a6_]; grind
theorem Ht.zero {p : List Rat} (e : ∀ i, coP p i = 0) (h : Nat) : Ht p h := ⟨1, by decide +kernel, fun i => ⟨0, by rw [e]; decide +kernel, Nat.zero_le _⟩⟩
theorem no_ (o : List Rat) (a : Rat) (q : List Rat) (i n : Nat) : ∀ k, coP (rowM o a q i k) n = if i ≤ n ∧ n < i + k ∧ n < o.length then coP o n - a * coP q (n - i) else coP o n
 | 0 => by rw [rowM, if_neg (by omega)]
 | k + 1 => by
  rw [rowM, fX_, no_ o a q i n k, cV_]
  by_cases h : n = i + k ∧ i + k < o.length
  ·rw [if_pos h, if_pos (by omega), fC_ o a q i k (i + k) (by omega), h.1, show i + k - i = k by omega]
  ·rw [if_neg h]
   by_cases h2 : i ≤ n ∧ n < i + k ∧ n < o.length
   ·rw [if_pos h2, if_pos (by omega)]
   ·rw [if_neg h2, if_neg (by omega)]
theorem qs_ {x y : Int} {k : Nat} (hx : bl x.natAbs ≤ k) (hy : bl y.natAbs ≤ k) : bl (x - y).natAbs ≤ k + 1 := by
 rw [Int.sub_eq_add_neg]
 exact lv_ hx (by rwa [Int.natAbs_neg])
theorem p3_ {q : List Rat} {lead l : Rat} {g : Nat} (hl : coP q (q.length - 1) = lead) (h0 : lead ≠ 0) (l0 : l ≠ 0) (hq : HtF (coP q) l g) : ∀ (c : Nat) (u o : List Rat) (k : Rat) (H : Nat), k ≠ 0 → HtF (coP o) k H → HtF (coP u) (k / l) H →
    ∃ k', k' ≠ 0 ∧ HtF (coP (divR q lead c u o).1) (k' / l) (H + c * (g + 1)) ∧ HtF (coP (divR q lead c u o).2) k' (H + c * (g + 1))
 | 0, u, o, k, H, k0, ho, hu => ⟨k, k0, by rw [Nat.zero_mul]; exact hu, by rw [Nat.zero_mul]; exact ho⟩
 | n + 1, u, o, k, H, k0, ho, hu => by
  obtain ⟨zl, zl1, zl2⟩ := hq (q.length - 1)
  rw [hl] at zl1
  have zl0 : (zl : Rat) ≠ 0 := fun e => by
   rw [e] at zl1
   rcases Rat.mul_eq_zero.1 zl1 with e | e
   ·exact h0 e
   ·exact l0 e
  obtain ⟨zt, zt1, zt2⟩ := ho (n + q.length - 1)
  generalize hte : coP o (n + q.length - 1) / lead = t
  have ht : t * lead = coP o (n + q.length - 1) := by rw [← hte]; exact Rat.div_mul_cancel h0
  have hll : k / l * l = k := Rat.div_mul_cancel l0
  have hkl : k * (zl : Rat) / l = k / l * zl := by rw [Rat.div_def, Rat.div_def]; grind
  rw [divR]
  obtain ⟨k', k1, k2, k3⟩ := p3_ hl h0 l0 hq n (u.set n (coP o (n + q.length - 1) / lead)) (if coP o (n + q.length - 1) / lead = 0 then o else rowM o (coP o (n + q.length - 1) / lead) q n q.length) (k * zl) (H + (g + 1)) (fun e => by
   rcases Rat.mul_eq_zero.1 e with e | e
   ·exact k0 e
   ·exact zl0 e) (fun i => by
    rw [hte]
    have plain : ∃ z : Int, coP o i * (k * (zl : Rat)) = (z : Rat) ∧ bl z.natAbs ≤ H + (g + 1) := by
     obtain ⟨z, z1, z2⟩ := ho i
     refine ⟨z * zl, by rw [Rat.intCast_mul, ← z1]; grind, ?_⟩
     have := bk_ z2 zl2
     omega
    split
    ·exact plain
    ·rw [no_]
     split
     ·obtain ⟨z, z1, z2⟩ := ho i
      obtain ⟨zj, y1, y2⟩ := hq (i - n)
      refine ⟨z * zl - zt * zj, ?_, ?_⟩
      ·rw [Rat.intCast_sub, Rat.intCast_mul, Rat.intCast_mul, ← z1, ← zt1, ← y1, ← zl1, ← ht]; grind
      ·have := qs_ (bk_ z2 zl2) (bk_ zt2 y2)
       omega
     ·exact plain) (fun i => by
    rw [hte, jX_, hkl]
    split
    ·refine ⟨zt, ?_, by omega⟩
     rw [← zl1, ← zt1, ← ht]
     have : t * (k / l * (lead * l)) = t * lead * (k / l * l) := by grind
     rw [this, hll]
    ·obtain ⟨z, z1, z2⟩ := hu i
     refine ⟨z * zl, by rw [Rat.intCast_mul, ← z1]; grind, ?_⟩
     have := bk_ z2 zl2
     omega)
  have e : H + (g + 1) + n * (g + 1) = H + (n + 1) * (g + 1) := by rw [Nat.succ_mul]; omega
  rw [e] at k2 k3
  exact ⟨k', k1, k2, k3⟩
theorem jT_ {p q : List Rat} {h g : Nat} (hp : Ht p h) (hq : Ht q g) (h0 : nz q) : Ht (divP p q).1 (h + ((trimQ p).length + 1 - (trimQ q).length) * (g + 1)) ∧ Ht (divP p q).2 (h + ((trimQ p).length + 1 - (trimQ q).length) * (g + 1)) := by
 obtain ⟨k, k0, hp⟩ := hp.trim
 obtain ⟨l, l0, hq⟩ := hq.trim
 have hl := List.length_pos_iff.2 h0
 have hg := bm_ (l := q) (n := (trimQ q).length - 1) (by omega)
 have hc : coP (trimQ q) ((trimQ q).length - 1) = leadP q := by unfold coP; rw [List.getD_eq_getElem?_getD, hg]; rfl
 have hkl : k / l ≠ 0 := fun e => by
  have : k / l * l = k := Rat.div_mul_cancel l0
  rw [e] at this; grind
 obtain ⟨k', k1, k2, k3⟩ := p3_ hc (bp_ h0) l0 hq ((trimQ p).length + 1 - (trimQ q).length) (List.replicate ((trimQ p).length + 1 - (trimQ q).length) 0) (trimQ p) k h k0 hp fun i => by
  refine ⟨0, ?_, Nat.zero_le _⟩
  have : coP (List.replicate ((trimQ p).length + 1 - (trimQ q).length) (0 : Rat)) i = 0 := by
   unfold coP; rw [List.getD_eq_getElem?_getD, List.getElem?_replicate]; split <;> rfl
  rw [this, Rat.zero_mul]; rfl
 have hkl' : k' / l ≠ 0 := fun e => by
  have : k' / l * l = k' := Rat.div_mul_cancel l0
  rw [e] at this; grind
 exact ⟨(show Ht _ _ from ⟨k' / l, hkl', k2⟩).trim, (show Ht _ _ from ⟨k', k1, k3⟩).trim⟩
theorem Ht.of {p : List Rat} {s : Nat} (h : bdL p s) : Ht p (s + 1 + p.length * s) := by
 have hD : denL p 1 ≠ 0 := gj_ _ (by decide)
 have hb := ma_ p 1 h
 have hd := (dM_ p 1).2
 rw [eq_] at hb
 refine ⟨nQ (denL p 1), fun e => hD (nQ_zero.1 e), fun i => ?_⟩
 by_cases hi : i < p.length
 ·have hm := List.mem_of_getElem? (bn_ hi)
  have h1 := fG_ (coP p i) _ (hd _ hm)
  have h2 := lS_ (coP p i) (denL p 1)
  have h3 := h _ hm
  rw [go_] at h1
  by_cases hn : coP p i * nQ (denL p 1) < 0
  ·rw [if_pos hn] at h1
   refine ⟨-(intC (coP p i) (denL p 1) : Int), by rw [Rat.intCast_neg]; grind, ?_⟩
   rw [Int.natAbs_neg, Int.natAbs_natCast]; omega
  ·rw [if_neg hn] at h1
   exact ⟨(intC (coP p i) (denL p 1) : Int), h1, by rw [Int.natAbs_natCast]; omega⟩
 ·refine ⟨0, ?_, Nat.zero_le _⟩
  rw [cn_ (by omega), Rat.zero_mul]; rfl
theorem Ht.derive {p : List Rat} {h : Nat} (H : Ht p h) : Ht (aB_ p) (h + bl p.length) := by
 obtain ⟨k, k0, H⟩ := H
 refine ⟨k, k0, fun i => ?_⟩
 rw [ca_]
 by_cases hi : i + 1 < p.length
 ·obtain ⟨z, z1, z2⟩ := H (i + 1)
  refine ⟨z * ((i + 1 : Nat) : Int), by rw [Rat.intCast_mul, ← z1]; grind, ?_⟩
  have := bk_ z2 (show bl (((i + 1 : Nat) : Int)).natAbs ≤ bl p.length by rw [Int.natAbs_natCast]; exact bG_ (by omega))
  omega
 ·refine ⟨0, ?_, Nat.zero_le _⟩
  rw [cn_ (by omega), Rat.zero_mul, Rat.zero_mul]; rfl
theorem Ht.quot {p : List Rat} {h : Nat} (H : Ht p h) (i j : Nat) (hj : coP p j ≠ 0) (h1 : 1 ≤ h) : qs (coP p i / coP p j) ≤ h := by
 obtain ⟨k, k0, H⟩ := H
 obtain ⟨z, z1, z2⟩ := H i
 obtain ⟨w, w1, w2⟩ := H j
 have w0 : w ≠ 0 := fun e => by
  rw [e] at w1
  rcases Rat.mul_eq_zero.1 w1 with e | e
  ·exact hj e
  ·exact k0 e
 have w0' : (w : Rat) ≠ 0 := fun e => w0 (by exact_mod_cast e)
 have e : coP p i / coP p j = (z : Rat) / (w : Rat) := by
  have a1 : coP p i / coP p j * coP p j = coP p i := Rat.div_mul_cancel hj
  have a2 : (coP p i / coP p j) * (w : Rat) = (z : Rat) := by rw [← w1, ← z1]; grind
  rw [← a2, Rat.mul_div_cancel w0']
 have hpos : 0 < w.natAbs := by omega
 by_cases hw : 0 < w
 ·have e2 : (z : Rat) / (w : Rat) = mkRat z w.natAbs := by
   rw [dZ_]
   show Rat.divInt (z * ((1 : Nat) : Int)) (((1 : Nat) : Int) * w) = _
   rw [← Rat.divInt_ofNat]
   congr 1 <;> omega
  rw [e, e2]
  exact cr_ hpos z2 w2
 ·have e2 : (z : Rat) / (w : Rat) = mkRat (-z) w.natAbs := by
   have e3 : (z : Rat) / (w : Rat) = ((-z : Int) : Rat) / ((-w : Int) : Rat) := by
    have a1 : (z : Rat) / (w : Rat) * (w : Rat) = (z : Rat) := Rat.div_mul_cancel w0'
    rw [Rat.intCast_neg, Rat.intCast_neg]
    generalize (z : Rat) / (w : Rat) = m at *
    have a2 : -(z : Rat) = m * -(w : Rat) := by grind
    rw [a2, Rat.mul_div_cancel (by grind)]
   rw [e3, dZ_]
   show Rat.divInt (-z * ((1 : Nat) : Int)) (((1 : Nat) : Int) * -w) = _
   rw [← Rat.divInt_ofNat]
   congr 1 <;> omega
  rw [e, e2]
  exact cr_ hpos (by rwa [Int.natAbs_neg]) w2
theorem Ht.monic {p : List Rat} {h : Nat} (H : Ht p h) (h1 : 1 ≤ h) : bdL (a9_ p) h ∧ Ht (a9_ p) h := by
 by_cases h0 : nz p
 ·have hm : a9_ p = aI_ p (1 / leadP p) := by unfold a9_; rw [if_neg h0]
  have hk : 1 / leadP p ≠ 0 := fun e => by have := Rat.div_mul_cancel (a := 1) (jB_ h0); rw [e] at this; grind
  refine ⟨df_ fun i => ?_, H.scale hk fun i => by rw [hm, bs_]⟩
  have e : coP (a9_ p) i = coP p i / coP p (dg p) := by
   rw [hm, bs_, (dj_ h0).2, Rat.div_def, Rat.div_def, Rat.one_mul]
  rw [e]
  exact H.quot i _ (dj_ h0).1.1 h1
 ·have e : a9_ p = [] := by unfold a9_; rw [if_pos (Decidable.byContradiction h0)]
  rw [e]
  exact ⟨fun q hq => (by cases hq), .zero (fun i => rfl) _⟩
theorem ng_ (D d : Nat) : ∀ (l : List Rat) (n : Nat), d ∣ n → (∀ c ∈ l, d ∣ intC c D) → d ∣ numL D l n
 | [], _, h, _ => h
 | c :: l, n, h, hc => ng_ D d l _ (Nat.dvd_gcd h (hc c (List.mem_cons_self ..))) fun x hx => hc x (List.mem_cons_of_mem _ hx)
theorem Ht.prim {p : List Rat} {h : Nat} (H : Ht p h) (h0 : nz p) (h1 : 1 ≤ h) : bdL (primP p) h ∧ Ht (primP p) h := by
 obtain ⟨c, c0, hc⟩ := hl_ h0
 have hcc : ∀ i, coP (primP p) i = coP p i * (nQ (denL (trimQ p) 1) / nQ (numL (denL (trimQ p) 1) (trimQ p) 0)) := fun i => by unfold primP; rw [bs_, a6_]
 have hD : denL (trimQ p) 1 ≠ 0 := gj_ _ (by decide)
 have hl := List.length_pos_iff.2 h0
 have hg := bm_ (l := p) (n := (trimQ p).length - 1) (by omega)
 have hm := List.mem_of_getElem? hg
 have hdv := (dM_ (trimQ p) 1).2
 have hnd := (fF_ (denL (trimQ p) 1) (trimQ p) 0).2
 have hdn := ng_ (denL (trimQ p) 1)
 generalize hDe : denL (trimQ p) 1 = D at *
 have hN : numL D (trimQ p) 0 ≠ 0 := fun e => by
  have := hnd _ hm
  rw [e] at this
  exact jD_ (hdv _ hm) hD (bp_ h0) (Nat.eq_zero_of_zero_dvd this)
 have hDq : nQ D ≠ 0 := fun e => hD (nQ_zero.1 e)
 have hNq : nQ (numL D (trimQ p) 0) ≠ 0 := fun e => hN (nQ_zero.1 e)
 refine ⟨df_ fun i => ?_, H.scale (c := nQ D / nQ (numL D (trimQ p) 0)) (fun e => by
  have : nQ D / nQ (numL D (trimQ p) 0) * nQ (numL D (trimQ p) 0) = nQ D := Rat.div_mul_cancel hNq
  rw [e, Rat.zero_mul] at this
  exact hDq this.symm) hcc⟩
 obtain ⟨k, k0, H⟩ := H
 -- k = D * (m / n)
 generalize hr : k / nQ D = r
 have hk : k = r * nQ D := by rw [← hr, Rat.div_mul_cancel hDq]
 have r0 : r ≠ 0 := fun e => by rw [e] at hk; grind
 have rn : r * (nQ r.den) = (r.num : Rat) := by
  have e : (r.num : Rat) / nQ r.den = r := by
   rw [dZ_]
   show Rat.divInt (r.num * ((1 : Nat) : Int)) (((1 : Nat) : Int) * r.den) = _
   rw [show r.num * ((1 : Nat) : Int) = r.num by omega, show ((1 : Nat) : Int) * (r.den : Int) = r.den by omega, Rat.divInt_ofNat, Rat.mkRat_self]
  have := Rat.div_mul_cancel (a := (r.num : Rat)) (b := nQ r.den) (fun e => r.den_nz (nQ_zero.1 e))
  rwa [e] at this
 have co : ∀ j, j < (trimQ p).length → r.den ∣ intC (coP p j) D ∧ ∃ z : Int, (intC (coP p j) D * r.num.natAbs = z.natAbs * r.den ∧ bl z.natAbs ≤ h) := fun j hj => by
  obtain ⟨z, z1, z2⟩ := H j
  have hmj := List.mem_of_getElem? (bn_ hj)
  rw [a6_] at hmj
  have a1 := fG_ (coP p j) D (hdv _ hmj)
  have a2 : intC (coP p j) D * r.num.natAbs = z.natAbs * r.den := by
   have b1 : coP p j * nQ D * (r.num : Rat) = (z : Rat) * nQ r.den := by rw [← z1, hk, ← rn]; grind
   have b2 : ∃ s : Int, coP p j * nQ D = (s : Rat) ∧ s.natAbs = intC (coP p j) D := by
    rw [go_] at a1
    by_cases hn : coP p j * nQ D < 0
    ·rw [if_pos hn] at a1
     exact ⟨-(intC (coP p j) D : Int), by rw [Rat.intCast_neg]; grind, by rw [Int.natAbs_neg, Int.natAbs_natCast]⟩
    ·rw [if_neg hn] at a1
     exact ⟨(intC (coP p j) D : Int), a1, Int.natAbs_natCast _⟩
   obtain ⟨s, s1, s2⟩ := b2
   rw [s1] at b1
   have b3 : s * r.num = z * (r.den : Int) := by
    have : ((s * r.num : Int) : Rat) = ((z * (r.den : Int) : Int) : Rat) := by rw [Rat.intCast_mul, Rat.intCast_mul]; exact b1
    exact_mod_cast this
   have b4 := congrArg Int.natAbs b3
   rw [Int.natAbs_mul, Int.natAbs_mul, s2, Int.natAbs_natCast] at b4
   exact b4
  refine ⟨?_, z, a2, z2⟩
  have hco : Nat.Coprime r.den r.num.natAbs := Nat.coprime_comm.1 r.reduced
  exact hco.dvd_of_dvd_mul_right ⟨z.natAbs, by rw [a2, Nat.mul_comm]⟩
 rw [hcc]
 by_cases hi : i < (trimQ p).length
 ·obtain ⟨z, a2, z2⟩ := (co i hi).2
  have hmi := List.mem_of_getElem? (bn_ hi)
  rw [a6_] at hmi
  have hdN : r.den ∣ numL D (trimQ p) 0 := hdn _ _ _ (Nat.dvd_zero _) fun c hcm => by
   obtain ⟨j, hj⟩ := List.mem_iff_getElem?.1 hcm
   have hjl : j < (trimQ p).length := by
    by_cases h : j < (trimQ p).length
    ·exact h
    ·rw [List.getElem?_eq_none (by omega)] at hj; cases hj
   have e := bn_ hjl
   rw [hj, a6_] at e
   cases e
   exact (co j hjl).1
  have hNi := hnd _ hmi
  have a1 := fG_ (coP p i) D (hdv _ hmi)
  have small : intC (coP p i) D / numL D (trimQ p) 0 ≤ z.natAbs := by
   have q1 : r.den ≤ numL D (trimQ p) 0 := Nat.le_of_dvd (by omega) hdN
   have q2 : 0 < r.num.natAbs := by
    have : r.num ≠ 0 := fun e => r0 (Rat.num_eq_zero.1 e)
    omega
   refine Nat.div_le_of_le_mul ?_
   calc intC (coP p i) D ≤ intC (coP p i) D * r.num.natAbs := Nat.le_mul_of_pos_right _ q2
    _ = z.natAbs * r.den := a2
    _ ≤ numL D (trimQ p) 0 * z.natAbs := by rw [Nat.mul_comm]; exact Nat.mul_le_mul_right _ q1
  have hb : bl (intC (coP p i) D / numL D (trimQ p) 0) ≤ h := Nat.le_trans (bG_ small) z2
  have e1 : absQ (coP p i * (nQ D / nQ (numL D (trimQ p) 0))) = nQ (intC (coP p i) D / numL D (trimQ p) 0) := by
   have e2 : coP p i * (nQ D / nQ (numL D (trimQ p) 0)) = coP p i * nQ D / nQ (numL D (trimQ p) 0) := by rw [Rat.div_def, Rat.div_def]; grind
   have e3 : nQ (intC (coP p i) D) / nQ (numL D (trimQ p) 0) = nQ (intC (coP p i) D / numL D (trimQ p) 0) := by
    rw [mQ_ _ _ hN, kL_ _ _ hN hNi]
   have hpos : (0 : Rat) < nQ (numL D (trimQ p) 0) := by
    rw [← num_pos]; show 0 < ((numL D (trimQ p) 0 : Nat) : Int); omega
   rw [e2, ← e3, ← a1, j9_, j9_, Rat.div_def, Rat.div_def, eM_]
   congr 1
   have : (0 : Rat) < (nQ (numL D (trimQ p) 0))⁻¹ := Rat.inv_pos.2 hpos
   unfold ab; rw [if_neg (by grind)]
  rw [← kB_, e1]
  exact qs_nQ hb h1
 ·have : coP p i = 0 := by rw [← a6_]; exact cn_ (by omega)
  rw [this, Rat.zero_mul]
  exact Nat.le_trans (by decide : qs 0 ≤ 1) h1
def hG : Nat → Nat → Nat → Nat → Nat → Nat → Bool
 | 0, _, _, _, _, _ => false
 | f + 1, m, n, s, t, X => if n = 0 then decide (s ≤ X) else
  decide (2 ^ (m + 1 - n) * (s + 2 * t + 1) ≤ 137438953472) && (List.range n).all fun k => hG f n k t (s + (m + 1 - n) * (t + 1)) X
theorem lU_ : ∀ f m n s t X (p q : List Rat), hG f m n s t X = true → (trimQ p).length = m → (trimQ q).length = n → bdL p s → bdL q t → Ht p s → Ht q t → 1 ≤ s → 1 ≤ t → p.length ≤ 1000 → q.length ≤ 1000 → X ≤ 137438953472 →
    ∃ g, gcdM f p q = some g ∧ g.length ≤ 1000 ∧ Ht g X ∧ bdL g X
 | 0, _, _, _, _, _, _, _, h, _, _, _, _, _, _, _, _, _, _, _ => by cases h
 | f + 1, m, n, s, t, X, p, q, h, hm, hn, hp, hq, kp, kq, hs, ht, hp1, hq1, hX => by
  rw [hG] at h
  rw [gcdM]
  by_cases h0 : n = 0
  ·rw [if_pos h0] at h
   have hsX := of_decide_eq_true h
   have e : trimQ q = [] := List.length_eq_zero_iff.1 (by omega)
   rw [if_pos e, if_pos (gD_ hp (by omega))]
   obtain ⟨a, b⟩ := kp.monic hs
   exact ⟨_, rfl, Nat.le_trans (eU_ p) hp1, b.mono hsX, fun x hx => Nat.le_trans (a x hx) hsX⟩
  rw [if_neg h0] at h
  simp only [Bool.and_eq_true, decide_eq_true_eq, List.all_eq_true, List.mem_range] at h
  obtain ⟨hL, hk⟩ := h
  have hq0 : trimQ q ≠ [] := fun e => by rw [e] at hn; simp at hn; omega
  have hmp := mxL_le hp hs
  have hmq := mxL_le hq ht
  have hmono : 2 ^ (m + 1 - n) * (mxL p + 2 * mxL q + 1) ≤ 2 ^ (m + 1 - n) * (s + 2 * t + 1) := Nat.mul_le_mul_left _ (by omega)
  rw [if_neg hq0, if_pos (show okDiv p q from ⟨by rw [hm, hn]; omega, by omega, by omega⟩)]
  have hd := (jT_ kp kq hq0).2
  rw [hm, hn] at hd
  obtain ⟨b1, b2⟩ := hd.monic (by omega)
  have hlen := (e1_ (p := p) (q := q)).2
  have hml := eU_ (divP p q).2
  have hkn : (trimQ (divP p q).2).length < n := by rw [← hn]; exact (eE_ p q hq0).2
  have hmn : (trimQ (a9_ (divP p q).2)).length = (trimQ (divP p q).2).length := by
   by_cases hz : trimQ (divP p q).2 = []
   ·unfold a9_; rw [if_pos hz, hz]; rfl
   ·unfold a9_; rw [if_neg hz]
    exact es_ fun e => by have := Rat.div_mul_cancel (a := 1) (bp_ hz); rw [e] at this; grind
  exact lU_ f n _ t _ X q _ (hk _ hkn) hn hmn hq b1 kq b2 ht (by omega) hq1 (by omega) hX
def cB : Nat → Nat → Nat → Nat → Nat → Nat → Nat → Bool
 | 0, _, _, _, _, _, _ => false
 | f + 1, m, n, s, t, b, T => if n = 0 then true else
  decide (t ≤ T) && decide ((n + 4) * b ≤ 34359738368) && decide (2 ^ (m + 1 - n) * (s + 2 * t + 1) ≤ 137438953472) &&
   (List.range n).all fun k => cB f n k t (s + (m + 1 - n) * (t + 1)) (2 ^ (m + 1 - n) * (s + 2 * t + 1)) T
theorem lp_ : ∀ k f m n s t b T (last next : List Rat) (acc : List (List Rat)), cB k m n s t b T = true → (trimQ last).length = m → (trimQ next).length = n → next.length = n → bdL last s → Ht last s → Ht next t → bdL next b → 1 ≤ s → 1 ≤ t → 1 ≤ b → last.length ≤ 1000 → next.length ≤ 1000 →
    ∃ out, d4_ f k last next acc = some out ∧ out.length ≤ acc.length + n ∧ ∀ q ∈ out, q ∈ acc ∨ (nz q ∧ q.length ≤ n ∧ bdL q T)
 | 0, _, _, _, _, _, _, _, _, _, _, h, _, _, _, _, _, _, _, _, _, _, _, _ => by cases h
 | k + 1, f, m, n, s, t, b, T, last, next, acc, h, hm, hn, hnl, hl, kl, kn, hnb, hs, ht, hb, hl1, hn1 => by
  rw [cB] at h
  rw [d4_]
  by_cases h0 : n = 0
  ·have e : trimQ next = [] := List.length_eq_zero_iff.1 (by omega)
   rw [if_pos e]
   exact ⟨acc, rfl, by omega, fun q hq => .inl hq⟩
  rw [if_neg h0] at h
  simp only [Bool.and_eq_true, decide_eq_true_eq, List.all_eq_true, List.mem_range] at h
  obtain ⟨⟨⟨hT, hP⟩, hL⟩, hk⟩ := h
  have hq0 : trimQ next ≠ [] := fun e => by rw [e] at hn; simp at hn; omega
  obtain ⟨p1, p2⟩ := kn.prim hq0 ht
  obtain ⟨c, c0, hc⟩ := hl_ hq0
  obtain ⟨d1, d2, _⟩ := fV_ hq0 (show c ≠ 0 by grind) hc
  have hpn : (trimQ (primP next)).length = n := by
   have a1 := List.length_pos_iff.2 d1
   have a2 := List.length_pos_iff.2 hq0
   unfold dg at d2; omega
  have hmb := mxL_le hnb hb
  have hml := mxL_le hl hs
  have hmp := mxL_le p1 ht
  have hpl : (primP next).length = n := by
   unfold primP; unfold primP at hpn
   rw [← hpn]; unfold aI_; rw [a1_]
  have hmono : 2 ^ (m + 1 - n) * (mxL last + 2 * mxL (primP next) + 1) ≤ 2 ^ (m + 1 - n) * (s + 2 * t + 1) := Nat.mul_le_mul_left _ (by omega)
  have hmono2 : (n + 4) * mxL next ≤ (n + 4) * b := Nat.mul_le_mul_left _ hmb
  rw [if_neg hq0, if_pos (show kJ_ next ∧ okDiv last (primP next) ∧ trimQ (primP next) ≠ [] from ⟨⟨by rw [hnl]; omega, by omega⟩, ⟨by rw [hm, hpn]; omega, by omega, by omega⟩, d1⟩)]
  have hd := (jT_ kl p2 d1).2
  rw [hm, hpn] at hd
  have hbd := (hY_ hl p1 hs ht d1 (by rw [hm, hpn]; exact Nat.le_refl _)).2
  have hL1 : 1 ≤ 2 ^ (m + 1 - n) * (s + 2 * t + 1) := Nat.mul_pos (Nat.two_pow_pos _) (by omega)
  have hm1 : (-1 : Rat) ≠ 0 := by decide +kernel
  have hkn : (trimQ (aI_ (divP last (primP next)).2 (-1))).length < n := by rw [es_ hm1, ← hpn]; exact (eE_ last _ d1).2
  have hsl : (aI_ (divP last (primP next)).2 (-1)).length = (trimQ (aI_ (divP last (primP next)).2 (-1))).length := by unfold aI_; rw [a1_]
  obtain ⟨out, o1, o2, o3⟩ := lp_ k f n _ t _ _ T (primP next) (aI_ (divP last (primP next)).2 (-1)) (acc ++ [primP next]) (hk _ hkn) hpn rfl hsl p1 p2 (hd.scale hm1 fun i => bs_ _ _ i)
   (df_ fun i => by
    rw [bs_, show coP (divP last (primP next)).2 i * -1 = -coP (divP last (primP next)).2 i by grind, ff_]
    exact cq_ hbd hL1 i) ht (by omega) hL1 (by omega) (by omega)
  refine ⟨out, o1, ?_, fun q hq => ?_⟩
  ·rw [List.length_append, List.length_singleton] at o2; omega
  ·rcases o3 q hq with h | ⟨a, b', c'⟩
   ·rcases List.mem_append.1 h with h | h
    ·exact .inl h
    ·rw [List.mem_singleton.1 h]
     exact .inr ⟨d1, by omega, fun x hx => Nat.le_trans (p1 x hx) hT⟩
   ·exact .inr ⟨a, by omega, c'⟩
theorem hG_all : ((List.range 8).all fun m => (List.range m).all fun n => hG 9 m n 161 165 20000) = true := by decide +kernel
theorem cB_all : ((List.range 8).all fun m => (List.range m).all fun n => cB 9 m n 140168 140172 140172 20000000) = true := by decide +kernel
theorem d7_ (p : List Rat) (k : Rat) : trimQ (aI_ p k) = aI_ p k := a1_ _
theorem fw_ (p : List Rat) : trimQ (a9_ p) = a9_ p := by
 unfold a9_; split
 ·rfl
 ·exact a1_ _
theorem h2_ {p : List Rat} (h : nz p) : (aB_ p).length < (trimQ p).length := by
 have h0 := List.length_pos_iff.2 h
 have e : aB_ p = aB_ (trimQ p) := by
  have h1 : trimQ (aB_ p) = aB_ p := a1_ _
  have h2 : trimQ (aB_ (trimQ p)) = aB_ (trimQ p) := a1_ _
  rw [← h1, ← h2]
  exact fx_ fun i => by rw [ca_, ca_, a6_]
 have := cX_ (trimQ p)
 rw [e]; omega
theorem h1_ {p : List Rat} {s g : Nat} (hl : (trimQ p).length ≤ 7) (hb : bdL p s) (hs : 1 ≤ s) (hH : Ht p g) : bdL (aB_ p) (s + 4) ∧ Ht (aB_ p) (g + 4) := by
 have e : ∀ i, coP (aB_ p) i = coP (aB_ (trimQ p)) i := fun i => by rw [ca_, ca_, a6_]
 constructor
 ·refine df_ fun i => ?_
  rw [ca_]
  by_cases hi : i + 1 < (trimQ p).length
  ·have h1 := c4_ (coP p (i + 1)) (nQ (i + 1))
   have h2 := qs_nQ (n := i + 1) (k := 3) (bl_le (by omega)) (by decide)
   have h3 := cq_ hb hs (i + 1)
   exact Nat.le_trans h1 (by omega)
  ·rw [← a6_, cn_ (show (trimQ p).length ≤ i + 1 by omega), Rat.zero_mul]
   exact Nat.le_trans (by decide : qs 0 ≤ 1) (by omega)
 ·refine ((hH.trim).derive.scale (c := 1) (r := aB_ p) (by decide +kernel) fun i => by rw [e]; grind).mono ?_
  have : bl (trimQ p).length ≤ 3 := bl_le (by omega)
  omega
theorem oE_ {p : List Rat} (np : nz p) (hl : (trimQ p).length ≤ 7) (hp : p.length ≤ 1000) (hb : bdL p 20) : ∃ s, sqfM 9 p = some s ∧ nz s ∧ s.length ≤ 7 ∧ Ht s 140168 ∧ bdL s 140168 := by
 have hH : Ht p 161 := (Ht.of (s := 20) (p := trimQ p) fun q hq => hb q (be_ hq)).untrim.mono (by omega)
 have hlp := List.length_pos_iff.2 np
 have hdl := h2_ np
 have hdt : trimQ (aB_ p) = aB_ p := a1_ _
 have hd0 := h1_ hl hb (by decide) hH
 have hd : bdL (aB_ p) 165 ∧ Ht (aB_ p) 165 := ⟨fun x hx => Nat.le_trans (hd0.1 x hx) (by decide), hd0.2⟩
 have hg := hG_all
 simp only [List.all_eq_true, List.mem_range] at hg
 obtain ⟨g, g1, g2, g3, g4⟩ := lU_ 9 _ _ 161 165 20000 p (aB_ p) (hg _ (by omega) _ (by rw [hdt]; exact hdl)) rfl rfl (fun x hx => Nat.le_trans (hb x hx) (by decide)) hd.1 hH hd.2 (by decide) (by decide) hp (by omega) (by decide)
 obtain ⟨z0, z1, z2, a, b, z3⟩ := gP_ 9 _ _ _ g1 (.inl np)
 obtain ⟨u, hu⟩ := z1
 obtain ⟨m1, m2⟩ := ea_ p z0
 have hm := jy_ (u := u) (v := []) z0 (fun x => by rw [hu x, aK_]; exact (Rat.add_zero _).symm) (fun e => absurd rfl e)
 have hs : ∀ x, evalP p x = evalP (divP p g).1 x * evalP g x := fun x => by
  have := m1 x
  rw [hm x, aK_] at this
  rw [this]; grind
 obtain ⟨n1, n2⟩ := dw_ hs np
 have e1 := (dg_mul' n1 n2 hs).2.1
 have e2 := (dx_ n1).2.2
 have e3 := (dx_ n1).2.1
 have hlg := List.length_pos_iff.2 z0
 have hls := List.length_pos_iff.2 e3
 have h1 := mxL_le hb (by decide)
 have h2 := mxL_le g4 (by decide)
 have hpow : 2 ^ ((trimQ p).length + 1 - (trimQ g).length) ≤ 2 ^ 7 := Nat.pow_le_pow_right (by decide) (by omega)
 have hmul := Nat.mul_le_mul hpow (show mxL p + 2 * mxL g + 1 ≤ 50000 by omega)
 have hq := (jT_ hH g3 z0).1
 have hrw : ((trimQ p).length + 1 - (trimQ g).length) * (20000 + 1) ≤ 7 * (20000 + 1) := Nat.mul_le_mul_right _ (by omega)
 obtain ⟨q1, q2⟩ := (hq.mono (show _ ≤ 140168 by omega)).monic (by decide)
 refine ⟨a9_ (divP p g).1, ?_, e3, ?_, q2, q1⟩
 ·unfold sqfM
  rw [if_pos ⟨gD_ hb (by decide), by omega⟩, g1, Option.bind_some, if_pos ⟨z0, by omega, by omega, by omega⟩]
 ·have := fw_ (divP p g).1
  rw [← this]
  unfold dg at e1 e2; omega
theorem lg_ {p : List Rat} (np : nz p) (hl : (trimQ p).length ≤ 7) (hp : p.length ≤ 1000) (hb : bdL p 20) : ∃ c, cY_ 9 p = some c ∧ okCnt c ∧ c.ch.length ≤ 8 ∧ (∀ q ∈ c.ch, nz q ∧ q.length ≤ 7 ∧ bdL q 20000000) ∧ nz c.p ∧ c.p.length ≤ 7 ∧ bdL c.p 140168 := by
 obtain ⟨s, s1, s2, s3, s4, s5⟩ := oE_ np hl hp hb
 have hst := aU_ s
 have hsp := List.length_pos_iff.2 s2
 obtain ⟨p1, p2⟩ := s4.prim s2 (by decide)
 obtain ⟨c, c0, hc⟩ := hl_ s2
 obtain ⟨d1, d2, _⟩ := fV_ s2 (show c ≠ 0 by grind) hc
 have hpn : (trimQ (primP s)).length = (trimQ s).length := by
  have a1 := List.length_pos_iff.2 d1
  unfold dg at d2; omega
 have hpl : (primP s).length = (trimQ (primP s)).length := by unfold primP; rw [d7_]
 have hdl := h2_ s2
 have hdt : trimQ (aB_ s) = aB_ s := a1_ _
 have hd := h1_ (by omega) s5 (by decide) s4
 have hC := cB_all
 simp only [List.all_eq_true, List.mem_range] at hC
 obtain ⟨out, o1, o2, o3⟩ := lp_ 9 9 _ _ 140168 140172 140172 20000000 (primP s) (aB_ s) [primP s] (hC (trimQ s).length (by omega) (aB_ s).length hdl) hpn (by rw [hdt]) rfl p1 p2 hd.2 hd.1 (by decide) (by decide) (by decide) (by omega) (by omega)
 have hmx := mxL_le s5 (by decide)
 have hmul := Nat.mul_le_mul (show s.length + 4 ≤ 11 by omega) hmx
 have hst' : fb_ 9 s = some out := by
  unfold fb_
  rw [if_pos ⟨gD_ s5 (by decide), ⟨by omega, by omega⟩, s2⟩]
  exact o1
 have hall : ∀ q ∈ out, nz q ∧ q.length ≤ 7 ∧ bdL q 20000000 := fun q hq => by
  rcases o3 q hq with h | ⟨a, b, d⟩
  ·rw [List.mem_singleton.1 h]
   exact ⟨d1, by omega, fun x hx => Nat.le_trans (p1 x hx) (by decide)⟩
  ·exact ⟨a, by omega, d⟩
 rw [List.length_singleton] at o2
 have hok : okCnt ⟨s, out, chL (out.map sgI) 0 0⟩ := ⟨fun q hq => ⟨(hall q hq).1, by have := (hall q hq).2.1; omega⟩, by show out.length ≤ _; omega, rfl⟩
 refine ⟨⟨s, out, chL (out.map sgI) 0 0⟩, ?_, hok, by show out.length ≤ _; omega, hall, s2, s3, s5⟩
 unfold cY_
 rw [s1, Option.bind_some, hst', Option.bind_some, if_pos hok]
def gsz : Nat → List Rat → List Rat → Nat → Prop
 | 0, _, _, _ => False
 | f + 1, p, q, B => bdL p B ∧ (nz q → bdL q B ∧ gsz f q (a9_ (divP p q).2) B)
theorem hG_top {f m n s t X : Nat} (h : hG f m n s t X = true) (h0 : n ≠ 0) : t ≤ X := by
 cases f with
 | zero => cases h
 | succ f =>
  rw [hG, if_neg h0] at h
  simp only [Bool.and_eq_true, decide_eq_true_eq, List.all_eq_true, List.mem_range] at h
  have := h.2 0 (by omega)
  cases f with
  | zero => cases this
  | succ f =>
   rw [hG, if_pos rfl] at this
   exact of_decide_eq_true this
theorem pn_ : ∀ f m n s t X (p q : List Rat), hG f m n s t X = true → (trimQ p).length = m → (trimQ q).length = n → bdL p s → bdL q t → Ht p s → Ht q t → 1 ≤ s → 1 ≤ t → s ≤ X → gsz f p q X
 | 0, _, _, _, _, _, _, _, h, _, _, _, _, _, _, _, _, _ => by cases h
 | f + 1, m, n, s, t, X, p, q, h, hm, hn, hp, hq, kp, kq, hs, ht, hX => by
  have htop := hG_top h
  rw [hG] at h
  refine ⟨fun x hx => Nat.le_trans (hp x hx) hX, fun hq0 => ?_⟩
  have h0 : n ≠ 0 := by have := List.length_pos_iff.2 hq0; omega
  have htX := htop h0
  rw [if_neg h0] at h
  simp only [Bool.and_eq_true, decide_eq_true_eq, List.all_eq_true, List.mem_range] at h
  obtain ⟨hL, hk⟩ := h
  have hd := (jT_ kp kq hq0).2
  rw [hm, hn] at hd
  obtain ⟨b1, b2⟩ := hd.monic (by omega)
  have hkn : (trimQ (divP p q).2).length < n := by rw [← hn]; exact (eE_ p q hq0).2
  have hmn : (trimQ (a9_ (divP p q).2)).length = (trimQ (divP p q).2).length := by
   by_cases hz : trimQ (divP p q).2 = []
   ·unfold a9_; rw [if_pos hz, hz]; rfl
   ·unfold a9_; rw [if_neg hz]
    exact es_ fun e => by have := Rat.div_mul_cancel (a := 1) (bp_ hz); rw [e] at this; grind
  exact ⟨fun x hx => Nat.le_trans (hq x hx) htX, pn_ f n _ t _ X q _ (hk _ hkn) hn hmn hq b1 kq b2 ht (by omega) htX⟩
theorem f5_ {p q : List Rat} {k l : Rat} (h : ∀ i, coP p i * k = coP q i * l) : aI_ p k = aI_ q l := by
 have h1 := d7_ p k
 have h2 := d7_ q l
 rw [← h1, ← h2]
 exact fx_ fun i => by rw [bs_, bs_, h]
theorem hs_ (p : List Rat) : a9_ (trimQ p) = a9_ p := by
 unfold a9_
 rw [a1_, gd_]
 split
 ·rfl
 ·exact f5_ fun i => by rw [a6_]
def denP : List Rat → Nat → Nat
 | [], k => k
 | c :: l, k => denP l (k * c.den)
theorem nm_ : ∀ (l : List Rat) (d k : Nat), d ∣ k → denL l d ∣ denP l k
 | [], _, _, h => h
 | c :: l, d, k, h => nm_ l _ _ (Nat.lcm_dvd (Nat.dvd_trans h (Nat.dvd_mul_right _ _)) (Nat.dvd_mul_left _ _))
theorem l9_ : ∀ (l : List Rat) {k : Nat}, k ≠ 0 → denP l k ≠ 0
 | [], _, h => h
 | c :: l, _, h => l9_ l (Nat.mul_ne_zero h c.den_nz)
theorem p8_ {s : Nat} : ∀ (l : List Rat) (k : Nat), bdL l s → bl (denP l k) ≤ bl k + l.length * s
 | [], k, _ => by simp [denP]
 | c :: l, k, h => by
  have h1 := p8_ l (k * c.den) fun q hq => h q (List.mem_cons_of_mem _ hq)
  have h2 := dD_ k c.den
  have h3 := bv_ c
  have h4 := h c (List.mem_cons_self ..)
  rw [denP, List.length_cons, Nat.succ_mul]
  omega
def gcdN : List Rat → Nat → Nat
 | [], g => g
 | c :: l, g => gcdN l (Nat.gcd g (absQ c).num.natAbs)
theorem pm_ {D m : Nat} (hm : m ≠ 0) : ∀ (l : List Rat) (n : Nat), (∀ c ∈ l, c.den ∣ D) → gcdN (l.map fun c => c * nQ (D * m)) (n * m) = numL D l n * m
 | [], n, _ => rfl
 | c :: l, n, h => by
  have hc := h c (List.mem_cons_self ..)
  have h1 := fG_ c (D * m) (Nat.dvd_trans hc (Nat.dvd_mul_right _ _))
  have h2 : intC c (D * m) = intC c D * m := by
   obtain ⟨k, hk⟩ := hc
   have hpos : 0 < c.den := c.den_pos
   have e1 : D * m / c.den = k * m := by rw [hk, Nat.mul_assoc, Nat.mul_div_cancel_left _ hpos]
   have e2 : D / c.den = k := by rw [hk, Nat.mul_div_cancel_left _ hpos]
   unfold intC
   rw [e1, e2, Nat.mul_assoc]
  rw [List.map_cons, gcdN, h1, h2]
  show gcdN _ (Nat.gcd (n * m) ((intC c D * m : Nat) : Int).natAbs) = _
  rw [Int.natAbs_natCast, Nat.gcd_mul_right, numL]
  exact pm_ hm l _ fun x hx => h x (List.mem_cons_of_mem _ hx)
theorem oz_ (p : List Rat) (k : Rat) : tabP p.length (fun i => coP p i * k) = p.map fun c => c * k := by
 apply List.ext_getElem?
 intro i
 unfold tabP
 rw [List.getElem?_map, List.getElem?_map]
 by_cases hi : i < p.length
 ·rw [List.getElem?_range hi, bn_ hi]; rfl
 ·rw [List.getElem?_eq_none (by simp; omega), List.getElem?_eq_none (by omega)]; rfl
theorem oN_ {p : List Rat} {k : Rat} (hp : trimQ p = p) (hk : k ≠ 0) : aI_ p k = p.map fun c => c * k := by
 unfold aI_
 rw [oz_]
 have h1 := es_ (p := p) hk
 unfold aI_ at h1
 rw [oz_, a1_, hp] at h1
 have h2 := fy_ (p.map fun c => c * k)
 rw [h2, h1, List.take_of_length_le (by simp)]
theorem prim_doc {p : List Rat} (h : nz p) : aI_ (aI_ (trimQ p) (nQ (denP (trimQ p) 1))) (1 / nQ (gcdN (aI_ (trimQ p) (nQ (denP (trimQ p) 1))) 0)) = primP p ∧ gcdN (aI_ (trimQ p) (nQ (denP (trimQ p) 1))) 0 ≠ 0 := by
 have hD0 : denL (trimQ p) 1 ≠ 0 := gj_ _ (by decide)
 have hK0 : denP (trimQ p) 1 ≠ 0 := l9_ _ (by decide)
 obtain ⟨m, hm⟩ := nm_ (trimQ p) 1 1 (Nat.dvd_refl 1)
 have hm0 : m ≠ 0 := fun e => hK0 (by rw [hm, e, Nat.mul_zero])
 have hg := pm_ hm0 (trimQ p) 0 (dM_ (trimQ p) 1).2
 have hN0 : numL (denL (trimQ p) 1) (trimQ p) 0 ≠ 0 := by
  intro e
  have h1 := (fF_ (denL (trimQ p) 1) (trimQ p) 0).2
  have h2 := (dM_ (trimQ p) 1).2
  have hl := List.length_pos_iff.2 h
  have hg := bm_ (l := p) (n := (trimQ p).length - 1) (by omega)
  have hmm := List.mem_of_getElem? hg
  have h3 := h1 _ hmm
  rw [e] at h3
  exact jD_ (h2 _ hmm) hD0 (bp_ h) (Nat.eq_zero_of_zero_dvd h3)
 have hmap : aI_ (trimQ p) (nQ (denP (trimQ p) 1)) = (trimQ p).map fun c => c * nQ (denP (trimQ p) 1) := oN_ (a1_ p) (fun e => hK0 (nQ_zero.1 e))
 rw [Nat.zero_mul, ← hm, ← hmap] at hg
 refine ⟨?_, by rw [hg]; exact Nat.mul_ne_zero hN0 hm0⟩
 rw [hg]
 unfold primP
 refine f5_ fun i => ?_
 rw [bs_, hm, ← mP_, ← mP_]
 have hmq : nQ m ≠ 0 := fun e => hm0 (nQ_zero.1 e)
 have hNq : nQ (numL (denL (trimQ p) 1) (trimQ p) 0) ≠ 0 := fun e => hN0 (nQ_zero.1 e)
 generalize nQ m = M at *
 generalize nQ (numL (denL (trimQ p) 1) (trimQ p) 0) = N at *
 generalize nQ (denL (trimQ p) 1) = D
 have hNM : N * M ≠ 0 := fun e => (Rat.mul_eq_zero.1 e).elim hNq hmq
 have e1 : 1 / (N * M) * (N * M) = 1 := Rat.div_mul_cancel hNM
 have e2 : D / N * N = D := Rat.div_mul_cancel hNq
 generalize 1 / (N * M) = A at *
 generalize D / N = B at *
 have : A * N * M * (D - B * N) = 0 := by rw [e2]; grind
 have e3 : D = B * N := e2.symm
 rw [e3]
 grind
theorem root_dv {g : List Rat} {a : Rat} (h : evalP g a = 0) : ∃ w : List Rat, ∀ x, evalP g x = evalP w x * evalP [-a, 1] x := by
 have hd : nz [-a, 1] := by
  intro e
  have := trim_nil_iff.1 e 1
  rw [bq_, bN_] at this
  exact absurd this (by decide +kernel)
 have hdd : dg [-a, 1] = 1 := (fE_ (n := 1) ⟨by rw [bq_, bN_]; decide +kernel, fun i hi => by
  obtain ⟨j, rfl⟩ : ∃ j, i = j + 2 := ⟨i - 2, by omega⟩
  rfl⟩).2.1
 obtain ⟨m1, m2⟩ := ea_ g hd
 have hr : ∀ x, evalP (md g [-a, 1]) x = 0 := by
  by_cases hn : nz (md g [-a, 1])
  ·obtain ⟨c, c0, hc⟩ := mL_ hn (by have := m2 hn; omega)
   have := m1 a
   rw [h, iN_, hc] at this
   exact absurd (by grind) c0
  ·exact en_ hn
 exact ⟨(divP g [-a, 1]).1, fun x => by rw [m1 x, hr]; grind⟩
theorem root_sqf {p s g : List Rat} (hp : nz p) (h1 : ∀ x, evalP p x = evalP s x * evalP g x) (h2 : Dv g (aB_ p)) {a : Rat} (ha : evalP p a = 0) : evalP s a = 0 := by
 by_cases hs : evalP s a = 0
 ·exact hs
 exfalso
 obtain ⟨n1, n2⟩ := dw_ h1 hp
 obtain ⟨v, hv⟩ := h2
 have hdn : nz [-a, 1] := by
  intro e
  have := trim_nil_iff.1 e 1
  rw [bq_, bN_] at this
  exact absurd this (by decide +kernel)
 have hdd : dg [-a, 1] = 1 := (fE_ (n := 1) ⟨by rw [bq_, bN_]; decide +kernel, fun i hi => by
  obtain ⟨j, rfl⟩ : ∃ j, i = j + 2 := ⟨i - 2, by omega⟩
  rfl⟩).2.1
 have hda : evalP [-a, 1] a = 0 := by rw [iN_]; grind
 have hdv : ∀ x, dvE [-a, 1] x = 1 := fun x => by
  rw [cg_, cg_, av_, aK_, show dvE [] x = 0 from rfl]; grind
 have key : ∀ k, ∃ w : List Rat, ∀ x, evalP g x = evalP w x * evalP (pw [-a, 1] k) x := by
  intro k
  induction k with
  | zero => exact ⟨g, fun x => by rw [pw, av_, aK_]; grind⟩
  | succ k ihk =>
   obtain ⟨w, hw⟩ := ihk
   have hwa : evalP w a = 0 := by
    cases k with
    | zero =>
     have e := hw a
     rw [pw, av_, aK_] at e
     have e2 := h1 a
     rw [ha] at e2
     rcases Rat.mul_eq_zero.1 e2.symm with e3 | e3
     ·exact absurd e3 hs
     ·rw [e3] at e; grind
    | succ k =>
     obtain ⟨W, hW⟩ : ∃ W, W = mulP s w := ⟨_, rfl⟩
     have q1 : ∀ x, evalP p x = evalP W x * evalP (pw [-a, 1] (k + 1)) x := fun x => by rw [h1, hw, hW, a3_]; grind
     have q2 : ∀ x, evalP (aB_ p) x = dvE W x * evalP (pw [-a, 1] (k + 1)) x + evalP W x * dvE (pw [-a, 1] (k + 1)) x := fun x => by
      rw [cm_, jS_ (q := mulP W (pw [-a, 1] (k + 1))) (fun x => by rw [q1, a3_]) x, hV_]
     obtain ⟨Z, hZ⟩ : ∃ Z, Z = subP (aI_ W (((k + 1 : Nat) : Int) : Rat)) (mulP (subP (mulP v w) (derL W)) [-a, 1]) := ⟨_, rfl⟩
     have q3 : ∀ x, evalP Z x * evalP (pw [-a, 1] k) x = 0 := fun x => by
      have e1 := q2 x
      have e2 := pw_dv [-a, 1] k x
      have e4 : evalP (pw [-a, 1] (k + 1)) x = evalP (pw [-a, 1] k) x * evalP [-a, 1] x := a3_ _ _ _
      rw [hv, hw, e2, hdv, e4] at e1
      rw [hZ, bU_, bb_, a3_, bU_, a3_, eZ_]
      grind
     have q4 : ¬ nz Z := fun hz => by
      have := (dg_mul' hz (pw_dg hdn k).1 (r := []) (fun x => by rw [q3, aK_])).1
      exact this rfl
     have q5 := en_ q4 a
     rw [hZ, bU_, bb_, a3_, hda, hW, a3_] at q5
     have q6 : evalP s a * evalP w a * (((k + 1 : Nat) : Int) : Rat) = 0 := by grind
     rcases Rat.mul_eq_zero.1 q6 with e | e
     ·exact (Rat.mul_eq_zero.1 e).resolve_left hs
     ·have : ((k + 1 : Nat) : Int) = 0 := by exact_mod_cast e
      omega
   obtain ⟨u, hu⟩ := root_dv hwa
   exact ⟨u, fun x => by rw [hw, hu, pw, a3_]; grind⟩
 obtain ⟨w, hw⟩ := key (dg g + 1)
 obtain ⟨m1, m2⟩ := dw_ hw n2
 have m3 := (dg_mul' m1 m2 hw).2.1
 rw [(pw_dg hdn _).2, hdd] at m3
 omega
theorem oF_ {f : Nat} {p s : List Rat} (h : sqfM f p = some s) (hp : nz p) (a : Rat) : evalP s a = 0 ↔ evalP p a = 0 := by
 unfold sqfM at h
 split at h
 ·cases hg : gcdM f p (aB_ p) with
  | none => rw [hg] at h; cases h
  | some g =>
   rw [hg, Option.bind_some] at h
   split at h
   ·cases h
    obtain ⟨g0, g1, g2, a', b, g3⟩ := gP_ f _ _ _ hg (.inl hp)
    obtain ⟨m1, m2⟩ := ea_ p g0
    obtain ⟨u, hu⟩ := g1
    have hm := jy_ (u := u) (v := []) g0 (fun x => by rw [hu x, aK_]; exact (Rat.add_zero _).symm) (fun e => absurd rfl e)
    have hs : ∀ x, evalP p x = evalP (divP p g).1 x * evalP g x := fun x => by
     have := m1 x
     rw [hm x, aK_] at this
     rw [this]; grind
    obtain ⟨k, k', hk, m⟩ := jw_ (divP p g).1
    have hk0 : k ≠ 0 := fun e => by rw [e] at hk; grind
    rw [m]
    constructor
    ·intro e
     rcases Rat.mul_eq_zero.1 e with e | e
     ·rw [hs, e]; grind
     ·exact absurd e hk0
    ·intro e
     rw [root_sqf hp hs g2 e]; grind
   ·cases h
 ·cases h
theorem boL_qs {lead : Rat} {s : Nat} (hl : qs lead ≤ s) : ∀ (l : List Rat) (m : Rat), bdL l s → qs m ≤ 2 * s + 1 → qs (boL lead l m) ≤ 2 * s + 1
 | [], m, _, h => h
 | c :: l, m, hb, h => by
  rw [boL]
  refine boL_qs hl l _ (fun q hq => hb q (List.mem_cons_of_mem _ hq)) (lQ_ (fun x hx => ?_) (Nat.le_add_left 1 _))
  have h1 := hb c (List.mem_cons_self ..)
  have h2 := ek_ c lead
  rcases List.mem_cons.1 hx with rfl | hx
  ·exact h
  ·rw [List.mem_singleton.1 hx, kB_]; omega
theorem bound_qs {p : List Rat} {s : Nat} (h : bdL p s) (hs : 1 ≤ s) : qs (bW_ p) ≤ 2 * s + 3 := by
 have h1 := boL_qs (hw_ h hs) ((trimQ p).take ((trimQ p).length - 1)) 0 (fun q hq => h q (be_ (List.mem_of_mem_take hq))) (Nat.le_trans (by decide : qs 0 ≤ 1) (Nat.le_add_left 1 _))
 have h2 := hk_ (boL (leadP p) ((trimQ p).take ((trimQ p).length - 1)) 0) 1
 have h3 := it_
 unfold bW_; omega
structure CN (p : List Rat) (c : Cnt) : Prop where
 np : nz p
 pl : p.length ≤ 7
 pb : bdL p 20
 hc : cY_ 9 p = some c
 ok : okCnt c
 cl : c.ch.length ≤ 8
 all : ∀ q ∈ c.ch, nz q ∧ q.length ≤ 7 ∧ bdL q 20000000
 sn : nz c.p
 sl : c.p.length ≤ 7
 sb : bdL c.p 140168
 sz : gsz 9 p (aB_ p) 20000
 gb : ∀ g, gcdM 9 p (aB_ p) = some g → bdL g 20000 ∧ g.length ≤ 1000
theorem CN.ex {p : List Rat} (np : nz p) (hl : p.length ≤ 7) (hb : bdL p 20) : ∃ c, CN p c := by
 have htl := aU_ p
 obtain ⟨c, h1, h2, h3, h4, h5, h6, h7⟩ := lg_ np (by omega) (by omega) hb
 have hH : Ht p 161 := (Ht.of (s := 20) (p := trimQ p) fun q hq => hb q (be_ hq)).untrim.mono (by omega)
 have hlp := List.length_pos_iff.2 np
 have hdl := h2_ np
 have hdt : trimQ (aB_ p) = aB_ p := a1_ _
 have hd0 := h1_ (by omega) hb (by decide) hH
 have hd : bdL (aB_ p) 165 ∧ Ht (aB_ p) 165 := ⟨fun x hx => Nat.le_trans (hd0.1 x hx) (by decide), hd0.2⟩
 have hg := hG_all
 simp only [List.all_eq_true, List.mem_range] at hg
 have hG := hg (trimQ p).length (by omega) (aB_ p).length hdl
 have hb' : bdL p 161 := fun x hx => Nat.le_trans (hb x hx) (by decide)
 refine ⟨c, np, hl, hb, h1, h2, h3, h4, h5, h6, h7, pn_ 9 _ _ 161 165 20000 p (aB_ p) hG rfl (by rw [hdt]) hb' hd.1 hH hd.2 (by decide) (by decide) (by decide), fun g hgm => ?_⟩
 obtain ⟨g', g1, g2, g3, g4⟩ := lU_ 9 _ _ 161 165 20000 p (aB_ p) hG rfl (by rw [hdt]) hb' hd.1 hH hd.2 (by decide) (by decide) (by omega) (by omega) (by decide)
 rw [g1] at hgm
 cases hgm
 exact ⟨g4, g2⟩
theorem CN.upto {p : List Rat} {c : Cnt} (h : CN p c) {x : Rat} (hx : qs x ≤ 1000000) : okUp c x := ⟨h.ok, fun q hq => by
 obtain ⟨_, a, b⟩ := h.all q hq
 have := mxL_le b (by decide)
 have h2 := Nat.mul_le_mul a (show mxL q + qs x + 1 ≤ 21000001 by omega)
 exact ⟨by omega, by omega⟩⟩
theorem CN.below {p : List Rat} {c : Cnt} (h : CN p c) {x : Rat} (hx : qs x ≤ 1000000) : okBe c x := ⟨h.upto hx, by
 have := mxL_le h.sb (by decide)
 have h2 := Nat.mul_le_mul h.sl (show mxL c.p + qs x + 1 ≤ 21000001 by omega)
 have h3 := h.sl
 exact ⟨by omega, by omega⟩⟩
theorem CN.root {p : List Rat} {c : Cnt} (h : CN p c) (a : Rat) : evalP c.p a = 0 ↔ evalP p a = 0 := oF_ (dO_ h.hc h.np).2.1 h.np a

end Go.Abs
namespace Go.Proofs.YtdhedjbmdnnbkaaGreatDoor
open Go.Abs
set_option maxRecDepth 20000
theorem hmix : Tryz.prog.follows .mixedOrders = true := by kernel_rfl
instance tz_2 : TZ Tryz.prog 2 [Value.int IntKind.i64 0] := ⟨by kernel_rfl⟩
instance ts_2 : TS Tryz.prog 2 1 := ⟨by kernel_rfl⟩
instance tg_2 : TG Tryz.prog 2 false := ⟨by kernel_rfl⟩
instance tb_2 : TB Tryz.prog 2 8 := ⟨by kernel_rfl⟩
instance tu_2 : TU Tryz.prog 2 (.int .i64) := ⟨by kernel_rfl⟩
instance tz_3 : TZ Tryz.prog 3 [Value.int IntKind.i64 0] := ⟨by kernel_rfl⟩
instance ts_3 : TS Tryz.prog 3 1 := ⟨by kernel_rfl⟩
instance tg_3 : TG Tryz.prog 3 false := ⟨by kernel_rfl⟩
instance tb_3 : TB Tryz.prog 3 8 := ⟨by kernel_rfl⟩
instance tu_3 : TU Tryz.prog 3 (.int .i64) := ⟨by kernel_rfl⟩
instance tz_4 : TZ Tryz.prog 4 [Value.bool false] := ⟨by kernel_rfl⟩
instance ts_4 : TS Tryz.prog 4 1 := ⟨by kernel_rfl⟩
instance tg_4 : TG Tryz.prog 4 false := ⟨by kernel_rfl⟩
instance tb_4 : TB Tryz.prog 4 1 := ⟨by kernel_rfl⟩
instance tu_4 : TU Tryz.prog 4 .bool := ⟨by kernel_rfl⟩
instance tz_5 : TZ Tryz.prog 5 [Value.int IntKind.u8 0] := ⟨by kernel_rfl⟩
instance ts_5 : TS Tryz.prog 5 1 := ⟨by kernel_rfl⟩
instance tg_5 : TG Tryz.prog 5 false := ⟨by kernel_rfl⟩
instance tb_5 : TB Tryz.prog 5 1 := ⟨by kernel_rfl⟩
instance tu_5 : TU Tryz.prog 5 (.int .u8) := ⟨by kernel_rfl⟩
instance ts_9 : TS Tryz.prog 9 1 := ⟨by kernel_rfl⟩
instance tg_9 : TG Tryz.prog 9 false := ⟨by kernel_rfl⟩
instance tb_9 : TB Tryz.prog 9 16 := ⟨by kernel_rfl⟩
instance tu_9 : TU Tryz.prog 9 .string := ⟨by kernel_rfl⟩
instance tz_22 : TZ Tryz.prog 22 [Value.slice none 0 0] := ⟨by kernel_rfl⟩
instance ts_22 : TS Tryz.prog 22 1 := ⟨by kernel_rfl⟩
instance tg_22 : TG Tryz.prog 22 false := ⟨by kernel_rfl⟩
instance tb_22 : TB Tryz.prog 22 24 := ⟨by kernel_rfl⟩
instance te_22 : TE Tryz.prog 22 (82, 3) := ⟨by kernel_rfl⟩
instance tz_24 : TZ Tryz.prog 24 [Value.slice none 0 0] := ⟨by kernel_rfl⟩
instance ts_24 : TS Tryz.prog 24 1 := ⟨by kernel_rfl⟩
instance tg_24 : TG Tryz.prog 24 false := ⟨by kernel_rfl⟩
instance tb_24 : TB Tryz.prog 24 24 := ⟨by kernel_rfl⟩
instance te_24 : TE Tryz.prog 24 (37, 3) := ⟨by kernel_rfl⟩
instance tz_25 : TZ Tryz.prog 25 [Value.slice none 0 0] := ⟨by kernel_rfl⟩
instance ts_25 : TS Tryz.prog 25 1 := ⟨by kernel_rfl⟩
instance tg_25 : TG Tryz.prog 25 false := ⟨by kernel_rfl⟩
instance tb_25 : TB Tryz.prog 25 24 := ⟨by kernel_rfl⟩
instance te_25 : TE Tryz.prog 25 (37, 3) := ⟨by kernel_rfl⟩
instance tz_26 : TZ Tryz.prog 26 [Value.slice none 0 0] := ⟨by kernel_rfl⟩
instance ts_26 : TS Tryz.prog 26 1 := ⟨by kernel_rfl⟩
instance tg_26 : TG Tryz.prog 26 false := ⟨by kernel_rfl⟩
instance tb_26 : TB Tryz.prog 26 24 := ⟨by kernel_rfl⟩
instance te_26 : TE Tryz.prog 26 (75, 4) := ⟨by kernel_rfl⟩
instance tz_27 : TZ Tryz.prog 27 [Value.slice none 0 0] := ⟨by kernel_rfl⟩
instance ts_27 : TS Tryz.prog 27 1 := ⟨by kernel_rfl⟩
instance tg_27 : TG Tryz.prog 27 false := ⟨by kernel_rfl⟩
instance tb_27 : TB Tryz.prog 27 24 := ⟨by kernel_rfl⟩
instance te_27 : TE Tryz.prog 27 (75, 4) := ⟨by kernel_rfl⟩
instance tz_31 : TZ Tryz.prog 31 [Value.slice none 0 0] := ⟨by kernel_rfl⟩
instance ts_31 : TS Tryz.prog 31 1 := ⟨by kernel_rfl⟩
instance tg_31 : TG Tryz.prog 31 false := ⟨by kernel_rfl⟩
instance tb_31 : TB Tryz.prog 31 24 := ⟨by kernel_rfl⟩
instance te_31 : TE Tryz.prog 31 (206, 1) := ⟨by kernel_rfl⟩
instance tz_33 : TZ Tryz.prog 33 [Value.slice none 0 0] := ⟨by kernel_rfl⟩
instance ts_33 : TS Tryz.prog 33 1 := ⟨by kernel_rfl⟩
instance tg_33 : TG Tryz.prog 33 true := ⟨by kernel_rfl⟩
instance tb_33 : TB Tryz.prog 33 24 := ⟨by kernel_rfl⟩
instance tp_33 : TP Tryz.prog 33 [(0, 1)] := ⟨by kernel_rfl⟩
instance tf_33_0 : TF Tryz.prog 33 0 (0, 1) := ⟨by kernel_rfl⟩
instance tga_33_0 : TA Tryz.prog 33 0 false := ⟨by kernel_rfl⟩
instance tz_35 : TZ Tryz.prog 35 [Value.slice none 0 0, Value.bool false] := ⟨by kernel_rfl⟩
instance ts_35 : TS Tryz.prog 35 2 := ⟨by kernel_rfl⟩
instance tg_35 : TG Tryz.prog 35 true := ⟨by kernel_rfl⟩
instance tb_35 : TB Tryz.prog 35 32 := ⟨by kernel_rfl⟩
instance tp_35 : TP Tryz.prog 35 [(0, 1), (1, 1)] := ⟨by kernel_rfl⟩
instance tf_35_0 : TF Tryz.prog 35 0 (0, 1) := ⟨by kernel_rfl⟩
instance tga_35_0 : TA Tryz.prog 35 0 true := ⟨by kernel_rfl⟩
instance tf_35_1 : TF Tryz.prog 35 1 (1, 1) := ⟨by kernel_rfl⟩
instance tga_35_1 : TA Tryz.prog 35 1 false := ⟨by kernel_rfl⟩
instance tz_37 : TZ Tryz.prog 37 [Value.slice none 0 0, Value.bool false, Value.slice none 0 0] := ⟨by kernel_rfl⟩
instance ts_37 : TS Tryz.prog 37 3 := ⟨by kernel_rfl⟩
instance tg_37 : TG Tryz.prog 37 true := ⟨by kernel_rfl⟩
instance tb_37 : TB Tryz.prog 37 56 := ⟨by kernel_rfl⟩
instance tp_37 : TP Tryz.prog 37 [(0, 2), (2, 1)] := ⟨by kernel_rfl⟩
instance tf_37_0 : TF Tryz.prog 37 0 (0, 2) := ⟨by kernel_rfl⟩
instance tga_37_0 : TA Tryz.prog 37 0 true := ⟨by kernel_rfl⟩
instance tf_37_1 : TF Tryz.prog 37 1 (2, 1) := ⟨by kernel_rfl⟩
instance tga_37_1 : TA Tryz.prog 37 1 true := ⟨by kernel_rfl⟩
instance tz_59 : TZ Tryz.prog 59 [Value.slice none 0 0, Value.int IntKind.i64 0] := ⟨by kernel_rfl⟩
instance ts_59 : TS Tryz.prog 59 2 := ⟨by kernel_rfl⟩
instance tg_59 : TG Tryz.prog 59 true := ⟨by kernel_rfl⟩
instance tb_59 : TB Tryz.prog 59 32 := ⟨by kernel_rfl⟩
instance tp_59 : TP Tryz.prog 59 [(0, 1), (1, 1)] := ⟨by kernel_rfl⟩
instance tf_59_0 : TF Tryz.prog 59 0 (0, 1) := ⟨by kernel_rfl⟩
instance tga_59_0 : TA Tryz.prog 59 0 false := ⟨by kernel_rfl⟩
instance tf_59_1 : TF Tryz.prog 59 1 (1, 1) := ⟨by kernel_rfl⟩
instance tga_59_1 : TA Tryz.prog 59 1 false := ⟨by kernel_rfl⟩
instance tz_65 : TZ Tryz.prog 65 [Value.slice none 0 0, Value.bool false, Value.slice none 0 0, Value.slice none 0 0, Value.bool false, Value.slice none 0 0] := ⟨by kernel_rfl⟩
instance ts_65 : TS Tryz.prog 65 6 := ⟨by kernel_rfl⟩
instance tg_65 : TG Tryz.prog 65 true := ⟨by kernel_rfl⟩
instance tb_65 : TB Tryz.prog 65 112 := ⟨by kernel_rfl⟩
instance tp_65 : TP Tryz.prog 65 [(0, 3), (3, 3)] := ⟨by kernel_rfl⟩
instance tf_65_0 : TF Tryz.prog 65 0 (0, 3) := ⟨by kernel_rfl⟩
instance tga_65_0 : TA Tryz.prog 65 0 true := ⟨by kernel_rfl⟩
instance tf_65_1 : TF Tryz.prog 65 1 (3, 3) := ⟨by kernel_rfl⟩
instance tga_65_1 : TA Tryz.prog 65 1 true := ⟨by kernel_rfl⟩
instance tz_71 : TZ Tryz.prog 71 [Value.slice none 0 0] := ⟨by kernel_rfl⟩
instance ts_71 : TS Tryz.prog 71 1 := ⟨by kernel_rfl⟩
instance tg_71 : TG Tryz.prog 71 false := ⟨by kernel_rfl⟩
instance tb_71 : TB Tryz.prog 71 24 := ⟨by kernel_rfl⟩
instance te_71 : TE Tryz.prog 71 (3, 1) := ⟨by kernel_rfl⟩
instance tz_73 : TZ Tryz.prog 73 [Value.int IntKind.i64 0, Value.slice none 0 0] := ⟨by kernel_rfl⟩
instance ts_73 : TS Tryz.prog 73 2 := ⟨by kernel_rfl⟩
instance tg_73 : TG Tryz.prog 73 true := ⟨by kernel_rfl⟩
instance tb_73 : TB Tryz.prog 73 32 := ⟨by kernel_rfl⟩
instance tp_73 : TP Tryz.prog 73 [(0, 1), (1, 1)] := ⟨by kernel_rfl⟩
instance tf_73_0 : TF Tryz.prog 73 0 (0, 1) := ⟨by kernel_rfl⟩
instance tga_73_0 : TA Tryz.prog 73 0 false := ⟨by kernel_rfl⟩
instance tf_73_1 : TF Tryz.prog 73 1 (1, 1) := ⟨by kernel_rfl⟩
instance tga_73_1 : TA Tryz.prog 73 1 false := ⟨by kernel_rfl⟩
instance tz_75 : TZ Tryz.prog 75 [Value.int IntKind.i64 0, Value.slice none 0 0, Value.int IntKind.i64 0, Value.slice none 0 0] := ⟨by kernel_rfl⟩
instance ts_75 : TS Tryz.prog 75 4 := ⟨by kernel_rfl⟩
instance tg_75 : TG Tryz.prog 75 true := ⟨by kernel_rfl⟩
instance tb_75 : TB Tryz.prog 75 64 := ⟨by kernel_rfl⟩
instance tp_75 : TP Tryz.prog 75 [(0, 2), (2, 2)] := ⟨by kernel_rfl⟩
instance tf_75_0 : TF Tryz.prog 75 0 (0, 2) := ⟨by kernel_rfl⟩
instance tga_75_0 : TA Tryz.prog 75 0 true := ⟨by kernel_rfl⟩
instance tf_75_1 : TF Tryz.prog 75 1 (2, 2) := ⟨by kernel_rfl⟩
instance tga_75_1 : TA Tryz.prog 75 1 true := ⟨by kernel_rfl⟩
instance tz_77 : TZ Tryz.prog 77 [Value.int IntKind.i64 0, Value.slice none 0 0, Value.int IntKind.i64 0, Value.slice none 0 0, Value.int IntKind.i64 0, Value.slice none 0 0, Value.int IntKind.i64 0, Value.slice none 0 0] := ⟨by kernel_rfl⟩
instance ts_77 : TS Tryz.prog 77 8 := ⟨by kernel_rfl⟩
instance tg_77 : TG Tryz.prog 77 true := ⟨by kernel_rfl⟩
instance tb_77 : TB Tryz.prog 77 128 := ⟨by kernel_rfl⟩
instance tp_77 : TP Tryz.prog 77 [(0, 4), (4, 4)] := ⟨by kernel_rfl⟩
instance tf_77_0 : TF Tryz.prog 77 0 (0, 4) := ⟨by kernel_rfl⟩
instance tga_77_0 : TA Tryz.prog 77 0 true := ⟨by kernel_rfl⟩
instance tf_77_1 : TF Tryz.prog 77 1 (4, 4) := ⟨by kernel_rfl⟩
instance tga_77_1 : TA Tryz.prog 77 1 true := ⟨by kernel_rfl⟩
instance tz_82 : TZ Tryz.prog 82 [Value.int IntKind.i64 0, Value.int IntKind.i64 0, Value.int IntKind.u8 0] := ⟨by kernel_rfl⟩
instance ts_82 : TS Tryz.prog 82 3 := ⟨by kernel_rfl⟩
instance tg_82 : TG Tryz.prog 82 true := ⟨by kernel_rfl⟩
instance tb_82 : TB Tryz.prog 82 24 := ⟨by kernel_rfl⟩
instance tp_82 : TP Tryz.prog 82 [(0, 1), (1, 1), (2, 1)] := ⟨by kernel_rfl⟩
instance tf_82_0 : TF Tryz.prog 82 0 (0, 1) := ⟨by kernel_rfl⟩
instance tga_82_0 : TA Tryz.prog 82 0 false := ⟨by kernel_rfl⟩
instance tf_82_1 : TF Tryz.prog 82 1 (1, 1) := ⟨by kernel_rfl⟩
instance tga_82_1 : TA Tryz.prog 82 1 false := ⟨by kernel_rfl⟩
instance tf_82_2 : TF Tryz.prog 82 2 (2, 1) := ⟨by kernel_rfl⟩
instance tga_82_2 : TA Tryz.prog 82 2 false := ⟨by kernel_rfl⟩
instance tz_94 : TZ Tryz.prog 94 [Value.int IntKind.i64 0, Value.int IntKind.i64 0, Value.int IntKind.u8 0, Value.int IntKind.i64 0, Value.int IntKind.i64 0, Value.int IntKind.u8 0] := ⟨by kernel_rfl⟩
instance ts_94 : TS Tryz.prog 94 6 := ⟨by kernel_rfl⟩
instance tg_94 : TG Tryz.prog 94 true := ⟨by kernel_rfl⟩
instance tb_94 : TB Tryz.prog 94 48 := ⟨by kernel_rfl⟩
instance tp_94 : TP Tryz.prog 94 [(0, 3), (3, 3)] := ⟨by kernel_rfl⟩
instance tf_94_0 : TF Tryz.prog 94 0 (0, 3) := ⟨by kernel_rfl⟩
instance tga_94_0 : TA Tryz.prog 94 0 true := ⟨by kernel_rfl⟩
instance tf_94_1 : TF Tryz.prog 94 1 (3, 3) := ⟨by kernel_rfl⟩
instance tga_94_1 : TA Tryz.prog 94 1 true := ⟨by kernel_rfl⟩
instance tz_112 : TZ Tryz.prog 112 [Value.slice none 0 0] := ⟨by kernel_rfl⟩
instance ts_112 : TS Tryz.prog 112 1 := ⟨by kernel_rfl⟩
instance tg_112 : TG Tryz.prog 112 false := ⟨by kernel_rfl⟩
instance tb_112 : TB Tryz.prog 112 24 := ⟨by kernel_rfl⟩
instance te_112 : TE Tryz.prog 112 (59, 2) := ⟨by kernel_rfl⟩
instance tz_147 : TZ Tryz.prog 147 [Value.nilFunc] := ⟨by kernel_rfl⟩
instance ts_147 : TS Tryz.prog 147 1 := ⟨by kernel_rfl⟩
instance tg_147 : TG Tryz.prog 147 false := ⟨by kernel_rfl⟩
instance tb_147 : TB Tryz.prog 147 8 := ⟨by kernel_rfl⟩
instance tz_149 : TZ Tryz.prog 149 [Value.nilFunc] := ⟨by kernel_rfl⟩
instance ts_149 : TS Tryz.prog 149 1 := ⟨by kernel_rfl⟩
instance tg_149 : TG Tryz.prog 149 false := ⟨by kernel_rfl⟩
instance tb_149 : TB Tryz.prog 149 8 := ⟨by kernel_rfl⟩
instance tz_150 : TZ Tryz.prog 150 [Value.pointer none] := ⟨by kernel_rfl⟩
instance ts_150 : TS Tryz.prog 150 1 := ⟨by kernel_rfl⟩
instance tg_150 : TG Tryz.prog 150 false := ⟨by kernel_rfl⟩
instance tb_150 : TB Tryz.prog 150 8 := ⟨by kernel_rfl⟩
instance tz_164 : TZ Tryz.prog 164 [Value.pointer none] := ⟨by kernel_rfl⟩
instance ts_164 : TS Tryz.prog 164 1 := ⟨by kernel_rfl⟩
instance tg_164 : TG Tryz.prog 164 false := ⟨by kernel_rfl⟩
instance tb_164 : TB Tryz.prog 164 8 := ⟨by kernel_rfl⟩
instance tz_167 : TZ Tryz.prog 167 [Value.pointer none, Value.int IntKind.i64 0] := ⟨by kernel_rfl⟩
instance ts_167 : TS Tryz.prog 167 2 := ⟨by kernel_rfl⟩
instance tg_167 : TG Tryz.prog 167 true := ⟨by kernel_rfl⟩
instance tb_167 : TB Tryz.prog 167 16 := ⟨by kernel_rfl⟩
instance tp_167 : TP Tryz.prog 167 [(0, 1), (1, 1)] := ⟨by kernel_rfl⟩
instance tf_167_0 : TF Tryz.prog 167 0 (0, 1) := ⟨by kernel_rfl⟩
instance tga_167_0 : TA Tryz.prog 167 0 false := ⟨by kernel_rfl⟩
instance tf_167_1 : TF Tryz.prog 167 1 (1, 1) := ⟨by kernel_rfl⟩
instance tga_167_1 : TA Tryz.prog 167 1 false := ⟨by kernel_rfl⟩
instance tz_171 : TZ Tryz.prog 171 [Value.slice none 0 0] := ⟨by kernel_rfl⟩
instance ts_171 : TS Tryz.prog 171 1 := ⟨by kernel_rfl⟩
instance tg_171 : TG Tryz.prog 171 false := ⟨by kernel_rfl⟩
instance tb_171 : TB Tryz.prog 171 24 := ⟨by kernel_rfl⟩
instance te_171 : TE Tryz.prog 171 (27, 1) := ⟨by kernel_rfl⟩
instance tz_179 : TZ Tryz.prog 179 [Value.pointer none] := ⟨by kernel_rfl⟩
instance ts_179 : TS Tryz.prog 179 1 := ⟨by kernel_rfl⟩
instance tg_179 : TG Tryz.prog 179 false := ⟨by kernel_rfl⟩
instance tb_179 : TB Tryz.prog 179 8 := ⟨by kernel_rfl⟩
instance tz_180 : TZ Tryz.prog 180 [Value.slice none 0 0] := ⟨by kernel_rfl⟩
instance ts_180 : TS Tryz.prog 180 1 := ⟨by kernel_rfl⟩
instance tg_180 : TG Tryz.prog 180 false := ⟨by kernel_rfl⟩
instance tb_180 : TB Tryz.prog 180 24 := ⟨by kernel_rfl⟩
instance te_180 : TE Tryz.prog 180 (5, 1) := ⟨by kernel_rfl⟩
instance tz_182 : TZ Tryz.prog 182 [Value.pointer none, Value.slice none 0 0] := ⟨by kernel_rfl⟩
instance ts_182 : TS Tryz.prog 182 2 := ⟨by kernel_rfl⟩
instance tg_182 : TG Tryz.prog 182 true := ⟨by kernel_rfl⟩
instance tb_182 : TB Tryz.prog 182 32 := ⟨by kernel_rfl⟩
instance tp_182 : TP Tryz.prog 182 [(0, 1), (1, 1)] := ⟨by kernel_rfl⟩
instance tf_182_0 : TF Tryz.prog 182 0 (0, 1) := ⟨by kernel_rfl⟩
instance tga_182_0 : TA Tryz.prog 182 0 false := ⟨by kernel_rfl⟩
instance tf_182_1 : TF Tryz.prog 182 1 (1, 1) := ⟨by kernel_rfl⟩
instance tga_182_1 : TA Tryz.prog 182 1 false := ⟨by kernel_rfl⟩
instance tz_189 : TZ Tryz.prog 189 [Value.slice none 0 0] := ⟨by kernel_rfl⟩
instance ts_189 : TS Tryz.prog 189 1 := ⟨by kernel_rfl⟩
instance tg_189 : TG Tryz.prog 189 false := ⟨by kernel_rfl⟩
instance tb_189 : TB Tryz.prog 189 24 := ⟨by kernel_rfl⟩
instance te_189 : TE Tryz.prog 189 (25, 1) := ⟨by kernel_rfl⟩
instance tz_191 : TZ Tryz.prog 191 [Value.slice none 0 0, Value.slice none 0 0, Value.int IntKind.i64 0] := ⟨by kernel_rfl⟩
instance ts_191 : TS Tryz.prog 191 3 := ⟨by kernel_rfl⟩
instance tg_191 : TG Tryz.prog 191 true := ⟨by kernel_rfl⟩
instance tb_191 : TB Tryz.prog 191 56 := ⟨by kernel_rfl⟩
instance tp_191 : TP Tryz.prog 191 [(0, 1), (1, 1), (2, 1)] := ⟨by kernel_rfl⟩
instance tf_191_0 : TF Tryz.prog 191 0 (0, 1) := ⟨by kernel_rfl⟩
instance tga_191_0 : TA Tryz.prog 191 0 false := ⟨by kernel_rfl⟩
instance tf_191_1 : TF Tryz.prog 191 1 (1, 1) := ⟨by kernel_rfl⟩
instance tga_191_1 : TA Tryz.prog 191 1 false := ⟨by kernel_rfl⟩
instance tf_191_2 : TF Tryz.prog 191 2 (2, 1) := ⟨by kernel_rfl⟩
instance tga_191_2 : TA Tryz.prog 191 2 false := ⟨by kernel_rfl⟩
instance tz_192 : TZ Tryz.prog 192 [Value.nilFunc] := ⟨by kernel_rfl⟩
instance ts_192 : TS Tryz.prog 192 1 := ⟨by kernel_rfl⟩
instance tg_192 : TG Tryz.prog 192 false := ⟨by kernel_rfl⟩
instance tb_192 : TB Tryz.prog 192 8 := ⟨by kernel_rfl⟩
instance tz_200 : TZ Tryz.prog 200 [Value.slice none 0 0] := ⟨by kernel_rfl⟩
instance ts_200 : TS Tryz.prog 200 1 := ⟨by kernel_rfl⟩
instance tg_200 : TG Tryz.prog 200 false := ⟨by kernel_rfl⟩
instance tb_200 : TB Tryz.prog 200 24 := ⟨by kernel_rfl⟩
instance te_200 : TE Tryz.prog 200 (2, 1) := ⟨by kernel_rfl⟩
instance tz_206 : TZ Tryz.prog 206 [Value.int IntKind.u32 0] := ⟨by kernel_rfl⟩
instance ts_206 : TS Tryz.prog 206 1 := ⟨by kernel_rfl⟩
instance tg_206 : TG Tryz.prog 206 false := ⟨by kernel_rfl⟩
instance tb_206 : TB Tryz.prog 206 4 := ⟨by kernel_rfl⟩
instance tu_206 : TU Tryz.prog 206 (.int .u32) := ⟨by kernel_rfl⟩
instance tz_207 : TZ Tryz.prog 207 [Value.int IntKind.u64 0] := ⟨by kernel_rfl⟩
instance ts_207 : TS Tryz.prog 207 1 := ⟨by kernel_rfl⟩
instance tg_207 : TG Tryz.prog 207 false := ⟨by kernel_rfl⟩
instance tb_207 : TB Tryz.prog 207 8 := ⟨by kernel_rfl⟩
instance tu_207 : TU Tryz.prog 207 (.int .u64) := ⟨by kernel_rfl⟩
instance tz_233 : TZ Tryz.prog 233 [Value.pointer none] := ⟨by kernel_rfl⟩
instance ts_233 : TS Tryz.prog 233 1 := ⟨by kernel_rfl⟩
instance tg_233 : TG Tryz.prog 233 false := ⟨by kernel_rfl⟩
instance tb_233 : TB Tryz.prog 233 8 := ⟨by kernel_rfl⟩
instance tz_241 : TZ Tryz.prog 241 [Value.nilFunc] := ⟨by kernel_rfl⟩
instance ts_241 : TS Tryz.prog 241 1 := ⟨by kernel_rfl⟩
instance tg_241 : TG Tryz.prog 241 false := ⟨by kernel_rfl⟩
instance tb_241 : TB Tryz.prog 241 8 := ⟨by kernel_rfl⟩
instance tz_243 : TZ Tryz.prog 243 [Value.slice none 0 0, Value.nilFunc] := ⟨by kernel_rfl⟩
instance ts_243 : TS Tryz.prog 243 2 := ⟨by kernel_rfl⟩
instance tg_243 : TG Tryz.prog 243 true := ⟨by kernel_rfl⟩
instance tb_243 : TB Tryz.prog 243 32 := ⟨by kernel_rfl⟩
instance tp_243 : TP Tryz.prog 243 [(0, 1), (1, 1)] := ⟨by kernel_rfl⟩
instance tf_243_0 : TF Tryz.prog 243 0 (0, 1) := ⟨by kernel_rfl⟩
instance tga_243_0 : TA Tryz.prog 243 0 false := ⟨by kernel_rfl⟩
instance tf_243_1 : TF Tryz.prog 243 1 (1, 1) := ⟨by kernel_rfl⟩
instance tga_243_1 : TA Tryz.prog 243 1 false := ⟨by kernel_rfl⟩
instance tz_244 : TZ Tryz.prog 244 [Value.map none] := ⟨by kernel_rfl⟩
instance ts_244 : TS Tryz.prog 244 1 := ⟨by kernel_rfl⟩
instance tg_244 : TG Tryz.prog 244 false := ⟨by kernel_rfl⟩
instance tb_244 : TB Tryz.prog 244 8 := ⟨by kernel_rfl⟩
instance tm_244 : TU Tryz.prog 244 (.map 5 243) := ⟨by kernel_rfl⟩
instance tz_251 : TZ Tryz.prog 251 [Value.nilFunc] := ⟨by kernel_rfl⟩
instance ts_251 : TS Tryz.prog 251 1 := ⟨by kernel_rfl⟩
instance tg_251 : TG Tryz.prog 251 false := ⟨by kernel_rfl⟩
instance tb_251 : TB Tryz.prog 251 8 := ⟨by kernel_rfl⟩
instance tz_262 : TZ Tryz.prog 262 [Value.nilFunc] := ⟨by kernel_rfl⟩
instance ts_262 : TS Tryz.prog 262 1 := ⟨by kernel_rfl⟩
instance tg_262 : TG Tryz.prog 262 false := ⟨by kernel_rfl⟩
instance tb_262 : TB Tryz.prog 262 8 := ⟨by kernel_rfl⟩
instance tz_270 : TZ Tryz.prog 270 [Value.pointer none] := ⟨by kernel_rfl⟩
instance ts_270 : TS Tryz.prog 270 1 := ⟨by kernel_rfl⟩
instance tg_270 : TG Tryz.prog 270 false := ⟨by kernel_rfl⟩
instance tb_270 : TB Tryz.prog 270 8 := ⟨by kernel_rfl⟩
instance tz_276 : TZ Tryz.prog 276 [Value.int IntKind.u64 0] := ⟨by kernel_rfl⟩
instance ts_276 : TS Tryz.prog 276 1 := ⟨by kernel_rfl⟩
instance tg_276 : TG Tryz.prog 276 false := ⟨by kernel_rfl⟩
instance tb_276 : TB Tryz.prog 276 8 := ⟨by kernel_rfl⟩
instance tu_276 : TU Tryz.prog 276 (.int .u64) := ⟨by kernel_rfl⟩
instance ts_285 : TS Tryz.prog 285 24 := ⟨by kernel_rfl⟩
instance tg_285 : TG Tryz.prog 285 true := ⟨by kernel_rfl⟩
instance tb_285 : TB Tryz.prog 285 24 := ⟨by kernel_rfl⟩
instance ts_298 : TS Tryz.prog 298 20 := ⟨by kernel_rfl⟩
instance tg_298 : TG Tryz.prog 298 true := ⟨by kernel_rfl⟩
instance tb_298 : TB Tryz.prog 298 160 := ⟨by kernel_rfl⟩
instance ts_299 : TS Tryz.prog 299 65 := ⟨by kernel_rfl⟩
instance tg_299 : TG Tryz.prog 299 true := ⟨by kernel_rfl⟩
instance tb_299 : TB Tryz.prog 299 65 := ⟨by kernel_rfl⟩
instance ts_303 : TS Tryz.prog 303 32 := ⟨by kernel_rfl⟩
instance tg_303 : TG Tryz.prog 303 true := ⟨by kernel_rfl⟩
instance tb_303 : TB Tryz.prog 303 32 := ⟨by kernel_rfl⟩
instance ts_304 : TS Tryz.prog 304 64 := ⟨by kernel_rfl⟩
instance tg_304 : TG Tryz.prog 304 true := ⟨by kernel_rfl⟩
instance tb_304 : TB Tryz.prog 304 64 := ⟨by kernel_rfl⟩
theorem pp_ (l : List Nat) : FSpec Tryz.prog 173 [.agg [.arr (dE l)]] (bln (l.length == 0)) := by
 refine f_n Tryz.func173 ?_ ?_
 ·exact aa_ (aq_ (aa_ (bh_ l) ab_)) ab_
 refine r_z 2 ?_
 refine r_z 5 ?_
 refine ae_ (aD_ rfl ?_ (ad_ _))
 simp only [bln, fW_]
 congr 2
 rw [Bool.eq_iff_iff]; simp
theorem dn_ (l : List Nat) (hl : l.length ≤ 281474976710656) : FSpec Tryz.prog 175 [.arr (dE l)] (.agg [.arr (dE (trimD l))]) := by
 refine f_n Tryz.func175 ?_ ?_
 ·exact aa_ (bh_ l) ab_
 refine r_z 1 ?_
 refine r_z 3 ?_
 refine aO_ (fun k : Nat => ⟨[(0, .arr (dE l)), (2, .lptr 1 0 0), (3, i64 k)], [(1, some ⟨33, 1, [[.emp]]⟩)], 2, 23⟩) (fun k => k ≤ l.length ∧ trimD l = l.take k) ?_ ?_
 ·refine ah_ (ao_ (fun k : Nat => ⟨[(0, .arr (dE l)), (2, .lptr 1 0 0), (3, i64 k)], [(1, some ⟨33, 1, [[.emp]]⟩)], 2, 23⟩) (fun k => k) (fun k => k ≤ l.length ∧ ∀ i, k ≤ i → i < l.length → l[i]? = some 0) l.length ⟨Nat.le_refl _, fun i h1 h2 => by omega⟩ ?_ ?_)
  ·exact s_e []
  rintro k ⟨hk, hz⟩
  have fin : k = 0 ∨ l[k - 1]? ≠ some 0 → trimD l = l.take k := eO_ l k hk hz
  by_cases h0 : k = 0
  ·subst h0
   refine ac_ (s_r 10 ?_)
   refine a_3 ?_
   refine n_g rfl d_f ?_
   refine n_g rfl d_f ?_
   refine n_g rfl d_f ?_
   refine n_g rfl d_f ?_
   refine n_g rfl d_f ?_
   refine n_g rfl d_f ?_
   refine o_0 (.pickF rfl d_f rfl) ?_
   refine aj_ ?_
   refine af_ rfl (fun h => ?_) (fun _ => ?_)
   ·cases h
   refine al_ ⟨0, ⟨hk, fin (.inl rfl)⟩, ?_⟩
   exact s_e []
  ·have hk1 : k - 1 < l.length := by omega
   obtain ⟨d, hd⟩ : ∃ d, l[k - 1]? = some d := ⟨_, List.getElem?_eq_getElem hk1⟩
   have hd' : (dE l)[((k : Int) - 1).toNat]? = some [u32 d] := by rw [show ((k : Int) - 1).toNat = k - 1 by omega]; exact bY_ hd
   refine ac_ (s_r 10 ?_)
   refine a_3 ?_
   refine y_g rfl d_t (.move rfl) ?_
   refine y_g rfl d_t (.move rfl) ?_
   refine y_g rfl d_t (.bin rfl rfl (e8_ (by omega))) ?_
   first | refine y_g rfl d_t (.index_l rfl rfl (by omega) (by omega) te_31.h) ?_ | refine y_g rfl d_t (.index_a rfl rfl (by omega) hd' rfl te_31.h) ?_
   first | refine y_g rfl d_t (.load_l1 rfl rfl hd' tg_206.h rfl) ?_ | refine y_g rfl d_t (.load_a1 rfl hd' tg_206.h rfl) ?_
   refine y_g rfl d_t (.bin rfl rfl a2_) ?_
   refine o_0 (.pickT rfl d_t rfl) ?_
   refine aj_ ?_
   refine af_ rfl (fun h => ?_) (fun h => ?_)
   ·refine ag_ ?_
    have hd0 : d = 0 := by simpa using h
    subst hd0
    refine ah_ (r_m 3 ?_)
    refine a_z ?_
    refine ⟨k - 1, by omega, ⟨by omega, fun i h1 h2 => ?_⟩, ?_⟩
    ·by_cases hi : i = k - 1
     ·rw [hi]; exact hd
     ·exact hz i (by omega) h2
    ·exact s_e []
   ·refine al_ ⟨k, ⟨hk, fin (.inr ?_)⟩, ?_⟩
    ·rw [hd]; simp at h ⊢; omega
    ·exact s_e []
 ·rintro k ⟨hk, ht⟩
  refine s_r 6 ?_
  refine a_3 ?_
  refine o_0 (.sa_hm rfl rfl rfl rfl rfl ⟨Nat.le_refl _, by simpa using hk⟩ te_31.h (md_ l)) ?_
  refine a_z ?_
  refine ae_ (bH_ rfl rfl rfl tg_33.h ts_33.h (nle rfl) ?_ (aq_ (aa_ (bh_ _) ab_)))
  rw [ht, ← qa_]
  rfl
theorem iH_ (z : Int) : FSpec Tryz.prog 235 [i64 z] (bln false) := by
 refine f_n Tryz.func235 ?_ ?_
 ·exact aa_ (ad_ _) ab_
 refine r_z 1 ?_
 refine r_z 4 ?_
 refine ae_ (aD_ rfl ?_ (ad_ _))
 simp [bln]
theorem iG_ (z : Nat) : FSpec Tryz.prog 236 [u32 z] (bln false) := by
 refine f_n Tryz.func236 ?_ ?_
 ·exact aa_ (ad_ _) ab_
 refine r_z 1 ?_
 refine r_z 4 ?_
 refine ae_ (aD_ rfl ?_ (ad_ _))
 simp [bln]
theorem k0_ (a b : Int) : FSpec Tryz.prog 178 [i64 a, i64 b] (i64 (cmpZ a b)) := by
 refine f_n Tryz.func178 ?_ ?_
 ·exact aa_ (ad_ _) (aa_ (ad_ _) ab_)
 refine r_z 1 ?_
 refine r_c 3 (iH_ a) ?_
 refine a_z ?_
 refine r_c 3 (iH_ b) ?_
 refine a_z ?_
 refine ac_ (r_z 1 ?_)
 refine af_ rfl (fun h => ?_) (fun _ => ag_ ?_)
 ·cases h
 refine ac_ (r_z 1 ?_)
 refine af_ rfl (fun h => ?_) (fun _ => ag_ ?_)
 ·cases h
 refine ac_ (r_z 3 ?_)
 refine af_ rfl (fun h => ?_) (fun h => ag_ ?_)
 ·refine r_z 1 ?_
  refine ae_ (aD_ rfl ?_ (ad_ _))
  simp at h; simp [i64, ofV, cmpZ, h]
 refine ac_ (r_z 3 ?_)
 refine af_ rfl (fun h' => ?_) (fun h' => ag_ ?_)
 ·refine r_z 1 ?_
  refine ae_ (aD_ rfl ?_ (ad_ _))
  simp at h h'; simp [i64, ofV, cmpZ]; omega
 refine r_z 1 ?_
 refine ae_ (aD_ rfl ?_ (ad_ _))
 simp at h h'; simp [i64, ofV, cmpZ]; omega
theorem kZ_ (a b : Nat) : FSpec Tryz.prog 179 [u32 a, u32 b] (i64 (cmpZ a b)) := by
 refine f_n Tryz.func179 ?_ ?_
 ·exact aa_ (ad_ _) (aa_ (ad_ _) ab_)
 refine r_z 1 ?_
 refine r_c 3 (iG_ a) ?_
 refine a_z ?_
 refine r_c 3 (iG_ b) ?_
 refine a_z ?_
 refine ac_ (r_z 1 ?_)
 refine af_ rfl (fun h => ?_) (fun _ => ag_ ?_)
 ·cases h
 refine ac_ (r_z 1 ?_)
 refine af_ rfl (fun h => ?_) (fun _ => ag_ ?_)
 ·cases h
 refine ac_ (r_z 3 ?_)
 refine af_ rfl (fun h => ?_) (fun h => ag_ ?_)
 ·refine r_z 1 ?_
  refine ae_ (aD_ rfl ?_ (ad_ _))
  simp at h; simp [i64, ofV, cmpZ, h]
 refine ac_ (r_z 3 ?_)
 refine af_ rfl (fun h' => ?_) (fun h' => ag_ ?_)
 ·refine r_z 1 ?_
  refine ae_ (aD_ rfl ?_ (ad_ _))
  simp at h h'; simp [i64, ofV, cmpZ]; omega
 refine r_z 1 ?_
 refine ae_ (aD_ rfl ?_ (ad_ _))
 simp at h h'; simp [i64, ofV, cmpZ]; omega
theorem digs_one {n : Nat} : (digs MB n).length = 1 ∧ (digs MB n)[0]? = some 1 ↔ n = 1 := by
 constructor
 ·rintro ⟨h1, h2⟩
  have := aS_ (b := MB) (by decide) n
  match hd : digs MB n, h1, h2 with
  | [d], _, h2 => rw [hd] at this; simp at h2; subst h2; simpa [ofD] using this.symm
 ·rintro rfl
  rw [ch_ (by decide) (by decide)]
  rw [show 1 / MB = 0 by decide, a8_]; simp
theorem fs_one (n : Nat) : FSpec Tryz.prog 181 [.agg [mag n]] (bln (n == 1)) := by
 refine f_n Tryz.func181 ?_ ?_
 ·exact aa_ (aq_ (aa_ (aE_ n) ab_)) ab_
 refine r_z 2 ?_
 by_cases h1 : (digs MB n).length = 1
 ·obtain ⟨d, hd⟩ : ∃ d, (digs MB n)[0]? = some d := ⟨_, List.getElem?_eq_getElem (by omega)⟩
  have hd' : (dE (digs MB n))[(0 : Int).toNat]? = some [u32 d] := bY_ hd
  refine s_r 12 ?_
  refine a_5 ?_
  first | refine y_g rfl (by simp; omega) (.fieldAddr_l rfl tf_33_0.h (by decide)) ?_ | refine y_g rfl (by simp; omega) (.fieldAddr_a rfl tf_33_0.h (by decide)) ?_
  first | refine y_g rfl (by simp; omega) (.load_l1 rfl rfl rfl tg_31.h rfl) ?_ | refine y_g rfl (by simp; omega) (.load_a1 rfl rfl tg_31.h rfl) ?_
  first | refine y_g rfl (by simp; omega) (.index_l rfl rfl (by omega) (by omega) te_31.h) ?_ | refine y_g rfl (by simp; omega) (.index_a rfl rfl (by omega) hd' rfl te_31.h) ?_
  first | refine y_g rfl (by simp; omega) (.load_l1 rfl rfl hd' tg_206.h rfl) ?_ | refine y_g rfl (by simp; omega) (.load_a1 rfl hd' tg_206.h rfl) ?_
  refine y_g rfl (by simp; omega) (.bin rfl rfl a2_) ?_
  refine o_0 (.pickT rfl (by simp; omega) rfl) ?_
  refine a_z ?_
  refine ae_ (aD_ rfl ?_ (ad_ _))
  simp only [bln]
  congr 2
  rw [Bool.eq_iff_iff]
  have := digs_one (n := n)
  simp only [h1, hd, true_and, Option.some.injEq] at this
  simp only [beq_iff_eq, ← this]
  omega
 ·refine s_r 12 ?_
  refine a_5 ?_
  refine n_g rfl (by simp; omega) ?_
  refine n_g rfl (by simp; omega) ?_
  refine n_g rfl (by simp; omega) ?_
  refine n_g rfl (by simp; omega) ?_
  refine n_g rfl (by simp; omega) ?_
  refine o_0 (.pickF rfl (by simp; omega) rfl) ?_
  refine a_z ?_
  refine ae_ (aD_ rfl ?_ (ad_ _))
  simp only [bln, ofV]
  congr 2
  symm
  rw [beq_eq_false_iff_ne]
  intro h
  exact h1 (digs_one.2 h).1
def mr_ (n : Nat) : Nat → AState
 | 0 => ⟨[(0, u64 n), (2, .lptr 1 0 0), (3, .emp)], [(1, some ⟨33, 1, [[.emp]]⟩)], 2, 16⟩
 | k + 1 => ⟨[(0, u64 (restD n (k + 1))), (2, .lptr 1 0 0), (3, .lsl 2 0 (k + 1) none 1)], [(1, some ⟨33, 1, [[.emp]]⟩), (2, some ⟨206, 1, dE (preD n (k + 1))⟩)], 3, 16⟩
theorem fj_ (n : Nat) : mr_ n 0 = ⟨[(0, u64 n), (2, .lptr 1 0 0), (3, .emp)], [(1, some ⟨33, 1, [[.emp]]⟩)], 2, 16⟩ := rfl
theorem ds_ (n k : Nat) : mr_ n (k + 1) = ⟨[(0, u64 (restD n (k + 1))), (2, .lptr 1 0 0), (3, .lsl 2 0 (k + 1) none 1)], [(1, some ⟨33, 1, [[.emp]]⟩), (2, some ⟨206, 1, dE (preD n (k + 1))⟩)], 3, 16⟩ := rfl
theorem c2_ (n : Nat) (h : n < 18446744073709551616) : FSpec Tryz.prog 177 [u64 n] (.agg [mag n]) := by
 have hlen : (digs MB n).length ≤ 3 := b9_ (by decide) (Nat.lt_of_lt_of_le h (by decide))
 refine f_n Tryz.func177 ?_ ?_
 ·exact aa_ (ad_ _) ab_
 refine r_z 1 ?_
 refine r_z 1 ?_
 refine aO_ (mr_ n) (fun k => k = (digs MB n).length) ?_ ?_
 ·refine ah_ (ao_ (mr_ n) (fun k => (digs MB n).length - k) (fun k => k ≤ (digs MB n).length) 0 (Nat.zero_le _) ?_ ?_)
  ·rw [fj_]
   exact s_e []
  rintro k hk
  have hle := restD_le hk
  have hz := restD_eq hk
  have hpl := fl_ hk
  cases k with
  | zero =>
   rw [io_] at hz
   refine ac_ (r_z 2 ?_)
   refine af_ rfl (fun h => ?_) (fun h => ?_)
   ·refine ag_ ?_
    have h0 : 0 < n := by simpa using h
    have hl1 : 0 < (digs MB n).length := by omega
    obtain ⟨hq, ht⟩ := ip_ hl1
    rw [io_] at hq ht
    refine ac_ (ah_ (r_m 7 ?_))
    refine a_z ?_
    refine r_m 3 ?_
    refine a_z ?_
    refine ⟨1, by omega, hl1, ?_⟩
    rw [ds_]
    refine ax_ [(2, 3)] rfl rfl rfl ?_ (fun hs => ?_) (fun hs => ?_)
    ·repeat' (first | exact ShrL.nil | refine ShrL.cons rfl rfl rfl rfl (by first | rfl | (simp; done) | (simp [hq, ht, dv_] <;> omega)) ?_)
    ·repeat' (first | exact aX_ | refine aL_ rfl ?_ ?_)
     all_goals (first | exact au_c | (refine Cv.loE hs ?_ (ad_ _); first | rfl | (simp [i64, u64, u32, bln, hq, ht, dv_]; done) | (simp [i64, u64, u32, bln, hq, ht, dv_] <;> omega)))
    ·repeat' (first | exact as_ | refine an_ rfl rfl rfl rfl ?_ ?_)
     all_goals (first | exact au_e | (refine az_ hs ?_ (aQ_ _); first | (simp [dN_, eF_, c9_, hq, ht, dv_]; done) | (simp [dE, u32, ofV, hq, ht, dv_]; done)) | (refine aF_ ?_; repeat' (first | exact ap_ | refine ai_ ?_ ?_)))
     all_goals (first | exact au_c | (refine Cv.loE hs ?_ (ad_ _); first | (simp [i64, u64, u32, bln, hq, ht, dv_]; done) | (simp [i64, u64, u32, bln, hq, ht, dv_] <;> omega)))
   ·refine al_ ⟨0, ?_, ?_⟩
    ·have : ¬ 0 < n := by simpa using h
     omega
    ·rw [fj_]
     exact s_e []
  | succ k =>
   rw [ds_]
   refine ac_ (r_z 2 ?_)
   refine af_ rfl (fun h => ?_) (fun h => ?_)
   ·refine ag_ ?_
    have h0 : 0 < restD n (k + 1) := by simpa using h
    have hl1 : k + 1 < (digs MB n).length := by omega
    obtain ⟨hq, ht⟩ := ip_ hl1
    refine ac_ (ah_ (r_m 7 ?_))
    refine a_z ?_
    refine r_m 3 ?_
    refine a_z ?_
    refine ⟨k + 1 + 1, by omega, hl1, ?_⟩
    rw [ds_]
    refine ax_ [(2, 3)] rfl rfl rfl ?_ (fun hs => ?_) (fun hs => ?_)
    ·repeat' (first | exact ShrL.nil | refine ShrL.cons rfl rfl rfl rfl (by first | rfl | (simp; done) | (simp [hq, ht, hpl] <;> omega)) ?_)
    ·repeat' (first | exact aX_ | refine aL_ rfl ?_ ?_)
     all_goals (first | exact au_c | (refine Cv.loE hs ?_ (ad_ _); first | rfl | (simp [i64, u64, u32, bln, hq, ht, hpl]; done) | (simp [i64, u64, u32, bln, hq, ht, hpl] <;> omega)))
    ·repeat' (first | exact as_ | refine an_ rfl rfl rfl rfl ?_ ?_)
     all_goals (first | exact au_e | (refine az_ hs ?_ (aQ_ _); first | (simp [dN_, eF_, c9_, hq, ht, hpl]; done) | (simp [dE, u32, ofV, hq, ht, hpl]; done)) | (refine aF_ ?_; repeat' (first | exact ap_ | refine ai_ ?_ ?_)))
     all_goals (first | exact au_c | (refine Cv.loE hs ?_ (ad_ _); first | (simp [i64, u64, u32, bln, hq, ht, hpl]; done) | (simp [i64, u64, u32, bln, hq, ht, hpl] <;> omega)))
   ·refine al_ ⟨k + 1, ?_, ?_⟩
    ·have : ¬ 0 < restD n (k + 1) := by simpa using h
     omega
    ·rw [ds_]
     exact s_e []
 ·rintro k rfl
  cases hk : (digs MB n).length with
  | zero =>
   rw [fj_]
   refine r_z 3 ?_
   refine ae_ (Fin.cell rfl rfl rfl tg_33.h ts_33.h (nle rfl) (Cv.agg (ai_ (Cv.emp _ ?_) ap_)))
   unfold mag
   rw [List.length_eq_zero_iff] at hk
   rw [hk]; rfl
  | succ k =>
   rw [ds_]
   refine r_z 3 ?_
   refine ae_ (Fin.cell rfl rfl rfl tg_33.h ts_33.h (nle rfl) (Cv.agg (ai_ (Cv.shut at_ rfl (fun _ _ h => by cases h) ?_ ?_) ap_)))
   ·simp [fl_ (Nat.le_of_eq hk.symm)]
   ·refine az_ at_ ?_ (aQ_ _)
    have h1 : (preD n (k + 1)).length = k + 1 := fl_ (Nat.le_of_eq hk.symm)
    have h2 := preD_end n
    rw [hk] at h2
    simp only [List.drop_zero, qa_]
    rw [List.take_of_length_le (Nat.le_of_eq h1), h2]
end Go.Proofs.YtdhedjbmdnnbkaaGreatDoor
