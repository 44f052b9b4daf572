/- Part Y10 of the proof. -/
import Derived.Test.YtdhedjbmdnnbkaaGreatDoorY09
set_option linter.all false
namespace Go.Proofs.YtdhedjbmdnnbkaaGreatDoor
open Go.Abs
set_option maxRecDepth 20000
set_option maxHeartbeats 1000000
def plusS (p : Nat) (q : Nat) : List Nat × Nat → AState
 | (s, c) => ⟨[(26, i64 s.length), (25, i64 (digs MB p).length), (24, mag p), (2, .lptr 1 0 0), (3, .lptr 2 0 0), (4, .lptr 3 0 0), (5, .lsl 4 0 ((digs MB p).length + 1) (some ((digs MB p).length + 1)) 1), (6, u32 c)],
  [(1, some ⟨33, 1, [[mag p]]⟩), (2, some ⟨33, 1, [[mag q]]⟩), (3, some ⟨33, 1, [[.emp]]⟩), (4, some ⟨206, 1, dE (s ++ List.replicate ((digs MB p).length + 1 - s.length) 0)⟩)], 5, 63⟩
theorem eR_ (p : Nat) (q : Nat) (s : List Nat) (c : Nat) : plusS p q (s, c) = ⟨[(26, i64 s.length), (25, i64 (digs MB p).length), (24, mag p), (2, .lptr 1 0 0), (3, .lptr 2 0 0), (4, .lptr 3 0 0), (5, .lsl 4 0 ((digs MB p).length + 1) (some ((digs MB p).length + 1)) 1), (6, u32 c)],
   [(1, some ⟨33, 1, [[mag p]]⟩), (2, some ⟨33, 1, [[mag q]]⟩), (3, some ⟨33, 1, [[.emp]]⟩), (4, some ⟨206, 1, dE (s ++ List.replicate ((digs MB p).length + 1 - s.length) 0)⟩)], 5, 63⟩ := rfl
structure PlusI (p q : Nat) (a : List Nat × Nat) : Prop where
 le : a.1.length ≤ (digs MB p).length
 dig : ∀ d ∈ a.1, d < MB
 car : a.2 ≤ 1
 val : ofD MB a.1 + MB ^ a.1.length * a.2 = ofD MB ((digs MB p).take a.1.length) + ofD MB ((digs MB q).take a.1.length)
theorem lV_ (a b : Nat) (h : bl a + bl b ≤ 17592186044416) : FSpec Tryz.prog 176 [.agg [mag a], .agg [mag b]] (.agg [mag (a + b)]) := by
 have hla := aR_ (b := MB) (by decide) a
 have hlb := aR_ (b := MB) (by decide) b
 refine f_n Tryz.func176 ?_ ?_
 ·exact aa_ (aq_ (aa_ (aE_ a) ab_)) (aa_ (aq_ (aa_ (aE_ b) ab_)) ab_)
 refine r_z 3 ?_
 refine ac_ (r_z 7 ?_)
 refine au_ (fun x : Nat × Nat => ⟨[(2, .lptr 1 0 0), (3, .lptr 2 0 0), (4, .lptr 3 0 0)], [(1, some ⟨33, 1, [[mag x.1]]⟩), (2, some ⟨33, 1, [[mag x.2]]⟩), (3, some ⟨33, 1, [[.emp]]⟩)], 4, 63⟩)
  (fun x => x.1 + x.2 = a + b ∧ (digs MB x.2).length ≤ (digs MB x.1).length ∧ (digs MB x.1).length ≤ 17592186044416) ?_ ?_
 ·refine af_ rfl (fun h => ?_) (fun h => ?_)
  ·refine r_m 4 ?_
   refine a_z ?_
   refine ⟨(b, a), ⟨by simp; omega, ?_, by simp; omega⟩, ?_⟩
   ·simp at h; simp; omega
   ·exact s_e []
  ·refine ag_ ⟨(a, b), ⟨rfl, ?_, by simp; omega⟩, ?_⟩
   ·simp at h; simpa using h
   ·exact s_e []
 rintro ⟨p, q⟩ ⟨hpq, hqp, hp⟩
 simp only at hpq hqp hp ⊢
 refine r_z 6 ?_
 refine r_z 1 ?_
 refine ac_ (r_z 4 ?_)
 refine au_ (plusS p q) (fun x => PlusI p q x ∧ x.1.length = (digs MB p).length) ?_ ?_
 ·refine ah_ (ao_ (plusS p q) (fun x => (digs MB p).length - x.1.length) (PlusI p q) ([], 0) ⟨by simp, by simp, by simp, by simp [ofD]⟩ ?_ ?_)
  ·rw [eR_]
   exact s_e [(4, 5)]
  rintro ⟨s, c⟩ ⟨hle, hdig, hcar, hval⟩
  simp only at hle hdig hcar hval
  rw [eR_]
  refine r_z 1 ?_
  refine ac_ (af_ rfl (fun h => ?_) (fun h => ?_))
  ·refine ag_ ?_
   have hlt : s.length < (digs MB p).length := by simpa using h
   obtain ⟨x, hx⟩ : ∃ x, (digs MB p)[s.length]? = some x := ⟨_, List.getElem?_eq_getElem hlt⟩
   have hx1 : x < 1000000000 := bc_ (by decide) hx
   have hx' : (dE (digs MB p))[((s.length : Nat) : Int).toNat]? = some [u32 x] := bY_ hx
   refine ac_ (ah_ (s_r 5 ?_))
   refine a_1 ?_
   refine i_x hx' ?_
   refine l_1 hx' ?_
   refine a_z ?_
   refine r_z 4 ?_
   refine ac_ (r_z 5 ?_)
   have hq0 : ∀ y, ((digs MB q)[s.length]?.getD 0 = y) → y < 1000000000 := by
    rintro y rfl
    cases hy : (digs MB q)[s.length]? with
    | none => decide
    | some y => exact bc_ (by decide) hy
   refine au_ (fun v : Nat => ⟨[(26, i64 s.length), (25, i64 (digs MB p).length), (24, mag p), (2, .lptr 1 0 0), (3, .lptr 2 0 0), (4, .lptr 3 0 0), (5, .lsl 4 0 ((digs MB p).length + 1) (some ((digs MB p).length + 1)) 1), (7, i64 s.length), (8, u32 v)],
    [(1, some ⟨33, 1, [[mag p]]⟩), (2, some ⟨33, 1, [[mag q]]⟩), (3, some ⟨33, 1, [[.emp]]⟩), (4, some ⟨206, 1, dE (s ++ List.replicate ((digs MB p).length + 1 - s.length) 0)⟩)], 5, 63⟩)
    (fun v => v = x + c + (digs MB q)[s.length]?.getD 0) ?_ ?_
   ·refine af_ rfl (fun h => ?_) (fun h => ?_)
    ·have hlt2 : s.length < (digs MB q).length := by simpa using h
     obtain ⟨y, hy⟩ : ∃ y, (digs MB q)[s.length]? = some y := ⟨_, List.getElem?_eq_getElem hlt2⟩
     have hy1 : y < 1000000000 := bc_ (by decide) hy
     have hy' : (dE (digs MB q))[((s.length : Nat) : Int).toNat]? = some [u32 y] := bY_ hy
     refine r_m 8 ?_
     refine a_4 ?_
     refine i_x hy' ?_
     refine l_1 hy' ?_
     refine a_z ?_
     refine ⟨x + c + y, by rw [hy]; rfl, ?_⟩
     exact s_e []
    ·have hlt2 : ¬ s.length < (digs MB q).length := by simpa using h
     refine ag_ ⟨x + c, by rw [List.getElem?_eq_none (by omega)]; rfl, ?_⟩
     exact s_e []
   rintro v hv
   obtain ⟨y, hy⟩ : ∃ y, y = (digs MB q)[s.length]?.getD 0 := ⟨_, rfl⟩
   have hy1 := hq0 y hy.symm
   rw [← hy] at hv
   refine r_z 1 ?_
   refine ac_ (r_z 2 ?_)
   have hg : (dE (s ++ List.replicate ((digs MB p).length + 1 - s.length) 0))[0 + ((s.length : Nat) : Int).toNat]? = some [u32 0] := by
    rw [Nat.zero_add, Int.toNat_natCast]
    exact bY_ (by rw [show (digs MB p).length + 1 - s.length = ((digs MB p).length - s.length) + 1 by omega]; exact mW_ _ _ _ rfl)
   have hset : ∀ w : Nat, (dE (s ++ List.replicate ((digs MB p).length + 1 - s.length) 0)).set (0 + ((s.length : Nat) : Int).toNat) [u32 w] = dE ((s ++ [w]) ++ List.replicate ((digs MB p).length + 1 - (s ++ [w]).length) 0) := by
    intro w
    rw [Nat.zero_add, Int.toNat_natCast, dN_, show (digs MB p).length + 1 - s.length = ((digs MB p).length - s.length) + 1 by omega, mw_ _ _ _ _ rfl, show (digs MB p).length + 1 - (s ++ [w]).length = (digs MB p).length - s.length by simp]
   have hnext : ∀ w c', w + 1000000000 * c' = x + c + y → w < 1000000000 → c' ≤ 1 → PlusI p q (s ++ [w], c') := by
    intro w c' hw hwb hc'
    refine ⟨by simp; omega, ?_, hc', ?_⟩
    ·intro d hd
     rcases List.mem_append.1 hd with hd | hd
     ·exact hdig d hd
     ·simp at hd; subst hd; exact hwb
    ·simp only [List.length_append, List.length_singleton]
     rw [di_, bg_ _ hx, b8_, ← hy, Nat.pow_succ]
     have e : MB ^ s.length * w + MB ^ s.length * MB * c' = MB ^ s.length * (w + MB * c') := by rw [Nat.mul_add, Nat.mul_assoc]
     have e2 : MB ^ s.length * (x + c + y) = MB ^ s.length * x + MB ^ s.length * c + MB ^ s.length * y := by rw [Nat.mul_add, Nat.mul_add]
     rw [hw, e2] at e
     omega
   refine af_ rfl (fun h => ?_) (fun h => ?_)
   ·have hb : 1000000000 ≤ v := by have := of_decide_eq_true h; omega
    have hv1 : ((v : Int) - 1000000000) = ((v - 1000000000 : Nat) : Int) := by omega
    refine r_m 4 ?_
    refine a_z ?_
    refine r_m 5 ?_
    refine a_4 ?_
    refine o_1n (.store rfl rfl hg rfl rfl rfl ts_206.h (nle rfl)) ?_
    refine aj_ ?_
    refine r_m 2 ?_
    refine a_z ?_
    refine ⟨(s ++ [v - 1000000000], 1), by simp; omega, hnext _ _ (by omega) (by omega) (Nat.le_refl _), ?_⟩
    rw [eR_]
    refine ax_ [] rfl rfl rfl au_r (fun hs => au_f) (fun hs => ?_)
    ·repeat' (first | exact as_ | refine an_ rfl rfl rfl rfl ?_ ?_)
     all_goals (first | (refine az_ hs ?_ (aQ_ _); rw [hv1]; exact hset _) | exact au_e)
   ·have hb : v < 1000000000 := by have := of_decide_eq_false h; omega
    refine ag_ (r_m 5 ?_)
    refine a_4 ?_
    refine o_1n (.store rfl rfl hg rfl rfl rfl ts_206.h (nle rfl)) ?_
    refine aj_ ?_
    refine r_m 2 ?_
    refine a_z ?_
    refine ⟨(s ++ [v], 0), by simp; omega, hnext _ _ (by omega) hb (by omega), ?_⟩
    rw [eR_]
    refine ax_ [] rfl rfl rfl au_r (fun hs => au_f) (fun hs => ?_)
    ·repeat' (first | exact as_ | refine an_ rfl rfl rfl rfl ?_ ?_)
     all_goals (first | (refine az_ hs ?_ (aQ_ _); exact hset _) | exact au_e)
  ·refine al_ ⟨(s, c), ⟨⟨hle, hdig, hcar, hval⟩, ?_⟩, ?_⟩
   ·simp at h; simp; omega
   ·rw [eR_]
    exact s_e []
 rintro ⟨s, c⟩ ⟨⟨hle, hdig, hcar, hval⟩, hlen⟩
 simp only at hle hdig hcar hval hlen
 have hg : (dE (s ++ List.replicate ((digs MB p).length + 1 - s.length) 0))[0 + (((digs MB p).length : Nat) : Int).toNat]? = some [u32 0] := by
  rw [Nat.zero_add, Int.toNat_natCast, ← hlen]
  exact bY_ (by rw [show s.length + 1 - s.length = 0 + 1 by omega]; exact mW_ _ _ _ rfl)
 have hset : (dE (s ++ List.replicate ((digs MB p).length + 1 - s.length) 0)).set (0 + (((digs MB p).length : Nat) : Int).toNat) [u32 c] = dE (s ++ [c]) := by
  rw [Nat.zero_add, Int.toNat_natCast, ← hlen, dN_, show s.length + 1 - s.length = 0 + 1 by omega, mw_ _ _ _ _ rfl]; simp
 have hres : trimD (s ++ [c]) = digs MB (a + b) := by
  rw [d8_ (b := MB) (by decide), di_, hval, c5_ _ (by omega), c5_ _ (by omega), aS_ (by decide), aS_ (by decide), hpq]
  intro d hd
  rcases List.mem_append.1 hd with hd | hd
  ·exact hdig d hd
  ·simp at hd; subst hd; show d < 1000000000; omega
 rw [eR_]
 refine s_r 7 ?_
 refine a_6 ?_
 refine o_1n (.store rfl rfl hg rfl rfl rfl ts_206.h (nle rfl)) ?_
 refine aj_ ?_
 refine AWp.ent (st' := ⟨[(4, .lptr 3 0 0), (5, .arr (dE (s ++ [c])))], [(3, some ⟨33, 1, [[.emp]]⟩)], 4, 63⟩) ?_ ?_
 ·refine ax_ [] rfl rfl rfl au_r (fun hs => ?_) (fun hs => ?_)
  ·repeat' (first | exact aX_ | refine aL_ rfl ?_ ?_)
   all_goals (first | (exact Cv.sealE hs rfl (cd_ rfl) hset (by simp [hlen]) (aQ_ _)) | exact au_c)
  ·repeat' (first | exact as_ | refine an_ rfl rfl rfl rfl ?_ ?_)
   all_goals (first | exact au_e | (refine aF_ ?_; repeat' (first | exact ap_ | refine ai_ ?_ ?_)))
   all_goals (first | (exact Cv.sealE hs rfl (cd_ rfl) hset (by simp [hlen]) (aQ_ _)) | exact au_c)
 refine s_r 3 ?_
 refine o_0 (.move rfl) ?_
 refine o_0 (.call rfl rfl rfl (dn_ _ (by simp; omega))) ?_
 refine a_z ?_
 refine ae_ (bH_ rfl rfl rfl tg_33.h ts_33.h (nle rfl) ?_ (aq_ (aa_ (aE_ _) ab_)))
 rw [hres]; rfl
def agS (a : Nat) (b : Nat) : Nat → AState
 | k => ⟨[(2, .lptr 1 0 0), (3, .lptr 2 0 0), (6, i64 ((k : Int) - 1))], [(1, some ⟨33, 1, [[mag a]]⟩), (2, some ⟨33, 1, [[mag b]]⟩)], 3, 40⟩
theorem ly_ (a : Nat) (b : Nat) (k : Nat) : agS a b k = ⟨[(2, .lptr 1 0 0), (3, .lptr 2 0 0), (6, i64 ((k : Int) - 1))], [(1, some ⟨33, 1, [[mag a]]⟩), (2, some ⟨33, 1, [[mag b]]⟩)], 3, 40⟩ := rfl
theorem gg_ (a b : Nat) (h : bl a + bl b ≤ 17592186044416) : FSpec Tryz.prog 97 [.agg [mag a], .agg [mag b]] (i64 (cmpZ a b)) := by
 have hla := aR_ (b := MB) (by decide) a
 have hlb := aR_ (b := MB) (by decide) b
 refine f_n Tryz.func97 ?_ ?_
 ·exact aa_ (aq_ (aa_ (aE_ a) ab_)) (aa_ (aq_ (aa_ (aE_ b) ab_)) ab_)
 refine r_z 3 ?_
 refine ac_ (r_c 8 (k0_ _ _) ?_)
 refine a_z ?_
 refine r_z 2 ?_
 refine af_ rfl (fun h => ?_) (fun h => ?_)
 ·have hne : cmpZ (digs MB a).length (digs MB b).length ≠ 0 := by simpa using h
  refine r_z 2 ?_
  refine ae_ (aD_ rfl ?_ (ad_ _))
  unfold i64
  congr 2
  rw [jY_] at hne
  rcases Nat.lt_or_ge (digs MB a).length (digs MB b).length with hl | hl
  ·have := dV_ (by decide) hl
   rw [fr_ (by omega), fr_ (by omega)]
  ·have := dV_ (m := b) (n := a) (b := MB) (by decide) (by omega)
   rw [gl_ (by omega), gl_ (by omega)]
 have heq : (digs MB a).length = (digs MB b).length := by
  have h0 : ¬ cmpZ (digs MB a).length (digs MB b).length ≠ 0 := by simpa using h
  rw [jY_] at h0; omega
 refine ag_ (ac_ (r_z 5 ?_))
 refine au_ (agS a b) (fun k => k = 0 ∧ a = b) ?_ ?_
 ·refine ah_ (ao_ (agS a b) (fun k => k) (fun k => k ≤ (digs MB a).length ∧ (digs MB a).drop k = (digs MB b).drop k) (digs MB a).length ⟨Nat.le_refl _, by rw [List.drop_length, heq, List.drop_length]⟩ ?_ ?_)
  ·rw [ly_]
   exact s_e []
  rintro k ⟨hk, hd⟩
  rw [ly_]
  refine ac_ (r_z 2 ?_)
  refine af_ rfl (fun h => ?_) (fun h => ?_)
  ·have hk0 : 0 < k := by have := of_decide_eq_true h; omega
   obtain ⟨x, hx⟩ : ∃ x, (digs MB a)[k - 1]? = some x := ⟨_, List.getElem?_eq_getElem (by omega)⟩
   obtain ⟨y, hy⟩ : ∃ y, (digs MB b)[k - 1]? = some y := ⟨_, List.getElem?_eq_getElem (by omega)⟩
   have hx' : (dE (digs MB a))[((k : Int) - 1).toNat]? = some [u32 x] := by rw [show ((k : Int) - 1).toNat = k - 1 by omega]; exact bY_ hx
   have hy' : (dE (digs MB b))[((k : Int) - 1).toNat]? = some [u32 y] := by rw [show ((k : Int) - 1).toNat = k - 1 by omega]; exact bY_ hy
   rw [show k = (k - 1) + 1 by omega] at hd
   refine ag_ (ac_ (ah_ (ac_ (r_d hmix 12 ?_))))
   refine a_3 ?_
   refine i_x hx' ?_
   refine l_1 hx' ?_
   refine a_3 ?_
   refine i_x hy' ?_
   refine l_1 hy' ?_
   refine c_s (kZ_ x y) ?_
   refine a_1 ?_
   refine aj_ (n_k ?_)
   refine r_z 2 ?_
   refine af_ rfl (fun h2 => ?_) (fun h2 => ?_)
   ·have hne : cmpZ x y ≠ 0 := by simpa using h2
    refine r_z 2 ?_
    refine ae_ (aD_ rfl ?_ (ad_ _))
    unfold i64
    congr 2
    rw [jY_] at hne
    rcases Nat.lt_or_ge x y with hl | hl
    ·have := fH_ (b := MB) (bK_ (by decide) a) hx hy hd hl
     rw [aS_ (by decide), aS_ (by decide)] at this
     rw [fr_ (by omega), fr_ (by omega)]
    ·have := fH_ (b := MB) (bK_ (by decide) b) hy hx hd.symm (by omega)
     rw [aS_ (by decide), aS_ (by decide)] at this
     rw [gl_ (by omega), gl_ (by omega)]
   ·have hxy : x = y := by
     have h0 : ¬ cmpZ x y ≠ 0 := by simpa using h2
     rw [jY_] at h0; omega
    refine ag_ (r_m 3 ?_)
    refine a_z ?_
    refine ⟨k - 1, by omega, ⟨by omega, ?_⟩, ?_⟩
    ·rw [cN_ hx, cN_ hy, hd, hxy]
    ·rw [ly_]
     exact s_e []
  ·have hk0 : k = 0 := by have := of_decide_eq_false h; omega
   subst hk0
   refine al_ ⟨0, ⟨rfl, ?_⟩, ?_⟩
   ·have := congrArg (ofD MB) hd
    rwa [List.drop_zero, List.drop_zero, aS_ (by decide), aS_ (by decide)] at this
   ·rw [ly_]
    exact s_e []
 rintro k ⟨rfl, hab⟩
 rw [ly_]
 refine r_z 1 ?_
 refine ae_ (aD_ rfl ?_ (ad_ _))
 subst hab
 rw [qd_ rfl]; rfl
def leS (a : Nat) (b : Nat) : List Nat × Nat → AState
 | (s, c) => ⟨[(19, i64 s.length), (18, i64 (digs MB a).length), (2, .lptr 1 0 0), (3, .lptr 2 0 0), (4, .lptr 3 0 0), (5, .lsl 4 0 (digs MB a).length (some (digs MB a).length) 1), (6, u32 c)],
  [(1, some ⟨33, 1, [[mag a]]⟩), (2, some ⟨33, 1, [[mag b]]⟩), (3, some ⟨33, 1, [[.emp]]⟩), (4, some ⟨206, 1, dE (s ++ (digs MB a).drop s.length)⟩)], 5, 61⟩
theorem mV_ (a : Nat) (b : Nat) (s : List Nat) (c : Nat) : leS a b (s, c) = ⟨[(19, i64 s.length), (18, i64 (digs MB a).length), (2, .lptr 1 0 0), (3, .lptr 2 0 0), (4, .lptr 3 0 0), (5, .lsl 4 0 (digs MB a).length (some (digs MB a).length) 1), (6, u32 c)],
   [(1, some ⟨33, 1, [[mag a]]⟩), (2, some ⟨33, 1, [[mag b]]⟩), (3, some ⟨33, 1, [[.emp]]⟩), (4, some ⟨206, 1, dE (s ++ (digs MB a).drop s.length)⟩)], 5, 61⟩ := rfl
def leT (n : Nat) : List Nat × Unit → AState
 | (o, u) => ⟨[(4, .lptr 3 0 0), (5, .lsl 4 0 n (some n) 1)],
  [(3, some ⟨33, 1, [[.emp]]⟩), (4, some ⟨206, 1, dE o⟩)], 5, 61⟩
theorem ph_ (n : Nat) (o : List Nat) (u : Unit) : leT n (o, u) = ⟨[(4, .lptr 3 0 0), (5, .lsl 4 0 n (some n) 1)],
   [(3, some ⟨33, 1, [[.emp]]⟩), (4, some ⟨206, 1, dE o⟩)], 5, 61⟩ := rfl
structure LessI (a b : Nat) (x : List Nat × Nat) : Prop where
 le : x.1.length ≤ (digs MB a).length
 dig : ∀ d ∈ x.1, d < MB
 car : x.2 ≤ 1
 val : ofD MB x.1 + ofD MB ((digs MB b).take x.1.length) = ofD MB ((digs MB a).take x.1.length) + MB ^ x.1.length * x.2
theorem lX_ (a b : Nat) (h : bl a ≤ 17592186044416) (hba : b ≤ a) : FSpec Tryz.prog 183 [.agg [mag a], .agg [mag b]] (.agg [mag (a - b)]) := by
 have hla := aR_ (b := MB) (by decide) a
 have hlen := mT_ (b := MB) (by decide) hba
 have va := aS_ (b := MB) (by decide) a
 have vb := aS_ (b := MB) (by decide) b
 refine f_n Tryz.func183 ?_ ?_
 ·exact aa_ (aq_ (aa_ (aE_ a) ab_)) (aa_ (aq_ (aa_ (aE_ b) ab_)) ab_)
 refine r_z 3 ?_
 refine r_z 5 ?_
 refine s_r 4 ?_
 refine a_3 ?_
 refine o_1 (.copy rfl rfl rfl te_31.h rfl rfl rfl (by first | (simp; done) | (simp; omega)) (by first | exact cS_ _ | exact cR_ _ | exact cQ_ _ | exact cT_ _ | exact cL_ _ | rfl | simp) rfl (.arr (md_ _))) ?_
 refine aj_ ?_
 have hcp : setAt (List.replicate (digs MB a).length [ofV (Value.int IntKind.u32 0)]) 0 (List.take (Nat.min (dE (digs MB a)).length (digs MB a).length) (dE (digs MB a))) = dE ([] ++ (digs MB a).drop 0) := by
  rw [oL_]
  ·rw [List.take_of_length_le (by simp)]; rfl
  ·simp
 refine r_z 1 ?_
 refine ac_ (r_z 3 ?_)
 refine au_ (leT (digs MB a).length) (fun x => (∀ d ∈ x.1, d < MB) ∧ x.1.length = (digs MB a).length ∧ ofD MB x.1 = a - b) ?_ ?_
 ·refine ah_ (ao_ (leS a b) (fun x => (digs MB a).length - x.1.length) (LessI a b) ([], 0) ⟨by simp, by simp, by simp, by simp [ofD]⟩ ?_ ?_)
  ·rw [mV_]
   refine ax_ [(4, 5)] rfl rfl rfl ?_ (fun hs => au_f) (fun hs => ?_)
   ·repeat' (first | exact ShrL.nil | refine ShrL.cons rfl rfl rfl rfl (by first | (exact (congrArg List.length hcp).trans (by simp)) | rfl | (simp; done) | (simp <;> omega)) ?_)
   ·repeat' (first | exact as_ | refine an_ rfl rfl rfl rfl ?_ ?_)
    all_goals (first | (exact az_ hs hcp (aQ_ _)) | exact au_e)
  rintro ⟨s, c⟩ ⟨hle, hdig, hcar, hval⟩
  simp only at hle hdig hcar hval
  rw [mV_]
  refine r_z 1 ?_
  refine ac_ (af_ rfl (fun h => ?_) (fun h => ?_))
  ·have hlt : s.length < (digs MB a).length := by have := of_decide_eq_true h; omega
   obtain ⟨x, hx⟩ : ∃ x, (digs MB a)[s.length]? = some x := ⟨_, List.getElem?_eq_getElem hlt⟩
   have hx1 : x < 1000000000 := bc_ (by decide) hx
   have hdx := cN_ hx
   refine ag_ (ac_ (ah_ (r_z 2 ?_)))
   refine r_z 2 ?_
   refine ac_ (r_z 5 ?_)
   refine au_ (fun v : Nat => ⟨[(19, i64 s.length), (18, i64 (digs MB a).length), (2, .lptr 1 0 0), (3, .lptr 2 0 0), (4, .lptr 3 0 0), (5, .lsl 4 0 (digs MB a).length (some (digs MB a).length) 1), (6, u32 c), (7, i64 s.length), (8, u32 v)],
    [(1, some ⟨33, 1, [[mag a]]⟩), (2, some ⟨33, 1, [[mag b]]⟩), (3, some ⟨33, 1, [[.emp]]⟩), (4, some ⟨206, 1, dE (s ++ (digs MB a).drop s.length)⟩)], 5, 61⟩)
    (fun v => v = c + (digs MB b)[s.length]?.getD 0 ∧ v ≤ 1000000000) ?_ ?_
   ·refine af_ rfl (fun h => ?_) (fun h => ?_)
    ·have hlt2 : s.length < (digs MB b).length := by have := of_decide_eq_true h; omega
     obtain ⟨y, hy⟩ : ∃ y, (digs MB b)[s.length]? = some y := ⟨_, List.getElem?_eq_getElem hlt2⟩
     have hy1 : y < 1000000000 := bc_ (by decide) hy
     have hy' : (dE (digs MB b))[((s.length : Nat) : Int).toNat]? = some [u32 y] := bY_ hy
     refine r_m 8 ?_
     refine a_4 ?_
     refine i_x hy' ?_
     refine l_1 hy' ?_
     refine a_z ?_
     refine ⟨c + y, ⟨by rw [hy]; rfl, by omega⟩, ?_⟩
     exact s_e []
    ·have hlt2 : ¬ s.length < (digs MB b).length := by have := of_decide_eq_false h; omega
     refine r_z 2 ?_
     refine af_ rfl (fun h => ?_) (fun h => ?_)
     ·have hc0 : c = 0 := by simpa using h
      refine al_ ⟨(s ++ (digs MB a).drop s.length, ()), ⟨?_, by simp; omega, ?_⟩, ?_⟩
      ·intro d hd
       rcases List.mem_append.1 hd with hd | hd
       ·exact hdig d hd
       ·exact bK_ (by decide) a d (List.mem_of_mem_drop hd)
      ·have := bL_ MB s.length (digs MB a) (by omega)
       rw [va] at this
       rw [c5_ _ (by omega), vb, hc0] at hval
       simp only [cW_]
       omega
      ·rw [ph_]
       exact s_e []
     ·refine ag_ ⟨c, ⟨by rw [List.getElem?_eq_none (by omega)]; rfl, by omega⟩, ?_⟩
      exact s_e []
   rintro v ⟨hv, hv1⟩
   obtain ⟨y, hy⟩ : ∃ y, y = (digs MB b)[s.length]?.getD 0 := ⟨_, rfl⟩
   rw [← hy] at hv
   have hg : (dE (s ++ (digs MB a).drop s.length))[0 + ((s.length : Nat) : Int).toNat]? = some [u32 x] := by
    rw [Nat.zero_add, Int.toNat_natCast, hdx]
    exact bY_ (hF_ _ _ _ _ rfl)
   have hset : ∀ w : Nat, (dE (s ++ (digs MB a).drop s.length)).set (0 + ((s.length : Nat) : Int).toNat) [u32 w] = dE ((s ++ [w]) ++ (digs MB a).drop (s ++ [w]).length) := by
    intro w
    rw [Nat.zero_add, Int.toNat_natCast, dN_, hdx, ha_ _ _ _ _ _ rfl]; simp
   have hnext : ∀ w c', w + v = x + 1000000000 * c' → w < 1000000000 → c' ≤ 1 → LessI a b (s ++ [w], c') := by
    intro w c' hw hwb hc'
    refine ⟨by simp; omega, ?_, hc', ?_⟩
    ·intro d hd
     rcases List.mem_append.1 hd with hd | hd
     ·exact hdig d hd
     ·simp at hd; subst hd; exact hwb
    ·simp only [List.length_append, List.length_singleton]
     rw [di_, bg_ _ hx, b8_, ← hy, Nat.pow_succ]
     have e : MB ^ s.length * (w + v) = MB ^ s.length * (x + MB * c') := by rw [hw]
     rw [hv, Nat.mul_add, Nat.mul_add, Nat.mul_add, ← Nat.mul_assoc] at e
     omega
   refine r_z 1 ?_
   refine ac_ (s_r 6 ?_)
   refine a_2 ?_
   first | refine aG_ (.index_l rfl rfl (by omega) (by omega) te_31.h) rfl rfl ?_ | refine aG_ (.index_a rfl rfl (by omega) hg rfl te_31.h) rfl rfl ?_
   first | refine aG_ (.load_l1 rfl rfl hg tg_206.h rfl) rfl rfl ?_ | refine aG_ (.load_a1 rfl hg tg_206.h rfl) rfl rfl ?_
   refine a_z ?_
   refine af_ rfl (fun h => ?_) (fun h => ?_)
   ·have hb : x < v := by have := of_decide_eq_true h; omega
    have hv2 : ((x : Int) + 1000000000 - v) = ((x + 1000000000 - v : Nat) : Int) := by omega
    have hv3 : ((x : Int) + 1000000000) = ((x + 1000000000 : Nat) : Int) := by omega
    refine r_m 10 ?_
    refine a_5 ?_
    first | refine aG_ (.load_l1 rfl rfl hg tg_206.h rfl) rfl rfl ?_ | refine aG_ (.load_a1 rfl hg tg_206.h rfl) rfl rfl ?_
    refine a_2 ?_
    refine o_1n (.store rfl rfl hg rfl rfl rfl ts_206.h (nle rfl)) ?_
    refine a_z ?_
    refine AWp.ent (st' := ⟨[(19, i64 s.length), (18, i64 (digs MB a).length), (2, .lptr 1 0 0), (3, .lptr 2 0 0), (4, .lptr 3 0 0), (5, .lsl 4 0 (digs MB a).length (some (digs MB a).length) 1), (6, u32 1), (7, i64 s.length), (8, u32 v)],
     [(1, some ⟨33, 1, [[mag a]]⟩), (2, some ⟨33, 1, [[mag b]]⟩), (3, some ⟨33, 1, [[.emp]]⟩), (4, some ⟨206, 1, dE (s ++ (x + 1000000000) :: (digs MB a).drop (s.length + 1))⟩)], 5, 61⟩) ?_ ?_
    ·refine ax_ [] rfl rfl rfl au_r (fun hs => au_f) (fun hs => ?_)
     ·repeat' (first | exact as_ | refine an_ rfl rfl rfl rfl ?_ ?_)
      all_goals (first | (refine az_ hs ?_ (aQ_ _); rw [hv3]; exact (hset _).trans (by simp)) | exact au_e)
    have hg2 : (dE (s ++ (x + 1000000000) :: (digs MB a).drop (s.length + 1)))[0 + ((s.length : Nat) : Int).toNat]? = some [u32 (x + 1000000000)] := by
     rw [Nat.zero_add, Int.toNat_natCast]
     exact bY_ (hF_ _ _ _ _ rfl)
    have hset2 : ∀ w : Nat, (dE (s ++ (x + 1000000000) :: (digs MB a).drop (s.length + 1))).set (0 + ((s.length : Nat) : Int).toNat) [u32 w] = dE ((s ++ [w]) ++ (digs MB a).drop (s ++ [w]).length) := by
     intro w
     rw [Nat.zero_add, Int.toNat_natCast, dN_, ha_ _ _ _ _ _ rfl]; simp
    have hv2 : (((x + 1000000000 : Nat) : Int) - v) = ((x + 1000000000 - v : Nat) : Int) := by omega
    refine r_m 8 ?_
    refine a_2 ?_
    first | refine aG_ (.index_l rfl rfl (by omega) (by omega) te_31.h) rfl rfl ?_ | refine aG_ (.index_a rfl rfl (by omega) hg2 rfl te_31.h) rfl rfl ?_
    first | refine aG_ (.load_l1 rfl rfl hg2 tg_206.h rfl) rfl rfl ?_ | refine aG_ (.load_a1 rfl hg2 tg_206.h rfl) rfl rfl ?_
    refine a_3 ?_
    refine o_1n (.store rfl rfl hg2 rfl rfl rfl ts_206.h (nle rfl)) ?_
    refine aj_ ?_
    refine r_m 2 ?_
    refine a_z ?_
    refine ⟨(s ++ [x + 1000000000 - v], 1), by simp; omega, hnext _ _ (by omega) (by omega) (by omega), ?_⟩
    rw [mV_]
    refine ax_ [] rfl rfl rfl au_r (fun hs => au_f) (fun hs => ?_)
    ·repeat' (first | exact as_ | refine an_ rfl rfl rfl rfl ?_ ?_)
     all_goals (first | (refine az_ hs ?_ (aQ_ _); rw [hv2]; exact hset2 _) | exact au_e)
   ·have hb : v ≤ x := by have := of_decide_eq_false h; omega
    have hv1 : ((x : Int) - v) = ((x - v : Nat) : Int) := by omega
    refine ag_ (r_m 8 ?_)
    refine a_2 ?_
    first | refine aG_ (.index_l rfl rfl (by omega) (by omega) te_31.h) rfl rfl ?_ | refine aG_ (.index_a rfl rfl (by omega) hg rfl te_31.h) rfl rfl ?_
    first | refine aG_ (.load_l1 rfl rfl hg tg_206.h rfl) rfl rfl ?_ | refine aG_ (.load_a1 rfl hg tg_206.h rfl) rfl rfl ?_
    refine a_3 ?_
    refine o_1n (.store rfl rfl hg rfl rfl rfl ts_206.h (nle rfl)) ?_
    refine aj_ ?_
    refine r_m 2 ?_
    refine a_z ?_
    refine ⟨(s ++ [x - v], 0), by simp; omega, hnext _ _ (by omega) (by omega) (by omega), ?_⟩
    rw [mV_]
    refine ax_ [] rfl rfl rfl au_r (fun hs => au_f) (fun hs => ?_)
    ·repeat' (first | exact as_ | refine an_ rfl rfl rfl rfl ?_ ?_)
     all_goals (first | (refine az_ hs ?_ (aQ_ _); rw [hv1]; exact hset _) | exact au_e)
  ·have hl : s.length = (digs MB a).length := by have := of_decide_eq_false h; omega
   refine al_ ⟨(s, ()), ⟨hdig, hl, ?_⟩, ?_⟩
   ·have h1 := c6_ hdig
    rw [hl, c5_ _ hlen, c5_ _ (Nat.le_refl _), va, vb] at hval
    rw [hl] at h1
    have h2 : c = 0 := by
     rcases Nat.eq_zero_or_pos c with h | h
     ·exact h
     ·have : MB ^ (digs MB a).length * 1 ≤ MB ^ (digs MB a).length * c := Nat.mul_le_mul_left _ h
      omega
    subst h2
    simp at hval ⊢
    omega
   ·rw [ph_]
    refine ax_ [] rfl rfl rfl ?_ (fun hs => ?_) (fun hs => ?_)
    ·repeat' (first | exact ShrL.nil | refine ShrL.cons rfl rfl rfl rfl (by first | rfl | (simp; done) | (simp [hl] <;> omega)) ?_)
    ·repeat' (first | exact aX_ | refine aL_ rfl ?_ ?_)
     all_goals (first | exact au_c | (refine Cv.loE hs ?_ (ad_ _); first | rfl | (simp [i64, u64, u32, bln, hl]; done) | (simp [i64, u64, u32, bln, hl] <;> omega)))
    ·repeat' (first | exact as_ | refine an_ rfl rfl rfl rfl ?_ ?_)
     all_goals (first | exact au_e | (refine az_ hs ?_ (aQ_ _); first | (simp [dN_, eF_, c9_, hl]; done) | (simp [dE, u32, ofV, hl]; done)) | (refine aF_ ?_; repeat' (first | exact ap_ | refine ai_ ?_ ?_)))
     all_goals (first | exact au_c | (refine Cv.loE hs ?_ (ad_ _); first | (simp [i64, u64, u32, bln, hl]; done) | (simp [i64, u64, u32, bln, hl] <;> omega)))
 rintro ⟨o, u⟩ ⟨hd, hl, hv⟩
 rw [ph_]
 refine AWp.ent (st' := ⟨[(4, .lptr 3 0 0), (5, .arr (dE o))], [(3, some ⟨33, 1, [[.emp]]⟩)], 4, 61⟩) ?_ ?_
 ·refine ax_ [] rfl rfl rfl au_r (fun hs => ?_) (fun hs => ?_)
  ·repeat' (first | exact aX_ | refine aL_ rfl ?_ ?_)
   all_goals (first | (exact Cv.sealE hs rfl (cd_ rfl) rfl (by simp [hl]) (aQ_ _)) | exact au_c)
  ·repeat' (first | exact as_ | refine an_ rfl rfl rfl rfl ?_ ?_)
   all_goals (first | exact au_e | (refine aF_ ?_; repeat' (first | exact ap_ | refine ai_ ?_ ?_)))
   all_goals (first | (exact Cv.sealE hs rfl (cd_ rfl) rfl (by simp [hl]) (aQ_ _)) | exact au_c)
 simp only at hl hv
 refine s_r 3 ?_
 refine o_0 (.move rfl) ?_
 refine o_0 (.call rfl rfl rfl (dn_ _ (by omega))) ?_
 refine o_1n (.store rfl rfl rfl rfl rfl rfl ts_33.h (nle rfl)) ?_
 refine aj_ ?_
 refine ae_ (bH_ rfl rfl rfl tg_33.h ts_33.h (nle rfl) ?_ (aq_ (aa_ (aE_ _) ab_)))
 rw [d8_ (b := MB) (by decide) hd, hv]; rfl
def tiS (a : Nat) (b : Nat) : List Nat × Nat → AState
 | (o, i) => ⟨[(22, i64 i), (21, i64 (digs MB a).length), (20, mag a), (3, .lptr 2 0 0), (4, .lptr 3 0 0), (5, .lsl 4 0 ((digs MB a).length + (digs MB b).length) (some ((digs MB a).length + (digs MB b).length)) 1)],
  [(2, some ⟨33, 1, [[mag b]]⟩), (3, some ⟨33, 1, [[.emp]]⟩), (4, some ⟨206, 1, dE o⟩)], 5, 73⟩
theorem kn_ (a : Nat) (b : Nat) (o : List Nat) (i : Nat) : tiS a b (o, i) = ⟨[(22, i64 i), (21, i64 (digs MB a).length), (20, mag a), (3, .lptr 2 0 0), (4, .lptr 3 0 0), (5, .lsl 4 0 ((digs MB a).length + (digs MB b).length) (some ((digs MB a).length + (digs MB b).length)) 1)],
   [(2, some ⟨33, 1, [[mag b]]⟩), (3, some ⟨33, 1, [[.emp]]⟩), (4, some ⟨206, 1, dE o⟩)], 5, 73⟩ := rfl
def tiT (a : Nat) (b : Nat) (i : Nat) (x : Nat) : List Nat × Nat × Nat → AState
 | (o, k, c) => ⟨[(22, i64 i), (21, i64 (digs MB a).length), (20, mag a), (3, .lptr 2 0 0), (4, .lptr 3 0 0), (5, .lsl 4 0 ((digs MB a).length + (digs MB b).length) (some ((digs MB a).length + (digs MB b).length)) 1), (6, i64 i), (7, u32 x), (8, u64 c), (30, i64 k), (29, i64 (digs MB b).length), (28, mag b)],
  [(2, some ⟨33, 1, [[mag b]]⟩), (3, some ⟨33, 1, [[.emp]]⟩), (4, some ⟨206, 1, dE o⟩)], 5, 73⟩
theorem km_ (a : Nat) (b : Nat) (i : Nat) (x : Nat) (o : List Nat) (k : Nat) (c : Nat) : tiT a b i x (o, k, c) = ⟨[(22, i64 i), (21, i64 (digs MB a).length), (20, mag a), (3, .lptr 2 0 0), (4, .lptr 3 0 0), (5, .lsl 4 0 ((digs MB a).length + (digs MB b).length) (some ((digs MB a).length + (digs MB b).length)) 1), (6, i64 i), (7, u32 x), (8, u64 c), (30, i64 k), (29, i64 (digs MB b).length), (28, mag b)],
   [(2, some ⟨33, 1, [[mag b]]⟩), (3, some ⟨33, 1, [[.emp]]⟩), (4, some ⟨206, 1, dE o⟩)], 5, 73⟩ := rfl
structure TimesI (a b : Nat) (x : List Nat × Nat) : Prop where
 len : x.1.length = (digs MB a).length + (digs MB b).length
 le : x.2 ≤ (digs MB a).length
 dig : ∀ d ∈ x.1, d < MB
 val : ofD MB x.1 = ofD MB ((digs MB a).take x.2) * b
 zer : ∀ j, x.2 + (digs MB b).length ≤ j → j < x.1.length → x.1[j]? = some 0
structure TimesJ (a b i v : Nat) (x : List Nat × Nat × Nat) : Prop where
 len : x.1.length = (digs MB a).length + (digs MB b).length
 le : x.2.1 ≤ (digs MB b).length
 dig : ∀ d ∈ x.1, d < MB
 car : x.2.2 < MB
 val : ofD MB x.1 + MB ^ (i + x.2.1) * x.2.2 = ofD MB ((digs MB a).take i) * b + MB ^ i * v * ofD MB ((digs MB b).take x.2.1)
 zer : ∀ j, i + (digs MB b).length ≤ j → j < x.1.length → x.1[j]? = some 0
theorem c1_ (a b : Nat) (h : bl a + bl b ≤ 17592186044416) : FSpec Tryz.prog 95 [.agg [mag a], .agg [mag b]] (.agg [mag (a * b)]) := by
 have hla := aR_ (b := MB) (by decide) a
 have hlb := aR_ (b := MB) (by decide) b
 have va := aS_ (b := MB) (by decide) a
 have vb := aS_ (b := MB) (by decide) b
 refine f_n Tryz.func95 ?_ ?_
 ·exact aa_ (aq_ (aa_ (aE_ a) ab_)) (aa_ (aq_ (aa_ (aE_ b) ab_)) ab_)
 refine r_z 3 ?_
 refine r_z 9 ?_
 refine ac_ (r_z 4 ?_)
 refine au_ (tiS a b) (fun x => TimesI a b x ∧ x.2 = (digs MB a).length) ?_ ?_
 ·refine ah_ (ao_ (tiS a b) (fun x => (digs MB a).length - x.2) (TimesI a b) (List.replicate ((digs MB a).length + (digs MB b).length) 0, 0) ⟨by simp, by simp, ?_, by simp [hn_, ofD], ?_⟩ ?_ ?_)
  ·intro d hd; simp at hd; rw [hd.2]; decide
  ·intro j _ hj; simp at hj; simp [hj]
  ·rw [kn_]
   exact s_e [(4, 5)]
  rintro ⟨o, i⟩ ⟨hlen, hle, hdig, hval, hzer⟩
  simp only at hlen hle hdig hval hzer
  rw [kn_]
  refine r_z 1 ?_
  refine ac_ (af_ rfl (fun h => ?_) (fun h => ?_))
  ·have hlt : i < (digs MB a).length := by have := of_decide_eq_true h; omega
   obtain ⟨x, hx⟩ : ∃ x, (digs MB a)[i]? = some x := ⟨_, List.getElem?_eq_getElem hlt⟩
   have hx1 : x < 1000000000 := bc_ (by decide) hx
   have hx' : (dE (digs MB a))[((i : Nat) : Int).toNat]? = some [u32 x] := bY_ hx
   refine ag_ (ac_ (ah_ (s_r 5 ?_)))
   refine a_1 ?_
   refine i_x hx' ?_
   refine l_1 hx' ?_
   refine a_z ?_
   refine r_z 1 ?_
   refine ac_ (r_z 4 ?_)
   refine au_ (tiT a b i x) (fun y => TimesJ a b i x y ∧ y.2.1 = (digs MB b).length) ?_ ?_
   ·refine ah_ (ao_ (tiT a b i x) (fun y => (digs MB b).length - y.2.1) (TimesJ a b i x) (o, 0, 0) ⟨hlen, by simp, hdig, (show 0 < MB by decide), by simp [hval, ofD], hzer⟩ ?_ ?_)
    ·rw [km_]
     exact s_e []
    rintro ⟨q, k, c⟩ ⟨jlen, jle, jdig, jcar, jval, jzer⟩
    simp only at jlen jle jdig jcar jval jzer
    rw [km_]
    refine r_z 1 ?_
    refine ac_ (af_ rfl (fun h => ?_) (fun h => ?_))
    ·have hltk : k < (digs MB b).length := by have := of_decide_eq_true h; omega
     obtain ⟨y, hy⟩ : ∃ y, (digs MB b)[k]? = some y := ⟨_, List.getElem?_eq_getElem hltk⟩
     have hy1 : y < 1000000000 := bc_ (by decide) hy
     have hy' : (dE (digs MB b))[((k : Nat) : Int).toNat]? = some [u32 y] := bY_ hy
     obtain ⟨d, hd⟩ : ∃ d, q[i + k]? = some d := ⟨_, List.getElem?_eq_getElem (by omega)⟩
     have hd1 : d < 1000000000 := jdig d (List.mem_of_getElem? hd)
     have hc1 : c < 1000000000 := jcar
     have hg : (dE q)[0 + (((i : Int) + k)).toNat]? = some [u32 d] := by rw [show 0 + ((i : Int) + k).toNat = i + k by omega]; exact bY_ hd
     have hset : ∀ w : Nat, (dE q).set (0 + (((i : Int) + k)).toNat) [u32 w] = dE (q.set (i + k) w) := by intro w; rw [show 0 + ((i : Int) + k).toNat = i + k by omega, dN_]
     have hxy0 : x * y ≤ 999999999 * 999999999 := Nat.mul_le_mul (by omega) (by omega)
     have hxyn : 0 ≤ (x : Int) * y := Int.mul_nonneg (by omega) (by omega)
     have hxyi : (x : Int) * y = ((x * y : Nat) : Int) := by push_cast; rfl
     refine ag_ (ac_ (ah_ (s_r 5 ?_)))
     refine a_1 ?_
     refine i_x hy' ?_
     refine l_1 hy' ?_
     refine a_z ?_
     refine s_r 16 ?_
     refine a_8 ?_
     refine a_2 ?_
     first | refine aG_ (.index_l rfl rfl (by omega) (by omega) te_31.h) rfl rfl ?_ | refine aG_ (.index_a rfl rfl (by omega) hg rfl te_31.h) rfl rfl ?_
     first | refine aG_ (.load_l1 rfl rfl hg tg_206.h rfl) rfl rfl ?_ | refine aG_ (.load_a1 rfl hg tg_206.h rfl) rfl rfl ?_
     refine a_z ?_
     refine r_m 12 ?_
     refine a_8 ?_
     refine a_2 ?_
     refine o_1n (.store rfl rfl hg rfl rfl rfl ts_206.h (nle rfl)) ?_
     refine a_z ?_
     refine r_m 2 ?_
     refine a_z ?_
     have hm : ((c : Int) + ((x : Int) * y + d)) % 1000000000 = (((c + (x * y + d)) % 1000000000 : Nat) : Int) := by rw [hxyi]; omega
     have hq : ((c : Int) + ((x : Int) * y + d)) / 1000000000 = (((c + (x * y + d)) / 1000000000 : Nat) : Int) := by rw [hxyi]; omega
     refine ⟨(q.set (i + k) ((c + (x * y + d)) % 1000000000), k + 1, (c + (x * y + d)) / 1000000000), by simp; omega, ⟨by simp [jlen], by simp; omega, jx_ jdig (Nat.mod_lt _ (by decide)), ?_, ?_, ?_⟩, ?_⟩
     ·show _ < 1000000000; simp only; omega
     ·simp only
      have e1 := ho_ MB ((c + (x * y + d)) % 1000000000) hd
      have e2 := Nat.mod_add_div (c + (x * y + d)) 1000000000
      have e3 : MB ^ (i + k) * ((c + (x * y + d)) % 1000000000) + MB ^ (i + (k + 1)) * ((c + (x * y + d)) / 1000000000) = MB ^ (i + k) * c + (MB ^ (i + k) * (x * y) + MB ^ (i + k) * d) := by
       rw [← Nat.add_assoc i k 1, Nat.pow_succ, Nat.mul_assoc, ← Nat.mul_add, show MB * ((c + (x * y + d)) / 1000000000) = 1000000000 * ((c + (x * y + d)) / 1000000000) from rfl, e2, Nat.mul_add, Nat.mul_add]
      have e4 : MB ^ i * x * ofD MB ((digs MB b).take (k + 1)) = MB ^ i * x * ofD MB ((digs MB b).take k) + MB ^ (i + k) * (x * y) := by
       rw [bg_ _ hy, Nat.mul_add]
       congr 1
       rw [Nat.pow_add]
       simp only [Nat.mul_assoc, Nat.mul_left_comm, Nat.mul_comm]
      rw [e4]
      omega
     ·intro j hj hj2
      rw [List.getElem?_set_ne (by omega)]
      exact jzer j hj (by simpa using hj2)
     ·rw [km_]
      refine ax_ [] rfl rfl rfl au_r (fun hs => ?_) (fun hs => ?_)
      ·repeat' (first | exact aX_ | refine aL_ rfl ?_ ?_)
       all_goals (first | (exact Cv.loE hs (congrArg (fun z => AV.v (.int .u64 z)) hq) (ad_ _)) | exact au_c)
      ·repeat' (first | exact as_ | refine an_ rfl rfl rfl rfl ?_ ?_)
       all_goals (first | (refine az_ hs ?_ (aQ_ _); rw [hm]; exact hset _) | exact au_e | (refine aF_ ?_; repeat' (first | exact ap_ | refine ai_ ?_ ?_)))
       all_goals (first | (exact Cv.loE hs (congrArg (fun z => AV.v (.int .u64 z)) hq) (ad_ _)) | exact au_c)
    ·have hk : k = (digs MB b).length := by have := of_decide_eq_false h; omega
     refine al_ ⟨(q, k, c), ⟨⟨jlen, jle, jdig, jcar, jval, jzer⟩, hk⟩, ?_⟩
     rw [km_]
     exact s_e []
   rintro ⟨q, k, c⟩ ⟨⟨jlen, jle, jdig, jcar, jval, jzer⟩, hk⟩
   simp only at jlen jle jdig jcar jval jzer hk
   subst hk
   have hc1 : c < 1000000000 := jcar
   have hz := jzer (i + (digs MB b).length) (Nat.le_refl _) (by omega)
   have hg : (dE q)[0 + (((i : Int) + (digs MB b).length)).toNat]? = some [u32 0] := by rw [show 0 + ((i : Int) + (digs MB b).length).toNat = i + (digs MB b).length by omega]; exact bY_ hz
   have hset : (dE q).set (0 + (((i : Int) + (digs MB b).length)).toNat) [u32 c] = dE (q.set (i + (digs MB b).length) c) := by rw [show 0 + ((i : Int) + (digs MB b).length).toNat = i + (digs MB b).length by omega, dN_]
   rw [List.take_length, vb] at jval
   rw [km_]
   refine r_m 10 ?_
   refine a_8 ?_
   refine a_1 ?_
   refine o_1n (.store rfl rfl hg rfl rfl rfl ts_206.h (nle rfl)) ?_
   refine aj_ ?_
   refine r_m 2 ?_
   refine a_z ?_
   refine ⟨(q.set (i + (digs MB b).length) c, i + 1), by simp; omega, ⟨by simp [jlen], by simp; omega, jx_ jdig jcar, ?_, ?_⟩, ?_⟩
   ·simp only
    have e1 := ho_ MB c hz
    rw [bg_ _ hx, Nat.add_mul, ← jval]
    omega
   ·intro j hj hj2
    rw [List.getElem?_set_ne (by simp only at hj; omega)]
    exact jzer j (by simp only at hj; omega) (by simpa using hj2)
   ·rw [kn_]
    exact s_f []
  ·have hi : i = (digs MB a).length := by have := of_decide_eq_false h; omega
   refine al_ ⟨(o, i), ⟨⟨hlen, hle, hdig, hval, hzer⟩, hi⟩, ?_⟩
   rw [kn_]
   exact s_e []
 rintro ⟨o, i⟩ ⟨⟨hlen, hle, hdig, hval, hzer⟩, hi⟩
 simp only at hlen hle hdig hval hzer hi
 subst hi
 rw [List.take_length, va] at hval
 rw [kn_]
 refine AWp.ent (st' := ⟨[(4, .lptr 3 0 0), (5, .arr (dE o))], [(3, some ⟨33, 1, [[.emp]]⟩)], 4, 73⟩) ?_ ?_
 ·refine ax_ [] rfl rfl rfl au_r (fun hs => ?_) (fun hs => ?_)
  ·repeat' (first | exact aX_ | refine aL_ rfl ?_ ?_)
   all_goals (first | (exact Cv.sealE hs rfl (cd_ rfl) rfl (by simp [hlen]) (aQ_ _)) | exact au_c)
  ·repeat' (first | exact as_ | refine an_ rfl rfl rfl rfl ?_ ?_)
   all_goals (first | exact au_e | (refine aF_ ?_; repeat' (first | exact ap_ | refine ai_ ?_ ?_)))
   all_goals (first | (exact Cv.sealE hs rfl (cd_ rfl) rfl (by simp [hlen]) (aQ_ _)) | exact au_c)
 refine s_r 3 ?_
 refine o_0 (.move rfl) ?_
 refine o_0 (.call rfl rfl rfl (dn_ _ (by omega))) ?_
 refine o_1n (.store rfl rfl rfl rfl rfl rfl ts_33.h (nle rfl)) ?_
 refine aj_ ?_
 refine ae_ (bH_ rfl rfl rfl tg_33.h ts_33.h (nle rfl) ?_ (aq_ (aa_ (aE_ _) ab_)))
 rw [d8_ (b := MB) (by decide) hdig, hval]; rfl
def siS (a : Nat) (d : Nat) : Nat × List Nat × Nat → AState
 | (k, t, r) => ⟨[(8, i64 ((k : Int) - 1)), (1, u32 d), (2, .lptr 1 0 0), (4, .lptr 2 0 0), (5, .lptr 3 0 0), (6, .lsl 4 0 (digs MB a).length (some (digs MB a).length) 1), (7, u64 r)],
  [(1, some ⟨33, 1, [[mag a]]⟩), (2, some ⟨33, 1, [[.emp]]⟩), (3, some ⟨33, 1, [[.emp]]⟩), (4, some ⟨206, 1, dE (List.replicate k 0 ++ t)⟩)], 5, 46⟩
theorem kt_ (a : Nat) (d : Nat) (k : Nat) (t : List Nat) (r : Nat) : siS a d (k, t, r) = ⟨[(8, i64 ((k : Int) - 1)), (1, u32 d), (2, .lptr 1 0 0), (4, .lptr 2 0 0), (5, .lptr 3 0 0), (6, .lsl 4 0 (digs MB a).length (some (digs MB a).length) 1), (7, u64 r)],
   [(1, some ⟨33, 1, [[mag a]]⟩), (2, some ⟨33, 1, [[.emp]]⟩), (3, some ⟨33, 1, [[.emp]]⟩), (4, some ⟨206, 1, dE (List.replicate k 0 ++ t)⟩)], 5, 46⟩ := rfl
structure SimI (a d : Nat) (x : Nat × List Nat × Nat) : Prop where
 len : x.1 + x.2.1.length = (digs MB a).length
 dig : ∀ y ∈ x.2.1, y < MB
 rest : x.2.2 < d
 val : ofD MB ((digs MB a).drop x.1) = d * ofD MB x.2.1 + x.2.2
theorem pu_ (a d : Nat) (h : bl a ≤ 17592186044416) (hd0 : 0 < d) (hd : d < 4294967296) : FSpec Tryz.prog 238 [.agg [mag a], u32 d] (.tup [.agg [mag (a / d)], .agg [mag (a % d)]]) := by
 have hla := aR_ (b := MB) (by decide) a
 have va := aS_ (b := MB) (by decide) a
 refine f_n Tryz.func238 ?_ ?_
 ·exact aa_ (aq_ (aa_ (aE_ a) ab_)) (aa_ (ad_ _) ab_)
 refine r_z 3 ?_
 refine r_z 5 ?_
 refine r_z 1 ?_
 refine ac_ (r_z 5 ?_)
 refine au_ (siS a d) (fun x => SimI a d x ∧ x.1 = 0) ?_ ?_
 ·refine ah_ (ao_ (siS a d) (fun x => x.1) (SimI a d) ((digs MB a).length, [], 0) ⟨by simp, by simp, hd0, by simp [ofD]⟩ ?_ ?_)
  ·rw [kt_]
   exact s_e [(4, 6)]
  rintro ⟨k, t, r⟩ ⟨hlen, hdig, hrest, hval⟩
  simp only at hlen hdig hrest hval
  rw [kt_]
  refine ac_ (r_z 2 ?_)
  refine af_ rfl (fun h => ?_) (fun h => ?_)
  ·have hk0 : 0 < k := by have := of_decide_eq_true h; omega
   obtain ⟨x, hx⟩ : ∃ x, (digs MB a)[k - 1]? = some x := ⟨_, List.getElem?_eq_getElem (by omega)⟩
   have hx1 : x < 1000000000 := bc_ (by decide) hx
   have hx' : (dE (digs MB a))[((k : Int) - 1).toNat]? = some [u32 x] := by rw [show ((k : Int) - 1).toNat = k - 1 by omega]; exact bY_ hx
   have hrep : List.replicate k 0 ++ t = List.replicate (k - 1) 0 ++ 0 :: t := by
    conv => lhs; rw [show k = (k - 1) + 1 by omega, List.replicate_succ']
    simp
   have hg : (dE (List.replicate k 0 ++ t))[0 + ((k : Int) - 1).toNat]? = some [u32 0] := by
    rw [show 0 + ((k : Int) - 1).toNat = k - 1 by omega, hrep]; exact bY_ (hF_ _ _ _ _ (by simp))
   have hset : ∀ w : Nat, (dE (List.replicate k 0 ++ t)).set (0 + ((k : Int) - 1).toNat) [u32 w] = dE (List.replicate (k - 1) 0 ++ (w :: t)) := by
    intro w
    rw [show 0 + ((k : Int) - 1).toNat = k - 1 by omega, dN_, hrep, ha_ _ _ _ _ _ (by simp)]; simp
   have hq : (r * 1000000000 + x) / d < 1000000000 := by
    rw [Nat.div_lt_iff_lt_mul hd0]
    have : (r + 1) * 1000000000 ≤ d * 1000000000 := Nat.mul_le_mul_right _ hrest
    rw [Nat.mul_comm 1000000000 d]; omega
   have hA : (r : Int) * 1000000000 + x = ((r * 1000000000 + x : Nat) : Int) := by omega
   have hqi : ((r : Int) * 1000000000 + x) / d = (((r * 1000000000 + x) / d : Nat) : Int) := by rw [hA]; exact (Int.natCast_ediv _ _).symm
   have hri : ((r : Int) * 1000000000 + x) % d = (((r * 1000000000 + x) % d : Nat) : Int) := by rw [hA]; exact (Int.natCast_emod _ _).symm
   have hmod := Nat.mod_lt (r * 1000000000 + x) hd0
   have e := Nat.div_add_mod (r * 1000000000 + x) d
   obtain ⟨Q, hQ⟩ : ∃ Q, Q = (r * 1000000000 + x) / d := ⟨_, rfl⟩
   obtain ⟨R, hR⟩ : ∃ R, R = (r * 1000000000 + x) % d := ⟨_, rfl⟩
   rw [← hQ] at hq hqi
   rw [← hR] at hmod hri
   rw [← hQ, ← hR] at e
   refine ag_ (ac_ (ah_ (s_r 10 ?_)))
   refine a_5 ?_
   refine i_x hx' ?_
   refine l_1 hx' ?_
   refine a_z ?_
   refine r_d hmix 14 ?_
   refine a_5 ?_
   refine o_0 (.bin rfl rfl (nD_ (by omega))) ?_
   refine o_0 (.conv rfl (cU32 (by rw [hqi]; omega) tu_207.h tu_206.h)) ?_
   refine a_5 ?_
   refine o_1n (.store rfl rfl hg rfl rfl rfl ts_206.h (nle rfl)) ?_
   refine a_1 ?_
   refine aj_ (n_k ?_)
   refine r_m 3 ?_
   refine a_z ?_
   refine ⟨(k - 1, Q :: t, R), by simp; omega, ⟨by simp; omega, ?_, hmod, ?_⟩, ?_⟩
   ·intro y hy
    rcases List.mem_cons.1 hy with rfl | hy
    ·exact hq
    ·exact hdig y hy
   ·simp only
    rw [eS_ MB hx, show k - 1 + 1 = k by omega, hval, ofD]
    have e2 : d * (Q + MB * ofD MB t) = d * Q + MB * (d * ofD MB t) := by rw [Nat.mul_add, Nat.mul_left_comm]
    have e3 : MB * (d * ofD MB t + r) = MB * (d * ofD MB t) + 1000000000 * r := Nat.mul_add _ _ _
    omega
   ·rw [kt_]
    refine ax_ [] rfl rfl rfl au_r (fun hs => ?_) (fun hs => ?_)
    ·repeat' (first | exact aX_ | refine aL_ rfl ?_ ?_)
     all_goals (first | (exact Cv.loE hs (congrArg (fun z => AV.v (.int .u64 z)) hri) (ad_ _)) | exact au_c)
    ·repeat' (first | exact as_ | refine an_ rfl rfl rfl rfl ?_ ?_)
     all_goals (first | (refine az_ hs ?_ (aQ_ _); rw [hqi]; exact hset _) | exact au_e | (refine aF_ ?_; repeat' (first | exact ap_ | refine ai_ ?_ ?_)))
     all_goals (first | (exact Cv.loE hs (congrArg (fun z => AV.v (.int .u64 z)) hri) (ad_ _)) | exact au_c)
  ·have hk0 : k = 0 := by have := of_decide_eq_false h; omega
   refine al_ ⟨(k, t, r), ⟨⟨hlen, hdig, hrest, hval⟩, hk0⟩, ?_⟩
   rw [kt_]
   exact s_e []
 rintro ⟨k, t, r⟩ ⟨⟨hlen, hdig, hrest, hval⟩, hk⟩
 simp only at hlen hdig hrest hval hk
 subst hk
 rw [List.drop_zero, va] at hval
 have hq : a / d = ofD MB t := by rw [hval, Nat.mul_add_div hd0, Nat.div_eq_of_lt hrest]; omega
 have hr : a % d = r := by rw [hval, Nat.mul_add_mod]; exact Nat.mod_eq_of_lt hrest
 rw [kt_]
 refine AWp.ent (st' := ⟨[(4, .lptr 1 0 0), (5, .lptr 2 0 0), (6, .arr (dE t)), (7, u64 r)], [(1, some ⟨33, 1, [[.emp]]⟩), (2, some ⟨33, 1, [[.emp]]⟩)], 3, 46⟩) ?_ ?_
 ·refine ax_ [(1, 4), (2, 5)] rfl rfl rfl au_r (fun hs => ?_) (fun hs => ?_)
  ·repeat' (first | exact aX_ | refine aL_ rfl ?_ ?_)
   all_goals (first | (exact Cv.sealE hs rfl (cd_ rfl) rfl (by simp; omega) (aQ_ _)) | exact au_c)
  ·repeat' (first | exact as_ | refine an_ rfl rfl rfl rfl ?_ ?_)
   all_goals (first | exact au_e | (refine aF_ ?_; repeat' (first | exact ap_ | refine ai_ ?_ ?_)))
   all_goals (first | (exact Cv.sealE hs rfl (cd_ rfl) rfl (by simp; omega) (aQ_ _)) | exact au_c)
 refine s_r 6 ?_
 refine o_0 (.move rfl) ?_
 refine o_0 (.call rfl rfl rfl (dn_ _ (by omega))) ?_
 refine o_0 (.move rfl) ?_
 refine o_0 (.call rfl rfl rfl (c2_ r (by omega))) ?_
 refine o_1n (.store rfl rfl rfl rfl rfl rfl ts_33.h (nle rfl)) ?_
 refine o_1n (.store rfl rfl rfl rfl rfl rfl ts_33.h (nle rfl)) ?_
 refine aj_ ?_
 refine ae_ ?_
 rw [hq, hr]
 refine Fin.many ⟨_, _, rfl, ⟨_, _, _, _, _, rfl, rfl, rfl, .inl ⟨tg_33.h, _, ts_33.h, nle rfl, rfl⟩⟩, _, _, rfl, ⟨_, _, _, _, _, rfl, rfl, rfl, .inl ⟨tg_33.h, _, ts_33.h, nle rfl, rfl⟩⟩, rfl⟩ (nle rfl) ?_
 refine ai_ (Cv.loE at_ ?_ (aq_ (aa_ (bh_ (trimD t)) ab_))) (ai_ (ar_ at_ (aq_ (aa_ (aE_ r) ab_))) ap_)
 rw [d8_ (b := MB) (by decide) hdig]; rfl
theorem pd_ {pre s t post : List Nat} {x e i : Nat} (he : e = pre.length) (hi : i = s.length) : (pre ++ (s ++ x :: t) ++ post)[e + i]? = some x := by
 subst he hi; simp
theorem pc_ {pre s t post : List Nat} {x v e i : Nat} (he : e = pre.length) (hi : i = s.length) : (pre ++ (s ++ x :: t) ++ post).set (e + i) v = pre ++ ((s ++ [v]) ++ t) ++ post := by
 subst he hi
 rw [List.append_assoc, List.set_append_right _ _ (by omega), List.append_assoc, show pre.length + s.length - pre.length = s.length by omega, List.set_append_right _ _ (by omega)]
 simp
def suS (V : List Nat) (A : List Nat) (pre : List Nat) (post : List Nat) (cap : Option Nat) (t : Nat) : List Nat × Nat × Nat → AState
 | (s, c, q) => ⟨[(0, .lsl 0 pre.length A.length cap 1), (1, .arr (dE V)), (2, u64 t), (7, u64 c), (8, i64 q), (13, i64 s.length), (12, i64 A.length)],
  [(0, some ⟨206, 1, dE (pre ++ (s ++ A.drop s.length) ++ post)⟩)], 1, 54⟩
theorem ii_ (V : List Nat) (A : List Nat) (pre : List Nat) (post : List Nat) (cap : Option Nat) (t : Nat) (s : List Nat) (c : Nat) (q : Nat) : suS V A pre post cap t (s, c, q) = ⟨[(0, .lsl 0 pre.length A.length cap 1), (1, .arr (dE V)), (2, u64 t), (7, u64 c), (8, i64 q), (13, i64 s.length), (12, i64 A.length)],
   [(0, some ⟨206, 1, dE (pre ++ (s ++ A.drop s.length) ++ post)⟩)], 1, 54⟩ := rfl
structure SubI (V A : List Nat) (t : Nat) (x : List Nat × Nat × Nat) : Prop where
 le : x.1.length ≤ A.length
 dig : ∀ d ∈ x.1, d < MB
 car : x.2.1 < MB
 bor : x.2.2 ≤ 1
 fin : V.length < x.1.length → x.2.1 = 0
 val : ofD MB x.1 + t * ofD MB (V.take x.1.length) = ofD MB (A.take x.1.length) + MB ^ x.1.length * (x.2.2 + x.2.1)
theorem l3_ (pre A post V : List Nat) (t D q : Nat) (cap : Option Nat) (hA : ∀ d ∈ A, d < MB) (hV : ∀ d ∈ V, d < MB) (ht : t < MB) (hlen : V.length < A.length) (hA2 : A.length < 17592186044416) (hq : q ≤ 1)
    (hD : D + t * ofD MB V = ofD MB A + MB ^ A.length * q) (hD2 : D < MB ^ A.length) :
    ESpec Tryz.prog 239 206 1 (dE (pre ++ A ++ post)) (dE (pre ++ padD MB A.length D ++ post)) pre.length A.length cap [.arr (dE V), u64 t] (.bool (q != 0)) := by
 have ht1 : t < 1000000000 := ht
 refine ESpec.enter Tryz.func239 rfl (by kernel_rfl) rfl rfl rfl ?_ ?_ ?_ rfl ?_
 ·exact aa_ (bh_ _) (aa_ (ad_ _) ab_)
 ·exact aQ_ _
 ·exact aQ_ _
 refine r_z 1 ?_
 refine r_z 2 ?_
 refine ac_ (r_z 3 ?_)
 refine au_ (suS V A pre post cap t) (fun x => SubI V A t x ∧ x.1.length = A.length) ?_ ?_
 ·refine ah_ (ao_ (suS V A pre post cap t) (fun x => A.length - x.1.length) (SubI V A t) ([], 0, 0) ⟨by simp, by simp, (show 0 < MB by decide), by simp, by simp, by simp [ofD]⟩ ?_ ?_)
  ·rw [ii_]
   exact s_e []
  rintro ⟨s, c, β⟩ ⟨hle, hdig, hcar, hbor, hfin, hval⟩
  simp only at hle hdig hcar hbor hfin hval
  have hc1 : c < 1000000000 := hcar
  rw [ii_]
  refine r_z 1 ?_
  refine ac_ (af_ rfl (fun h => ?_) (fun h => ?_))
  ·have hlt : s.length < A.length := by have := of_decide_eq_true h; omega
   obtain ⟨x, hx⟩ : ∃ x, A[s.length]? = some x := ⟨_, List.getElem?_eq_getElem hlt⟩
   have hx1 : x < 1000000000 := hA x (List.mem_of_getElem? hx)
   have hg : (dE (pre ++ (s ++ A.drop s.length) ++ post))[pre.length + ((s.length : Nat) : Int).toNat]? = some [u32 x] := by
    rw [Int.toNat_natCast, cN_ hx]; exact bY_ (pd_ rfl rfl)
   have hset : ∀ w : Nat, (dE (pre ++ (s ++ A.drop s.length) ++ post)).set (pre.length + ((s.length : Nat) : Int).toNat) [u32 w] = dE (pre ++ ((s ++ [w]) ++ A.drop (s ++ [w]).length) ++ post) := by
    intro w
    rw [Int.toNat_natCast, cN_ hx, dN_, pc_ rfl rfl]; simp
   refine ag_ (ac_ (ah_ (r_z 2 ?_)))
   refine ac_ (r_z 4 ?_)
   refine au_ (fun v : Nat => ⟨[(0, .lsl 0 pre.length A.length cap 1), (1, .arr (dE V)), (2, u64 t), (7, u64 v), (8, i64 β), (9, i64 s.length), (13, i64 s.length), (12, i64 A.length)],
    [(0, some ⟨206, 1, dE (pre ++ (s ++ A.drop s.length) ++ post)⟩)], 1, 54⟩)
    (fun v => v = c + t * (V[s.length]?.getD 0) ∧ v ≤ 999999999 + 999999999 * 999999999 ∧ (V.length ≤ s.length → v = c)) ?_ ?_
   ·refine af_ rfl (fun h => ?_) (fun h => ?_)
    ·have hlt2 : s.length < V.length := by have := of_decide_eq_true h; simp at this; omega
     obtain ⟨y, hy⟩ : ∃ y, V[s.length]? = some y := ⟨_, List.getElem?_eq_getElem hlt2⟩
     have hy1 : y < 1000000000 := hV y (List.mem_of_getElem? hy)
     have hy' : (dE V)[((s.length : Nat) : Int).toNat]? = some [u32 y] := bY_ hy
     have hxy0 : t * y ≤ 999999999 * 999999999 := Nat.mul_le_mul (by omega) (by omega)
     have hxyn : 0 ≤ (t : Int) * y := Int.mul_nonneg (by omega) (by omega)
     have hxyi : (t : Int) * y = ((t * y : Nat) : Int) := (Int.natCast_mul _ _).symm
     refine r_m 10 ?_
     refine a_4 ?_
     refine i_x hy' ?_
     refine l_1 hy' ?_
     refine a_z ?_
     refine ⟨c + t * y, ⟨by rw [hy]; rfl, by omega, fun h => absurd h (by omega)⟩, ?_⟩
     have hI : (c : Int) + (t : Int) * y = ((c + t * y : Nat) : Int) := by omega
     have := (congrArg (fun z => AV.v (.int .u64 z)) hI)
     exact s_f []
    ·have hlt2 : ¬ s.length < V.length := by have := of_decide_eq_false h; simp at this; omega
     refine ag_ ⟨c, ⟨by rw [List.getElem?_eq_none (by omega)]; simp, by omega, fun _ => rfl⟩, ?_⟩
     exact s_e []
   rintro v ⟨hv, hv1, hv2⟩
   refine s_r 12 ?_
   refine a_2 ?_
   first | refine aG_ (.index_l rfl rfl (by omega) (by omega) te_31.h) rfl rfl ?_ | refine aG_ (.index_a rfl rfl (by omega) hg rfl te_31.h) rfl rfl ?_
   first | refine aG_ (.load_l1 rfl rfl hg tg_206.h rfl) rfl rfl ?_ | refine aG_ (.load_a1 rfl hg tg_206.h rfl) rfl rfl ?_
   refine a_z ?_
   refine r_z 3 ?_
   refine r_z 1 ?_
   refine ac_ (r_z 2 ?_)
   have hnext : ∀ w q', w + v % 1000000000 + β = x + 1000000000 * q' → w < 1000000000 → q' ≤ 1 → SubI V A t (s ++ [w], v / 1000000000, q') := by
    intro w q' hw hwb hq'
    refine ⟨by simp; omega, ?_, ?_, hq', ?_, ?_⟩
    ·intro d hd
     rcases List.mem_append.1 hd with hd | hd
     ·exact hdig d hd
     ·simp at hd; subst hd; exact hwb
    ·show v / 1000000000 < 1000000000; omega
    ·intro hl
     simp at hl
     have := hv2 (by omega)
     simp only; omega
    ·simp only [List.length_append, List.length_singleton]
     rw [di_, bg_ _ hx, b8_, Nat.pow_succ]
     have e : MB ^ s.length * (w + v % 1000000000 + β + 1000000000 * (v / 1000000000)) = MB ^ s.length * (x + MB * q' + MB * (v / 1000000000)) := by rw [hw]
     have e2 : w + v % 1000000000 + β + 1000000000 * (v / 1000000000) = w + β + (c + t * (V[s.length]?.getD 0)) := by rw [← hv]; have := Nat.mod_add_div v 1000000000; omega
     rw [e2] at e
     have e3 : t * (ofD MB (V.take s.length) + MB ^ s.length * (V[s.length]?.getD 0)) = t * ofD MB (V.take s.length) + MB ^ s.length * (t * (V[s.length]?.getD 0)) := by rw [Nat.mul_add, Nat.mul_left_comm]
     rw [e3]
     have e4 : MB ^ s.length * MB * (q' + v / 1000000000) = MB ^ s.length * (MB * q') + MB ^ s.length * (MB * (v / 1000000000)) := by rw [Nat.mul_assoc, Nat.mul_add, Nat.mul_add]
     rw [e4]
     simp only [Nat.mul_add] at e hval ⊢
     omega
   refine af_ rfl (fun h => ?_) (fun h => ?_)
   ·have hb : (x : Int) - v % 1000000000 - β < 0 := by have := of_decide_eq_true h; omega
    have hI : (x : Int) - (v : Int) % 1000000000 - β + 1000000000 = ((x + 1000000000 - v % 1000000000 - β : Nat) : Int) := by omega
    refine r_m 4 ?_
    refine a_z ?_
    refine r_m 6 ?_
    refine a_4 ?_
    first | refine aG_ (.index_l rfl rfl (by omega) (by omega) te_31.h) rfl rfl ?_ | refine aG_ (.index_a rfl rfl (by omega) (by omega) rfl te_31.h) rfl rfl ?_
    refine o_1n (.store rfl rfl hg rfl rfl rfl ts_206.h (nle rfl)) ?_
    refine aj_ ?_
    refine r_m 2 ?_
    refine a_z ?_
    refine ⟨(s ++ [x + 1000000000 - v % 1000000000 - β], v / 1000000000, 1), by simp; omega, hnext _ _ (by omega) (by omega) (Nat.le_refl _), ?_⟩
    rw [ii_]
    refine ax_ [] rfl rfl rfl au_r (fun hs => au_f) (fun hs => ?_)
    ·repeat' (first | exact as_ | refine an_ rfl rfl rfl rfl ?_ ?_)
     all_goals (first | (refine az_ hs ?_ (aQ_ _); rw [hI]; exact hset _) | exact au_e)
   ·have hb : ¬ (x : Int) - v % 1000000000 - β < 0 := by have := of_decide_eq_false h; omega
    have hI : (x : Int) - (v : Int) % 1000000000 - β = ((x - v % 1000000000 - β : Nat) : Int) := by omega
    refine ag_ (r_m 6 ?_)
    refine a_3 ?_
    refine o_0 (.conv rfl (cU32 (by omega) tu_2.h tu_206.h)) ?_
    refine a_1 ?_
    refine o_1n (.store rfl rfl hg rfl rfl rfl ts_206.h (nle rfl)) ?_
    refine aj_ ?_
    refine r_m 2 ?_
    refine a_z ?_
    refine ⟨(s ++ [x - v % 1000000000 - β], v / 1000000000, 0), by simp; omega, hnext _ _ (by omega) (by omega) (by omega), ?_⟩
    rw [ii_]
    refine ax_ [] rfl rfl rfl au_r (fun hs => au_f) (fun hs => ?_)
    ·repeat' (first | exact as_ | refine an_ rfl rfl rfl rfl ?_ ?_)
     all_goals (first | (refine az_ hs ?_ (aQ_ _); rw [hI]; exact hset _) | exact au_e)
  ·have hl : s.length = A.length := by have := of_decide_eq_false h; omega
   refine al_ ⟨(s, c, β), ⟨⟨hle, hdig, hcar, hbor, hfin, hval⟩, hl⟩, ?_⟩
   rw [ii_]
   exact s_e []
 rintro ⟨s, c, β⟩ ⟨⟨hle, hdig, hcar, hbor, hfin, hval⟩, hl⟩
 simp only at hle hdig hcar hbor hfin hval hl
 have hc0 := hfin (by omega)
 subst hc0
 rw [hl, List.take_length, List.take_of_length_le (by omega), Nat.add_zero] at hval
 have hs1 := c6_ hdig
 rw [hl] at hs1
 have hpos : 0 < MB ^ A.length := Nat.pow_pos (by decide)
 have hqq : β = q ∧ ofD MB s = D := by
  rcases Nat.le_one_iff_eq_zero_or_eq_one.1 hq with rfl | rfl <;> rcases Nat.le_one_iff_eq_zero_or_eq_one.1 hbor with rfl | rfl <;> constructor <;> omega
 obtain ⟨rfl, rfl⟩ := hqq
 rw [ii_]
 refine r_z 3 ?_
 refine ae_ (FinE.tmp rfl ?_ rfl ?_)
 ·congr 2
  rw [Bool.eq_iff_iff]; simp
 ·rw [hl, List.drop_length, List.append_nil, ← l5_ hdig hl rfl]
def gbS (V : List Nat) (A : List Nat) (pre : List Nat) (post : List Nat) (cap : Option Nat) : List Nat × Nat → AState
 | (s, c) => ⟨[(0, .lsl 0 pre.length A.length cap 1), (1, .arr (dE V)), (5, u32 c), (10, i64 s.length), (9, i64 A.length)],
  [(0, some ⟨206, 1, dE (pre ++ (s ++ A.drop s.length) ++ post)⟩)], 1, 40⟩
theorem iC_ (V : List Nat) (A : List Nat) (pre : List Nat) (post : List Nat) (cap : Option Nat) (s : List Nat) (c : Nat) : gbS V A pre post cap (s, c) = ⟨[(0, .lsl 0 pre.length A.length cap 1), (1, .arr (dE V)), (5, u32 c), (10, i64 s.length), (9, i64 A.length)],
   [(0, some ⟨206, 1, dE (pre ++ (s ++ A.drop s.length) ++ post)⟩)], 1, 40⟩ := rfl
structure GiveI (V A : List Nat) (x : List Nat × Nat) : Prop where
 le : x.1.length ≤ A.length
 dig : ∀ d ∈ x.1, d < MB
 car : x.2 ≤ 1
 val : ofD MB x.1 + MB ^ x.1.length * x.2 = ofD MB (A.take x.1.length) + ofD MB (V.take x.1.length)
theorem l4_ (pre A post V : List Nat) (D q : Nat) (cap : Option Nat) (hA : ∀ d ∈ A, d < MB) (hV : ∀ d ∈ V, d < MB) (hlen : V.length ≤ A.length) (hA2 : A.length < 17592186044416) (hq : q ≤ 1)
    (hD : D + MB ^ A.length * q = ofD MB A + ofD MB V) (hD2 : D < MB ^ A.length) :
    ESpec Tryz.prog 240 206 1 (dE (pre ++ A ++ post)) (dE (pre ++ padD MB A.length D ++ post)) pre.length A.length cap [.arr (dE V)] (.bool (q != 0)) := by
 refine ESpec.enter Tryz.func240 rfl (by kernel_rfl) rfl rfl rfl ?_ ?_ ?_ rfl ?_
 ·exact aa_ (bh_ _) ab_
 ·exact aQ_ _
 ·exact aQ_ _
 refine r_z 1 ?_
 refine r_z 1 ?_
 refine ac_ (r_z 3 ?_)
 refine au_ (gbS V A pre post cap) (fun x => GiveI V A x ∧ x.1.length = A.length) ?_ ?_
 ·refine ah_ (ao_ (gbS V A pre post cap) (fun x => A.length - x.1.length) (GiveI V A) ([], 0) ⟨by simp, by simp, by simp, by simp [ofD]⟩ ?_ ?_)
  ·rw [iC_]
   exact s_e []
  rintro ⟨s, c⟩ ⟨hle, hdig, hcar, hval⟩
  simp only at hle hdig hcar hval
  rw [iC_]
  refine r_z 1 ?_
  refine ac_ (af_ rfl (fun h => ?_) (fun h => ?_))
  ·have hlt : s.length < A.length := by have := of_decide_eq_true h; omega
   obtain ⟨x, hx⟩ : ∃ x, A[s.length]? = some x := ⟨_, List.getElem?_eq_getElem hlt⟩
   have hx1 : x < 1000000000 := hA x (List.mem_of_getElem? hx)
   have hg : (dE (pre ++ (s ++ A.drop s.length) ++ post))[pre.length + ((s.length : Nat) : Int).toNat]? = some [u32 x] := by
    rw [Int.toNat_natCast, cN_ hx]; exact bY_ (pd_ rfl rfl)
   have hset : ∀ w : Nat, (dE (pre ++ (s ++ A.drop s.length) ++ post)).set (pre.length + ((s.length : Nat) : Int).toNat) [u32 w] = dE (pre ++ ((s ++ [w]) ++ A.drop (s ++ [w]).length) ++ post) := by
    intro w
    rw [Int.toNat_natCast, cN_ hx, dN_, pc_ rfl rfl]; simp
   refine ag_ (ac_ (ah_ (r_z 2 ?_)))
   refine s_r 7 ?_
   refine a_2 ?_
   first | refine aG_ (.index_l rfl rfl (by omega) (by omega) te_31.h) rfl rfl ?_ | refine aG_ (.index_a rfl rfl (by omega) hg rfl te_31.h) rfl rfl ?_
   first | refine aG_ (.load_l1 rfl rfl hg tg_206.h rfl) rfl rfl ?_ | refine aG_ (.load_a1 rfl hg tg_206.h rfl) rfl rfl ?_
   refine a_z ?_
   refine ac_ (r_z 4 ?_)
   refine au_ (fun v : Nat => ⟨[(0, .lsl 0 pre.length A.length cap 1), (1, .arr (dE V)), (5, u32 c), (7, u32 v), (6, i64 s.length), (10, i64 s.length), (9, i64 A.length)],
    [(0, some ⟨206, 1, dE (pre ++ (s ++ A.drop s.length) ++ post)⟩)], 1, 40⟩)
    (fun v => v = x + c + (V[s.length]?.getD 0) ∧ v ≤ 1999999999) ?_ ?_
   ·refine af_ rfl (fun h => ?_) (fun h => ?_)
    ·have hlt2 : s.length < V.length := by have := of_decide_eq_true h; simp at this; omega
     obtain ⟨y, hy⟩ : ∃ y, V[s.length]? = some y := ⟨_, List.getElem?_eq_getElem hlt2⟩
     have hy1 : y < 1000000000 := hV y (List.mem_of_getElem? hy)
     have hy' : (dE V)[((s.length : Nat) : Int).toNat]? = some [u32 y] := bY_ hy
     refine r_m 7 ?_
     refine a_3 ?_
     refine i_x hy' ?_
     refine l_1 hy' ?_
     refine a_z ?_
     refine ⟨x + c + y, ⟨by rw [hy]; rfl, by omega⟩, ?_⟩
     exact s_e []
    ·have hlt2 : ¬ s.length < V.length := by have := of_decide_eq_false h; simp at this; omega
     refine ag_ ⟨x + c, ⟨by rw [List.getElem?_eq_none (by omega)]; rfl, by omega⟩, ?_⟩
     exact s_e []
   rintro v ⟨hv, hv1⟩
   refine r_z 1 ?_
   refine ac_ (r_z 2 ?_)
   have hnext : ∀ w c', w + 1000000000 * c' = v → w < 1000000000 → c' ≤ 1 → GiveI V A (s ++ [w], c') := by
    intro w c' hw hwb hc'
    refine ⟨by simp; omega, ?_, hc', ?_⟩
    ·intro d hd
     rcases List.mem_append.1 hd with hd | hd
     ·exact hdig d hd
     ·simp at hd; subst hd; exact hwb
    ·simp only [List.length_append, List.length_singleton]
     rw [di_, bg_ _ hx, b8_, Nat.pow_succ]
     have e : MB ^ s.length * (w + MB * c') = MB ^ s.length * (x + c + (V[s.length]?.getD 0)) := by rw [← hv, ← hw]
     simp only [Nat.mul_add] at e
     rw [← Nat.mul_assoc] at e
     omega
   refine af_ rfl (fun h => ?_) (fun h => ?_)
   ·have hb : 1000000000 ≤ v := by have := of_decide_eq_true h; omega
    have hI : (v : Int) - 1000000000 = ((v - 1000000000 : Nat) : Int) := by omega
    refine r_m 4 ?_
    refine a_z ?_
    refine r_m 5 ?_
    refine a_4 ?_
    refine o_1n (.store rfl rfl hg rfl rfl rfl ts_206.h (nle rfl)) ?_
    refine aj_ ?_
    refine r_m 2 ?_
    refine a_z ?_
    refine ⟨(s ++ [v - 1000000000], 1), by simp; omega, hnext _ _ (by omega) (by omega) (Nat.le_refl _), ?_⟩
    rw [iC_]
    refine ax_ [] rfl rfl rfl au_r (fun hs => au_f) (fun hs => ?_)
    ·repeat' (first | exact as_ | refine an_ rfl rfl rfl rfl ?_ ?_)
     all_goals (first | (refine az_ hs ?_ (aQ_ _); rw [hI]; exact hset _) | exact au_e)
   ·have hb : v < 1000000000 := by have := of_decide_eq_false h; omega
    refine ag_ (r_m 5 ?_)
    refine a_4 ?_
    refine o_1n (.store rfl rfl hg rfl rfl rfl ts_206.h (nle rfl)) ?_
    refine aj_ ?_
    refine r_m 2 ?_
    refine a_z ?_
    refine ⟨(s ++ [v], 0), by simp; omega, hnext _ _ (by omega) (by omega) (by omega), ?_⟩
    rw [iC_]
    refine ax_ [] rfl rfl rfl au_r (fun hs => au_f) (fun hs => ?_)
    ·repeat' (first | exact as_ | refine an_ rfl rfl rfl rfl ?_ ?_)
     all_goals (first | (refine az_ hs ?_ (aQ_ _); exact hset _) | exact au_e)
  ·have hl : s.length = A.length := by have := of_decide_eq_false h; omega
   refine al_ ⟨(s, c), ⟨⟨hle, hdig, hcar, hval⟩, hl⟩, ?_⟩
   rw [iC_]
   exact s_e []
 rintro ⟨s, c⟩ ⟨⟨hle, hdig, hcar, hval⟩, hl⟩
 simp only at hle hdig hcar hval hl
 rw [hl, List.take_length, List.take_of_length_le (by omega)] at hval
 have hs1 := c6_ hdig
 rw [hl] at hs1
 have hpos : 0 < MB ^ A.length := Nat.pow_pos (by decide)
 have hqq : c = q ∧ ofD MB s = D := by
  rcases Nat.le_one_iff_eq_zero_or_eq_one.1 hq with rfl | rfl <;> rcases Nat.le_one_iff_eq_zero_or_eq_one.1 hcar with rfl | rfl <;> constructor <;> omega
 obtain ⟨rfl, rfl⟩ := hqq
 rw [iC_]
 refine r_z 3 ?_
 refine ae_ (FinE.tmp rfl ?_ rfl ?_)
 ·congr 2
  rw [Bool.eq_iff_iff]; simp
 ·rw [hl, List.drop_length, List.append_nil, ← l5_ hdig hl rfl]
def ovS (s : Nat) (V : List Nat) (L : Nat) : List Nat × List Nat × Nat → AState
 | (R, T, k) => ⟨[(4, .lptr 1 0 0), (5, .lptr 2 0 0), (6, .lptr 3 0 0), (7, .arr (dE V)), (8, i64 V.length), (9, .lsl 4 0 L (some L) 1), (10, .lsl 5 0 (L - V.length) (some (L - V.length)) 1), (11, i64 ((k : Int) - 1))],
  [(1, some ⟨33, 1, [[.emp]]⟩), (2, some ⟨33, 1, [[.emp]]⟩), (3, some ⟨33, 1, [[mag s]]⟩), (4, some ⟨206, 1, dE R⟩), (5, some ⟨206, 1, dE (List.replicate k 0 ++ T)⟩)], 6, 142⟩
theorem kG_ (s : Nat) (V : List Nat) (L : Nat) (R : List Nat) (T : List Nat) (k : Nat) : ovS s V L (R, T, k) = ⟨[(4, .lptr 1 0 0), (5, .lptr 2 0 0), (6, .lptr 3 0 0), (7, .arr (dE V)), (8, i64 V.length), (9, .lsl 4 0 L (some L) 1), (10, .lsl 5 0 (L - V.length) (some (L - V.length)) 1), (11, i64 ((k : Int) - 1))],
   [(1, some ⟨33, 1, [[.emp]]⟩), (2, some ⟨33, 1, [[.emp]]⟩), (3, some ⟨33, 1, [[mag s]]⟩), (4, some ⟨206, 1, dE R⟩), (5, some ⟨206, 1, dE (List.replicate k 0 ++ T)⟩)], 6, 142⟩ := rfl
def ovM (s : Nat) (V : List Nat) (L : Nat) (T : List Nat) (pre : List Nat) (post : List Nat) (j : Nat) (n : Nat) : List Nat × Nat × Bool → AState
 | (A, g, made) => ⟨[(4, .lptr 1 0 0), (5, .lptr 2 0 0), (6, .lptr 3 0 0), (7, .arr (dE V)), (8, i64 V.length), (9, .lsl 4 0 L (some L) 1), (10, .lsl 5 0 (L - V.length) (some (L - V.length)) 1), (11, i64 (((j + 1 : Nat) : Int) - 1)), (13, u64 g), (14, .lsl 4 j n (some n) 1), (15, bln made)],
  [(1, some ⟨33, 1, [[.emp]]⟩), (2, some ⟨33, 1, [[.emp]]⟩), (3, some ⟨33, 1, [[mag s]]⟩), (4, some ⟨206, 1, dE (pre ++ A ++ post)⟩), (5, some ⟨206, 1, dE (List.replicate (j + 1) 0 ++ T)⟩)], 6, 142⟩
theorem mK_ (s : Nat) (V : List Nat) (L : Nat) (T : List Nat) (pre : List Nat) (post : List Nat) (j : Nat) (n : Nat) (A : List Nat) (g : Nat) (made : Bool) : ovM s V L T pre post j n (A, g, made) = ⟨[(4, .lptr 1 0 0), (5, .lptr 2 0 0), (6, .lptr 3 0 0), (7, .arr (dE V)), (8, i64 V.length), (9, .lsl 4 0 L (some L) 1), (10, .lsl 5 0 (L - V.length) (some (L - V.length)) 1), (11, i64 (((j + 1 : Nat) : Int) - 1)), (13, u64 g), (14, .lsl 4 j n (some n) 1), (15, bln made)],
   [(1, some ⟨33, 1, [[.emp]]⟩), (2, some ⟨33, 1, [[.emp]]⟩), (3, some ⟨33, 1, [[mag s]]⟩), (4, some ⟨206, 1, dE (pre ++ A ++ post)⟩), (5, some ⟨206, 1, dE (List.replicate (j + 1) 0 ++ T)⟩)], 6, 142⟩ := rfl
theorem mJ_ (a b : Nat) (h : bl a + bl b ≤ 8796093022208) (hb : 0 < b)
    (hrec : 2 ≤ (digs MB b).length → ∀ r s, 0 < s → s < 1000000000 → bl r ≤ bl b + 30 → FSpec Tryz.prog 182 [.agg [mag r], .agg [mag s]] (.tup [.agg [mag (r / s)], .agg [mag (r % s)]])) :
    FSpec Tryz.prog 182 [.agg [mag a], .agg [mag b]] (.tup [.agg [mag (a / b)], .agg [mag (a % b)]]) := by
 have hla := aR_ (b := MB) (by decide) a
 have hlb := aR_ (b := MB) (by decide) b
 have va := aS_ (b := MB) (by decide) a
 have vb := aS_ (b := MB) (by decide) b
 refine f_n Tryz.func182 ?_ ?_
 ·exact aa_ (aq_ (aa_ (aE_ a) ab_)) (aa_ (aq_ (aa_ (aE_ b) ab_)) ab_)
 refine r_z 4 ?_
 refine ac_ (ah_ (r_c 5 (gg_ a b (by omega)) ?_))
 refine a_z ?_
 refine af_ rfl (fun h => ?_) (fun h => ?_)
 ·have hlt : a < b := by
   have h1 := of_decide_eq_true h
   unfold cmpZ at h1
   split at h1
   ·omega
   ·split at h1 <;> omega
  refine ac_ (r_d hmix 4 ?_)
  refine a_4 ?_
  refine aj_ (n_k ?_)
  refine ae_ ?_
  rw [Nat.div_eq_of_lt hlt, Nat.mod_eq_of_lt hlt]
  refine Fin.many ⟨_, _, rfl, ⟨_, _, _, _, _, rfl, rfl, rfl, .inl ⟨tg_33.h, _, ts_33.h, nle rfl, rfl⟩⟩, _, _, rfl, ⟨_, _, _, _, _, rfl, rfl, rfl, .inl ⟨tg_33.h, _, ts_33.h, nle rfl, rfl⟩⟩, rfl⟩ (nle rfl) ?_
  refine ai_ (Cv.agg (ai_ (Cv.emp _ ?_) ap_)) (ai_ (ar_ at_ (aq_ (aa_ (aE_ a) ab_))) ap_)
  unfold mag; rw [a8_]; rfl
 have hge : b ≤ a := by
  have h1 := of_decide_eq_false h
  refine Nat.le_of_not_lt fun hlt => h1 ?_
  rw [fr_ (by omega)]; decide
 refine r_z 5 ?_
 refine af_ rfl (fun h2 => ?_) (fun h2 => ?_)
 ·have hl1 : (digs MB b).length = 1 := by simp at h2; omega
  have hbm : b < 1000000000 := by
   have := c6_ (b := MB) (bK_ (by decide) b)
   rw [vb, hl1] at this; simpa using this
  have hg : (dE (digs MB b))[(0 : Int).toNat]? = some [u32 b] := by rw [n7_ hb hbm]; rfl
  refine ac_ (r_d hmix 10 ?_)
  refine a_3 ?_
  refine i_x hg ?_
  refine l_1 hg ?_
  refine c_s (pu_ a b (by omega) hb (by omega)) ?_
  refine a_4 ?_
  refine aj_ (n_k ?_)
  refine ae_ (Fin.many ⟨_, _, rfl, ⟨_, _, _, _, _, rfl, rfl, rfl, .inl ⟨tg_33.h, _, ts_33.h, nle rfl, rfl⟩⟩, _, _, rfl, ⟨_, _, _, _, _, rfl, rfl, rfl, .inl ⟨tg_33.h, _, ts_33.h, nle rfl, rfl⟩⟩, rfl⟩ (nle rfl) ?_)
  exact ai_ (ar_ at_ (aq_ (aa_ (aE_ _) ab_))) (ai_ (ar_ at_ (aq_ (aa_ (aE_ _) ab_))) ap_)
 have hl2 : 2 ≤ (digs MB b).length := by
  have h1 : ¬ (digs MB b).length = 1 := by simp at h2; omega
  have h0 : (digs MB b).length ≠ 0 := fun e => by
   rw [List.length_eq_zero_iff] at e
   have := (cC_ (b := MB) (by decide)).1 e; omega
  omega
 refine ag_ ?_
 -- the leading digit, the factor
 obtain ⟨vt, hvt⟩ : ∃ d, (digs MB b)[(digs MB b).length - 1]? = some d := ⟨_, List.getElem?_eq_getElem (by omega)⟩
 have hvt1 : vt < 1000000000 := bc_ (by decide) hvt
 have hvt0 : 1 ≤ vt := by
  have := h0_ (b := MB) (by decide) b
  rw [List.getLast?_eq_getElem?, hvt] at this
  simp at this; omega
 have hvt' : (dE (digs MB b))[(((digs MB b).length : Int) - 1).toNat]? = some [u32 vt] := by rw [show (((digs MB b).length : Int) - 1).toNat = (digs MB b).length - 1 by omega]; exact bY_ hvt
 obtain ⟨sc1, sc2, sc3⟩ := oM_ hvt0 hvt1
 have hsI : (1000000000 : Int) / ((vt : Int) + 1) = ((1000000000 / (vt + 1) : Nat) : Int) := by rw [show ((vt : Int) + 1) = ((vt + 1 : Nat) : Int) by omega]; exact (Int.natCast_ediv _ _).symm
 have hs9 : 1000000000 / (vt + 1) ≤ 500000000 := by
  have : 1000000000 / (vt + 1) ≤ 1000000000 / 2 := Nat.div_le_div_left (by omega) (by omega)
  omega
 obtain ⟨s, hs⟩ : ∃ s, s = 1000000000 / (vt + 1) := ⟨_, rfl⟩
 rw [← hs] at sc1 sc2 sc3 hsI hs9
 have hsm : FSpec Tryz.prog 177 [.v (.int .u64 ((1000000000 : Int) / ((vt : Int) + 1)))] (.agg [mag s]) := by rw [hsI]; exact c2_ s (by omega)
 have hbls : bl s ≤ 30 := bl_le (by omega)
 have hbs := dD_ b s
 have has := dD_ a s
 refine s_r 14 ?_
 refine a_6 ?_
 refine i_x hvt' ?_
 refine l_1 hvt' ?_
 refine a_1 ?_
 refine o_0 (.bin rfl rfl (nE_ (by omega))) ?_
 refine o_0 (.conv rfl (cU64 (by rw [hsI]; omega) tu_206.h tu_207.h)) ?_
 refine c_s (hsm) ?_
 refine a_z ?_
 obtain ⟨k, hk⟩ : ∃ k, (digs MB b).length = k + 1 := ⟨(digs MB b).length - 1, by omega⟩
 obtain ⟨hVl, hb1, hv2, v1, lw, hv1, hvw, hlw, hv500, hv1b⟩ := n5_ (s := s) hk (by rw [hk] at hvt; exact hvt) hvt0 sc1 sc2
 have hv1' : (dE (digs MB (b * s)))[(((digs MB (b * s)).length : Int) - 1).toNat]? = some [u32 v1] := by rw [show (((digs MB (b * s)).length : Int) - 1).toNat = k by omega]; exact bY_ hv1
 have hab := mT_ (b := MB) (by decide) hge
 have hU1 : a * s < MB ^ (digs MB a).length * s := by
  have := c6_ (b := MB) (bK_ (by decide) a)
  rw [va] at this
  exact Nat.mul_lt_mul_of_pos_right this sc3
 have hUl : (digs MB (a * s)).length ≤ (digs MB a).length + 1 := by
  refine b9_ (by decide) ?_
  rw [Nat.pow_succ]
  have : MB ^ (digs MB a).length * s ≤ MB ^ (digs MB a).length * MB := Nat.mul_le_mul_left _ (by show s ≤ 1000000000; omega)
  omega
 have hcp : setAt (List.replicate ((digs MB a).length + 1) [ofV (Value.int IntKind.u32 0)]) 0 (List.take (Nat.min (dE (digs MB (a * s))).length ((digs MB a).length + 1)) (dE (digs MB (a * s)))) = dE (padD MB ((digs MB a).length + 1) (a * s)) := by
  rw [List.take_of_length_le (by rw [fW_]; exact Nat.le_min.2 ⟨Nat.le_refl _, hUl⟩), lF_ (by rw [fW_, List.length_replicate]; exact hUl)]
  rw [← l5_ (l := digs MB (a * s) ++ List.replicate ((digs MB a).length + 1 - (digs MB (a * s)).length) 0) ?_ ?_ ?_]
  ·rw [eF_, ← c9_]; simp [u32, ofV]
  ·intro d hd
   rcases List.mem_append.1 hd with hd | hd
   ·exact bK_ (by decide) _ d hd
   ·simp at hd; rw [hd.2]; decide
  ·simp; omega
  ·rw [cW_, hn_, aS_ (by decide)]; simp
 refine r_c 5 (c1_ b s (by omega)) ?_
 refine a_z ?_
 refine r_z 3 ?_
 have hL0 : ((digs MB a).length : Int) + 1 = (((digs MB a).length + 1 : Nat) : Int) := by omega
 refine s_r 6 ?_
 refine a_4 ?_
 refine o_1 (.makeSlice (congrArg (fun z => some (AV.v (.int .i64 z))) hL0) (congrArg (fun z => some (AV.v (.int .i64 z))) hL0) te_31.h tz_206.h rfl tb_206.h (by first | omega | (simp; done) | (simp; omega)) (by first | omega | (simp; done) | (simp; omega)) (by unfold maxLen; first | omega | (simp; done) | (simp; omega))) ?_
 refine a_z ?_
 refine r_c 6 (c1_ a s (by omega)) ?_
 refine a_1 ?_
 refine o_1 (.copy rfl rfl rfl te_31.h rfl rfl rfl (by first | (simp; done) | (simp; omega)) (by first | exact cS_ _ | exact cR_ _ | exact cQ_ _ | exact cT_ _ | exact cL_ _ | rfl | simp) rfl (.arr (md_ _))) ?_
 refine aj_ ?_
 have hLI : (((digs MB a).length + 1 : Nat) : Int) - ((digs MB (b * s)).length : Nat) = (((digs MB a).length + 1 - (digs MB (b * s)).length : Nat) : Int) := by omega
 refine s_r 6 ?_
 refine a_4 ?_
 refine o_1 (.makeSlice (congrArg (fun z => some (AV.v (.int .i64 z))) hLI) (congrArg (fun z => some (AV.v (.int .i64 z))) hLI) te_31.h tz_206.h rfl tb_206.h (by first | omega | (simp; done) | (simp; omega)) (by first | omega | (simp; done) | (simp; omega)) (by unfold maxLen; first | omega | (simp; done) | (simp; omega))) ?_
 refine a_z ?_
 refine ac_ (r_z 4 ?_)
 have hst : DivI (a * s) (b * s) (k + 1) ((digs MB a).length + 1) (padD MB ((digs MB a).length + 1) (a * s)) [] ((digs MB a).length + 1 - (k + 1)) := by
  have hUL : a * s < MB ^ ((digs MB a).length + 1) := by
   rw [Nat.pow_succ]
   have : MB ^ (digs MB a).length * s ≤ MB ^ (digs MB a).length * MB := Nat.mul_le_mul_left _ (by show s ≤ 1000000000; omega)
   omega
  exact DivI.start (by simp) (jr_ (by decide) _ _) (gN_ (by decide) hUL) (by omega) (by simpa using hb1) (by omega) rfl (by simpa using hU1)
 refine au_ (ovS s (digs MB (b * s)) ((digs MB a).length + 1)) (fun x => DivI (a * s) (b * s) (k + 1) ((digs MB a).length + 1) x.1 x.2.1 x.2.2 ∧ x.2.2 = 0) ?_ ?_
 ·refine ah_ (ao_ (ovS s (digs MB (b * s)) ((digs MB a).length + 1)) (fun x => x.2.2) (fun x => DivI (a * s) (b * s) (k + 1) ((digs MB a).length + 1) x.1 x.2.1 x.2.2) (padD MB ((digs MB a).length + 1) (a * s), [], (digs MB a).length + 1 - (digs MB (b * s)).length) (by rw [hVl]; exact hst) ?_ ?_)
  ·rw [kG_]
   refine ax_ [(1, 4), (2, 5), (3, 6), (4, 9), (5, 10)] rfl rfl rfl ?_ (fun hs => au_f) (fun hs => ?_)
   ·repeat' (first | exact ShrL.nil | refine ShrL.cons rfl rfl rfl rfl (by first | (exact (congrArg List.length hcp).trans (by simp)) | rfl | (simp; done) | (simp <;> omega)) ?_)
   ·repeat' (first | exact as_ | refine an_ rfl rfl rfl rfl ?_ ?_)
    all_goals (first | (exact az_ hs hcp (aQ_ _)) | exact au_e)
  rintro ⟨R, T, j1⟩ hinv
  simp only at hinv
  rw [kG_]
  refine ac_ (r_z 2 ?_)
  refine af_ rfl (fun h3 => ?_) (fun h3 => ?_)
  ·have hj1 : 0 < j1 := by have := of_decide_eq_true h3; omega
   obtain ⟨j, rfl⟩ : ∃ j, j1 = j + 1 := ⟨j1 - 1, by omega⟩
   have hRl := hinv.len
   have hkl := hinv.k_le
   obtain ⟨p1, p2, p3, p4, p5⟩ := hinv.parts hv2
   have hnext := hinv.next hv2 (Nat.mul_pos hb sc3) rfl
   obtain ⟨A, hA⟩ : ∃ A, A = (R.drop j).take (k + 1 + 1) := ⟨_, rfl⟩
   obtain ⟨pre, hpre⟩ : ∃ x, x = R.take j := ⟨_, rfl⟩
   obtain ⟨post, hpost⟩ : ∃ x, x = R.drop (j + (k + 1) + 1) := ⟨_, rfl⟩
   obtain ⟨p, hp⟩ : ∃ p, p = ofD MB (R.drop j) := ⟨_, rfl⟩
   have hprel : pre.length = j := by rw [hpre]; simp; omega
   rw [← hA, ← hp] at p2
   rw [← hp] at p3 hnext
   rw [← hA] at p4
   rw [← hA, ← hpre, ← hpost] at p5
   rw [← hpre, ← hpost] at hnext
   have hAd : ∀ d ∈ A, d < MB := fun d hd => hinv.dig d (List.mem_of_mem_drop (List.mem_of_mem_take (by rw [hA] at hd; exact hd)))
   obtain ⟨x0, hx0⟩ : ∃ x, A[k]? = some x := ⟨_, List.getElem?_eq_getElem (by omega)⟩
   obtain ⟨x1, hx1⟩ : ∃ x, A[k + 1]? = some x := ⟨_, List.getElem?_eq_getElem (by omega)⟩
   have hx0b : x0 < 1000000000 := hAd x0 (List.mem_of_getElem? hx0)
   have hx1b : x1 < 1000000000 := hAd x1 (List.mem_of_getElem? hx1)
   obtain ⟨lo, hlo, hlob⟩ := part_two p4 hx0 hx1 hAd
   rw [p2] at hlo
   obtain ⟨gu1, gu2⟩ := guess_ok (b := MB) (by decide) hlo hlob hvw hlw (by show 1000000000 ≤ 2 * v1; omega) hv1b p3
   have hgR : ∀ i x, A[i]? = some x → (dE R)[0 + (j + i)]? = some [u32 x] := by
    intro i x hx
    rw [Nat.zero_add]
    refine bY_ ?_
    rw [p5, List.append_assoc, List.getElem?_append_right (by omega), List.getElem?_append_left (by have := (List.getElem?_eq_some_iff.1 hx).1; omega)]
    rw [show j + i - pre.length = i by omega]; exact hx
   have hgN : (dE R)[0 + ((((j + 1 : Nat) : Int) - 1) + ((digs MB (b * s)).length : Nat)).toNat]? = some [u32 x1] := by
    rw [show ((((j + 1 : Nat) : Int) - 1) + ((digs MB (b * s)).length : Nat)).toNat = j + (k + 1) by omega]; exact hgR _ _ hx1
   have hgM : (dE R)[0 + ((((j + 1 : Nat) : Int) - 1) + ((digs MB (b * s)).length : Nat) - 1).toNat]? = some [u32 x0] := by
    rw [show ((((j + 1 : Nat) : Int) - 1) + ((digs MB (b * s)).length : Nat) - 1).toNat = j + k by omega]; exact hgR _ _ hx0
   obtain ⟨g, hg⟩ : ∃ g, g = min ((x1 * 1000000000 + x0) / v1) 999999999 := ⟨_, rfl⟩
   have hg9 : g ≤ 999999999 := by rw [hg]; exact Nat.min_le_right _ _
   have hgI : (if (999999999 : Int) < ((x1 : Int) * 1000000000 + x0) / (v1 : Int) then (999999999 : Int) else ((x1 : Int) * 1000000000 + x0) / (v1 : Int)) = (g : Int) := by
    have e1 : ((x1 : Int) * 1000000000 + x0) / (v1 : Int) = (((x1 * 1000000000 + x0) / v1 : Nat) : Int) := by
     rw [show (x1 : Int) * 1000000000 + x0 = ((x1 * 1000000000 + x0 : Nat) : Int) by omega]; exact (Int.natCast_ediv _ _).symm
    rw [e1, hg]
    generalize (x1 * 1000000000 + x0) / v1 = Q
    by_cases hQ : Q ≤ 999999999
    ·rw [if_neg (by omega), Nat.min_eq_left hQ]
    ·rw [if_pos (by omega), Nat.min_eq_right (by omega)]; rfl
   rw [show MB - 1 = 999999999 from rfl, ← hg] at gu1 gu2
   refine ag_ (ac_ (ah_ (ac_ (r_d hmix 18 ?_))))
   refine a_5 ?_
   first | refine aG_ (.load_l1 rfl rfl hgN tg_206.h rfl) rfl rfl ?_ | refine aG_ (.load_a1 rfl hgN tg_206.h rfl) rfl rfl ?_
   refine a_8 ?_
   first | refine aG_ (.load_l1 rfl rfl hgM tg_206.h rfl) rfl rfl ?_ | refine aG_ (.load_a1 rfl hgM tg_206.h rfl) rfl rfl ?_
   refine a_3 ?_
   refine aj_ (n_k ?_)
   refine s_r 10 ?_
   refine a_4 ?_
   refine i_x hv1' ?_
   refine l_1 hv1' ?_
   refine a_z ?_
   refine s_r 12 ?_
   refine a_8 ?_
   refine a_2 ?_
   refine o_0 (.sl_lhm rfl rfl (l := j) (by omega) rfl (h := j + (k + 1) + 1) (by omega) rfl (m := j + (k + 1) + 1) (by omega) (by omega) te_31.h) ?_
   refine a_z ?_
   refine AWp.ent (st' := ⟨[(4, .lptr 1 0 0), (5, .lptr 2 0 0), (6, .lptr 3 0 0), (7, .arr (dE (digs MB (b * s)))), (8, i64 (digs MB (b * s)).length), (9, .lsl 4 0 ((digs MB a).length + 1) (some ((digs MB a).length + 1)) 1), (10, .lsl 5 0 ((digs MB a).length + 1 - (digs MB (b * s)).length) (some ((digs MB a).length + 1 - (digs MB (b * s)).length)) 1), (11, i64 (((j + 1 : Nat) : Int) - 1)), (13, u64 g), (14, .lsl 4 j (k + 1 + 1) (some (k + 1 + 1)) 1)],
    [(1, some ⟨33, 1, [[.emp]]⟩), (2, some ⟨33, 1, [[.emp]]⟩), (3, some ⟨33, 1, [[mag s]]⟩), (4, some ⟨206, 1, dE (pre ++ A ++ post)⟩), (5, some ⟨206, 1, dE (List.replicate (j + 1) 0 ++ T)⟩)], 6, 142⟩) ?_ ?_
   ·refine ax_ [] rfl rfl rfl ?_ (fun hs => ?_) (fun hs => ?_)
    ·repeat' (first | exact ShrL.nil | refine ShrL.cons rfl rfl rfl rfl (by first | (simp [← p5]) | rfl | (simp; done) | (simp <;> omega)) ?_)
    ·repeat' (first | exact aX_ | refine aL_ rfl ?_ ?_)
     all_goals (first | (exact Cv.loE hs (congrArg (fun z => AV.v (.int .u64 z)) hgI) (ad_ _)) | exact au_c)
    ·repeat' (first | exact as_ | refine an_ rfl rfl rfl rfl ?_ ?_)
     all_goals (first | (exact az_ hs (congrArg dE p5) (aQ_ _)) | exact au_e | (refine aF_ ?_; repeat' (first | exact ap_ | refine ai_ ?_ ?_)))
     all_goals (first | (exact Cv.loE hs (congrArg (fun z => AV.v (.int .u64 z)) hgI) (ad_ _)) | exact au_c)
   have hV := aS_ (b := MB) (by decide) (b * s)
   have hVd := bK_ (b := MB) (by decide) (b * s)
   have hsub : ∀ D q, D + g * (b * s) = p + MB ^ (k + 1 + 1) * q → D < MB ^ (k + 1 + 1) → q ≤ 1 → ESpec Tryz.prog 239 206 1 (dE (pre ++ A ++ post)) (dE (pre ++ padD MB (k + 1 + 1) D ++ post)) j (k + 1 + 1) (some (k + 1 + 1)) [.arr (dE (digs MB (b * s))), u64 g] (.bool (q != 0)) := by
    intro D q h1 h2 h3
    have := l3_ pre A post (digs MB (b * s)) g D q (some (k + 1 + 1)) hAd hVd (Nat.lt_of_le_of_lt hg9 (by decide)) (by omega) (by omega) h3 (by rw [hV, p2, p4]; exact h1) (by rw [p4]; exact h2)
    rw [hprel, p4] at this; exact this
   have hgive : ∀ D D' q, D' + MB ^ (k + 1 + 1) * q = D + b * s → D < MB ^ (k + 1 + 1) → D' < MB ^ (k + 1 + 1) → q ≤ 1 → ESpec Tryz.prog 240 206 1 (dE (pre ++ padD MB (k + 1 + 1) D ++ post)) (dE (pre ++ padD MB (k + 1 + 1) D' ++ post)) j (k + 1 + 1) (some (k + 1 + 1)) [.arr (dE (digs MB (b * s)))] (.bool (q != 0)) := by
    intro D D' q h1 h2 h3 h4
    have := l4_ pre (padD MB (k + 1 + 1) D) post (digs MB (b * s)) D' q (some (k + 1 + 1)) (jr_ (by decide) _ _) hVd (by simp; omega) (by simp; omega) h4 (by rw [hV, d9_, gN_ (by decide) h2]; exact h1) (by rw [d9_]; exact h3)
    rw [hprel, d9_] at this; exact this
   have hvp : 0 < b * s := Nat.mul_pos hb sc3
   have m1 := Nat.mod_add_div p (b * s)
   have m2 := Nat.mod_lt p hvp
   have hBv : MB * (b * s) < MB ^ (k + 1 + 1) := by
    rw [Nat.pow_succ MB (k + 1), Nat.mul_comm MB]
    exact Nat.mul_lt_mul_of_pos_right hv2 (by decide)
   have hgv : g * (b * s) ≤ MB * (b * s) := Nat.mul_le_mul_right _ (Nat.le_trans hg9 (by decide))
   obtain ⟨W, hW⟩ : ∃ W, W = MB ^ (k + 1 + 1) := ⟨_, rfl⟩
   simp only [← hW] at hsub hgive hBv
   have hvW : b * s < W := by
    have : 1 * (b * s) ≤ MB * (b * s) := Nat.mul_le_mul_right _ (by decide)
    omega
   refine aO_ (fun _ : Unit => ⟨[(4, .lptr 1 0 0), (5, .lptr 2 0 0), (6, .lptr 3 0 0), (7, .arr (dE (digs MB (b * s)))), (8, i64 (digs MB (b * s)).length), (9, .lsl 4 0 ((digs MB a).length + 1) (some ((digs MB a).length + 1)) 1), (10, .lsl 5 0 ((digs MB a).length + 1 - (digs MB (b * s)).length) (some ((digs MB a).length + 1 - (digs MB (b * s)).length)) 1), (11, i64 (((j + 1 : Nat) : Int) - 1)), (13, u64 (p / (b * s) : Nat))],
    [(1, some ⟨33, 1, [[.emp]]⟩), (2, some ⟨33, 1, [[.emp]]⟩), (3, some ⟨33, 1, [[mag s]]⟩), (4, some ⟨206, 1, dE (pre ++ padD MB (k + 1 + 1) (p % (b * s)) ++ post)⟩), (5, some ⟨206, 1, dE (List.replicate (j + 1) 0 ++ T)⟩)], 6, 142⟩) (fun _ => True) ?_ ?_
   ·by_cases hc : g * (b * s) ≤ p
    ·have hgq : g = p / (b * s) := Nat.le_antisymm ((Nat.le_div_iff_mul_le hvp).2 hc) gu1
     have e1 : p % (b * s) + g * (b * s) = p + W * 0 := by rw [hgq, Nat.mul_comm (p / (b * s))]; omega
     have hs1 := hsub (p % (b * s)) 0 e1 (by omega) (by omega)
     refine s_r 4 ?_
     refine a_3 ?_
     refine o_1 (.callE2 rfl rfl rfl rfl rfl rfl (hs1)) ?_
     refine aj_ ?_
     refine cF (ag_ ⟨(), trivial, ?_⟩)
     have hgI2 : u64 g = u64 (p / (b * s) : Nat) := by rw [← hgq]
     exact s_f []
    ·have hc1 : p < g * (b * s) := by omega
     have e1 : (p + W - g * (b * s)) + g * (b * s) = p + W * 1 := by omega
     have hs1 := hsub (p + W - g * (b * s)) 1 e1 (by omega) (by omega)
     have hgt : p / (b * s) < g := by
      rw [Nat.div_lt_iff_lt_mul hvp]; exact hc1
     refine s_r 4 ?_
     refine a_3 ?_
     refine o_1 (.callE2 rfl rfl rfl rfl rfl rfl (hs1)) ?_
     refine aj_ ?_
     refine af_ rfl (fun h4 => ?_) (fun h4 => ?_)
     ·refine r_z 1 ?_
      refine ah_ ?_
      refine ao_ (ovM s (digs MB (b * s)) ((digs MB a).length + 1) T pre post j (k + 1 + 1)) (fun x => if x.2.2 then 0 else x.2.1 + 1)
       (fun x => (x.2.2 = true ∧ x.2.1 = p / (b * s) ∧ x.1 = padD MB (k + 1 + 1) (p % (b * s))) ∨ (x.2.2 = false ∧ p / (b * s) < x.2.1 ∧ x.2.1 ≤ 999999999 ∧ ∃ D, x.1 = padD MB (k + 1 + 1) D ∧ D + x.2.1 * (b * s) = p + W ∧ D < W))
       (padD MB (k + 1 + 1) (p + W - g * (b * s)), g, false) (.inr ⟨rfl, hgt, hg9, _, rfl, by simp only; omega, by omega⟩) ?_ ?_
      ·rw [mK_]
       exact s_e []
      rintro ⟨A', g', made⟩ hin
      rw [mK_]
      refine ac_ (r_z 2 ?_)
      refine af_ rfl (fun h5 => ?_) (fun h5 => ?_)
      ·have hm : made = false := by simpa using h5
       subst hm
       rcases hin with ⟨h6, _⟩ | ⟨_, h6, h7, D, h8, h9, h10⟩
       ·cases h6
       simp only at h6 h7 h8 h9
       subst h8
       have hg0 : 1 ≤ g' := Nat.lt_of_le_of_lt (Nat.zero_le _) h6
       refine ag_ ?_
       have hI : (g' : Int) - 1 = ((g' - 1 : Nat) : Int) := by omega
       have hq1 : b * s * (p / (b * s)) = p - p % (b * s) := by omega
       by_cases hlast : g' = p / (b * s) + 1
       ·have e2 : p % (b * s) + W * 1 = D + b * s := by
         rw [hlast, Nat.add_mul, Nat.one_mul, Nat.mul_comm (p / (b * s))] at h9; omega
        have hg1 := hgive D (p % (b * s)) 1 e2 h10 (by omega) (by omega)
        refine ac_ (ah_ (r_m 4 ?_))
        refine a_2 ?_
        refine o_1 (.callE2 rfl rfl rfl rfl rfl rfl (hg1)) ?_
        refine a_z ?_
        refine r_m 3 ?_
        refine a_z ?_
        refine ⟨(padD MB (k + 1 + 1) (p % (b * s)), g' - 1, true), by simp, .inl ⟨rfl, by simp only; omega, rfl⟩, ?_⟩
        rw [mK_]
        have := (congrArg (fun z => AV.v (.int .u64 z)) hI)
        exact s_f []
       ·have hgt2 : p / (b * s) < g' - 1 := by omega
        have h11 : (g' - 1) * (b * s) + b * s = g' * (b * s) := by
         conv => rhs; rw [show g' = (g' - 1) + 1 by omega, Nat.add_mul, Nat.one_mul]
        have h12 : p < (g' - 1) * (b * s) := by
         rw [Nat.div_lt_iff_lt_mul hvp] at hgt2; exact hgt2
        have hg1 := hgive D (D + b * s) 0 (by omega) h10 (by omega) (by omega)
        refine ac_ (ah_ (r_m 4 ?_))
        refine a_2 ?_
        refine o_1 (.callE2 rfl rfl rfl rfl rfl rfl (hg1)) ?_
        refine a_z ?_
        refine r_m 3 ?_
        refine a_z ?_
        refine ⟨(padD MB (k + 1 + 1) (D + b * s), g' - 1, false), by simp; omega, .inr ⟨rfl, hgt2, by simp only; omega, _, rfl, by simp only; omega, by omega⟩, ?_⟩
        rw [mK_]
        have := (congrArg (fun z => AV.v (.int .u64 z)) hI)
        exact s_f []
      ·have hm : made = true := by simpa using h5
       subst hm
       rcases hin with ⟨_, h6, h7⟩ | ⟨h6, _⟩
       ·simp only at h6 h7
        subst h6 h7
        refine al_ ⟨(), trivial, ?_⟩
        exact s_e []
       ·cases h6
     ·cases h4
   rintro _ _
   have hq9 : p / (b * s) ≤ 999999999 := Nat.le_trans gu1 hg9
   obtain ⟨q, hq⟩ : ∃ q, q = p / (b * s) := ⟨_, rfl⟩
   rw [← hq] at hq9 hnext ⊢
   have hrep : List.replicate (j + 1) 0 ++ T = List.replicate j 0 ++ 0 :: T := by rw [List.replicate_succ']; simp
   have hgT : (dE (List.replicate (j + 1) 0 ++ T))[0 + (((j + 1 : Nat) : Int) - 1).toNat]? = some [u32 0] := by
    rw [show 0 + (((j + 1 : Nat) : Int) - 1).toNat = j by omega, hrep]; exact bY_ (hF_ _ _ _ _ (by simp))
   have hsetT : (dE (List.replicate (j + 1) 0 ++ T)).set (0 + (((j + 1 : Nat) : Int) - 1).toNat) [u32 q] = dE (List.replicate j 0 ++ (q :: T)) := by
    rw [show 0 + (((j + 1 : Nat) : Int) - 1).toNat = j by omega, dN_, hrep, ha_ _ _ _ _ _ (by simp)]; simp
   refine r_m 6 ?_
   refine a_5 ?_
   refine o_1n (.store rfl rfl hgT rfl rfl rfl ts_206.h (nle rfl)) ?_
   refine aj_ ?_
   refine r_m 3 ?_
   refine a_z ?_
   refine ⟨(pre ++ padD MB (k + 1 + 1) (p % (b * s)) ++ post, q :: T, j), by simp only; omega, hnext, ?_⟩
   rw [kG_]
   refine ax_ [] rfl rfl rfl ?_ (fun hs => au_f) (fun hs => ?_)
   ·repeat' (first | exact ShrL.nil | refine ShrL.cons rfl rfl rfl rfl (by first | (exact (congrArg List.length hsetT)) | rfl | (simp; done) | (simp <;> omega)) ?_)
   ·repeat' (first | exact as_ | refine an_ rfl rfl rfl rfl ?_ ?_)
    all_goals (first | (exact az_ hs hsetT (aQ_ _)) | exact au_e)
  ·have hj : j1 = 0 := by have := of_decide_eq_false h3; omega
   subst hj
   refine al_ ⟨(R, T, 0), ⟨hinv, rfl⟩, ?_⟩
   rw [kG_]
   exact s_e []
 rintro ⟨R, T, j1⟩ ⟨hinv, hj⟩
 simp only at hinv hj
 subst hj
 obtain ⟨hq, hr⟩ := hinv.last rfl rfl hb sc3
 rw [kG_]
 refine AWp.ent (st' := ⟨[(4, .lptr 1 0 0), (5, .lptr 2 0 0), (6, .lptr 3 0 0), (9, .arr (dE R)), (10, .arr (dE T))],
  [(1, some ⟨33, 1, [[.emp]]⟩), (2, some ⟨33, 1, [[.emp]]⟩), (3, some ⟨33, 1, [[mag s]]⟩)], 4, 142⟩) ?_ ?_
 ·have hlen := hinv.len
  have hkl := hinv.k_le
  refine ax_ [] rfl rfl rfl au_r (fun hs => ?_) (fun hs => ?_)
  ·repeat' (first | exact aX_ | refine aL_ rfl ?_ ?_)
   all_goals (first | (exact Cv.sealE hs rfl (cd_ rfl) rfl (by simp; omega) (aQ_ _)) | exact au_c)
  ·repeat' (first | exact as_ | refine an_ rfl rfl rfl rfl ?_ ?_)
   all_goals (first | exact au_e | (refine aF_ ?_; repeat' (first | exact ap_ | refine ai_ ?_ ?_)))
   all_goals (first | (exact Cv.sealE hs rfl (cd_ rfl) rfl (by simp; omega) (aQ_ _)) | exact au_c)
 have hRl := hinv.len
 have hkl := hinv.k_le
 have hRt : FSpec Tryz.prog 175 [.arr (dE R)] (.agg [mag (ofD MB R)]) := by
  have := dn_ R (by omega)
  rwa [d8_ (b := MB) (by decide) hinv.dig] at this
 have hTt : FSpec Tryz.prog 175 [.arr (dE T)] (.agg [mag (ofD MB T)]) := by
  have := dn_ T (by omega)
  rwa [d8_ (b := MB) (by decide) hinv.digT] at this
 have hblr : bl (ofD MB R) ≤ bl b + 30 := by
  have h1 := hinv.top
  rw [List.drop_zero] at h1
  have h2 := bG_ (Nat.le_of_lt h1)
  omega
 have hov := hrec hl2 (ofD MB R) s (by omega) (by omega) hblr
 rw [hr] at hov
 refine ac_ (r_d hmix 11 ?_)
 refine c_s (hRt) ?_
 refine c_s (hov) ?_
 refine a_7 ?_
 refine aj_ (n_k ?_)
 refine ac_ (r_d hmix 5 ?_)
 refine c_s (hTt) ?_
 refine a_3 ?_
 refine aj_ (n_k ?_)
 refine ae_ (Fin.many ⟨_, _, rfl, ⟨_, _, _, _, _, rfl, rfl, rfl, .inl ⟨tg_33.h, _, ts_33.h, nle rfl, rfl⟩⟩, _, _, rfl, ⟨_, _, _, _, _, rfl, rfl, rfl, .inl ⟨tg_33.h, _, ts_33.h, nle rfl, rfl⟩⟩, rfl⟩ (nle rfl) ?_)
 rw [← hq]
 exact ai_ (ar_ at_ (aq_ (aa_ (aE_ _) ab_))) (ai_ (ar_ at_ (aq_ (aa_ (aE_ _) ab_))) ap_)
theorem len1 {b : Nat} (hb : b < 1000000000) : (digs MB b).length ≤ 1 := b9_ (by decide) (by simpa using hb)
theorem jJ_ (a b : Nat) (h : bl a + bl b ≤ 4398046511104) (hb : 0 < b) : FSpec Tryz.prog 182 [.agg [mag a], .agg [mag b]] (.tup [.agg [mag (a / b)], .agg [mag (a % b)]]) :=
 mJ_ a b (by omega) hb fun _ r s hs hs1 hr => mJ_ r s (by have := bl_le (n := s) (k := 30) (by omega); omega) hs fun h2 => absurd h2 (by have := len1 hs1; omega)
end Go.Proofs.YtdhedjbmdnnbkaaGreatDoor
