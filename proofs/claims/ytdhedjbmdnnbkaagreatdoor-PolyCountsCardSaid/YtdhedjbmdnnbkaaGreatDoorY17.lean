/- For every input the law PolyCounts returns true, and each argument reads behind the call as it read before; the listed variables start as the program's text lays them (tied). -/
import Derived.Test.YtdhedjbmdnnbkaaGreatDoorY16
import Derived.ChangeSame
import Derived.Test.YtdhedjbmdnnbkaaGreatDoorRows
import Derived.JoinedOf
import Derived.SevenTiedAt
import Derived.Lib.LaidTab
import Derived.Test.YtdhedjbmdnnbkaaGreatDoorTie
import Derived.Test.YtdhedjbmdnnbkaaGreatDoorCards
import Derived.LaidMore
import Derived.Stop.Joined
import Derived.MakeChecks
set_option linter.all false
namespace Go.Proofs.YtdhedjbmdnnbkaaGreatDoor
open Go.Abs
set_option maxRecDepth 20000
set_option maxHeartbeats 2000000
theorem qs_pow {x : Rat} {t : Nat} (h : qs x ≤ t) : ∀ n, qs (x ^ n) ≤ n * t + 1
 | 0 => by rw [Rat.pow_zero]; exact Nat.le_trans (by decide : qs 1 ≤ 1) (Nat.le_add_left 1 _)
 | n + 1 => by
  have h1 := qs_pow h n
  have h2 := c4_ (x ^ n) x
  rw [Rat.pow_succ, Nat.succ_mul]; omega
def evS (x : List RQ) (a : RQ) : Nat × Rat × Rat → AState
 | (i, o, w) => ⟨[(0, .arr (rE x)), (3, .lptr 1 0 0), (4, .lptr 2 0 0), (5, .lptr 3 0 0), (6, .lptr 4 0 0), (7, i64 i)], [(1, some ⟨75, 4, [rC a]⟩), (2, some ⟨75, 4, [zR4]⟩), (3, some ⟨75, 4, [rC (rq o)]⟩), (4, some ⟨75, 4, [rC (rq w)]⟩)], 5, 28⟩
theorem pY_ (x : List RQ) (a : RQ) (i : Nat) (o : Rat) (w : Rat) : evS x a (i, o, w) = ⟨[(0, .arr (rE x)), (3, .lptr 1 0 0), (4, .lptr 2 0 0), (5, .lptr 3 0 0), (6, .lptr 4 0 0), (7, i64 i)], [(1, some ⟨75, 4, [rC a]⟩), (2, some ⟨75, 4, [zR4]⟩), (3, some ⟨75, 4, [rC (rq o)]⟩), (4, some ⟨75, 4, [rC (rq w)]⟩)], 5, 28⟩ := rfl
theorem mY_ (x : List RQ) (a : RQ) (s t : Nat) (hx : okX x) (ha : rok a) (hs : bdL (vR x) s) (hs1 : 1 ≤ s) (ht : qs a.1 ≤ t) (hlim : (x.length + 2) * (s + t + 1) ≤ 137438953472) (hl : x.length ≤ 1000000) :
    FSpec Tryz.prog 135 [.arr (rE x), .agg (rC a)] (.agg (rC (rq (evalP (vR x) a.1)))) := by
 have hi0 : FSpec Tryz.prog 51 [i64 0] (.agg (rC (rq 0))) := dc_ 0 (by decide)
 have hi1 : FSpec Tryz.prog 51 [i64 1] (.agg (rC (rq 1))) := dc_ 1 (by decide)
 have hvl := aZ_ x
 refine f_n Tryz.func135 ?_ ?_
 ·exact aa_ (ay_ x) (aa_ (aV_ a) ab_)
 refine r_z 2 ?_
 refine r_c 6 (hi0) ?_
 refine c_s (hi1) ?_
 refine a_z ?_
 refine ac_ (r_z 1 ?_)
 refine au_ (fun _ : Unit => ⟨[(4, .lptr 1 0 0), (5, .lptr 2 0 0)], [(1, some ⟨75, 4, [zR4]⟩), (2, some ⟨75, 4, [rC (rq (evalP (vR x) a.1))]⟩)], 3, 28⟩) (fun _ => True) ?_ ?_
 ·refine ah_ (ao_ (evS x a) (fun y => x.length - y.1) (fun y => y.1 ≤ x.length ∧ y.2.1 = evalP ((vR x).take y.1) a.1 ∧ y.2.2 = a.1 ^ y.1) (0, 0, 1) ⟨Nat.zero_le _, rfl, (Rat.pow_zero _).symm⟩ ?_ ?_)
  ·simp only [pY_]
   exact s_e [(1, 3), (2, 4), (3, 5), (4, 6)]
  rintro ⟨i, o, w⟩ ⟨hi, ho, hw⟩
  simp only at hi ho hw
  rw [pY_]
  refine ac_ (r_z 4 ?_)
  refine af_ rfl (fun h => ?_) (fun h => ?_)
  ·refine ag_ ?_
   have hlt : i < x.length := by simpa using h
   obtain ⟨y, hy, hyc⟩ := fa_ hlt
   have hym := List.mem_of_getElem? hy
   have hgt : (rE x)[((i : Nat) : Int).toNat]? = some (rC y) := dH_ hy
   have hc := cq_ hs hs1 i
   rw [← hyc] at hc
   have hp := qs_pow ht i
   rw [← hw] at hp
   have hob := g0_ ht (l := (vR x).take i) (s := s) fun q hq => hs q (List.mem_of_mem_take hq)
   rw [← ho, List.length_take, hvl, Nat.min_eq_left (by omega)] at hob
   have e1 : (i + 1) * (s + t + 1) ≤ (x.length + 1) * (s + t + 1) := Nat.mul_le_mul_right _ (by omega)
   have e2 : (x.length + 2) * (s + t + 1) = (x.length + 1) * (s + t + 1) + (s + t + 1) := Nat.succ_mul _ _
   have e3 : (i + 1) * (s + t + 1) = i * (s + t + 1) + (s + t + 1) := Nat.succ_mul _ _
   have e4 : i * t ≤ i * (s + t + 1) := Nat.mul_le_mul_left _ (by omega)
   have m1 := hH_ y (rq w) (hx y hym) (bA_ _) (by show qs y.1 + qs w ≤ _; omega)
   have q1 := c4_ y.1 w
   have m2 := gf_ (rq o) (rq (y.1 * w)) (bA_ _) (bA_ _) (by show qs o + qs (y.1 * w) ≤ _; omega)
   have m3 := hH_ (rq w) a (bA_ _) ha (by show qs w + qs a.1 ≤ _; omega)
   refine ac_ (ah_ (ac_ (r_d hmix 9 ?_)))
   refine a_3 ?_
   refine i_x hgt ?_
   refine l_x hgt ?_
   refine c_s (m1) ?_
   refine c_s (m2) ?_
   refine a_1 ?_
   refine aj_ (n_k ?_)
   refine r_m 4 ?_
   refine c_s (m3) ?_
   refine a_z ?_
   refine r_m 3 ?_
   refine a_z ?_
   refine ⟨(i + 1, o + y.1 * w, w * a.1), by simp only; omega, ⟨hlt, ?_, by simp only; rw [hw, Rat.pow_succ]⟩, ?_⟩
   ·simp only
    rw [gh_ _ _ _ (by omega), ← ho, hyc, hw]
   simp only [pY_]
   exact s_e []
  ·have hge : i = x.length := by
    have : ¬ i < x.length := by simpa using h
    omega
   subst hge
   rw [List.take_of_length_le (by omega)] at ho
   subst ho
   refine al_ ⟨(), trivial, ?_⟩
   exact s_e [(1, 4), (2, 5)]
 rintro _ _
 refine r_z 2 ?_
 exact ae_ (c_e (aV_ _))
def mxR (l : List Rat) : Nat × List AV → AState
 | (i, o) => ⟨[(0, .arr (rE (rP l))), (2, .lptr 1 0 0), (3, .lptr 2 0 0), (4, i64 i)], [(1, some ⟨75, 4, [zR4]⟩), (2, some ⟨75, 4, [o]⟩)], 3, 27⟩
theorem hq_ (l : List Rat) (i : Nat) (o : List AV) : mxR l (i, o) = ⟨[(0, .arr (rE (rP l))), (2, .lptr 1 0 0), (3, .lptr 2 0 0), (4, i64 i)], [(1, some ⟨75, 4, [zR4]⟩), (2, some ⟨75, 4, [o]⟩)], 3, 27⟩ := rfl
theorem mh_ (bf : Int → Bool) {l : List Rat} (h : l ≠ []) : bR_ bf l ∈ l := by
 cases l with
 | nil => exact absurd rfl h
 | cons x l =>
  have key : ∀ (l : List Rat) (o : Rat), l.foldl (fun o y => if bf (cmpQ y o) then y else o) o ∈ o :: l := by
   intro l
   induction l with
   | nil => intro o; exact List.mem_cons_self ..
   | cons y l ih =>
    intro o
    have := ih (if bf (cmpQ y o) then y else o)
    rw [List.foldl_cons]
    rcases List.mem_cons.1 this with e | e
    ·rw [e]
     split
     ·exact List.mem_cons_of_mem _ (List.mem_cons_self ..)
     ·exact List.mem_cons_self ..
    ·exact List.mem_cons_of_mem _ (List.mem_cons_of_mem _ e)
  exact key l x
theorem fs_rMax (l : List Rat) (s : Nat) (hs : bdL l s) (hlim : 2 * s ≤ 1099511627776) (hl : l.length ≤ 1000000) (h0 : l ≠ []) : FSpec Tryz.prog 196 [.arr (rE (rP l))] (.agg (rC (rq (maxL l)))) := by
 refine f_n Tryz.func196 ?_ ?_
 ·exact aa_ (ay_ _) ab_
 refine r_z 1 ?_
 refine r_z 1 ?_
 refine ac_ (r_z 1 ?_)
 refine au_ (fun _ : Unit => ⟨[(2, .lptr 1 0 0), (3, .lptr 2 0 0)], [(1, some ⟨75, 4, [zR4]⟩), (2, some ⟨75, 4, [rC (rq (maxL l))]⟩)], 3, 27⟩) (fun _ => True) ?_ ?_
 ·refine ah_ (ao_ (fun x : Nat × List AV => mxR l x) (fun x => l.length - x.1) (fun x => x.1 ≤ l.length ∧ ((x.1 = 0 → x.2 = zR4) ∧ (x.1 ≠ 0 → x.2 = rC (rq (maxL (l.take x.1)))))) (0, zR4) ⟨Nat.zero_le _, fun _ => rfl, fun h => absurd rfl h⟩ ?_ ?_)
  ·simp only [hq_]
   exact s_e [(1, 2), (2, 3)]
  rintro ⟨i, o⟩ ⟨hi, ho0, ho⟩
  simp only at hi ho0 ho
  simp only [hq_]
  by_cases hlt : i < l.length
  ·refine ac_ (s_r 4 ?_)
   refine a_3 ?_
   refine o_0 (.bin rfl rfl (vT bZ_ (decide_eq_true (by simp; omega)))) ?_
   refine aj_ ?_
   refine cT (ag_ ?_)
   have hgt := rP_get hlt
   have hq : l[i]? = some (coP l i) := bn_ hlt
   have hc := hs _ (List.mem_of_getElem? hq)
   have hsn : maxL (l.take (i + 1)) = if l.take i = [] ∨ decide (0 < cmpQ (coP l i) (maxL (l.take i))) = true then coP l i else maxL (l.take i) := by
    rw [bS_ hq]; exact gC_ _ _ _
   refine ac_ (ah_ (AWp.cutB (fun _ : Unit => mxR l (i, rC (rq (maxL (l.take (i + 1)))))) (fun _ => True) ?_ ?_))
   ·by_cases h0 : i = 0
    ·subst h0
     have := ho0 rfl
     subst this
     rw [if_pos (.inl (by simp))] at hsn
     refine ac_ (r_d hmix 11 ?_)
     refine a_3 ?_
     refine n_g rfl d_t ?_
     refine n_g rfl d_t ?_
     refine n_g rfl d_t ?_
     refine n_g rfl d_t ?_
     refine n_g rfl d_t ?_
     refine n_g rfl d_t ?_
     refine n_g rfl d_t ?_
     refine o_0 (.pickT rfl d_t rfl) ?_
     refine aj_ (n_k ?_)
     refine af_ rfl (fun h => ?_) (fun h => ?_)
     ·refine r_m 5 ?_
      refine a_2 ?_
      refine i_x hgt ?_
      refine l_x hgt ?_
      refine a_z ?_
      refine ⟨(), trivial, ?_⟩
      simp only [hq_]
      rw [hsn]
      exact s_e []
     ·cases h
    ·have ho' : o = rC (rq (maxL (l.take i))) := ho h0
     subst ho'
     have hne : l.take i ≠ [] := fun h => by
      have := congrArg List.length h
      rw [List.length_take, List.length_nil] at this; omega
     have hmm := hs _ (List.mem_of_mem_take (mh_ (fun c => decide (0 < c)) hne))
     have hcm := px_ (rq (coP l i)) (rq (maxL (l.take i))) (bA_ _) (bA_ _) (by show qs (coP l i) + qs (bR_ _ (l.take i)) ≤ _; omega)
     by_cases h1 : 0 < cmpQ (coP l i) (maxL (l.take i))
     ·rw [if_pos (.inr (decide_eq_true h1))] at hsn
      refine ac_ (r_d hmix 11 ?_)
      refine a_3 ?_
      refine y_g rfl (by simp; omega) (.move rfl) ?_
      refine y_g rfl (by simp; omega) (.move rfl) ?_
      first | refine y_g rfl (by simp; omega) (.index_l rfl rfl (by omega) (by omega) te_26.h) ?_ | refine y_g rfl (by simp; omega) (.index_a rfl rfl (by omega) hgt rfl te_26.h) ?_
      first | refine y_g rfl (by simp; omega) (.load_l rfl rfl hgt tg_75.h ts_75.h (nle rfl)) ?_ | refine y_g rfl (by simp; omega) (.load_a rfl hgt tg_75.h ts_75.h (nle rfl)) ?_
      first | refine y_g rfl (by simp; omega) (.load_l rfl rfl rfl tg_75.h ts_75.h (nle rfl)) ?_ | refine y_g rfl (by simp; omega) (.load_a rfl rfl tg_75.h ts_75.h (nle rfl)) ?_
      refine y_g rfl (by simp; omega) (.call rfl rfl rfl (hcm)) ?_
      refine y_g rfl (by simp; omega) (.bin rfl rfl (vT ei_ (decide_eq_true h1))) ?_
      refine o_0 (.pickF rfl (by simp; omega) rfl) ?_
      refine aj_ (n_k ?_)
      refine af_ rfl (fun h => ?_) (fun h => ?_)
      ·refine r_m 5 ?_
       refine a_2 ?_
       refine i_x hgt ?_
       refine l_x hgt ?_
       refine a_z ?_
       refine ⟨(), trivial, ?_⟩
       simp only [hq_]
       rw [hsn]
       exact s_e []
      ·cases h
     ·rw [if_neg (fun e => e.elim hne fun e => h1 (of_decide_eq_true e))] at hsn
      refine ac_ (r_d hmix 11 ?_)
      refine a_3 ?_
      refine y_g rfl (by simp; omega) (.move rfl) ?_
      refine y_g rfl (by simp; omega) (.move rfl) ?_
      first | refine y_g rfl (by simp; omega) (.index_l rfl rfl (by omega) (by omega) te_26.h) ?_ | refine y_g rfl (by simp; omega) (.index_a rfl rfl (by omega) hgt rfl te_26.h) ?_
      first | refine y_g rfl (by simp; omega) (.load_l rfl rfl hgt tg_75.h ts_75.h (nle rfl)) ?_ | refine y_g rfl (by simp; omega) (.load_a rfl hgt tg_75.h ts_75.h (nle rfl)) ?_
      first | refine y_g rfl (by simp; omega) (.load_l rfl rfl rfl tg_75.h ts_75.h (nle rfl)) ?_ | refine y_g rfl (by simp; omega) (.load_a rfl rfl tg_75.h ts_75.h (nle rfl)) ?_
      refine y_g rfl (by simp; omega) (.call rfl rfl rfl (hcm)) ?_
      refine y_g rfl (by simp; omega) (.bin rfl rfl (vF ei_ (decide_eq_false h1))) ?_
      refine o_0 (.pickF rfl (by simp; omega) rfl) ?_
      refine aj_ (n_k ?_)
      refine cF ?_
      ·refine ag_ (⟨(), trivial, ?_⟩)
       simp only [hq_]
       rw [hsn]
       exact s_e []
   rintro _ _
   simp only [hq_]
   refine r_m 3 ?_
   refine a_z ?_
   refine ⟨(i + 1, rC (rq (maxL (l.take (i + 1))))), by simp only; omega, ⟨hlt, fun h => absurd h (Nat.succ_ne_zero i), fun _ => rfl⟩, ?_⟩
   simp only [hq_]
   exact s_e []
  ·refine ac_ (s_r 4 ?_)
   refine a_3 ?_
   refine o_0 (.bin rfl rfl (vF bZ_ (decide_eq_false (by simp; omega)))) ?_
   refine aj_ ?_
   refine cF ?_
   have hge : i = l.length := by omega
   subst hge
   have ho' := ho (by have := List.length_pos_iff.2 h0; omega)
   rw [List.take_of_length_le (Nat.le_refl _)] at ho'
   subst ho'
   refine al_ ⟨(), trivial, ?_⟩
   exact s_e [(1, 2), (2, 3)]
 rintro _ _
 refine r_z 2 ?_
 exact ae_ (c_e (aV_ _))
def bR (X : List RQ) : Nat × Rat → AState
 | (i, m) => ⟨[(0, .arr (rE X)), (2, .lptr 1 0 0), (3, .lptr 2 0 0), (4, i64 i)], [(1, some ⟨75, 4, [zR4]⟩), (2, some ⟨75, 4, [rC (rq m)]⟩)], 3, 29⟩
theorem bR_mk (X : List RQ) (i : Nat) (m : Rat) : bR X (i, m) = ⟨[(0, .arr (rE X)), (2, .lptr 1 0 0), (3, .lptr 2 0 0), (4, i64 i)], [(1, some ⟨75, 4, [zR4]⟩), (2, some ⟨75, 4, [rC (rq m)]⟩)], 3, 29⟩ := rfl
theorem py_ (x : List RQ) (s : Nat) (hx : okX x) (hs : bdL (vR x) s) (hs1 : 1 ≤ s) (hz : nz (vR x)) (hlim : s ≤ 137438953472) (hl : x.length ≤ 1000000) : FSpec Tryz.prog 113 [.arr (rE x)] (.agg (rC (rq (bW_ (vR x))))) := by
 have hi0 : FSpec Tryz.prog 51 [i64 0] (.agg (rC (rq 0))) := dc_ 0 (by decide)
 have hi1 : FSpec Tryz.prog 51 [i64 1] (.agg (rC (rq 1))) := dc_ 1 (by decide)
 obtain ⟨X, hX⟩ : ∃ X, X = trimR x := ⟨_, rfl⟩
 obtain ⟨t, ht⟩ : ∃ t, t = trimQ (vR x) := ⟨_, rfl⟩
 have hXt : vR X = t := by rw [hX, ht, d6_]
 have hXl : X.length = t.length := by rw [← hXt, aZ_]
 have hXx : X.length ≤ x.length := by rw [hX, bX_, ← aZ_ x]; exact aU_ _
 have hXo : okX X := by rw [hX]; exact fD_ hx
 have hbt : bdL t s := by rw [ht]; exact g4_ hs
 have htt : trimQ t = t := by rw [ht]; exact a1_ _
 have hpos : 0 < t.length := by rw [ht]; exact List.length_pos_iff.2 hz
 obtain ⟨b, hb, hbl, hbm⟩ := hy_ (x := X) (by rw [hXt]; exact htt) (fun e => by rw [e] at hXl; simp at hXl; omega)
 have hbo := hXo b hbm
 rw [hXt, ht, gd_] at hbl
 have hb0 : b.1 ≠ 0 := by rw [hbl]; exact bp_ hz
 have hbs : qs b.1 ≤ s := by rw [hbl]; exact hw_ hs hs1
 have hld := gV_ X b (by omega) (by rw [gF_ (by rw [hXt]; exact htt)]; exact hb)
 obtain ⟨l, hle⟩ : ∃ l, l = t.take (t.length - 1) := ⟨_, rfl⟩
 have hll : l.length = t.length - 1 := by rw [hle]; simp
 obtain ⟨B, hB⟩ : ∃ B, B = boL (leadP (vR x)) l 0 := ⟨_, rfl⟩
 have hbd : bW_ (vR x) = B + 1 := by unfold bW_; rw [← ht, ← hle, ← hB]
 rw [hbd]
 refine f_n Tryz.func113 ?_ ?_
 ·exact aa_ (ay_ x) ab_
 refine r_z 1 ?_
 refine r_c 3 (c3_ x (by omega)) ?_
 refine a_z ?_
 rw [← hX]
 refine r_c 3 (hi0) ?_
 refine a_z ?_
 refine ac_ (r_z 1 ?_)
 refine au_ (fun _ : Unit => ⟨[(2, .lptr 1 0 0), (3, .lptr 2 0 0)], [(1, some ⟨75, 4, [zR4]⟩), (2, some ⟨75, 4, [rC (rq B)]⟩)], 3, 29⟩) (fun _ => qs B ≤ 2 * s + 1) ?_ ?_
 ·refine ah_ (ao_ (bR X) (fun y => t.length - y.1) (fun y => y.1 ≤ l.length ∧ qs y.2 ≤ 2 * s + 1 ∧ boL (leadP (vR x)) (l.drop y.1) y.2 = B) (0, 0) ⟨Nat.zero_le _, Nat.le_trans (by decide : qs 0 ≤ 1) (Nat.le_add_left 1 _), by rw [hB]; rfl⟩ ?_ ?_)
  ·simp only [bR_mk]
   exact s_e [(1, 2), (2, 3)]
  rintro ⟨i, m⟩ ⟨hi, hm, hbo'⟩
  simp only at hi hm hbo'
  rw [bR_mk]
  by_cases hlt : i < l.length
  ·refine ac_ (q_z 5 ?_)
   refine cT (ag_ ?_)
   obtain ⟨y, hy, hyc⟩ := fa_ (x := X) (i := i) (by omega)
   have hym := List.mem_of_getElem? hy
   have hgt : (rE X)[((i : Nat) : Int).toNat]? = some (rC y) := dH_ hy
   have hcl : coP (vR X) i = coP l i := by
    rw [hXt, hle]; unfold coP
    rw [List.getD_eq_getElem?_getD, List.getD_eq_getElem?_getD, List.getElem?_take_of_lt (by omega)]
   have hc : qs y.1 ≤ s := by rw [hyc, hXt]; exact cq_ hbt hs1 i
   rw [hcl] at hyc
   rw [gi_ hlt, boL, ← hyc] at hbo'
   have hq := ek_ y.1 b.1
   have hdv := jH_ y b (hXo y hym) hbo hb0 (by omega)
   have hqa := kB_ (y.1 / b.1)
   have hab := pA_ (rq (y.1 / b.1)) (bA_ _)
   rw [← hbl] at hbo'
   have hbm2 : bdL [m, absQ (y.1 / b.1)] (2 * s + 1) := by
    intro z hz
    rcases List.mem_cons.1 hz with rfl | hz
    ·exact hm
    ·rw [List.mem_singleton.1 hz]; omega
   have hmx := fs_rMax [m, absQ (y.1 / b.1)] (2 * s + 1) hbm2 (by omega) (by simp) (by simp)
   refine ac_ (ah_ (r_d hmix 12 ?_))
   refine a_3 ?_
   refine i_x hgt ?_
   refine l_x hgt ?_
   refine c_s (hld) ?_
   refine c_s (hdv) ?_
   refine c_s (hab) ?_
   refine a_1 ?_
   refine o_1 (.callS1 rfl rfl rfl (.shut rfl d_n (.nil)) rfl (hmx)) ?_
   refine a_1 ?_
   refine aj_ (n_k ?_)
   refine r_m 3 ?_
   refine a_z ?_
   refine ⟨(i + 1, maxL [m, absQ (y.1 / b.1)]), by simp only; omega, ⟨hlt, lQ_ hbm2 (Nat.le_add_left 1 _), by rw [← hbl]; exact hbo'⟩, ?_⟩
   simp only [bR_mk]
   exact s_e []
  ·have hge : i = l.length := by omega
   subst hge
   refine ac_ (q_z 5 ?_)
   refine cF ?_
   rw [List.drop_length] at hbo'
   have hb2 : m = B := hbo'
   subst hb2
   refine al_ ⟨(), hm, ?_⟩
   exact s_e [(1, 2), (2, 3)]
 rintro _ hq
 have q1 : qs ((rq 1).1) = 1 := it_
 have had := gf_ (rq B) (rq 1) (bA_ _) (bA_ _) (by rw [q1]; show qs B + 1 ≤ _; omega)
 refine ac_ (r_d hmix 4 ?_)
 refine c_s (hi1) ?_
 refine c_s (had) ?_
 refine a_1 ?_
 refine aj_ (n_k ?_)
 exact ae_ (c_e (aV_ _))
def cR (l : List (List Rat)) : List (List AV) := l.map fun p => [.arr (rE (rP p))]
@[simp] theorem ql_ (l : List (List Rat)) : (cR l).length = l.length := by simp [cR]
theorem qm_ {l : List (List Rat)} {i : Nat} {p : List Rat} (h : l[i]? = some p) : (cR l)[i]? = some [.arr (rE (rP p))] := by simp [cR, h]
theorem cR_one (l : List (List Rat)) : (cR l).all (·.all AV.one) = true := by
 simp only [cR, List.all_map, List.all_eq_true]; intro q _; rfl
theorem eI_ (l : List (List Rat)) : Closed (.arr (cR l)) := aw_ fun e he c hc => by
 obtain ⟨q, _, rfl⟩ := List.mem_map.1 he
 rw [List.mem_singleton.1 hc]
 exact ay_ _
theorem qk_ (l : List (List Rat)) (p : List Rat) : cR (l ++ [p]) = cR l ++ [[.arr (rE (rP p))]] := by simp [cR]
def cgR (ch : List (List Rat)) (a : RQ) : Nat × Int × Int → AState
 | (i, n, last) => ⟨[(0, .arr (cR ch)), (3, .lptr 1 0 0), (5, i64 n), (6, i64 last), (7, i64 i)], [(1, some ⟨75, 4, [rC a]⟩)], 2, 36⟩
theorem ls_ (ch : List (List Rat)) (a : RQ) (i : Nat) (n : Int) (last : Int) : cgR ch a (i, n, last) = ⟨[(0, .arr (cR ch)), (3, .lptr 1 0 0), (5, i64 n), (6, i64 last), (7, i64 i)], [(1, some ⟨75, 4, [rC a]⟩)], 2, 36⟩ := rfl
theorem hG_ (ch : List (List Rat)) (a : RQ) (ha : rok a) (s t : Nat) (hs1 : 1 ≤ s) (ht : qs a.1 ≤ t) (hs : ∀ q ∈ ch, bdL q s ∧ q.length ≤ 7) (hlim : 9 * (s + t + 1) ≤ 137438953472) (hl : ch.length ≤ 1000000) :
    FSpec Tryz.prog 137 [.arr (cR ch), .agg (rC a)] (i64 (chV ch a.1)) := by
 obtain ⟨R, hR⟩ : ∃ R, R = chV ch a.1 := ⟨_, rfl⟩
 rw [← hR]
 have hcl := ql_ ch
 refine f_n Tryz.func137 ?_ ?_
 ·exact aa_ (eI_ ch) (aa_ (aV_ a) ab_)
 refine r_z 2 ?_
 refine r_z 2 ?_
 refine ac_ (r_z 1 ?_)
 refine au_ (fun _ : Unit => ⟨[(5, i64 R)], [], 1, 36⟩) (fun _ => True) ?_ ?_
 ·refine ah_ (ao_ (cgR ch a) (fun x => ch.length - x.1) (fun x => x.1 ≤ ch.length ∧ 0 ≤ x.2.1 ∧ x.2.1 ≤ x.1 ∧ -1 ≤ x.2.2 ∧ x.2.2 ≤ 1 ∧ chL ((ch.drop x.1).map (sgE a.1)) x.2.1 x.2.2 = R) (0, 0, 0) ⟨Nat.zero_le _, by decide, by decide, by decide, by decide, by rw [hR]; rfl⟩ ?_ ?_)
  ·simp only [ls_]
   have := eI_ ch
   exact s_f [(1, 3)]
  rintro ⟨i, n, last⟩ ⟨hi, hn0, hn1, hl0, hl1, hc⟩
  simp only at hi hn0 hn1 hl0 hl1 hc
  rw [ls_]
  by_cases hlt : i < ch.length
  ·refine ac_ (q_z 4 ?_)
   refine cT (ag_ ?_)
   obtain ⟨q, hq⟩ : ∃ q, ch[i]? = some q := ⟨_, List.getElem?_eq_getElem hlt⟩
   have hqm := List.mem_of_getElem? hq
   have hgt : (cR ch)[((i : Nat) : Int).toNat]? = some [.arr (rE (rP q))] := qm_ hq
   have hd : ch.drop i = q :: ch.drop (i + 1) := by
    rw [List.drop_eq_getElem_cons hlt]
    rw [List.getElem?_eq_getElem hlt] at hq
    rw [Option.some.inj hq]
   rw [hd, List.map_cons, chL] at hc
   have hs2 := fd_ a.1 q
   obtain ⟨hqb, hql⟩ := hs q hqm
   have hmul : (q.length + 2) * (s + t + 1) ≤ 9 * (s + t + 1) := Nat.mul_le_mul_right _ (by omega)
   have hev := mY_ (rP q) a s t (ct_ _) ha (by rw [vR_rP]; exact hqb) hs1 ht (by rw [a0_]; omega) (by rw [a0_]; omega)
   rw [vR_rP] at hev
   have hsi : FSpec Tryz.prog 138 [.agg (rC (rq (evalP q a.1)))] (i64 (sgE a.1 q)) := gU_ (rq (evalP q a.1))
   obtain ⟨σ, hσ⟩ : ∃ σ, σ = sgE a.1 q := ⟨_, rfl⟩
   rw [← hσ] at hc hs2 hsi
   refine ac_ (ah_ (ac_ (r_d hmix 8 ?_)))
   refine a_2 ?_
   refine i_x hgt ?_
   refine l_1 hgt ?_
   refine c_s (hev) ?_
   refine c_s (hsi) ?_
   refine a_1 ?_
   refine aj_ (n_k ?_)
   by_cases h0 : σ = 0
   ·rw [if_neg (fun e => e h0)] at hc
    refine ac_ (s_r 8 ?_)
    refine a_3 ?_
    refine n_g rfl (by simpa using h0) ?_
    refine n_g rfl (by simpa using h0) ?_
    refine n_g rfl (by simpa using h0) ?_
    refine n_g rfl (by simpa using h0) ?_
    refine o_0 (.pickF rfl (by simpa using h0) rfl) ?_
    refine aj_ ?_
    refine cF (ag_ (s_r 2 ?_))
    refine a_1 ?_
    refine o_0 (.bin rfl rfl (vF by_ ((by simpa using h0)))) ?_
    refine aj_ ?_
    refine cF (ag_ (r_m 3 ?_))
    refine a_z ?_
    refine ⟨(i + 1, n, last), by simp only; omega, ⟨hlt, hn0, by simp only; omega, hl0, hl1, hc⟩, ?_⟩
    simp only [ls_]
    have := eI_ ch
    exact s_f []
   ·rw [if_pos h0] at hc
    by_cases h1 : σ = -last
    ·rw [if_pos h1] at hc
     refine ac_ (s_r 8 ?_)
     refine a_3 ?_
     refine y_g rfl (by simpa using h0) (.move rfl) ?_
     refine y_g rfl (by simpa using h0) (.move rfl) ?_
     refine y_g rfl (by simpa using h0) (.un rfl (iW_ (by omega))) ?_
     refine y_g rfl (by simpa using h0) (.bin rfl rfl (vT a2_ (decide_eq_true h1))) ?_
     refine o_0 (.pickT rfl (by simpa using h0) rfl) ?_
     refine aj_ ?_
     refine cT (r_m 3 ?_)
     refine a_z ?_
     refine s_r 2 ?_
     refine a_1 ?_
     refine o_0 (.bin rfl rfl (vT by_ ((by simpa using h0)))) ?_
     refine aj_ ?_
     refine cT (r_m 2 ?_)
     refine a_z ?_
     refine r_m 3 ?_
     refine a_z ?_
     refine ⟨(i + 1, n + 1, σ), by simp only; omega, ⟨hlt, by simp only; omega, by simp only; omega, hs2.1, hs2.2, hc⟩, ?_⟩
     simp only [ls_]
     have := eI_ ch
     exact s_f []
    ·rw [if_neg h1] at hc
     refine ac_ (s_r 8 ?_)
     refine a_3 ?_
     refine y_g rfl (by simpa using h0) (.move rfl) ?_
     refine y_g rfl (by simpa using h0) (.move rfl) ?_
     refine y_g rfl (by simpa using h0) (.un rfl (iW_ (by omega))) ?_
     refine y_g rfl (by simpa using h0) (.bin rfl rfl (vF a2_ (decide_eq_false h1))) ?_
     refine o_0 (.pickT rfl (by simpa using h0) rfl) ?_
     refine aj_ ?_
     refine cF (ag_ (s_r 2 ?_))
     refine a_1 ?_
     refine o_0 (.bin rfl rfl (vT by_ ((by simpa using h0)))) ?_
     refine aj_ ?_
     refine cT (r_m 2 ?_)
     refine a_z ?_
     refine r_m 3 ?_
     refine a_z ?_
     refine ⟨(i + 1, n, σ), by simp only; omega, ⟨hlt, hn0, by simp only; omega, hs2.1, hs2.2, hc⟩, ?_⟩
     simp only [ls_]
     have := eI_ ch
     exact s_f []
  ·refine ac_ (q_z 4 ?_)
   refine cF ?_
   have hge : i = ch.length := by omega
   subst hge
   rw [List.drop_length] at hc
   have hc' : n = R := hc
   subst hc'
   refine al_ ⟨(), trivial, ?_⟩
   exact s_e []
 rintro _ _
 refine r_z 2 ?_
 exact ae_ (t_e (ad_ _))
def sR  : List (List Rat) → AState
 | L => ⟨[(3, .lsl 1 0 L.length none 1)], [(1, some ⟨27, 1, cR L⟩)], 2, 48⟩
theorem sR_mk  (L : List (List Rat)) : sR  L = ⟨[(3, .lsl 1 0 L.length none 1)], [(1, some ⟨27, 1, cR L⟩)], 2, 48⟩ := rfl
theorem cI_ (l : List (List Rat)) : ∀ e ∈ cR l, ∀ c ∈ e, Closed c := fun e he c hc => by
 obtain ⟨q, _, rfl⟩ := List.mem_map.1 he
 rw [List.mem_singleton.1 hc]
 exact ay_ _
def RInv (f : Nat) (out : List (List Rat)) (k : Nat) (L : List (List Rat)) : Prop :=
 (L.length = 1 ∧ out = L) ∨ (2 ≤ L.length ∧ ∃ u v, L[L.length - 2]? = some u ∧ L[L.length - 1]? = some v ∧ d4_ f k v (aI_ (divP u v).2 (-1)) L = some out)
theorem qh_ {f k : Nat} {a b : List Rat} {L out : List (List Rat)} (h : d4_ f k a b L = some out) : ∀ q ∈ L, q ∈ out := fun q hq => by
 obtain ⟨M, e, _⟩ := fs_ f k a b L out h
 rw [e]; exact List.mem_append_left _ hq
theorem pw_ (f T s S W : Nat) (x : List RQ) (out : List (List Rat)) (hx : okX x) (hs : bdL (vR x) s) (hs1 : 1 ≤ s) (hz : nz (vR x)) (hst : fb_ f (vR x) = some out) (hall : ∀ q ∈ out, nz q ∧ q.length ≤ 7 ∧ bdL q T) (hT1 : 1 ≤ T) (hf : f ≤ 100000)
    (hS : s + 64 ≤ S) (hlim : 11 * S ≤ 137438953472) (hW : 3 * T + 3 ≤ W) (hlT : 1408 * W ≤ 137438953472) (hxl : x.length ≤ 7) : FSpec Tryz.prog 136 [.arr (rE x)] (.arr (cR out)) := by
 unfold fb_ at hst
 split at hst
 case isFalse => cases hst
 case isTrue hp =>
 have hi1 : FSpec Tryz.prog 51 [i64 (-1)] (.agg (rC (rq (-1)))) := dc_ (-1) (by decide)
 have hm1 : qs (-1) = 1 := by decide
 have w1 : (x.length + 4) * s ≤ 11 * S := Nat.mul_le_mul (by omega) (by omega)
 have hpr := ed_ x s hx hs hs1 hz (by omega) (by omega)
 have hde := iE_ x s hx hs (by omega) (by omega)
 have hdl := cX_ (vR x)
 rw [aZ_] at hdl
 refine f_n Tryz.func136 ?_ ?_
 ·exact aa_ (ay_ x) ab_
 refine r_z 1 ?_
 refine r_c 4 (hpr) ?_
 refine a_z ?_
 obtain ⟨L0, hL0⟩ : ∃ L0, L0 = [primP (vR x)] := ⟨_, rfl⟩
 have hL1 : L0.length = 1 := by rw [hL0]; rfl
 refine AWp.ent (st' := ⟨[(0, .arr (rE x)), (3, .lsl 1 0 L0.length none 1)], [(1, some ⟨27, 1, cR L0⟩)], 2, 48⟩) ?_ ?_
 ·rw [hL1, hL0]
  have := (cI_ [primP (vR x)])
  exact s_f [(1, 3)]
 refine ac_ (r_c 3 (do_ x (by omega)) ?_)
 refine a_z ?_
 refine au_ (fun x : Nat × List (List Rat) => sR x.2) (fun x => RInv f out x.1 x.2 ∧ x.1 + x.2.length ≤ f + 1) ?_ ?_
 ·by_cases hd : 0 < degP (vR x)
  ·have hn : nz (aB_ (vR x)) := by
    have h1 := p9_ hz
    exact (le_ (by omega) hz).1
   cases f with
   | zero => cases hst
   | succ k =>
    rw [d4_, if_neg hn] at hst
    split at hst
    case isFalse => cases hst
    case isTrue hok =>
    have w2 : ((rP (aB_ (vR x))).length + 4) * (s + 64) ≤ 11 * S := Nat.mul_le_mul (by rw [a0_]; omega) hS
    have hpd := ed_ (rP (aB_ (vR x))) (s + 64) (ct_ _) (by rw [vR_rP]; exact of_ hs hs1 (by rw [aZ_]; omega)) (by omega) (by rw [vR_rP]; exact hn) (Nat.le_trans w2 hlim) (by rw [a0_]; omega)
    rw [vR_rP] at hpd
    obtain ⟨d, hde'⟩ : ∃ d, d = primP (aB_ (vR x)) := ⟨_, rfl⟩
    rw [← hde'] at hpd hst
    have hI : RInv (k + 1) out k (L0 ++ [d]) := by
     rw [hL0]
     exact .inr ⟨by simp, primP (vR x), d, rfl, rfl, hst⟩
    have hla : (L0 ++ [d]).length = L0.length + 1 := by simp
    have hone := cR_one L0
    refine af_ rfl (fun h1 => ?_) (fun h1 => ?_)
    ·refine r_m 7 ?_
     refine c_s (hde) ?_
     refine c_s (hpd) ?_
     refine o_1 (.buildSlice te_171.h tz_27.h rfl (by decide) rfl rfl rfl (by first | (simp; done) | (simp [a7_, ofV]; done) | rfl)) ?_
     refine o_2 (.append_l rfl rfl rfl te_171.h rfl rfl rfl rfl rfl d_o (by first | exact cS_ _ | exact cR_ _ | exact cQ_ _ | exact cT_ _ | exact cL_ _ | assumption | rfl | simp) (by first | rfl | exact cS_ _ | exact cR_ _ | exact cQ_ _ | exact cT_ _ | exact cL_ _ | simp) rfl (.lsl rfl (nle rfl)) tz_27.h rfl tb_27.h d_o (by first | (simp [maxLen]; done) | (simp [maxLen]; omega))) ?_
     refine o_0 (.assign rfl) ?_
     refine aj_ ?_
     refine ⟨(k, L0 ++ [d]), ⟨hI, by simp only; omega⟩, ?_⟩
     simp only [sR_mk, hla]
     refine ax_ [(1, 3)] rfl rfl rfl au_r (fun hs => au_f) (fun hs => ?_)
     ·repeat' (first | exact as_ | refine an_ rfl rfl rfl rfl ?_ ?_)
      all_goals (first | (exact az_ hs (qk_ L0 d).symm (cI_ _)) | exact au_e)
    ·simp at h1; omega
  ·have hn : ¬ nz (aB_ (vR x)) := fun e => by
    have h1 := p9_ hz
    have h2 : (trimQ (vR x)).length = 1 := by
     have := List.length_pos_iff.2 hz
     unfold dg at h1; omega
    obtain ⟨c, _, hc⟩ := mL_ hz (by unfold dg; omega)
    have h3 : trimQ (aB_ (vR x)) = [] := trim_nil_iff.2 fun i => by
     rw [ca_, ← a6_ (vR x), cn_ (by omega), Rat.zero_mul]
    exact e h3
   have e : out = [primP (vR x)] := by
    cases f with
    | zero => cases hst
    | succ k =>
     rw [d4_, if_pos (Decidable.byContradiction hn)] at hst
     exact (Option.some.inj hst).symm
   refine af_ rfl (fun h1 => ?_) (fun h1 => ?_)
   ·simp at h1; omega
   ·refine ag_ (⟨(f, L0), ⟨.inl ⟨hL1, by rw [e, hL0]⟩, by simp only; omega⟩, ?_⟩)
    simp only [sR_mk]
    refine ax_ [] rfl rfl rfl au_r (fun hs => au_f) (fun hs => ?_)
    ·repeat' (first | exact as_ | refine an_ rfl rfl rfl rfl ?_ ?_)
     all_goals (first | (exact bl_ hs (cI_ _)) | exact au_e)
 rintro ⟨k, L⟩ ⟨hI, hkL⟩
 simp only at hI hkL
 simp only [sR_mk]
 refine ac_ (au_ (fun _ : Unit => sR out) (fun _ => True) ?_ ?_)
 ·refine ah_ (ao_ (fun x : Nat × List (List Rat) => sR x.2) (fun x => x.1) (fun x => RInv f out x.1 x.2 ∧ x.1 + x.2.length ≤ f + 1) (k, L) ⟨hI, hkL⟩ ?_ ?_)
  ·simp only [sR_mk]
   refine ax_ [] rfl rfl rfl au_r (fun hs => au_f) (fun hs => ?_)
   ·repeat' (first | exact as_ | refine an_ rfl rfl rfl rfl ?_ ?_)
    all_goals (first | (exact bl_ hs (cI_ _)) | exact au_e)
  rintro ⟨k, L⟩ ⟨hI, hkL⟩
  simp only at hI hkL
  simp only [sR_mk]
  rcases hI with ⟨hL1, rfl⟩ | ⟨hL2, u, v, hu, hv, hch⟩
  ·refine ac_ (q_z 3 ?_)
   refine cF (al_ ⟨(), trivial, ?_⟩)
   simp only [sR_mk]
   refine ax_ [] rfl rfl rfl au_r (fun hs => au_f) (fun hs => ?_)
   ·repeat' (first | exact as_ | refine an_ rfl rfl rfl rfl ?_ ?_)
    all_goals (first | (exact bl_ hs (cI_ _)) | exact au_e)
  ·refine ac_ (q_z 3 ?_)
   refine cT (ag_ ?_)
   have hmem := qh_ hch
   obtain ⟨nu, lu, bu⟩ := hall u (hmem u (List.mem_of_getElem? hu))
   obtain ⟨nv, lv, bv⟩ := hall v (hmem v (List.mem_of_getElem? hv))
   have hg1 : (cR L)[0 + (((L.length : Nat) : Int) - 2).toNat]? = some [.arr (rE (rP u))] := by
    rw [show 0 + (((L.length : Nat) : Int) - 2).toNat = L.length - 2 by omega]
    exact qm_ hu
   have hg2 : (cR L)[0 + (((L.length : Nat) : Int) - 1).toNat]? = some [.arr (rE (rP v))] := by
    rw [show 0 + (((L.length : Nat) : Int) - 1).toNat = L.length - 1 by omega]
    exact qm_ hv
   have hexp : 2 ^ (rP u).length ≤ 2 ^ 7 := Nat.pow_le_pow_right (by decide) (by rw [a0_]; exact lu)
   have hdm := Nat.mul_le_mul (show T + 2 * T + 3 ≤ W by omega) hexp
   obtain ⟨a, r, ro, r1, r2, r3, r4, hdv⟩ := ge_ (rP u) (rP v) T T (ct_ _) (ct_ _) (by rw [vR_rP]; exact bu) (by rw [vR_rP]; exact bv) hT1 hT1 (by rw [vR_rP]; exact nv) (by omega) (by rw [a0_]; omega) (by rw [a0_]; omega)
   rw [vR_rP, vR_rP] at r2
   rw [a0_] at r4
   have hbr : bdL (vR r) (128 * W) := by
    refine df_ fun i => ?_
    rw [← a6_, r2]
    have := (hY_ (L := 128 * W) bu bv hT1 hT1 nv (Nat.mul_le_mul (show _ ≤ 2 ^ 7 from Nat.pow_le_pow_right (by decide) (by
     have h1 := aU_ u
     have h2 := List.length_pos_iff.2 nv
     omega)) (by omega))).2
    exact cq_ this (by omega) i
   have hnx : aI_ (vR r) (-1) = aI_ (divP u v).2 (-1) := f5_ fun i => by rw [← a6_, r2]
   have hdr : degP (vR r) < 0 ↔ trimQ (aI_ (divP u v).2 (-1)) = [] := by
    rw [degP_neg, ← List.length_eq_zero_iff, ← List.length_eq_zero_iff, ← hnx, es_ (by decide +kernel)]
   refine ah_ (ac_ (r_d hmix 18 ?_))
   refine a_4 ?_
   first | refine aG_ (.index_l rfl rfl (by omega) (by omega) te_171.h) rfl rfl ?_ | refine aG_ (.index_a rfl rfl (by omega) hg1 rfl te_171.h) rfl rfl ?_
   first | refine aG_ (.load_l1 rfl rfl hg1 tg_27.h rfl) rfl rfl ?_ | refine aG_ (.load_a1 rfl hg1 tg_27.h rfl) rfl rfl ?_
   refine a_4 ?_
   first | refine aG_ (.index_l rfl rfl (by omega) (by omega) te_171.h) rfl rfl ?_ | refine aG_ (.index_a rfl rfl (by omega) hg2 rfl te_171.h) rfl rfl ?_
   first | refine aG_ (.load_l1 rfl rfl hg2 tg_27.h rfl) rfl rfl ?_ | refine aG_ (.load_a1 rfl hg2 tg_27.h rfl) rfl rfl ?_
   refine c_s (hdv) ?_
   refine a_5 ?_
   refine aj_ (n_k ?_)
   refine ac_ (r_c 3 (do_ r (by omega)) ?_)
   refine a_z ?_
   cases k with
   | zero => cases hch
   | succ k =>
    rw [d4_] at hch
    refine af_ rfl (fun h1 => ?_) (fun h1 => ?_)
    ·rw [if_pos (hdr.1 (by simpa using h1))] at hch
     cases hch
     refine al_ ⟨(), trivial, ?_⟩
     simp only [sR_mk]
     refine ax_ [] rfl rfl rfl au_r (fun hs => au_f) (fun hs => ?_)
     ·repeat' (first | exact as_ | refine an_ rfl rfl rfl rfl ?_ ?_)
      all_goals (first | (exact bl_ hs (cI_ _)) | exact au_e)
    ·have hn : nz (aI_ (divP u v).2 (-1)) := fun e => by have := hdr.2 e; simp at h1; omega
     rw [if_neg hn] at hch
     split at hch
     case isFalse => cases hch
     case isTrue hok =>
     have hsc := dW_ r (rq (-1)) (128 * W) ro (bA_ _) hbr (by show _ + qs (-1) ≤ _; omega) (by omega)
     have hsc' : FSpec Tryz.prog 48 [.arr (rE r), .agg (rC (rq (-1)))] (.arr (rE (rP (aI_ (divP u v).2 (-1))))) := by rw [← hnx]; exact hsc
     have hsl : (aI_ (divP u v).2 (-1)).length ≤ 7 := by
      rw [← hnx]
      have := b7_ (vR r) (-1)
      rw [aZ_] at this; omega
     have hsb : bdL (aI_ (divP u v).2 (-1)) (128 * W) := df_ fun i => by
      rw [← hnx, bs_, show coP (vR r) i * -1 = -coP (vR r) i by grind, ff_]
      exact cq_ hbr (by omega) i
     have w3 : ((rP (aI_ (divP u v).2 (-1))).length + 4) * (128 * W) ≤ 137438953472 := Nat.le_trans (Nat.mul_le_mul_right _ (show _ ≤ 11 by rw [a0_]; omega)) (by omega)
     have hpn := ed_ (rP (aI_ (divP u v).2 (-1))) (128 * W) (ct_ _) (by rw [vR_rP]; exact hsb) (by omega) (by rw [vR_rP]; exact hn) w3 (by rw [a0_]; omega)
     rw [vR_rP] at hpn
     have hone := cR_one L
     refine ag_ (r_m 8 ?_)
     refine c_s (hi1) ?_
     refine c_s (hsc') ?_
     refine c_s (hpn) ?_
     refine o_1 (.buildSlice te_171.h tz_27.h rfl (by decide) rfl rfl rfl (by first | (simp; done) | (simp [a7_, ofV]; done) | rfl)) ?_
     refine o_2 (.append_l rfl rfl rfl te_171.h rfl rfl rfl rfl rfl d_o (by first | exact cS_ _ | exact cR_ _ | exact cQ_ _ | exact cT_ _ | exact cL_ _ | assumption | rfl | simp) (by first | rfl | exact cS_ _ | exact cR_ _ | exact cQ_ _ | exact cT_ _ | exact cL_ _ | simp) rfl (.lsl rfl (nle rfl)) tz_27.h rfl tb_27.h d_o (by first | (simp [maxLen]; done) | (simp [maxLen]; omega))) ?_
     refine o_0 (.assign rfl) ?_
     refine aj_ ?_
     have hla : (L ++ [primP (aI_ (divP u v).2 (-1))]).length = L.length + 1 := by simp
     refine ⟨(k, L ++ [primP (aI_ (divP u v).2 (-1))]), Nat.lt_succ_self k, ⟨.inr ⟨by simp only; omega, v, primP (aI_ (divP u v).2 (-1)), ?_, ?_, hch⟩, by simp only; omega⟩, ?_⟩
     ·rw [hla, show L.length + 1 - 2 = L.length - 1 by omega, List.getElem?_append_left (by omega)]; exact hv
     ·rw [hla]; simp
     simp only [sR_mk, hla]
     refine ax_ [(1, 3)] rfl rfl rfl au_r (fun hs => au_f) (fun hs => ?_)
     ·repeat' (first | exact as_ | refine an_ rfl rfl rfl rfl ?_ ?_)
      all_goals (first | (exact az_ hs (qk_ L _).symm (cI_ _)) | exact au_e)
 rintro _ _
 simp only [sR_mk]
 refine r_z 2 ?_
 exact ae_ (Fin.tmpS rfl rfl rfl (by simp) (cI_ out))
theorem iD_ (p : List Rat) (c : Cnt) (h : CN p c) (x : RQ) (hx : rok x) (hq : qs x.1 ≤ 1000000) : FSpec Tryz.prog 57 [.arr (rE (rP p)), .agg (rC x)] (i64 (uptoV c x.1)) := by
 obtain ⟨f1, f2, f3, f4, f5, f6⟩ := dO_ h.hc h.np
 have hpl := h.pl
 have hsl := h.sl
 have hcl := h.cl
 have hsq := fh_ 9 20000 (rP p) c.p (ct_ _) (by rw [vR_rP]; exact f2) (by rw [vR_rP]; exact h.sz) (by decide) (by decide) (by rw [vR_rP]; exact h.gb) (by rw [a0_]; omega)
 have hbo := py_ (rP c.p) 140168 (ct_ _) (by rw [vR_rP]; exact h.sb) (by decide) (by rw [vR_rP]; exact h.sn) (by decide) (by rw [a0_]; omega)
 rw [vR_rP] at hbo
 have hbq := bound_qs h.sb (by decide)
 obtain ⟨b, hb⟩ : ∃ b, b = bW_ c.p := ⟨_, rfl⟩
 rw [← hb] at hbo hbq f4 f5
 have hng : FSpec Tryz.prog 112 [.agg (rC (rq b))] (.agg (rC (rq (-b)))) := fs_rNeg (rq b) (bA_ _)
 have hnq := ff_ b
 have hcm := px_ x (rq (-b)) hx (bA_ _) (by show qs x.1 + qs (-b) ≤ _; omega)
 have hst := pw_ 9 20000000 140168 140232 60000003 (rP c.p) c.ch (ct_ _) (by rw [vR_rP]; exact h.sb) (by decide) (by rw [vR_rP]; exact h.sn) (by rw [vR_rP]; exact f3) h.all (by decide) (by decide) (by decide) (by decide) (by decide) (by decide) (by rw [a0_]; exact hsl)
 have hc1 := hG_ c.ch (rq (-b)) (bA_ _) 20000000 1000000 (by decide) (by show qs (-b) ≤ _; omega) (fun q hq => ⟨(h.all q hq).2.2, (h.all q hq).2.1⟩) (by decide) (by omega)
 have hc2 := hG_ c.ch x hx 20000000 1000000 (by decide) hq (fun q hq => ⟨(h.all q hq).2.2, (h.all q hq).2.1⟩) (by decide) (by omega)
 have hb1 := h6_ (c.ch.map (sgE (-b))) 0 0
 have hb2 := h6_ (c.ch.map (sgE x.1)) 0 0
 rw [List.length_map] at hb1 hb2
 have hu : uptoV c x.1 = chV c.ch (-b) - chV c.ch x.1 := by unfold uptoV; rw [f4]; rfl
 have hc1' : FSpec Tryz.prog 137 [.arr (cR c.ch), .agg (rC (rq (-b)))] (i64 (chV c.ch (-b))) := hc1
 have hv1 : 0 ≤ chV c.ch (-b) ∧ chV c.ch (-b) ≤ 8 := ⟨hb1.1, by have := hb1.2; unfold chV; omega⟩
 have hv2 : 0 ≤ chV c.ch x.1 ∧ chV c.ch x.1 ≤ 8 := ⟨hb2.1, by have := hb2.2; unfold chV; omega⟩
 refine f_n Tryz.func57 ?_ ?_
 ·exact aa_ (ay_ _) (aa_ (aV_ x) ab_)
 refine r_z 2 ?_
 refine r_c 3 (hsq) ?_
 refine a_z ?_
 refine r_c 5 (hbo) ?_
 refine c_s (hng) ?_
 refine a_z ?_
 by_cases hle : cmpQ x.1 (-b) ≤ 0
 ·have h0 : uptoV c x.1 = 0 := f5 _ (by
   unfold cmpQ at hle
   split at hle
   ·grind
   ·split at hle
    ·grind
    ·omega)
  refine ac_ (r_c 4 (hcm) ?_)
  refine o_0 (.bin rfl rfl (vT dl_ (decide_eq_true hle))) ?_
  refine aj_ ?_
  refine cT (s_r 1 ?_)
  refine o_0 (.assign rfl) ?_
  refine aj_ ?_
  refine ae_ ?_
  rw [h0]
  exact t_e (ad_ _)
 ·refine ac_ (r_c 4 (hcm) ?_)
  refine o_0 (.bin rfl rfl (vF dl_ (decide_eq_false hle))) ?_
  refine aj_ ?_
  refine cF (ag_ (r_c 3 (hst) ?_))
  refine a_z ?_
  refine ac_ (r_d hmix 8 ?_)
  refine c_s (hc1') ?_
  refine c_s (hc2) ?_
  refine a_2 ?_
  refine aj_ (n_k ?_)
  refine ae_ ?_
  rw [hu]
  exact t_e (ad_ _)
theorem pz_ (p : List Rat) (c : Cnt) (h : CN p c) (x : RQ) (hx : rok x) (hq : qs x.1 ≤ 1000000) : FSpec Tryz.prog 58 [.arr (rE (rP p)), .agg (rC x)] (i64 (bo_ c x.1)) := by
 have hnu := iD_ p c h x hx hq
 have hpl := h.pl
 have hmul := Nat.mul_le_mul (show p.length + 2 ≤ 9 by omega) (show 20 + 1000000 + 1 ≤ 1000021 by decide)
 have hev := mY_ (rP p) x 20 1000000 (ct_ _) hx (by rw [vR_rP]; exact h.pb) (by decide) hq (by rw [a0_]; omega) (by rw [a0_]; omega)
 rw [vR_rP] at hev
 have hsi : FSpec Tryz.prog 138 [.agg (rC (rq (evalP p x.1)))] (i64 (sgZ (evalP p x.1).num)) := gU_ (rq (evalP p x.1))
 have hbd := dE_ (x := x.1) h.ok
 have hroot := h.root x.1
 refine f_n Tryz.func58 ?_ ?_
 ·exact aa_ (ay_ _) (aa_ (aV_ x) ab_)
 refine s_r 2 ?_
 refine o_1 (.box rfl rfl) ?_
 refine o_0 (.assign rfl) ?_
 refine aj_ ?_
 refine s_r 4 ?_
 refine o_0 (.move rfl) ?_
 first | refine aG_ (.load_l rfl rfl rfl tg_75.h ts_75.h (nle rfl)) rfl rfl ?_ | refine aG_ (.load_a rfl rfl tg_75.h ts_75.h (nle rfl)) rfl rfl ?_
 refine o_0 (.call rfl rfl rfl (hnu)) ?_
 refine o_0 (.assign rfl) ?_
 refine aj_ ?_
 by_cases h0 : evalP p x.1 = 0
 ·have hz : sgZ (evalP p x.1).num = 0 := sgZ_num_eq.2 h0
  have hv : bo_ c x.1 = uptoV c x.1 - 1 := by unfold bo_; rw [if_pos (hroot.2 h0)]
  refine ac_ (s_r 5 ?_)
  refine o_0 (.move rfl) ?_
  first | refine aG_ (.load_l rfl rfl rfl tg_75.h ts_75.h (nle rfl)) rfl rfl ?_ | refine aG_ (.load_a rfl rfl tg_75.h ts_75.h (nle rfl)) rfl rfl ?_
  refine o_0 (.call rfl rfl rfl (hev)) ?_
  refine o_0 (.call rfl rfl rfl (hsi)) ?_
  refine o_0 (.bin rfl rfl (vT a2_ (decide_eq_true hz))) ?_
  refine aj_ ?_
  refine cT (r_m 3 ?_)
  refine o_0 (.move rfl) ?_
  refine o_0 (.bin rfl rfl (e8_ (by omega))) ?_
  refine o_0 (.assign rfl) ?_
  refine aj_ ?_
  refine s_r 2 ?_
  refine o_0 (.move rfl) ?_
  refine o_0 (.assign rfl) ?_
  refine aj_ ?_
  refine ae_ ?_
  rw [hv]
  exact t_e (ad_ _)
 ·have hz : ¬ sgZ (evalP p x.1).num = 0 := fun e => h0 (sgZ_num_eq.1 e)
  have hv : bo_ c x.1 = uptoV c x.1 := by unfold bo_; rw [if_neg (fun e => h0 (hroot.1 e))]
  refine ac_ (s_r 5 ?_)
  refine o_0 (.move rfl) ?_
  first | refine aG_ (.load_l rfl rfl rfl tg_75.h ts_75.h (nle rfl)) rfl rfl ?_ | refine aG_ (.load_a rfl rfl tg_75.h ts_75.h (nle rfl)) rfl rfl ?_
  refine o_0 (.call rfl rfl rfl (hev)) ?_
  refine o_0 (.call rfl rfl rfl (hsi)) ?_
  refine o_0 (.bin rfl rfl (vF a2_ (decide_eq_false hz))) ?_
  refine aj_ ?_
  refine cF (ag_ (s_r 2 ?_))
  refine o_0 (.move rfl) ?_
  refine o_0 (.assign rfl) ?_
  refine aj_ ?_
  refine ae_ ?_
  rw [hv]
  exact t_e (ad_ _)
theorem fs_Count (f : Nat) (p : List Rat) (c : Cnt) (s : Sp) (hc : cY_ f p = some c) (hf : f ≤ 1000000) (h1 : okBe c s.1) (h2 : okUp c s.2) (hs : smS s) (hv : cmpQ s.1 s.2 ≤ 0) (hl : ce_ p = 0) (hp : p.length ≤ 1099511627776) :
    FSpec Tryz.prog 68 [.arr (pE p), .agg (spC s.1 s.2)] (.tup [i64 (uptoV c s.2 - bo_ c s.1), i64 0]) := by
 have hb1 := dE_ (x := s.2) h2.1
 have hb2 := f0_ (x := s.1) h1.1.1
 have hla := fP_ p hp
 rw [hl] at hla
 refine f_n Tryz.func68 ?_ ?_
 ·exact aa_ (am_ p) (aa_ (aA_ _ _) ab_)
 refine r_z 3 ?_
 refine ac_ (r_c 3 (cy_ s.1 s.2 hs.1 hs.2) ?_)
 refine a_z ?_
 refine af_ rfl (fun h3 => ?_) (fun h3 => ?_)
 ·exact absurd h3 (by simp [hv])
 refine ag_ (ac_ (r_c 3 (hla) ?_))
 refine a_z ?_
 refine r_z 2 ?_
 refine af_ rfl (fun h4 => ?_) (fun h4 => ?_)
 ·exact absurd h4 (by decide)
 refine ag_ (r_c 3 (dX_ f p c hc hf) ?_)
 refine a_z ?_
 refine ac_ (r_d hmix 11 ?_)
 refine c_s (ec_ c s.2 h2) ?_
 refine c_s (dK_ c s.1 h1) ?_
 refine a_3 ?_
 refine aj_ (n_k ?_)
 refine ae_ (Fin.many ⟨_, _, rfl, rfl, ⟨_, _, rfl, rfl, rfl⟩⟩ (nle rfl) ?_)
 exact ai_ (ar_ at_ (ad_ _)) (ai_ (ar_ at_ (ad_ _)) ap_)
theorem pT_ (p : List Rat) (s : Sp) (hs : smS s) (hv : ¬ cmpQ s.1 s.2 ≤ 0) : FSpec Tryz.prog 68 [.arr (pE p), .agg (spC s.1 s.2)] (.tup [i64 0, i64 2]) := by
 refine f_n Tryz.func68 ?_ ?_
 ·exact aa_ (am_ p) (aa_ (aA_ _ _) ab_)
 refine r_z 3 ?_
 refine ac_ (r_c 3 (cy_ s.1 s.2 hs.1 hs.2) ?_)
 refine a_z ?_
 refine af_ rfl (fun h3 => ?_) (fun h3 => ?_)
 ·refine r_z 2 ?_
  refine ae_ (Fin.many ⟨_, _, rfl, rfl, ⟨_, _, rfl, rfl, rfl⟩⟩ (nle rfl) ?_)
  exact ai_ (ar_ at_ (ad_ _)) (ai_ (ar_ at_ (ad_ _)) ap_)
 ·exact absurd h3 (by simp; omega)
theorem pU_ (p : List Rat) (s : Sp) (e : Int) (hs : smS s) (hv : cmpQ s.1 s.2 ≤ 0) (hl : ce_ p = e) (he : e ≠ 0) (hp : p.length ≤ 1099511627776) : FSpec Tryz.prog 68 [.arr (pE p), .agg (spC s.1 s.2)] (.tup [i64 0, i64 e]) := by
 have hla := fP_ p hp
 rw [hl] at hla
 refine f_n Tryz.func68 ?_ ?_
 ·exact aa_ (am_ p) (aa_ (aA_ _ _) ab_)
 refine r_z 3 ?_
 refine ac_ (r_c 3 (cy_ s.1 s.2 hs.1 hs.2) ?_)
 refine a_z ?_
 refine af_ rfl (fun h3 => ?_) (fun h3 => ?_)
 ·exact absurd h3 (by simp [hv])
 refine ag_ (ac_ (r_c 3 (hla) ?_))
 refine a_z ?_
 refine r_z 2 ?_
 refine af_ rfl (fun h4 => ?_) (fun h4 => ?_)
 ·refine r_z 3 ?_
  refine ae_ (Fin.many ⟨_, _, rfl, rfl, ⟨_, _, rfl, rfl, rfl⟩⟩ (nle rfl) ?_)
  exact ai_ (ar_ at_ (ad_ _)) (ai_ (ar_ at_ (ad_ _)) ap_)
 ·exact absurd h4 (by simp [he])
def roE (p : List Rat) (a : Int) (n : Nat) : List (List AV) := (List.range n).map fun (j : Nat) => [.arr (pE p), i64 (a + (j : Int))]
@[simp] theorem f6_ (p : List Rat) (a : Int) (n : Nat) : (roE p a n).length = n := by simp [roE]
theorem roE_get {p : List Rat} {a : Int} {n j : Nat} (h : j < n) : (roE p a n)[((j : Nat) : Int).toNat]? = some [.arr (pE p), i64 (a + (j : Int))] := by
 show (roE p a n)[j]? = _
 unfold roE
 rw [List.getElem?_map, List.getElem?_range h]; rfl
theorem roE_one (p : List Rat) (a : Int) (n : Nat) : (roE p a n).all (·.all AV.one) = true := by
 simp only [roE, List.all_map, List.all_eq_true]; intro q _; rfl
theorem cG_ (p : List Rat) (a : Int) (n : Nat) : ∀ e ∈ roE p a n, ∀ c ∈ e, Closed c := fun e he c hc => by
 obtain ⟨j, _, rfl⟩ := List.mem_map.1 he
 exact aa_ (am_ p) (aa_ (ad_ _) ab_) c hc
theorem roE_succ (p : List Rat) (a : Int) (n : Nat) : roE p a (n + 1) = roE p a n ++ [[.arr (pE p), i64 (a + (n : Int))]] := by
 unfold roE; rw [List.range_succ, List.map_append]; rfl
def rtS (t n : Nat) (fr : Fr) (p : List Rat) (a : Int) : Nat → AState
 | 0 => ⟨(t, .emp) :: fr, [], 1, n⟩
 | m + 1 => ⟨(t, .lsl 1 0 (m + 1) none 2) :: fr, [(1, some ⟨59, 2, roE p a (m + 1)⟩)], 2, n⟩
theorem hi_ (t n : Nat) (fr : Fr) (p : List Rat) (a : Int) : rtS t n fr p a 0 = ⟨(t, .emp) :: fr, [], 1, n⟩ := rfl
theorem eQ_ (t n : Nat) (fr : Fr) (p : List Rat) (a : Int) (m : Nat) : rtS t n fr p a (m + 1) = ⟨(t, .lsl 1 0 (m + 1) none 2) :: fr, [(1, some ⟨59, 2, roE p a (m + 1)⟩)], 2, n⟩ := rfl
theorem fs_Roots (f : Nat) (p : List Rat) (c : Cnt) (s : Sp) (m : Nat) (hc : cY_ f p = some c) (hf : f ≤ 1000000) (h1 : okBe c s.1) (h2 : okUp c s.2) (hs : smS s) (hv : cmpQ s.1 s.2 ≤ 0) (hl : ce_ p = 0) (hp : p.length ≤ 1099511627776) (hcl : c.p.length ≤ 1000) (hm : uptoV c s.2 = bo_ c s.1 + m) :
    FSpec Tryz.prog 69 [.arr (pE p), .agg (spC s.1 s.2)] (.tup [.arr (roE c.p (bo_ c s.1) m), i64 0]) := by
 have hb1 := dE_ (x := s.2) h2.1
 have hb2 := f0_ (x := s.1) h1.1.1
 have hla := fP_ p hp
 rw [hl] at hla
 obtain ⟨a, ha⟩ : ∃ a, a = bo_ c s.1 := ⟨_, rfl⟩
 have hbe := dK_ c s.1 h1
 have hup := ec_ c s.2 h2
 rw [hm] at hup
 rw [← ha] at hbe hup hm hb2 ⊢
 have hck := b4_ c
 refine f_n Tryz.func69 ?_ ?_
 ·exact aa_ (am_ p) (aa_ (aA_ _ _) ab_)
 refine r_z 3 ?_
 refine ac_ (r_c 3 (cy_ s.1 s.2 hs.1 hs.2) ?_)
 refine a_z ?_
 refine af_ rfl (fun h3 => ?_) (fun h3 => ?_)
 ·exact absurd h3 (by simp [hv])
 refine ag_ (ac_ (r_c 3 (hla) ?_))
 refine a_z ?_
 refine r_z 2 ?_
 refine af_ rfl (fun h4 => ?_) (fun h4 => ?_)
 ·exact absurd h4 (by decide)
 refine ag_ (r_c 3 (dX_ f p c hc hf) ?_)
 refine a_z ?_
 refine r_z 1 ?_
 refine ac_ (r_c 5 (hbe) ?_)
 refine a_z ?_
 refine au_ (fun _ : Unit => rtS 8 43 [] c.p a m) (fun _ => True) ?_ ?_
 ·refine ah_ (ao_ (fun j : Nat => rtS 8 43 [(3, bS s), (7, kA c), (9, i64 (a + (j : Int)))] c.p a j) (fun j => m - j) (fun j => j ≤ m) 0 (Nat.zero_le _) ?_ ?_)
  ·simp only [hi_]
   rw [show a + ((0 : Nat) : Int) = a by omega]
   exact s_e []
  rintro j hj
  by_cases hlt : j < m
  ·have hcl' := m9_ c.p (by omega)
   cases j with
   | zero =>
    simp only [hi_]
    refine ac_ (r_c 6 (hup) ?_)
    refine d_z ?_
    refine cT (ag_ (ac_ (ah_ (r_m 11 ?_))))
    refine c_s (hcl') ?_
    refine a_z ?_
    refine r_m 3 ?_
    refine a_z ?_
    refine ⟨1, by omega, hlt, ?_⟩
    simp only [eQ_]
    rw [show a + (((0 + 1 : Nat)) : Int) = a + ((0 : Nat) : Int) + 1 by omega]
    have := cG_ c.p a 1
    exact s_f [(1, 8)]
   | succ j =>
    have hone := roE_one c.p a (j + 1)
    simp only [eQ_]
    refine ac_ (r_c 6 (hup) ?_)
    refine d_z ?_
    refine cT (ag_ (ac_ (ah_ (r_m 11 ?_))))
    refine c_s (hcl') ?_
    refine o_0 (.move rfl) ?_
    refine o_0 (.build tz_59.h tp_59.h rfl rfl) ?_
    refine o_1 (.buildSlice te_112.h tz_59.h rfl (by decide) rfl rfl rfl (by first | (simp; done) | (simp [a7_, ofV]; done) | rfl)) ?_
    refine o_2 (.append_l rfl rfl rfl te_112.h rfl rfl rfl rfl rfl d_o (by first | exact cS_ _ | exact cR_ _ | exact cQ_ _ | exact cT_ _ | exact cL_ _ | assumption | rfl | simp) (by first | rfl | exact cS_ _ | exact cR_ _ | exact cQ_ _ | exact cT_ _ | exact cL_ _ | simp) rfl (.lsl rfl (nle rfl)) tz_59.h rfl tb_59.h d_o (by first | (simp [maxLen]; done) | (simp [maxLen]; omega))) ?_
    refine o_0 (.assign rfl) ?_
    refine aj_ ?_
    refine r_m 3 ?_
    refine a_z ?_
    refine ⟨j + 1 + 1, by omega, hlt, ?_⟩
    simp only [eQ_]
    rw [show a + ((j + 1 + 1 : Nat) : Int) = a + ((j + 1 : Nat) : Int) + 1 by omega]
    refine ax_ [(1, 8)] rfl rfl rfl au_r (fun hs => au_f) (fun hs => ?_)
    ·repeat' (first | exact as_ | refine an_ rfl rfl rfl rfl ?_ ?_)
     all_goals (first | (exact az_ hs (roE_succ c.p a (j + 1)).symm (cG_ _ _ _)) | exact au_e)
  ·have hge : j = m := by omega
   subst hge
   cases j with
   | zero =>
    simp only [hi_]
    refine ac_ (r_c 6 (hup) ?_)
    refine d_z ?_
    refine cF (al_ ⟨(), trivial, ?_⟩)
    simp only [hi_]
    exact s_e []
   | succ j =>
    simp only [eQ_]
    refine ac_ (r_c 6 (hup) ?_)
    refine d_z ?_
    refine cF (al_ ⟨(), trivial, ?_⟩)
    simp only [eQ_]
    refine ax_ [(1, 8)] rfl rfl rfl au_r (fun hs => au_f) (fun hs => ?_)
    ·repeat' (first | exact as_ | refine an_ rfl rfl rfl rfl ?_ ?_)
     all_goals (first | (exact bl_ hs (cG_ _ _ _)) | exact au_e)
 rintro _ _
 cases m with
 | zero =>
  simp only [hi_]
  refine r_z 3 ?_
  refine ae_ (Fin.many ⟨_, _, rfl, rfl, ⟨_, _, rfl, rfl, rfl⟩⟩ (nle rfl) ?_)
  exact ai_ (Cv.emp _) (ai_ (ar_ at_ (ad_ _)) ap_)
 | succ m =>
  simp only [eQ_]
  refine r_z 3 ?_
  refine ae_ (Fin.many ⟨_, _, rfl, rfl, ⟨_, _, rfl, rfl, rfl⟩⟩ (nle rfl) ?_)
  exact ai_ (Cv.sealE at_ rfl (fun _ _ h => by cases h) rfl (by simp) (cG_ _ _ _)) (ai_ (ar_ at_ (ad_ _)) ap_)
theorem pM_ (p : List Rat) (s : Sp) (hs : smS s) (hv : ¬ cmpQ s.1 s.2 ≤ 0) : FSpec Tryz.prog 69 [.arr (pE p), .agg (spC s.1 s.2)] (.tup [.arr (roE [] 0 0), i64 2]) := by
 refine f_n Tryz.func69 ?_ ?_
 ·exact aa_ (am_ p) (aa_ (aA_ _ _) ab_)
 refine r_z 3 ?_
 refine ac_ (r_c 3 (cy_ s.1 s.2 hs.1 hs.2) ?_)
 refine a_z ?_
 refine af_ rfl (fun h3 => ?_) (fun h3 => ?_)
 ·refine r_z 2 ?_
  refine ae_ (Fin.many ⟨_, _, rfl, rfl, ⟨_, _, rfl, rfl, rfl⟩⟩ (nle rfl) ?_)
  exact ai_ (Cv.emp _) (ai_ (ar_ at_ (ad_ _)) ap_)
 ·exact absurd h3 (by simp; omega)
theorem pN_ (p : List Rat) (s : Sp) (e : Int) (hs : smS s) (hv : cmpQ s.1 s.2 ≤ 0) (hl : ce_ p = e) (he : e ≠ 0) (hp : p.length ≤ 1099511627776) : FSpec Tryz.prog 69 [.arr (pE p), .agg (spC s.1 s.2)] (.tup [.arr (roE [] 0 0), i64 e]) := by
 have hla := fP_ p hp
 rw [hl] at hla
 refine f_n Tryz.func69 ?_ ?_
 ·exact aa_ (am_ p) (aa_ (aA_ _ _) ab_)
 refine r_z 3 ?_
 refine ac_ (r_c 3 (cy_ s.1 s.2 hs.1 hs.2) ?_)
 refine a_z ?_
 refine af_ rfl (fun h3 => ?_) (fun h3 => ?_)
 ·exact absurd h3 (by simp [hv])
 refine ag_ (ac_ (r_c 3 (hla) ?_))
 refine a_z ?_
 refine r_z 2 ?_
 refine af_ rfl (fun h4 => ?_) (fun h4 => ?_)
 ·refine r_z 3 ?_
  refine ae_ (Fin.many ⟨_, _, rfl, rfl, ⟨_, _, rfl, rfl, rfl⟩⟩ (nle rfl) ?_)
  exact ai_ (Cv.emp _) (ai_ (ar_ at_ (ad_ _)) ap_)
 ·exact absurd h4 (by simp [he])
theorem k1_ (N D N' D' : Int) (k k' : Nat) (hN : i64r N) (hD : i64r D) (hk : k ≤ 255) (hN' : i64r N') (hD' : i64r D') (hk' : k' ≤ 255) :
    FSpec Tryz.prog 52 [.agg (nuC N D k ++ nuC N' D' k')] (.tup [.agg (spC (numV N D k) (numV N' D' k')), .agg (rC (rq (numV N D k)) ++ rC (rq (numV N' D' k')))]) := by
 have b1 := jR_ N D k hN hD hk
 have b2 := jR_ N' D' k' hN' hD' hk'
 obtain ⟨v, hv⟩ : ∃ v, v = numV N D k := ⟨_, rfl⟩
 obtain ⟨w, hw⟩ : ∃ w, w = numV N' D' k' := ⟨_, rfl⟩
 rw [← hv] at b1 ⊢
 rw [← hw] at b2 ⊢
 refine f_n Tryz.func52 ?_ ?_
 ·exact aa_ (aq_ fun c hc => (List.mem_append.1 hc).elim (cH_ _ _ _ c) (cH_ _ _ _ c)) ab_
 refine r_z 3 ?_
 refine r_c 10 (b1) ?_
 refine a_z ?_
 refine r_c 10 (b2) ?_
 refine a_z ?_
 refine ac_ (r_d hmix 8 ?_)
 refine a_8 ?_
 refine aj_ (n_k ?_)
 refine ae_ (Fin.many ⟨_, _, rfl, ⟨_, _, _, _, _, rfl, rfl, rfl, .inl ⟨tg_65.h, _, ts_65.h, nle rfl, rfl⟩⟩, ⟨_, _, rfl, ⟨_, _, _, _, _, rfl, rfl, rfl, .inl ⟨tg_77.h, _, ts_77.h, nle rfl, rfl⟩⟩, rfl⟩⟩ (nle rfl) ?_)
 exact ai_ (ar_ at_ (aA_ _ _)) (ai_ (ar_ at_ (aq_ fun c hc => (List.mem_append.1 hc).elim (cO_ _ c) (cO_ _ c))) ap_)
def goodN (r : NRow) : Bool := decide (¬ ((r.2.2 : Int) % 4 ≠ 0) ∧ ¬ r.1 > 999999 ∧ ¬ r.1 < -999999 ∧ ¬ r.2.1 > 999999 ∧ ¬ r.2.1 < -999999)
def tameB (l : List NRow) (k : Nat) : Bool := l.all goodN && decide (l.length ≤ k)
theorem fs_Tame (l : List NRow) (k : Nat) (hl : l.length ≤ 1099511627776) (hk : k ≤ 1000000) : FSpec Tryz.prog 40 [.arr (nR l), i64 k] (bln (tameB l k)) := by
 have hnl : (nR l).length = l.length := by simp [nR]
 refine f_n Tryz.func40 ?_ ?_
 ·exact aa_ (aw_ (bF_ l)) (aa_ (ad_ _) ab_)
 refine r_z 1 ?_
 refine ac_ (r_z 1 ?_)
 refine au_ (fun _ : Unit => ⟨[(0, .arr (nR l)), (1, i64 k)], [], 1, 45⟩) (fun _ => l.all goodN = true) ?_ ?_
 ·refine ah_ (ao_ (fun j : Nat => ⟨[(5, i64 ((j : Nat) : Int)), (0, .arr (nR l)), (1, i64 k)], [], 1, 45⟩) (fun j => l.length - j) (fun j => j ≤ l.length ∧ (l.take j).all goodN = true) 0 ⟨Nat.zero_le _, rfl⟩ ?_ ?_)
  ·have := (aw_ (bF_ l))
   exact s_f []
  rintro j ⟨hj, hg⟩
  by_cases hlt : j < l.length
  ·obtain ⟨r, hr⟩ : ∃ r, l[j]? = some r := ⟨_, List.getElem?_eq_getElem hlt⟩
   have hgt : (nR l)[((j : Nat) : Int).toNat]? = some (nuC r.1 r.2.1 r.2.2) := by
    rw [Int.toNat_natCast, nR, List.getElem?_map, hr]; rfl
   have hbad : goodN r = false → tameB l k = false := fun h => by
    unfold tameB
    rw [Bool.and_eq_false_iff]
    exact .inl (List.all_eq_false.2 ⟨r, List.mem_of_getElem? hr, by rw [h]; decide⟩)
   refine ac_ (q_z 4 ?_)
   refine cT (ag_ (ac_ (ah_ (s_r 6 ?_))))
   refine a_2 ?_
   refine i_x hgt ?_
   refine l_x hgt ?_
   refine a_z ?_
   by_cases c0 : ((r.2.2 : Int) % 4 ≠ 0)
   ·have hgd : goodN r = false := decide_eq_false (by rintro ⟨e0, e1, e2, e3, e4⟩; exact e0 c0)
    rw [hbad hgd]
    refine s_r 24 ?_
    refine a_3 ?_
    refine o_0 (.bin rfl rfl (vT by_ ((by simpa using c0)))) ?_
    refine a_z ?_
    refine cT (r_z 1 ?_)
    exact ae_ (t_e (ad_ _))
   by_cases c1 : r.1 > 999999
   ·have hgd : goodN r = false := decide_eq_false (by rintro ⟨e0, e1, e2, e3, e4⟩; exact e1 c1)
    rw [hbad hgd]
    refine s_r 24 ?_
    refine a_3 ?_
    refine o_0 (.bin rfl rfl (vF by_ ((by simpa using c0)))) ?_
    refine d_z ?_
    refine cT (r_z 1 ?_)
    exact ae_ (t_e (ad_ _))
   by_cases c2 : r.1 < -999999
   ·have hgd : goodN r = false := decide_eq_false (by rintro ⟨e0, e1, e2, e3, e4⟩; exact e2 c2)
    rw [hbad hgd]
    refine s_r 24 ?_
    refine a_3 ?_
    refine o_0 (.bin rfl rfl (vF by_ ((by simpa using c0)))) ?_
    refine d_z ?_
    refine cT (r_z 1 ?_)
    exact ae_ (t_e (ad_ _))
   by_cases c3 : r.2.1 > 999999
   ·have hgd : goodN r = false := decide_eq_false (by rintro ⟨e0, e1, e2, e3, e4⟩; exact e3 c3)
    rw [hbad hgd]
    refine s_r 24 ?_
    refine a_3 ?_
    refine o_0 (.bin rfl rfl (vF by_ ((by simpa using c0)))) ?_
    refine d_z ?_
    refine cT (r_z 1 ?_)
    exact ae_ (t_e (ad_ _))
   by_cases c4 : r.2.1 < -999999
   ·have hgd : goodN r = false := decide_eq_false (by rintro ⟨e0, e1, e2, e3, e4⟩; exact e4 c4)
    rw [hbad hgd]
    refine s_r 24 ?_
    refine a_3 ?_
    refine o_0 (.bin rfl rfl (vF by_ ((by simpa using c0)))) ?_
    refine d_z ?_
    refine cT (r_z 1 ?_)
    exact ae_ (t_e (ad_ _))
   have hgd : goodN r = true := decide_eq_true ⟨c0, c1, c2, c3, c4⟩
   refine s_r 24 ?_
   refine a_3 ?_
   refine o_0 (.bin rfl rfl (vF by_ ((by simpa using c0)))) ?_
   refine d_z ?_
   refine cF (ag_ (r_m 3 ?_))
   refine a_z ?_
   refine ⟨j + 1, by omega, ⟨hlt, ?_⟩, ?_⟩
   ·rw [bS_ hr, List.all_append, hg]; simp [hgd]
   ·have := (aw_ (bF_ l))
    exact s_f []
  ·have hge : l.take j = l := List.take_of_length_le (by omega)
   rw [hge] at hg
   refine ac_ (q_z 4 ?_)
   refine cF (al_ ⟨(), hg, ?_⟩)
   have := (aw_ (bF_ l))
   exact s_f []
 rintro _ hg
 have e : tameB l k = decide ((((nR l).length : Nat) : Int) ≤ (k : Int)) := by
  unfold tameB
  rw [hg, Bool.true_and, hnl]
  exact decide_eq_decide.2 (by omega)
 rw [e]
 refine r_z 5 ?_
 exact ae_ (t_e (ad_ _))

end Go.Proofs.YtdhedjbmdnnbkaaGreatDoor
namespace Go.Proofs.YtdhedjbmdnnbkaaGreatDoor
open Go.Abs Go.Deep Go.RowKit Go.WideShapes
set_option maxRecDepth 20000
def okN (r : NRow) : Prop := i64r r.1 ∧ i64r r.2.1 ∧ r.2.2 ≤ 255

end Go.Proofs.YtdhedjbmdnnbkaaGreatDoor
namespace Go.Proofs.YtdhedjbmdnnbkaaGreatDoor
open Go.Abs
set_option maxRecDepth 20000
set_option maxHeartbeats 1000000

def wideB (l : List NRow) (k : Nat) : Bool := decide (l.length ≤ 60) && (tameB l k || decide (40 < degP (nL l)))
theorem fs_wide (l : List NRow) (k : Nat) (hk : k ≤ 1000000) (ho : okR l) : FSpec Tryz.prog 32 [.arr (nR l), i64 k] (bln (wideB l k)) := by
 have hnl : (nR l).length = l.length := by simp [nR]
 refine f_n Tryz.func32 ?_ ?_
 ·exact aa_ (aw_ (bF_ l)) (aa_ (ad_ _) ab_)
 refine r_z 1 ?_
 by_cases h1 : l.length > 60
 ·have e : wideB l k = false := by unfold wideB; rw [decide_eq_false (by omega)]; rfl
  rw [e]
  refine ac_ (q_z 3 ?_)
  refine af_ rfl (fun h => ?_) (fun h => ?_)
  ·refine r_z 1 ?_
   exact ae_ (t_e (ad_ _))
  ·cases h
 have hl : l.length ≤ 1099511627776 := by omega
 have bo : FSpec Tryz.prog 15 [.arr (nR l)] (.tup [.arr (pE (nL l)), .arr (rE (rP (nL l)))]) := na_ l hl ho
 have hd := do_ (rP (nL l)) (by rw [a0_]; simp [nL]; omega)
 rw [vR_rP] at hd
 have ht := fs_Tame l k hl hk
 refine ac_ (q_z 3 ?_)
 refine cF (ag_ (r_c 7 (bo) ?_))
 refine a_z ?_
 cases hb : tameB l k with
 | true =>
  have e : wideB l k = true := by unfold wideB; rw [decide_eq_true (show l.length ≤ 60 by omega), hb]; rfl
  rw [hb] at ht
  rw [e]
  refine r_c 9 (ht) ?_
  refine a_z ?_
  exact ae_ (t_e (ad_ _))
 | false =>
  have e : wideB l k = decide (40 < degP (nL l)) := by unfold wideB; rw [decide_eq_true (show l.length ≤ 60 by omega), hb]; rfl
  rw [hb] at ht
  rw [e]
  refine r_c 9 (ht) ?_
  refine c_s (hd) ?_
  refine a_z ?_
  exact ae_ (t_e (ad_ _))
theorem fs_heavy (x : List RQ) (hl : x.length ≤ 1000000) : FSpec Tryz.prog 70 [.arr (rE x)] (i64 (ce_ (vR x))) := by
 have hd := do_ x hl
 refine f_n Tryz.func70 ?_ ?_
 ·exact aa_ (ay_ x) ab_
 refine r_z 1 ?_
 by_cases h1 : degP (vR x) < 0
 ·have e : ce_ (vR x) = 10 := by unfold ce_; rw [if_pos h1]
  rw [e]
  refine ac_ (r_c 3 (hd) ?_)
  refine d_z ?_
  refine af_ rfl (fun h => ?_) (fun h => ?_)
  ·refine r_z 1 ?_
   exact ae_ (t_e (ad_ _))
  ·cases h
 refine ac_ (r_c 3 (hd) ?_)
 refine d_z ?_
 refine cF (ag_ ?_)
 by_cases h2 : 40 < degP (vR x)
 ·have e : ce_ (vR x) = 5 := by unfold ce_; rw [if_neg h1, if_pos h2]
  rw [e]
  refine ac_ (r_c 3 (hd) ?_)
  refine d_z ?_
  refine af_ rfl (fun h => ?_) (fun h => ?_)
  ·refine r_z 1 ?_
   exact ae_ (t_e (ad_ _))
  ·cases h
 ·have e : ce_ (vR x) = 0 := by unfold ce_; rw [if_neg h1, if_neg h2]
  rw [e]
  refine ac_ (r_c 3 (hd) ?_)
  refine d_z ?_
  refine cF (ag_ (r_z 1 ?_))
  exact ae_ (t_e (ad_ _))
theorem good_qs {r : NRow} (h : goodN r = true) (hb : i64r r.1) (hd : i64r r.2.1) : qs (numV r.1 r.2.1 r.2.2) ≤ 20 := by
 obtain ⟨h0, h1, h2, h3, h4⟩ := of_decide_eq_true h
 have hp : r.2.2 % 4 = 0 := by omega
 have hN : bl r.1.natAbs ≤ 20 := bl_le (by omega)
 unfold numV
 rw [hp]
 show qs (Rat.divInt r.1 (dNum r.2.1)) ≤ 20
 obtain ⟨d, hde⟩ : ∃ d, d = dNum r.2.1 := ⟨_, rfl⟩
 have hd0 : d ≠ 0 := by rw [hde]; unfold dNum; split <;> omega
 have hdb : bl d.natAbs ≤ 20 := by rw [hde]; unfold dNum; split <;> exact bl_le (by omega)
 rw [← hde]
 by_cases hn : d < 0
 ·rw [e3_ _ d hn]
  exact cr_ (by omega) (by rw [Int.natAbs_neg]; exact hN) (by omega)
 ·rw [e2_ _ d (by omega)]
  exact cr_ (by omega) hN (by omega)
theorem tame_bd {l : List NRow} {k : Nat} (h : tameB l k = true) (ho : okR l) : bdL (nL l) 20 ∧ (nL l).length ≤ k := by
 unfold tameB at h
 rw [Bool.and_eq_true, List.all_eq_true] at h
 refine ⟨fun q hq => ?_, by simpa [nL] using h.2⟩
 obtain ⟨r, hr, rfl⟩ := List.mem_map.1 hq
 exact good_qs (h.1 r hr) (ho r hr).1 (ho r hr).2.1
theorem oD_ {f : Nat} {p s : List Rat} (h : sqfM f p = some s) : trimQ s = s := by
 unfold sqfM at h
 split at h
 ·cases hg : gcdM f p (aB_ p) with
  | none => rw [hg] at h; cases h
  | some g =>
   rw [hg, Option.bind_some] at h
   split at h
   ·cases h; exact fw_ _
   ·cases h
 ·cases h
theorem fs_rSqf (p : List Rat) (c : Cnt) (h : CN p c) : FSpec Tryz.prog 71 [.arr (rE (rP p))] (.arr (rE (rP c.p))) :=
 fh_ 9 20000 (rP p) c.p (ct_ _) (by rw [vR_rP]; exact (dO_ h.hc h.np).2.1) (by rw [vR_rP]; exact h.sz) (by decide) (by decide) (by rw [vR_rP]; exact h.gb) (by have := h.pl; rw [a0_]; omega)
end Go.Proofs.YtdhedjbmdnnbkaaGreatDoor
namespace Go.Proofs.YtdhedjbmdnnbkaaGreatDoor
open Go.Abs Go.ChangeShapes Go.Deep Go.RowKit Go.WideShapes
set_option maxRecDepth 20000
theorem tyG : ∃ f0 f1, (Tryz.prog).underlying 94 = some (.struct #[f0, f1]) ∧ f0.type = 82 ∧ f0.offset = 0 ∧ f1.type = 82 ∧ f1.offset = 3 :=
 ⟨{ name := "Low", type := 82, offset := 0, embedded := false, tag := "", pkgPath := "", byteOffset := 0 }, { name := "High", type := 82, offset := 3, embedded := false, tag := "", pkgPath := "", byteOffset := 24 }, by kernel_rfl, rfl, rfl, rfl, rfl⟩
theorem tycG : (Tryz.prog).cellsOf 94 = 6 := by kernel_rfl
theorem gapP_of {H : Type} {enc : TypeId × Value → H} {W : World} {base : Nat} {v : Value} {d : DataW H} {ps : List MemPlace} (hv : Value.okWide Tryz.prog W .any base 94 v) (h : DataW.Trod enc Tryz.prog W 0 (fun _ => true) true 94 v d ps) :
    ∃ r : NRow × NRow, (okN r.1 ∧ okN r.2) ∧ RV (fun _ => False) (fun _ => none) W (.agg (nuC r.1.1 r.1.2.1 r.1.2.2 ++ nuC r.2.1 r.2.2.1 r.2.2.2)) v := by
 obtain ⟨f0, f1, hu, h1, h2, h3, h4⟩ := tyG
 obtain ⟨cs, rfl, _⟩ : ∃ cs, v = .agg cs ∧ True := by
  unfold Value.okWide at hv
  rw [hu] at hv
  obtain ⟨cs, h1, _⟩ := hv
  exact ⟨cs, h1, trivial⟩
 obtain ⟨fuel, hf⟩ := h
 obtain ⟨y0, y1, m, _, hl, g0, g1⟩ := trod_struct2 hu hf
 rw [h1, h2, tyc82] at g0
 rw [h3, h4, tyc82] at g1
 rw [tycG] at hl
 obtain ⟨r, r1, r2, r3, e⟩ := o7_ g0
 obtain ⟨r', r1', r2', r3', e'⟩ := o7_ g1
 have hcs : cs.toList = [.int .i64 r.1, .int .i64 r.2.1, .int .u8 r.2.2, .int .i64 r'.1, .int .i64 r'.2.1, .int .u8 r'.2.2] := by
  have h0 : (Value.agg cs).cells.toList = cs.toList := by simp [Value.cells]
  rw [h0] at e e' hl
  generalize cs.toList = l at *
  match l, hl with
  | [a0, a1, a2, a3, a4, a5], _ =>
   simp at e e'
   obtain ⟨rfl, rfl, rfl⟩ := e
   obtain ⟨rfl, rfl, rfl⟩ := e'
   rfl
 refine ⟨(r, r'), ⟨⟨r1, r2, r3⟩, ⟨r1', r2', r3'⟩⟩, cs, rfl, ?_⟩
 rw [hcs]
 exact ⟨_, _, rfl, rfl, _, _, rfl, rfl, _, _, rfl, rfl, _, _, rfl, rfl, _, _, rfl, rfl, _, _, rfl, rfl, rfl⟩
end Go.Proofs.YtdhedjbmdnnbkaaGreatDoor
namespace Go.Proofs.YtdhedjbmdnnbkaaGreatDoor
open Go.Abs
set_option maxRecDepth 20000
set_option maxHeartbeats 1000000
theorem jN_ (pr : List NRow) (g : NRow × NRow) (hp : okR pr) (hg : okN g.1 ∧ okN g.2) : FSpec Tryz.prog 9 [.arr (nR pr), .agg (nuC g.1.1 g.1.2.1 g.1.2.2 ++ nuC g.2.1 g.2.2.1 g.2.2.2)] (.v (.bool true)) := by
 obtain ⟨⟨N, D, k⟩, ⟨N', D', k'⟩⟩ := g
 obtain ⟨⟨g1, g2, g3⟩, ⟨g4, g5, g6⟩⟩ := hg
 simp only at g1 g2 g3 g4 g5 g6 ⊢
 have hnp : (nR pr).length = pr.length := by simp [nR]
 have hcg : ∀ c ∈ nuC N D k ++ nuC N' D' k', Closed c := fun c hc => (List.mem_append.1 hc).elim (cH_ _ _ _ c) (cH_ _ _ _ c)
 have hwb := fs_wide pr 7 (by decide) hp
 refine f_n Tryz.func9 ?_ ?_
 ·exact aa_ (aw_ (bF_ pr)) (aa_ (aq_ hcg) ab_)
 refine r_z 2 ?_
 cases hw : wideB pr 7 with
 | false =>
  rw [hw] at hwb
  refine ac_ (r_c 3 (hwb) ?_)
  refine a_z ?_
  refine af_ rfl (fun h => ?_) (fun h => ?_)
  ·refine r_c 2 (gR_) ?_
   refine a_z ?_
   exact ae_ (t_e (ad_ _))
  ·cases h
 | true =>
 rw [hw] at hwb
 have hw2 := hw
 unfold wideB at hw2
 rw [Bool.and_eq_true, Bool.or_eq_true, decide_eq_true_eq, decide_eq_true_eq] at hw2
 obtain ⟨hl60, hw2⟩ := hw2
 have sp : bdL (nL pr) 256 := nL_qs hp
 have lp : (nL pr).length ≤ 60 := by simp [nL]; omega
 have bp := na_ pr (by omega) hp
 have bs := k1_ N D N' D' k k' g1 g2 g3 g4 g5 g6
 have qv := lL_ (p := k) g1 g2
 have qw := lL_ (p := k') g4 g5
 obtain ⟨v, hv⟩ : ∃ v, v = numV N D k := ⟨_, rfl⟩
 obtain ⟨w, hw'⟩ : ∃ w, w = numV N' D' k' := ⟨_, rfl⟩
 rw [← hv] at bs qv
 rw [← hw'] at bs qw
 have hsv : sm v := Nat.le_trans qv (by decide)
 have hsw : sm w := Nat.le_trans qw (by decide)
 have hss : smS (v, w) := ⟨hsv, hsw⟩
 obtain ⟨p, hpe⟩ : ∃ p, p = nL pr := ⟨_, rfl⟩
 rw [← hpe] at bp sp lp hw2
 have bp' : FSpec Tryz.prog 15 [.arr (nR pr)] (.tup [.arr (pE p), .arr (rE (rP p))]) := bp
 have hhv := fs_heavy (rP p) (by rw [a0_]; omega)
 rw [vR_rP] at hhv
 have hva := cy_ v w hsv hsw
 have hlg : ce_ p = 10 ∨ ce_ p = 5 ∨ ce_ p = 0 := by
  unfold ce_; split
  ·exact .inl rfl
  ·split
   ·exact .inr (.inl rfl)
   ·exact .inr (.inr rfl)
 refine ac_ (r_c 3 (hwb) ?_)
 refine a_z ?_
 refine cF (ag_ (r_c 7 (bp') ?_))
 refine a_z ?_
 refine r_c 9 (bs) ?_
 refine a_z ?_
 by_cases hvw : cmpQ v w ≤ 0
 rotate_left
 ·have cV := pT_ p (v, w) hss hvw
  have rV := pM_ p (v, w) hss hvw
  rw [decide_eq_false hvw] at hva
  refine r_c 8 (cV) ?_
  refine a_z ?_
  refine r_c 8 (rV) ?_
  refine a_z ?_
  refine r_c 3 (hhv) ?_
  refine a_z ?_
  refine ac_ (r_c 3 (hva) ?_)
  refine a_z ?_
  refine cT (r_m 1 ?_)
  refine a_z ?_
  refine ac_ (s_r 2 ?_)
  refine a_1 ?_
  refine o_0 (.bin rfl rfl (vT by_ (rfl))) ?_
  refine aj_ ?_
  refine cT (s_r 21 ?_)
  refine d_8 ?_
  refine d_7 ?_
  refine bI_ rfl rfl rfl (.bin rfl rfl (vT a2_ (decide_eq_true (by simp)))) rfl rfl ?_
  refine c_s (gR_) ?_
  refine a_z ?_
  exact ae_ (t_e (ad_ _))
 rw [decide_eq_true hvw] at hva
 by_cases hl0 : ce_ p = 0
 rotate_left
 ·obtain ⟨e, he⟩ : ∃ e, e = ce_ p := ⟨_, rfl⟩
  have he0 : e ≠ 0 := fun h => hl0 (he ▸ h)
  have cV := pU_ p (v, w) e hss hvw he.symm he0 (by omega)
  have rV := pN_ p (v, w) e hss hvw he.symm he0 (by omega)
  rw [← he] at hhv
  refine r_c 8 (cV) ?_
  refine a_z ?_
  refine r_c 8 (rV) ?_
  refine a_z ?_
  refine r_c 3 (hhv) ?_
  refine a_z ?_
  refine ac_ (r_c 3 (hva) ?_)
  refine a_z ?_
  refine cF (ag_ (ac_ (s_r 2 ?_)))
  refine a_1 ?_
  refine o_0 (.bin rfl rfl (vT by_ ((by simpa using he0)))) ?_
  refine aj_ ?_
  refine cT (s_r 21 ?_)
  refine d_8 ?_
  refine d_7 ?_
  refine bI_ rfl rfl rfl (.bin rfl rfl (vT a2_ (decide_eq_true (by simp)))) rfl rfl ?_
  refine c_s (gR_) ?_
  refine a_z ?_
  exact ae_ (t_e (ad_ _))
 have hdg : ¬ degP p < 0 ∧ ¬ 40 < degP p := by
  unfold ce_ at hl0
  constructor
  ·intro e; rw [if_pos e] at hl0; omega
  ·intro e
   by_cases e2 : degP p < 0
   ·omega
   ·rw [if_neg e2, if_pos e] at hl0; omega
 have np : nz p := fun e => hdg.1 (degP_neg.2 e)
 have htm : tameB pr 7 = true := hw2.resolve_right hdg.2
 have htb := tame_bd htm hp
 rw [← hpe] at htb
 obtain ⟨c, hc⟩ := CN.ex np htb.2 htb.1
 have hle : v ≤ w := by
  unfold cmpQ at hvw
  split at hvw
  ·grind
  ·split at hvw
   ·grind
   ·omega
 obtain ⟨f1, f2, f3, f4, f5, f6⟩ := dO_ hc.hc np
 have hmon := f6 v w hle
 have hbv : bo_ c v ≤ uptoV c v := by unfold bo_; split <;> omega
 obtain ⟨m, hm⟩ : ∃ m : Nat, uptoV c w = bo_ c v + m := ⟨(uptoV c w - bo_ c v).toNat, by omega⟩
 have ub := dE_ (x := w) hc.ok
 have bb := f0_ (x := v) hc.ok
 have cC := fs_Count 9 p c (v, w) hc.hc (by decide) (hc.below (x := v) (by omega)) (hc.upto (x := w) (by omega)) hss hvw hl0 (by omega)
 have cR' := fs_Roots 9 p c (v, w) m hc.hc (by decide) (hc.below (x := v) (by omega)) (hc.upto (x := w) (by omega)) hss hvw hl0 (by omega) (by have := hc.sl; omega) hm
 have rB : FSpec Tryz.prog 58 [.arr (rE (rP p)), .agg (rC (rq v))] (i64 (bo_ c v)) := pz_ p c hc (rq v) (bA_ _) (by show qs v ≤ _; omega)
 have rN : FSpec Tryz.prog 57 [.arr (rE (rP p)), .agg (rC (rq w))] (i64 (uptoV c w)) := iD_ p c hc (rq w) (bA_ _) (by show qs w ≤ _; omega)
 have rS := fs_rSqf p c hc
 have sS := fs_SameP c.p (rP c.p) (ct_ _) (by rw [vR_rP]; exact oD_ f2) (fun q hq => Nat.le_trans (hc.sb q hq) (by decide)) (by have := hc.sl; rw [a0_]; omega)
 obtain ⟨a, ha⟩ : ∃ a, a = bo_ c v := ⟨_, rfl⟩
 obtain ⟨b, hb⟩ : ∃ b, b = uptoV c w := ⟨_, rfl⟩
 simp only at cC cR'
 rw [← ha, ← hb] at cC
 rw [← ha] at cR' rB bb hm
 rw [← hb] at rN ub hm
 rw [hl0] at hhv
 refine r_c 8 (cC) ?_
 refine a_z ?_
 refine r_c 8 (cR') ?_
 refine a_z ?_
 refine r_c 3 (hhv) ?_
 refine a_z ?_
 refine ac_ (r_c 3 (hva) ?_)
 refine a_z ?_
 refine cF (ag_ (ac_ (s_r 2 ?_)))
 refine a_1 ?_
 refine o_0 (.bin rfl rfl (vF by_ (rfl))) ?_
 refine aj_ ?_
 refine cF (ag_ (ac_ (r_d hmix 10 ?_)))
 refine c_s (rB) ?_
 refine c_s (rN) ?_
 refine a_2 ?_
 refine aj_ (n_k ?_)
 refine ac_ (s_r 19 ?_)
 refine a_1 ?_
 refine o_0 (.bin rfl rfl (vF by_ (rfl))) ?_
 refine d_2 ?_
 refine bI_ rfl rfl rfl (.bin rfl rfl (vF by_ (rfl))) rfl rfl ?_
 refine d_6 ?_
 refine bI_ rfl rfl rfl (.bin rfl rfl (vF by_ ((bne_self_eq_false _)))) rfl rfl ?_
 refine d_5 ?_
 refine bI_ rfl rfl rfl (.bin rfl rfl (vF by_ ((by rw [bne_eq_false_iff_eq, f6_]; omega)))) rfl rfl ?_
 refine a_z ?_
 refine cF (ag_ (ac_ (r_z 1 ?_)))
 refine au_ (fun _ : Unit => ⟨[], [], 1, 124⟩) (fun _ => True) ?_ ?_
 ·refine ah_ (ao_ (fun j : Nat => ⟨[(6, .arr (rE (rP p))), (11, .arr (roE c.p a m)), (14, i64 a), (16, i64 (j : Int))], [], 1, 124⟩) (fun j => m - j) (fun j => j ≤ m) 0 (Nat.zero_le _) ?_ ?_)
  ·refine ax_ [] rfl rfl rfl au_r (fun hs => ?_) (fun hs => ?_)
   ·repeat' (first | exact aX_ | refine aL_ rfl ?_ ?_)
    all_goals (first | (exact ar_ hs (aw_ (cG_ _ _ _))) | exact au_c)
   ·repeat' (first | exact as_ | refine an_ rfl rfl rfl rfl ?_ ?_)
    all_goals (first | exact au_e | (refine aF_ ?_; repeat' (first | exact ap_ | refine ai_ ?_ ?_)))
    all_goals (first | (exact ar_ hs (aw_ (cG_ _ _ _))) | exact au_c)
  rintro j hj
  by_cases hlt : j < m
  ·have hgt := roE_get (p := c.p) (a := a) hlt
   refine ac_ (s_r 4 ?_)
   refine a_3 ?_
   refine o_0 (.bin rfl rfl (vT bZ_ (decide_eq_true (by rw [f6_]; omega)))) ?_
   refine aj_ ?_
   refine cT (ag_ (ac_ (ah_ (ac_ (r_d hmix 20 ?_)))))
   refine a_2 ?_
   refine i_x hgt ?_
   first | refine aG_ (.fieldAddr_l rfl tf_59_0.h (by decide)) rfl rfl ?_ | refine aG_ (.fieldAddr_a rfl tf_59_0.h (by decide)) rfl rfl ?_
   refine l_1 hgt ?_
   refine c_s (rS) ?_
   refine c_s (sS) ?_
   refine d_4 ?_
   first | refine bI_ rfl rfl rfl (.index_l rfl rfl (by omega) (by omega) te_112.h) rfl rfl ?_ | refine bI_ rfl rfl rfl (.index_a rfl rfl (by omega) hgt rfl te_112.h) rfl rfl ?_
   first | refine bI_ rfl rfl rfl (.fieldAddr_l rfl tf_59_1.h (by decide)) rfl rfl ?_ | refine bI_ rfl rfl rfl (.fieldAddr_a rfl tf_59_1.h (by decide)) rfl rfl ?_
   first | refine bI_ rfl rfl rfl (.load_l1 rfl rfl hgt tg_3.h rfl) rfl rfl ?_ | refine bI_ rfl rfl rfl (.load_a1 rfl hgt tg_3.h rfl) rfl rfl ?_
   refine d_3 ?_
   refine bI_ rfl rfl rfl (.bin rfl rfl (vF by_ ((bne_self_eq_false _)))) rfl rfl ?_
   refine a_1 ?_
   refine aj_ (n_k ?_)
   refine cF (ag_ (r_m 3 ?_))
   refine a_z ?_
   refine ⟨j + 1, by omega, hlt, ?_⟩
   refine ax_ [] rfl rfl rfl au_r (fun hs => ?_) (fun hs => ?_)
   ·repeat' (first | exact aX_ | refine aL_ rfl ?_ ?_)
    all_goals (first | (exact ar_ hs (aw_ (cG_ _ _ _))) | exact au_c)
   ·repeat' (first | exact as_ | refine an_ rfl rfl rfl rfl ?_ ?_)
    all_goals (first | exact au_e | (refine aF_ ?_; repeat' (first | exact ap_ | refine ai_ ?_ ?_)))
    all_goals (first | (exact ar_ hs (aw_ (cG_ _ _ _))) | exact au_c)
  ·refine ac_ (s_r 4 ?_)
   refine a_3 ?_
   refine o_0 (.bin rfl rfl (vF bZ_ (decide_eq_false (by rw [f6_]; omega)))) ?_
   refine aj_ ?_
   refine cF (al_ ⟨(), trivial, ?_⟩)
   exact s_e []
 rintro _ _
 refine r_c 2 (gR_) ?_
 refine a_z ?_
 exact ae_ (t_e (ad_ _))
end Go.Proofs.YtdhedjbmdnnbkaaGreatDoor
namespace Go.Proofs.YtdhedjbmdnnbkaaGreatDoor
open Go
def mkF (P : Program) (fn : Func) (c : OpenClaim) : Bool := (P.make == some c.make) && (c.kinds == (if c.domain.isEmpty then [] else fn.params.toList.map fun t => match P.underlying t with | some (.int k) => some k | _ => none)) && (c.pinned == c.pinnedBy)
section
variable {P : Program} {f : FuncId} {fn : Func} {s : ChangeSpec} {c : OpenClaim}
theorem pk_ (h1 : c.wf (OpenSpec.ofChange s) = true) (h2 : laidOutB P = true) (h3 : mapsRowed P = true)
    (h4 : fn.params.all (P.readableRec ·) = true) (h5 : namedTie P c.named s.vars = true)
    (h6 : ((c.stops == []) && (P.stops == []) && (c.knobs == []) && (P.stopKnobs == [])) = true)
    (h7 : (c.inPlace == P.inPlace f) = true) (h8 : (c.unfollowed == P.unfollowed f) = true) (h9 : (c.recurses == P.recurses f) = true) (h10 : (c.named == P.varsNamed f) = true)
    (h11 : ((c.maps == (fn.params.toList ++ s.plain.varTypes P).any (P.mapsRec ·)) && (c.ifaces == (fn.params.toList ++ s.plain.varTypes P).any (P.ifacesRec ·)) && (c.mapsOut == P.mapsAmong fn.resultTypes.toList)) = true)
    (h12 : ((c.loops == (fn.params.toList ++ s.plain.varTypes P).any (P.loopsFrom ·)) && (c.wideKeys == (fn.params.toList ++ s.plain.varTypes P ++ fn.resultTypes.toList).any (P.wideKeysFrom ·))) = true)
    (h13 : (s.vars.all (P.varReadable ·) && fn.resultTypes.all (fun t => P.readableRec t && decide (t < P.types.size)) && (c.ifacesOut == fn.resultTypes.toList.any (P.ifacesRec ·)) && (c.loopsOut == fn.resultTypes.toList.any (P.loopsFrom ·)) && (c.plainKeys == P.plainKeys) && c.shortTexts.isNone) = true)
    (h14 : P.stopsHeard = true) (h15 : P.mayEnter = true) (h16 : (c.lifted == P.liftsFinal) = true)
    (h17 : mkF P fn c = true)
    (h18 : ((c.veiled == (fn.params.toList ++ s.plain.varTypes P ++ fn.resultTypes.toList).any (P.veiledRec ·)) && c.veiledFits P fn.params.toList (fn.params.toList ++ s.plain.varTypes P ++ fn.resultTypes.toList)) = true) :
    joinedFacts P f fn s c = true := by
 unfold mkF at h17
 simp only [Bool.and_eq_true] at h6 h11 h12 h13 h17 h18
 simp only [joinedFacts, Bool.and_eq_true]
 and_intros
 all_goals first | assumption | exact h6.1.1.1 | exact h6.1.1.2 | exact h6.1.2 | exact h6.2 | exact h11.1.1 | exact h11.1.2 | exact h11.2 | exact h12.1 | exact h12.2 | exact h13.1.1.1.1.1 | exact h13.1.1.1.1.2 | exact h13.1.1.1.2 | exact h13.1.1.2 | exact h13.1.2 | exact h13.2 | exact h17.1.1 | exact h17.1.2 | exact h17.2 | exact h18.1 | exact h18.2
end
theorem qv_ : laidOutB Tryz.prog = true := by kernel_rfl
theorem all_mr : mapsRowed Tryz.prog = true := by kernel_rfl
theorem all_sh : Tryz.prog.stopsHeard = true := by kernel_rfl
theorem all_me : Tryz.prog.mayEnter = true := by kernel_rfl
theorem all_lk : false = Tryz.prog.looks [] := by kernel_rfl
theorem all_mi : Tryz.prog.mainIs = some (true, ("3282ea10664338544b9e7d29bc655aa318bb5383d19a7a3f41182a047c2a096f" : String).toList) := by kernel_rfl
theorem all_lf : Tryz.prog.liftsFinal = Rows.polyThroughRow.lifted := by kernel_rfl
theorem ja_ : Rows.polyCountsRow.wf (OpenSpec.ofChange Rows.polyCountsSpec) = true := by kernel_rfl
theorem jg_ : Tryz.f9.params.all (Tryz.prog.readableRec ·) = true := by kernel_rfl
theorem ji_ : namedTie Tryz.prog Rows.polyCountsRow.named Rows.polyCountsSpec.vars = true := by kernel_rfl
theorem jf_ : ((Rows.polyCountsRow.stops == []) && (Tryz.prog.stops == []) && (Rows.polyCountsRow.knobs == []) && (Tryz.prog.stopKnobs == [])) = true := by kernel_rfl
theorem jo_ : (Rows.polyCountsRow.inPlace == Tryz.prog.inPlace 9) = true := by kernel_rfl
theorem je_ : (Rows.polyCountsRow.unfollowed == Tryz.prog.unfollowed 9) = true := by kernel_rfl
theorem jh_ : (Rows.polyCountsRow.recurses == Tryz.prog.recurses 9) = true := by kernel_rfl
theorem jc_ : (Rows.polyCountsRow.named == Tryz.prog.varsNamed 9) = true := by kernel_rfl
theorem jj_ : ((Rows.polyCountsRow.maps == (Tryz.f9.params.toList ++ Rows.polyCountsSpec.plain.varTypes Tryz.prog).any (Tryz.prog.mapsRec ·)) && (Rows.polyCountsRow.ifaces == (Tryz.f9.params.toList ++ Rows.polyCountsSpec.plain.varTypes Tryz.prog).any (Tryz.prog.ifacesRec ·)) && (Rows.polyCountsRow.mapsOut == Tryz.prog.mapsAmong Tryz.f9.resultTypes.toList)) = true := by kernel_rfl
theorem jl_ : ((Rows.polyCountsRow.loops == (Tryz.f9.params.toList ++ Rows.polyCountsSpec.plain.varTypes Tryz.prog).any (Tryz.prog.loopsFrom ·)) && (Rows.polyCountsRow.wideKeys == (Tryz.f9.params.toList ++ Rows.polyCountsSpec.plain.varTypes Tryz.prog ++ Tryz.f9.resultTypes.toList).any (Tryz.prog.wideKeysFrom ·))) = true := by kernel_rfl
theorem jb_ : (Rows.polyCountsSpec.vars.all (Tryz.prog.varReadable ·) && Tryz.f9.resultTypes.all (fun t => Tryz.prog.readableRec t && decide (t < Tryz.prog.types.size)) && (Rows.polyCountsRow.ifacesOut == Tryz.f9.resultTypes.toList.any (Tryz.prog.ifacesRec ·)) && (Rows.polyCountsRow.loopsOut == Tryz.f9.resultTypes.toList.any (Tryz.prog.loopsFrom ·)) && (Rows.polyCountsRow.plainKeys == Tryz.prog.plainKeys) && Rows.polyCountsRow.shortTexts.isNone) = true := by kernel_rfl
theorem jd_ : ((Rows.polyCountsRow.veiled == (Tryz.f9.params.toList ++ Rows.polyCountsSpec.plain.varTypes Tryz.prog ++ Tryz.f9.resultTypes.toList).any (Tryz.prog.veiledRec ·)) && Rows.polyCountsRow.veiledFits Tryz.prog Tryz.f9.params.toList (Tryz.f9.params.toList ++ Rows.polyCountsSpec.plain.varTypes Tryz.prog ++ Tryz.f9.resultTypes.toList)) = true := by kernel_rfl
theorem i8_ : Rows.polyCountsRow.wfByText (OpenSpec.ofChange Rows.polyCountsSpec) = true := by kernel_rfl
theorem jp_ : false = Rows.polyCountsRow.goesBy Tryz.prog := by kernel_rfl
theorem polyCounts_fn : Tryz.prog.funcNamed Rows.polyCountsRow.func = some 9 := by kernel_rfl
theorem jn_ : decide (Tryz.f9.isInstance Tryz.prog Rows.polyCountsRow.origin Rows.polyCountsRow.targs) = true := by kernel_rfl
theorem i9_ : (Tryz.f9.params.toList.all fun u => !Tryz.prog.wantsStandIn u) = true := by kernel_rfl
theorem jk_ : mkF Tryz.prog Tryz.f9 Rows.polyCountsRow = true := by kernel_rfl
theorem jm_ : (Rows.polyCountsRow.lifted == Tryz.prog.liftsFinal) = true := by rw [all_lf]; kernel_rfl
theorem f8_ : joinedFacts Tryz.prog 9 Tryz.f9 Rows.polyCountsSpec Rows.polyCountsRow = true :=
 pk_ ja_ qv_ all_mr jg_ ji_ jf_ jo_ je_ jh_ jc_ jj_ jl_ jb_ all_sh all_me jm_ jk_ jd_
theorem hm_ : Tryz.f9.isWrapper Tryz.prog Rows.polyCountsRow.wrapper Rows.polyCountsRow.mainSum := by
 unfold Func.isWrapper; first | (rw [if_pos (by decide +kernel)]; kernel_rfl) | (rw [if_neg (by decide +kernel)]; exact ⟨rfl, rfl⟩)
end Go.Proofs.YtdhedjbmdnnbkaaGreatDoor
namespace Go.Proofs.YtdhedjbmdnnbkaaGreatDoor
open Go.Abs Go.RowKit
theorem tab_of {n1 n2 : String} {a b : DataW Unit} {W : World} (h : laidMet Tryz.prog [(n1, a), (n2, b), ("internal/strconv.uint64pow10", Lib.tabData .u64 Lib.pow10Tab)] W) : TabW W := by
 obtain ⟨ps, ⟨g1, t1, c1, u1, p1, q1, _, _, _, _, ⟨g2, t2, c2, u2, p2, q2, _, _, _, _, ⟨g, t, cs, fuel, p, q, hg, ht, hv, hd, _, _⟩, _⟩, _⟩, _, _⟩ := h
 obtain rfl := Option.some.inj (tab_glob.symm.trans hg)
 have hT : ((Tryz.prog).globals[GT]?).map (·.type) = some 298 := by kernel_rfl
 have hu : (Tryz.prog).underlying 298 = some (.array 20 207) := by kernel_rfl
 have he : (Tryz.prog).underlying 207 = some (.int .u64) := by kernel_rfl
 have hce : (Tryz.prog).cellsOf 207 = 1 := by kernel_rfl
 have hct : (Tryz.prog).cellsOf 298 = 20 := by kernel_rfl
 obtain rfl := Option.some.inj (hT.symm.trans ht)
 have hc := Lib.cells_of_tab (zs := Lib.pow10Tab) hu he hce hct hd
 unfold World.var? at hv
 rw [tab_glob] at hv
 have hv' : (match W.heap[GT]? with | some (.cells cs _ _) => some cs | _ => none) = some cs := hv
 cases hh : W.heap[GT]? with
 | none => rw [hh] at hv'; cases hv'
 | some o =>
  rw [hh] at hv'
  cases o with
  | cells a b c =>
   obtain rfl : a = cs := Option.some.inj hv'
   refine ⟨b, c, ?_⟩
   rw [hh]
   have : a = tabA := by
    unfold tabA
    rw [← hc]
   rw [this]
  | _ => cases hv'
end Go.Proofs.YtdhedjbmdnnbkaaGreatDoor
namespace Go.Proofs.YtdhedjbmdnnbkaaGreatDoor
open Go.Abs Go.ChangeAt Go.ChangeShapes Go.RowKit Go.WideShapes
theorem own : ownKnob Tryz.prog.godebug = none := by kernel_rfl
theorem und4 : Tryz.prog.underlying 4 = some .bool := by kernel_rfl
abbrev laid3 : List (String × DataW Unit) := Rows.polyCountsRow.laid
theorem door_met (os : Os) (args : Array Value) : laidMetH Tryz.prog laid3 ((World.doorLaid Tryz.prog 24 os).forCall (fun _ _ => 0) ⟨#[], args, []⟩).memory :=
 laidMetH_of_parts3 (fuel := 8) (laidMet_of_run' 8 (by kernel_rfl) (by kernel_rfl)) (by kernel_rfl) (by kernel_rfl)
set_option maxRecDepth 100000 in
theorem f7_ (os : Os) (started : os.Started) (H : Type) (enc : TypeId × Value → H) :
    ReturnsInHanded {} Tryz.checked os 9 .any (fun w args => (Rows.polyCountsSpec.pre enc Tryz.prog Tryz.f9 [] false w args ∧ laidMetH Tryz.prog laid3 w) ∧ sizedMet enc Tryz.prog Tryz.f9 (OpenSpec.ofChange Rows.polyCountsSpec) false w args)
     (Rows.polyCountsSpec.post enc Tryz.prog Tryz.f9 false true false false) := by
 refine returnsInHanded_of_change_and (C := Tryz.checked) (X := fun w _ => laidMetH Tryz.prog laid3 w) (fun _ _ _ hh h => h.of_heap hh) own started (by kernel_rfl) Tryz.func9
  (ChangeSpec.witness_shaped (enc := enc) (C := Tryz.checked) (os := os) (X := fun w _ => laidMetH Tryz.prog laid3 w) false (World.doorLaid Tryz.prog 24 os) #[.slice none 0 0, (.agg #[.int .i64 0, .int .i64 0, .int .u8 0, .int .i64 0, .int .i64 0, .int .u8 0])] 8 rfl (World.shaped_of_RefB (by kernel_rfl) (by kernel_rfl)) (by kernel_rfl) (by kernel_rfl) (by kernel_rfl) (door_met os _)) ?_
 intro W base args ds gs before hval0 hW _ _ hX _
 have hval : ∀ (j : Nat) t v, Tryz.f9.params[j]? = some t → args[j]? = some v → Value.okWide Tryz.prog W .any base t v := hval0
 have hW' := hW
 obtain ⟨p, q, hA0, hV, rfl, hfz, hnd⟩ := hW
 have hA : DataW.TrodAll enc Tryz.prog W 0 (fun _ => true) true Tryz.f9.params.toList args.toList ds p := hA0
 rw [Tryz.params9] at hA hval
 obtain ⟨v0, vs0, d0, ds0, p0, q0, hargs, rfl, rfl, h0, r0⟩ := trodAll_cons hA
 obtain ⟨v1, vs1, d1, ds1, p1, q1, rfl, rfl, rfl, h1, r1⟩ := trodAll_cons r0
 obtain ⟨rfl, rfl, rfl⟩ := trodAll_nil r1
 obtain rfl : args = #[v0, v1] := by cases args; simp_all
 obtain ⟨rfl, rfl⟩ := trodVars_none hV
 obtain ⟨a0, len0, cap0, rfl⟩ := okWide_slice tyS (hval 0 22 v0 rfl rfl)
 have lt0 : ∀ x ∈ p0, x.block < W.heap.size := by obtain ⟨m, hm⟩ := h0; exact DataW.trod_lt m _ _ _ hm
 have lt1 : ∀ x ∈ p1, x.block < W.heap.size := by obtain ⟨m, hm⟩ := h1; exact DataW.trod_lt m _ _ _ hm
 obtain ⟨l0, o0, g0⟩ := rows_of h0
 obtain ⟨l1, o1, g1⟩ := gapP_of (hval 1 94 v1 rfl rfl) h1
 clear hA0 hval0
 refine ((jN_ l0 l1 o0 o1).calls (fun _ => False) W [.slice a0 len0 cap0, v1] ⟨fun _ h => h.elim, fun h => h, tab_of (by rw [MakeChecks.laidMetH_plain _ _ _ (by kernel_rfl)] at hX; exact hX)⟩ ⟨_, _, rfl, g0, ⟨_, _, rfl, g1, rfl⟩⟩).mono fun e W' ⟨y, he, hy, bel⟩ => ?_
 have hy' : y = .bool true := hy
 subst he; subst hy'
 exact ⟨_, rfl, _, _, _, [], _, [], hW', trodAll_mk1 (shut_bool und4 _), (trodAll_cons_mk (Below.trod qv_ (by kernel_rfl) (of_decide_eq_true (by kernel_rfl)) h0 bel lt0) (trodAll_cons_mk (Below.trod qv_ (by kernel_rfl) (of_decide_eq_true (by kernel_rfl)) h1 bel lt1) trodAll_mk0)), rfl, bel.frame _, fun h => by cases h⟩
theorem if_ : Rows.PolyCountsSaid :=
 OpenClaim.holds_of_wide 9 Tryz.f9 rfl rfl rfl rfl rfl rfl rfl ⟨rfl, rfl, rfl, rfl, rfl⟩ rfl rfl rfl rfl rfl polyCounts_fn Tryz.func9 f8_
  (of_decide_eq_true jn_) hm_
  (fun os started H enc _ => f7_ os started H enc)
theorem polyCounts_card : Rows.PolyCountsCardSaid :=
 Claim7.holds_tied_plain_at .later [] [.data, .data, .data] true (true, "3282ea10664338544b9e7d29bc655aa318bb5383d19a7a3f41182a047c2a096f") false
  if_ (fun _ h => by cases h) i8_ (fun _ h => by cases h) polyCounts_row_tie rfl ⟨rfl, rfl⟩ all_mi rfl
  (fun f fn hf hfn => by
   obtain rfl : f = 9 := Option.some.inj (polyCounts_fn.symm.trans hf) |>.symm
   obtain rfl : fn = Tryz.f9 := (Option.some.inj (Tryz.func9.symm.trans hfn)).symm
   exact ⟨all_lk, fun j t ht => by
    have hm : t ∈ Tryz.f9.params.toList := by simpa using Array.mem_of_getElem? ht
    exact (show Tryz.prog.wantsStandIn t = false by simpa using List.all_eq_true.1 i9_ t hm)⟩)
  jp_
#print axioms polyCounts_card
end Go.Proofs.YtdhedjbmdnnbkaaGreatDoor
