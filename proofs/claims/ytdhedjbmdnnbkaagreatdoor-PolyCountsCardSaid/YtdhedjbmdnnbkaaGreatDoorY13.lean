/- Part Y13 of the proof. -/
import Derived.Test.YtdhedjbmdnnbkaaGreatDoorY12
set_option linter.all false
namespace Go.Proofs.YtdhedjbmdnnbkaaGreatDoor
open Go.Abs
set_option maxRecDepth 20000
set_option maxHeartbeats 1000000
def rovS (A D : Nat) : List Nat → Nat → Nat → AState
 | [], R, i => ⟨[(0, .arr (iE (zd A))), (1, .arr (iE (zd D))), (6, .emp), (7, .arr (iE (zd R))), (8, i64 i)], [], 1, 54⟩
 | q :: Q, R, i => ⟨[(0, .arr (iE (zd A))), (1, .arr (iE (zd D))), (6, .lsl 1 0 (Q.length + 1) none 1), (7, .arr (iE (zd R))), (8, i64 i)], [(1, some ⟨3, 1, iE (q :: Q)⟩)], 2, 54⟩
theorem dG_ (A D R i : Nat) : rovS A D [] R i = ⟨[(0, .arr (iE (zd A))), (1, .arr (iE (zd D))), (6, .emp), (7, .arr (iE (zd R))), (8, i64 i)], [], 1, 54⟩ := rfl
theorem cK_ (A D : Nat) (q : Nat) (Q : List Nat) (R i : Nat) : rovS A D (q :: Q) R i = ⟨[(0, .arr (iE (zd A))), (1, .arr (iE (zd D))), (6, .lsl 1 0 (Q.length + 1) none 1), (7, .arr (iE (zd R))), (8, i64 i)], [(1, some ⟨3, 1, iE (q :: Q)⟩)], 2, 54⟩ := rfl
theorem rov_step {P D R a : Nat} (hD : 0 < D) (hR : R = P % D) (ha : a < UB) : R * UB + a < UB * D ∧ (P * UB + a) / D = P / D * UB + (R * UB + a) / D ∧ (P * UB + a) % D = (R * UB + a) % D ∧ (R * UB + a) / D < UB := by
 have h1 := Nat.div_add_mod P D
 have h2 := Nat.mod_lt P hD
 rw [← hR] at h1 h2
 have h3 : R * UB + a < UB * D := by
  have : (R + 1) * UB ≤ D * UB := Nat.mul_le_mul_right _ h2
  rw [Nat.add_mul, Nat.one_mul, Nat.mul_comm D] at this
  omega
 have h4 : P * UB + a = D * (P / D * UB) + (R * UB + a) := by
  conv => lhs; rw [← h1]
  rw [Nat.add_mul, Nat.mul_assoc, Nat.add_assoc]
 refine ⟨h3, ?_, ?_, ?_⟩
 ·rw [h4, Nat.mul_add_div hD]
 ·rw [h4, Nat.mul_add_mod]
 ·rw [Nat.div_lt_iff_lt_mul hD]; exact h3
theorem gS_ (A D : Nat) (hD : 0 < D) (hA : bl A ≤ 4398046511104) (hb : bl D ≤ 4398046511104) : FSpec Tryz.prog 241 [.arr (iE (zd A)), .arr (iE (zd D))] (.tup [.arr (iE (zd (A / D))), .arr (iE (zd (A % D)))]) := by
 have hzA := bd_ A
 have hzD := bd_ D
 have hlD := aR_ (b := UB) (by decide) D
 have hlA := aR_ (b := UB) (by decide) A
 obtain ⟨n, hn⟩ : ∃ n, n = (zd D).length := ⟨_, rfl⟩
 have hn1 : 1 ≤ n := by
  have : zd D ≠ [] := fun h => by have := zd_eq_nil.1 h; omega
  have := List.length_pos_iff.2 this; omega
 have hDn : UB ^ (n - 1) ≤ D := by
  rcases hZ_ (b := UB) (n := D) (by decide) with h | h
  ·rwa [← hzD, ← hn] at h
  ·omega
 refine f_n Tryz.func241 ?_ ?_
 ·exact aa_ (a4_ _) (aa_ (a4_ _) ab_)
 refine r_z 2 ?_
 refine ac_ (r_z 5 ?_)
 refine af_ rfl (fun h => ?_) (fun h => ?_)
 ·have hlt : (zd A).length < (zd D).length := by have := of_decide_eq_true h; omega
  have hAD : A < D := dV_ (b := UB) (by decide) (by omega)
  refine r_z 3 ?_
  refine ae_ (Fin.many ⟨_, _, rfl, rfl, ⟨_, _, rfl, rfl, rfl⟩⟩ (nle rfl) ?_)
  rw [Nat.div_eq_of_lt hAD, Nat.mod_eq_of_lt hAD, f1_]
  exact ai_ (Cv.emp _) (ai_ (ar_ at_ (a4_ _)) ap_)
 have hge : n ≤ (zd A).length := by have := of_decide_eq_false h; omega
 refine ag_ (r_z 1 ?_)
 obtain ⟨P0, hP0⟩ : ∃ P0, P0 = hv ((zd A).take (n - 1)) := ⟨_, rfl⟩
 have hP0D : P0 < D := by
  have h1 := hv_lt (l := (zd A).take (n - 1)) fun d hd => zd_lt A d (List.mem_of_mem_take hd)
  rw [← hP0] at h1
  have h2 : UB ^ ((zd A).take (n - 1)).length ≤ UB ^ (n - 1) := Nat.pow_le_pow_right (by decide) (by simp; omega)
  omega
 have hst := dJ_ ((zd A).take (n - 1)) (by simp; omega)
 rw [cJ_ (fun d hd => zd_lt A d (List.mem_of_mem_take hd)), ← hP0] at hst
 refine aO_ (fun _ : Unit => ⟨[(0, .arr (iE (zd A))), (1, .arr (iE (zd D))), (6, .emp), (7, .arr (iE (zd P0)))], [], 1, 54⟩) (fun _ => True) ?_ ?_
 ·by_cases hn2 : n = 1
  ·rw [hn2] at hst
   refine r_m 8 ?_
   refine a_4 ?_
   refine o_0 (.sa_h rfl rfl (h := 0) (by omega) (by simp) te_71.h (fo_ _)) ?_
   refine o_0 (.append0 rfl rfl rfl te_71.h rfl rfl rfl (.arr (es := []) (by simp))) ?_
   refine c_s (hst) ?_
   refine a_z ?_
   refine ⟨(), trivial, ?_⟩
   exact s_e []
  ·have hne : (iE (zd A)).take (n - 1) ≠ [] := fun h => by
    have := congrArg List.length h
    rw [List.length_take, hB_, List.length_nil] at this; omega
   have hfull : List.take ((iE (zd A)).take (n - 1)).length (List.drop 0 ((iE (zd A)).take (n - 1))) = iE ((zd A).take (n - 1)) := by rw [List.drop_zero, List.take_length, iE_take]
   refine r_m 8 ?_
   refine a_4 ?_
   refine o_0 (.sa_h rfl rfl (h := n - 1) (by omega) (by simp; omega) te_71.h (fo_ _)) ?_
   refine o_1 (.append_e rfl rfl rfl te_71.h rfl rfl rfl (.arr (fun e he => fo_ _ e (List.mem_of_mem_take he))) (by first | assumption | (simp; done)) tz_3.h rfl tb_3.h d_o (by first | (simp [maxLen]; done) | (simp [maxLen]; omega))) ?_
   refine o_1 (.callS1 rfl rfl rfl (.shut rfl d_n (.nil)) rfl ((by rw [hfull]; exact hst))) ?_
   refine a_z ?_
   refine ⟨(), trivial, ?_⟩
   exact s_e []
 rintro _ _
 refine ac_ (r_z 4 ?_)
 refine au_ (fun x : List Nat × Nat => rovS A D x.1 x.2 (zd A).length) (fun x => (∀ d ∈ x.1, d < UB) ∧ hv x.1 = A / D ∧ x.2 = A % D ∧ x.1.length ≤ (zd A).length) ?_ ?_
 ·refine ah_ (ao_ (fun x : List Nat × Nat × Nat => rovS A D x.1 x.2.1 x.2.2) (fun x => (zd A).length - x.2.2) (fun x => x.2.2 ≤ (zd A).length ∧ (∀ d ∈ x.1, d < UB) ∧ hv x.1 = hv ((zd A).take x.2.2) / D ∧ x.2.1 = hv ((zd A).take x.2.2) % D ∧ x.1.length ≤ x.2.2) ([], P0, n - 1) ⟨by simp only; omega, by simp, by simp only; rw [← hP0, Nat.div_eq_of_lt hP0D]; rfl, by simp only; rw [← hP0, Nat.mod_eq_of_lt hP0D], by simp⟩ ?_ ?_)
  ·simp only [dG_]
   exact s_e []
  rintro ⟨Q, R, i⟩ ⟨hi, hQd, hQ, hR, hQl⟩
  simp only at hi hQd hQ hR hQl
  -- the head, whatever the quotient so far
  by_cases hlt : i < (zd A).length
  ·obtain ⟨a, hai⟩ : ∃ a, (zd A)[i]? = some a := ⟨_, List.getElem?_eq_getElem hlt⟩
   have ha : a < UB := zd_lt A a (List.mem_of_getElem? hai)
   have hai' : (iE (zd A))[((i : Nat) : Int).toNat]? = some [i64 a] := fg_ hai
   have hPs : hv ((zd A).take (i + 1)) = hv ((zd A).take i) * UB + a := by rw [bS_ hai, hC_]
   obtain ⟨P, hP⟩ : ∃ P, P = hv ((zd A).take i) := ⟨_, rfl⟩
   rw [← hP] at hQ hR hPs
   obtain ⟨s1, s2, s3, s4⟩ := rov_step hD hR ha
   have hRD : R < D := by rw [hR]; exact Nat.mod_lt _ hD
   have hlR := aR_ (b := UB) (by decide) R
   have hbR := bG_ (Nat.le_of_lt hRD)
   have hzR := bd_ R
   have hsh := fs_share (R * UB + a) D hD s1 hb
   cases Q with
   | nil =>
    simp only [dG_]
    refine ac_ (r_z 4 ?_)
    refine af_ rfl (fun h => ?_) (fun h => ?_)
    rotate_left
    ·exact absurd h (by simp; omega)
    refine ag_ (ac_ (ah_ (aO_ (fun _ : Unit => rovS A D [] (R * UB + a) i) (fun _ => True) ?_ ?_)))
    ·by_cases hR0 : R = 0
     ·subst hR0
      have hst1 := dJ_ [a] (by simp)
      rw [cJ_ (by simpa using ha), show hv [a] = 0 * UB + a by rw [hD_, kP_]; simp] at hst1
      rw [f1_]
      refine r_d hmix 10 ?_
      refine a_1 ?_
      refine o_0 (.append0 rfl rfl rfl te_71.h rfl rfl rfl (.arr (es := []) (by simp))) ?_
      refine a_2 ?_
      refine i_x hai' ?_
      refine l_1 hai' ?_
      refine a_2 ?_
      refine o_1 (.callS1 rfl rfl rfl (.shut rfl d_n (.nil)) rfl ((FSpec.argE hst1 rfl))) ?_
      refine a_1 ?_
      refine aj_ (n_k ?_)
      refine ⟨(), trivial, ?_⟩
      simp only [dG_]
      exact s_e []
     ·have hne : iE (zd R) ≠ [] := fun h => by
       have h1 := congrArg List.length h
       rw [hB_, List.length_nil, List.length_eq_zero_iff] at h1
       exact hR0 (zd_eq_nil.1 h1)
      have hd2 : ∀ d ∈ zd R ++ [a], d < UB := fun d hd => by
       rcases List.mem_append.1 hd with hd | hd
       ·exact zd_lt R d hd
       ·simp at hd; rw [hd]; exact ha
      have hst1 := dJ_ (zd R ++ [a]) (by simp; omega)
      rw [cJ_ hd2, hC_, hv_zd] at hst1
      refine r_d hmix 10 ?_
      refine a_1 ?_
      refine o_1 (.append_e rfl rfl rfl te_71.h rfl rfl rfl (.arr (fo_ _)) (by first | assumption | (simp; done)) tz_3.h rfl tb_3.h d_o (by first | (simp [maxLen]; done) | (simp [maxLen]; omega))) ?_
      refine a_2 ?_
      refine i_x hai' ?_
      refine l_1 hai' ?_
      refine a_2 ?_
      refine o_1 (.callS1 rfl rfl rfl (.shut rfl d_n (.nil)) rfl ((FSpec.argE hst1 (by rw [List.drop_zero, List.take_of_length_le (by simp)]; simp [iE, i64])))) ?_
      refine a_1 ?_
      refine aj_ (n_k ?_)
      refine ⟨(), trivial, ?_⟩
      simp only [dG_]
      exact s_e []
    rintro _ _
    simp only [dG_]
    refine r_z 1 ?_
    refine r_c 8 (hsh) ?_
    refine a_z ?_
    refine r_m 5 ?_
    refine a_z ?_
    refine r_m 3 ?_
    refine a_z ?_
    refine ⟨([(R * UB + a) / D], (R * UB + a) % D, i + 1), by simp only; omega, ⟨by simp only; omega, by simpa using s4, ?_, ?_, by simp⟩, ?_⟩
    ·simp only; rw [hPs, s2, ← hQ, hD_, kP_]; simp
    ·simp only; rw [hPs, s3]
    ·simp only [cK_]
     exact s_e [(1, 6)]
   | cons q Q =>
    simp only [cK_]
    refine ac_ (r_z 4 ?_)
    refine af_ rfl (fun h => ?_) (fun h => ?_)
    rotate_left
    ·exact absurd h (by simp; omega)
    refine ag_ (ac_ (ah_ (aO_ (fun _ : Unit => rovS A D (q :: Q) (R * UB + a) i) (fun _ => True) ?_ ?_)))
    ·by_cases hR0 : R = 0
     ·subst hR0
      have hst1 := dJ_ [a] (by simp)
      rw [cJ_ (by simpa using ha), show hv [a] = 0 * UB + a by rw [hD_, kP_]; simp] at hst1
      rw [f1_]
      refine r_d hmix 10 ?_
      refine a_1 ?_
      refine o_0 (.append0 rfl rfl rfl te_71.h rfl rfl rfl (.arr (es := []) (by simp))) ?_
      refine a_2 ?_
      refine i_x hai' ?_
      refine l_1 hai' ?_
      refine a_2 ?_
      refine o_1 (.callS1 rfl rfl rfl (.shut rfl d_n (.nil)) rfl ((FSpec.argE hst1 rfl))) ?_
      refine a_1 ?_
      refine aj_ (n_k ?_)
      refine ⟨(), trivial, ?_⟩
      simp only [cK_]
      exact s_e []
     ·have hne : iE (zd R) ≠ [] := fun h => by
       have h1 := congrArg List.length h
       rw [hB_, List.length_nil, List.length_eq_zero_iff] at h1
       exact hR0 (zd_eq_nil.1 h1)
      have hd2 : ∀ d ∈ zd R ++ [a], d < UB := fun d hd => by
       rcases List.mem_append.1 hd with hd | hd
       ·exact zd_lt R d hd
       ·simp at hd; rw [hd]; exact ha
      have hst1 := dJ_ (zd R ++ [a]) (by simp; omega)
      rw [cJ_ hd2, hC_, hv_zd] at hst1
      refine r_d hmix 10 ?_
      refine a_1 ?_
      refine o_1 (.append_e rfl rfl rfl te_71.h rfl rfl rfl (.arr (fo_ _)) (by first | assumption | (simp; done)) tz_3.h rfl tb_3.h d_o (by first | (simp [maxLen]; done) | (simp [maxLen]; omega))) ?_
      refine a_2 ?_
      refine i_x hai' ?_
      refine l_1 hai' ?_
      refine a_2 ?_
      refine o_1 (.callS1 rfl rfl rfl (.shut rfl d_n (.nil)) rfl ((FSpec.argE hst1 (by rw [List.drop_zero, List.take_of_length_le (by simp)]; simp [iE, i64])))) ?_
      refine a_1 ?_
      refine aj_ (n_k ?_)
      refine ⟨(), trivial, ?_⟩
      simp only [cK_]
      exact s_e []
    rintro _ _
    simp only [cK_]
    refine r_z 1 ?_
    refine r_c 8 (hsh) ?_
    refine a_z ?_
    have hQl' : Q.length + 1 ≤ i := by simpa using hQl
    refine r_m 5 ?_
    refine a_z ?_
    refine r_m 3 ?_
    refine a_z ?_
    refine ⟨(q :: (Q ++ [(R * UB + a) / D]), (R * UB + a) % D, i + 1), by simp only; omega, ⟨by simp only; omega, ?_, ?_, ?_, by simp at hQl ⊢; omega⟩, ?_⟩
    ·intro d hd
     rcases List.mem_append.1 (show d ∈ (q :: Q) ++ [(R * UB + a) / D] from hd) with hd | hd
     ·exact hQd d hd
     ·simp at hd; rw [hd]; exact s4
    ·simp only; rw [hPs, s2, ← hQ, ← hC_]; rfl
    ·simp only; rw [hPs, s3]
    ·simp only [cK_]
     have e : iE (q :: Q) ++ List.take 1 (List.drop 0 [[i64 ((R * UB + a) / D : Nat)]]) = iE (q :: (Q ++ [(R * UB + a) / D])) := by simp [iE]
     refine ax_ [(1, 6)] rfl rfl rfl ?_ (fun hs => au_f) (fun hs => ?_)
     ·repeat' (first | exact ShrL.nil | refine ShrL.cons rfl rfl rfl rfl (by first | (simp) | rfl | (simp; done) | (simp <;> omega)) ?_)
     ·repeat' (first | exact as_ | refine an_ rfl rfl rfl rfl ?_ ?_)
      all_goals (first | (exact az_ hs e (bw_ _)) | exact au_e)
  ·have hge : i = (zd A).length := by omega
   subst hge
   rw [List.take_length, hv_zd] at hQ hR
   cases Q with
   | nil =>
    simp only [dG_]
    refine ac_ (r_z 4 ?_)
    refine af_ rfl (fun h => ?_) (fun h => ?_)
    ·exact absurd h (by simp)
    ·refine al_ ⟨([], R), ⟨hQd, hQ, hR, hQl⟩, ?_⟩
     simp only [dG_]
     exact s_e []
   | cons q Q =>
    simp only [cK_]
    refine ac_ (r_z 4 ?_)
    refine af_ rfl (fun h => ?_) (fun h => ?_)
    ·exact absurd h (by simp)
    ·refine al_ ⟨(q :: Q, R), ⟨hQd, hQ, hR, hQl⟩, ?_⟩
     simp only [cK_]
     exact s_e []
 rintro ⟨Q, R⟩ ⟨hQd, hQ, hR, hQl⟩
 simp only at hQd hQ hR hQl
 have hsq := dJ_ Q (by omega)
 rw [cJ_ hQd, hQ] at hsq
 subst hR
 cases Q with
 | nil =>
  simp only [dG_]
  refine r_c 5 (hsq) ?_
  refine a_z ?_
  refine ae_ (Fin.many ⟨_, _, rfl, rfl, ⟨_, _, rfl, rfl, rfl⟩⟩ (nle rfl) ?_)
  exact ai_ (ar_ at_ (a4_ _)) (ai_ (ar_ at_ (a4_ _)) ap_)
 | cons q Q =>
  simp only [cK_]
  have hfull : List.take (Q.length + 1) (List.drop 0 (iE (q :: Q))) = iE (q :: Q) := by rw [List.drop_zero, List.take_of_length_le (by simp)]
  refine s_r 5 ?_
  refine a_1 ?_
  refine o_1 (.callS1 rfl rfl rfl (.shut rfl d_n (.nil)) rfl ((by rw [hfull]; exact hsq))) ?_
  refine a_z ?_
  refine ae_ (Fin.many ⟨_, _, rfl, rfl, ⟨_, _, rfl, rfl, rfl⟩⟩ (nle rfl) ?_)
  exact ai_ (ar_ at_ (a4_ _)) (ai_ (ar_ at_ (a4_ _)) ap_)
def zgS  : Nat × Nat → AState
 | (p, q) => ⟨[(4, .lptr 1 0 0), (5, .arr (iE (zd p))), (6, .arr (iE (zd q)))], [(1, some ⟨73, 2, [[i64 0, .emp]]⟩)], 2, 48⟩
theorem gp_  (p : Nat) (q : Nat) : zgS  (p, q) = ⟨[(4, .lptr 1 0 0), (5, .arr (iE (zd p))), (6, .arr (iE (zd q)))], [(1, some ⟨73, 2, [[i64 0, .emp]]⟩)], 2, 48⟩ := rfl
def zgW  : Nat × Nat → AState
 | (x, y) => ⟨[(4, .lptr 1 0 0), (7, i64 x), (8, i64 y)], [(1, some ⟨73, 2, [[i64 0, .emp]]⟩)], 2, 48⟩
theorem kf_  (x : Nat) (y : Nat) : zgW  (x, y) = ⟨[(4, .lptr 1 0 0), (7, i64 x), (8, i64 y)], [(1, some ⟨73, 2, [[i64 0, .emp]]⟩)], 2, 48⟩ := rfl
theorem ke_ (p q : Nat) : Nat.gcd q (p % q) = Nat.gcd p q := by
 rw [Nat.gcd_comm p q, Nat.gcd_rec q p, Nat.gcd_comm]
theorem kb_ {n : Nat} (h : (zd n).length ≤ 4) : n < 1152921504606846976 := by
 have h1 := hv_lt (zd_lt n)
 rw [hv_zd] at h1
 exact Nat.lt_of_lt_of_le h1 (Nat.pow_le_pow_right (n := 32768) (j := 4) (by decide) h)
theorem pH_ (x y : Int) (hx : bl x.natAbs ≤ 4398046511104) (hy : bl y.natAbs ≤ 4398046511104) : FSpec Tryz.prog 226 [.agg (zZ x), .agg (zZ y)] (.agg (zZ (Nat.gcd x.natAbs y.natAbs : Nat))) := by
 refine f_n Tryz.func226 ?_ ?_
 ·exact aa_ (aN_ x) (aa_ (aN_ y) ab_)
 refine r_z 3 ?_
 refine ac_ (r_d hmix 6 ?_)
 refine a_6 ?_
 refine aj_ (n_k ?_)
 refine aO_ (fun p : Nat => zgS (p, 0)) (fun p => p = Nat.gcd x.natAbs y.natAbs) ?_ ?_
 ·refine ah_ (ao_ zgS (fun v => v.2) (fun v => Nat.gcd v.1 v.2 = Nat.gcd x.natAbs y.natAbs ∧ bl v.1 ≤ 4398046511104 ∧ bl v.2 ≤ 4398046511104) (x.natAbs, y.natAbs) ⟨rfl, hx, hy⟩ ?_ ?_)
  ·simp only [gp_]
   exact s_e [(1, 4)]
  rintro ⟨p, q⟩ ⟨hg, hp, hq⟩
  simp only at hg hp hq
  have hzp := bd_ p
  have hzq := bd_ q
  have hlp := aR_ (b := UB) (by decide) p
  have hlq := aR_ (b := UB) (by decide) q
  rw [gp_]
  refine ac_ (r_z 3 ?_)
  refine af_ rfl (fun h => ?_) (fun h => ?_)
  ·have hq0 : 0 < q := by
    rcases Nat.eq_zero_or_pos q with e | e
    ·subst e; rw [f1_] at h; simp at h
    ·exact e
   refine ag_ (ah_ (aO_ (fun _ : Unit => zgS (p, q)) (fun _ => True) ?_ ?_))
   ·by_cases hl : (zd p).length ≤ 4
    ·by_cases hl2 : (zd q).length ≤ 4
     ·have hwp := kb_ hl
      have hwq := kb_ hl2
      have hsp := jG_ (zd p) hl (zd_lt p)
      have hsq := jG_ (zd q) hl2 (zd_lt q)
      rw [hv_zd] at hsp hsq
      refine s_r 8 ?_
      refine a_4 ?_
      refine y_g rfl (by simp; omega) (.move rfl) ?_
      first | refine y_g rfl (by simp; omega) (.lenD rfl rfl rfl rfl te_71.h) ?_ | refine y_g rfl (by simp; omega) (.lenI rfl rfl rfl rfl te_71.h) ?_ | refine y_g rfl (by simp; omega) (.lenP rfl rfl rfl rfl te_71.h) ?_ | refine y_g rfl (by simp; omega) (.lenC rfl rfl rfl rfl te_71.h) ?_ | refine y_g rfl (by simp; omega) (.lenR rfl rfl rfl rfl te_71.h) ?_ | refine y_g rfl (by simp; omega) (.len rfl rfl rfl rfl rfl te_71.h) ?_
      refine y_g rfl (by simp; omega) (.bin rfl rfl dl_) ?_
      refine o_0 (.pickT rfl (by simp; omega) rfl) ?_
      refine aj_ ?_
      refine af_ rfl (fun h1 => ?_) (fun h1 => ?_)
      ·refine r_c 6 (hsp) ?_
       refine c_s (hsq) ?_
       refine a_z ?_
       refine aO_ (fun v : Nat => zgW (v, 0)) (fun v => v = Nat.gcd x.natAbs y.natAbs) ?_ ?_
       ·refine ah_ (ao_ zgW (fun v => v.2) (fun v => Nat.gcd v.1 v.2 = Nat.gcd x.natAbs y.natAbs ∧ v.1 < 1152921504606846976 ∧ v.2 < 1152921504606846976) (p, q) ⟨hg, hwp, hwq⟩ ?_ ?_)
        ·simp only [kf_]
         exact s_e []
        rintro ⟨u, v⟩ ⟨huv, hu, hv⟩
        simp only at huv hu hv
        rw [kf_]
        refine ac_ (r_z 2 ?_)
        refine af_ rfl (fun h2 => ?_) (fun h2 => ?_)
        ·have hv0 : 0 < v := by simp at h2; omega
         refine ag_ (ah_ (r_d hmix 6 ?_))
         refine a_6 ?_
         refine aj_ (n_k ?_)
         refine ⟨(v, u % v), Nat.mod_lt _ hv0, ⟨(ke_ u v).trans huv, hv, Nat.lt_trans (Nat.mod_lt _ hv0) hv⟩, ?_⟩
         simp only [kf_]
         exact s_e []
        ·have hv0 : v = 0 := by simp at h2; omega
         subst hv0
         refine al_ ⟨u, by simpa using huv, ?_⟩
         simp only [kf_]
         exact s_e []
       rintro v hv
       rw [kf_]
       have hv64 : v < 1152921504606846976 := by
        rw [hv, ← hg]
        have h1 : Nat.gcd p q ≤ q := Nat.gcd_le_right _ hq0
        omega
       refine r_c 3 (dP_ v (by omega)) ?_
       refine a_z ?_
       refine ae_ (bH_ rfl rfl rfl tg_73.h ts_73.h (nle rfl) ?_ ?_)
       ·rw [← hv]; rfl
       ·exact aN_ _
      ·exact absurd h1 (by simp; omega)
     ·refine s_r 8 ?_
      refine a_4 ?_
      refine y_g rfl (by simp; omega) (.move rfl) ?_
      first | refine y_g rfl (by simp; omega) (.lenD rfl rfl rfl rfl te_71.h) ?_ | refine y_g rfl (by simp; omega) (.lenI rfl rfl rfl rfl te_71.h) ?_ | refine y_g rfl (by simp; omega) (.lenP rfl rfl rfl rfl te_71.h) ?_ | refine y_g rfl (by simp; omega) (.lenC rfl rfl rfl rfl te_71.h) ?_ | refine y_g rfl (by simp; omega) (.lenR rfl rfl rfl rfl te_71.h) ?_ | refine y_g rfl (by simp; omega) (.len rfl rfl rfl rfl rfl te_71.h) ?_
      refine y_g rfl (by simp; omega) (.bin rfl rfl dl_) ?_
      refine o_0 (.pickT rfl (by simp; omega) rfl) ?_
      refine aj_ ?_
      refine af_ rfl (fun h => ?_) (fun _ => ag_ ⟨(), trivial, ?_⟩)
      ·exact absurd h (by simp; omega)
      ·simp only [gp_]
       exact s_e []
    ·refine s_r 8 ?_
     refine a_4 ?_
     refine n_g rfl (by simp; omega) ?_
     refine n_g rfl (by simp; omega) ?_
     refine n_g rfl (by simp; omega) ?_
     refine o_0 (.pickF rfl (by simp; omega) rfl) ?_
     refine aj_ ?_
     refine af_ rfl (fun h => ?_) (fun _ => ag_ ⟨(), trivial, ?_⟩)
     ·cases h
     ·simp only [gp_]
      exact s_e []
   rintro _ _
   rw [gp_]
   refine r_c 8 (gS_ p q hq0 hp hq) ?_
   refine a_z ?_
   refine r_m 4 ?_
   refine a_z ?_
   refine ⟨(q, p % q), Nat.mod_lt _ hq0, ⟨(ke_ p q).trans hg, hq, ?_⟩, ?_⟩
   ·have := bG_ (Nat.le_of_lt (Nat.mod_lt p hq0))
    simp only; omega
   ·simp only [gp_]
    exact s_e []
  ·have hq0 : q = 0 := by
    refine zd_eq_nil.1 (List.length_eq_zero_iff.1 ?_)
    have := of_decide_eq_false h; omega
   subst hq0
   refine al_ ⟨p, by simpa using hg, ?_⟩
   simp only [gp_]
   exact s_e []
 rintro p hp
 rw [gp_]
 have hbp : bl p ≤ 4398046511104 := by
  rw [hp]
  rcases Nat.eq_zero_or_pos y.natAbs with e | e
  ·rw [e, Nat.gcd_zero_right]; exact hx
  ·exact Nat.le_trans (bG_ (Nat.gcd_le_right _ e)) hy
 have hzp := bd_ p
 have hlp := aR_ (b := UB) (by decide) p
 refine r_c 3 (ez_ 1 (zd p) (p : Int) (by omega) (zd_lt p) (by rw [hv_zd, Int.natAbs_natCast]) (fun h => by unfold sgZ; rw [if_neg h, if_neg (by omega)])) ?_
 refine a_z ?_
 refine ae_ (bH_ rfl rfl rfl tg_73.h ts_73.h (nle rfl) ?_ ?_)
 ·rw [← hp]; rfl
 ·exact aN_ _
theorem cw_ (x : RQ) (hx : rok x) : FSpec Tryz.prog 167 [.agg (rC x)] (.agg (zZ (x.1.den : Int))) := by
 refine f_n Tryz.func167 ?_ ?_
 ·exact aa_ (aV_ x) ab_
 refine r_z 2 ?_
 refine ac_ (r_z 4 ?_)
 obtain ⟨q, f⟩ := x
 have hp := q.den_pos
 cases f with
 | true =>
  have h0 : q = 0 := hx rfl
  subst h0
  refine af_ (t := true) rfl (fun h => ?_) (fun h => ?_)
  ·refine r_c 2 (dP_ 1 (by decide)) ?_
   refine a_z ?_
   exact ae_ (c_e (aN_ _))
  ·cases h
 | false =>
  refine af_ rfl (fun h => ?_) (fun h => ?_)
  ·exfalso
   have h1 : sgZ (q.den : Int) = 0 := by simpa using h
   rcases bi_ (q.den : Int) with ⟨a, b⟩ | ⟨a, b⟩ | ⟨a, b⟩ <;> omega
  ·refine ag_ (r_z 3 ?_)
   exact ae_ (c_e (aN_ _))
theorem zd_one : zd 1 = [1] := by
 unfold zd; rw [ch_ (by decide) (by decide), show 1 / UB = 0 by decide, a8_]; rfl
theorem zZ_one {g : Nat} (h : g = 1) : zZ (g : Int) = [i64 1, .arr [[i64 1]]] := by
 subst h
 show [i64 (sgZ 1), AV.arr (iE (zd 1))] = _
 rw [zd_one]; rfl
theorem oi_ {g : Nat} (h : (zd g).length = 1) : zd g = [g] := by
 obtain ⟨a, ha⟩ := List.length_eq_one_iff.1 h
 have h1 := hv_zd g
 rw [ha, hD_, kP_] at h1
 simp at h1
 rw [ha, h1]
theorem kg_ {n : Nat} (h : bl n ≤ 4398046511104) : (zd n).length ≤ 281474976710656 := by
 rw [bd_]
 have := aR_ (b := UB) (by decide) n
 omega
def ratS (n' : Int) (D g : Nat) : AState := ⟨[(2, .lptr 1 0 0), (3, .lptr 2 0 0), (4, .lptr 3 0 0), (5, .lptr 4 0 0)], [(1, some ⟨73, 2, [zZ n']⟩), (2, some ⟨73, 2, [zZ (D : Int)]⟩), (3, some ⟨75, 4, [[i64 0, .emp, i64 0, .emp]]⟩), (4, some ⟨73, 2, [zZ (g : Int)]⟩)], 5, 57⟩
theorem gY_ (n d : Int) (hd : d ≠ 0) (hn : bl n.natAbs ≤ 4398046511104) (hb : bl d.natAbs ≤ 4398046511104) : FSpec Tryz.prog 184 [.agg (zZ n), .agg (zZ d)] (.agg (rC (rq (Rat.divInt n d)))) := by
 refine f_n Tryz.func184 ?_ ?_
 ·exact aa_ (aN_ n) (aa_ (aN_ d) ab_)
 refine r_z 3 ?_
 refine aO_ (fun n' : Int => ⟨[(2, .lptr 1 0 0), (3, .lptr 2 0 0), (4, .lptr 3 0 0)], [(1, some ⟨73, 2, [zZ n']⟩), (2, some ⟨73, 2, [zZ (d.natAbs : Int)]⟩), (3, some ⟨75, 4, [[i64 0, .emp, i64 0, .emp]]⟩)], 4, 57⟩) (fun n' => n'.natAbs = n.natAbs ∧ Rat.divInt n d = mkRat n' d.natAbs) ?_ ?_
 ·refine r_z 3 ?_
  refine af_ rfl (fun h => ?_) (fun h => ?_)
  ·have hneg : d < 0 := by
    have h1 : sgZ d < 0 := by simpa using h
    rcases bi_ d with ⟨a, b⟩ | ⟨a, b⟩ | ⟨a, b⟩ <;> omega
   have e : -d = (d.natAbs : Int) := by omega
   have hdn := jM_ d
   rw [e] at hdn
   refine r_d hmix 6 ?_
   refine c_s (jM_ n) ?_
   refine c_s (hdn) ?_
   refine a_2 ?_
   refine aj_ (n_k ?_)
   refine ⟨-n, ⟨by omega, e3_ n d hneg⟩, ?_⟩
   exact s_e []
  ·have hpos : 0 < d := by
    have h1 : ¬ sgZ d < 0 := by simpa using h
    rcases bi_ d with ⟨a, b⟩ | ⟨a, b⟩ | ⟨a, b⟩ <;> omega
   have e : d = (d.natAbs : Int) := by omega
   refine ag_ ⟨n, ⟨rfl, e2_ n d hpos⟩, ?_⟩
   rw [← e]
   exact s_e []
 rintro n' ⟨hna, hv⟩
 have hD : 0 < d.natAbs := by omega
 obtain ⟨D, hDd⟩ : ∃ D, D = d.natAbs := ⟨_, rfl⟩
 rw [hv]
 rw [← hDd] at hb hD ⊢
 rw [← hna] at hn
 obtain ⟨g, hg⟩ : ∃ g, g = Nat.gcd n'.natAbs D := ⟨_, rfl⟩
 have hgp : 0 < g := by rw [hg]; exact Nat.gcd_pos_of_pos_right _ hD
 have hgD : g ≤ D := by rw [hg]; exact Nat.gcd_le_right _ hD
 have hbg := bG_ hgD
 have hnum : (mkRat n' D).num.natAbs = n'.natAbs / g := by rw [dU_ hD, cD_, hg]
 have hden : (mkRat n' D).den = D / g := by rw [(ew_ hD).2, hg]
 have hsg := oK_ (n := n') hD
 have hgc := pH_ n' (D : Int) hn (by rw [Int.natAbs_natCast]; exact hb)
 rw [Int.natAbs_natCast, ← hg] at hgc
 have hfin : rC (rq (mkRat n' D)) = zZ (sgn (decide (n' < 0)) (n'.natAbs / g)) ++ zZ ((D / g : Nat) : Int) := by
  rw [rC_rq, hden, dU_ hD, ← hg]
 rw [hfin]
 have hgn : bl (D / g) ≤ bl D := cp_ D g
 have hgn2 : bl (n'.natAbs / g) ≤ bl n'.natAbs := cp_ n'.natAbs g
 refine r_c 5 (hgc) ?_
 refine a_z ?_
 refine aO_ (fun _ : Unit => ratS n' D g) (fun _ => g ≠ 1) ?_ ?_
 ·by_cases h1 : g = 1
  ·rw [zZ_one h1]
   refine s_r 11 ?_
   refine a_5 ?_
   first | refine y_g rfl rfl (.fieldAddr_l rfl tf_73_1.h (by decide)) ?_ | refine y_g rfl rfl (.fieldAddr_a rfl tf_73_1.h (by decide)) ?_
   first | refine y_g rfl rfl (.load_l1 rfl rfl rfl tg_71.h rfl) ?_ | refine y_g rfl rfl (.load_a1 rfl rfl tg_71.h rfl) ?_
   first | refine y_g rfl rfl (.index_l rfl rfl (by omega) (by omega) te_71.h) ?_ | refine y_g rfl rfl (.index_a rfl rfl (by omega) rfl rfl te_71.h) ?_
   first | refine y_g rfl rfl (.load_l1 rfl rfl rfl tg_3.h rfl) ?_ | refine y_g rfl rfl (.load_a1 rfl rfl tg_3.h rfl) ?_
   refine y_g rfl rfl (.bin rfl rfl a2_) ?_
   refine o_0 (.pickT rfl rfl rfl) ?_
   refine aj_ ?_
   refine af_ rfl (fun h => ?_) (fun h => ?_)
   ·refine r_z 4 ?_
    refine ae_ ?_
    rw [h1, Nat.div_one, Nat.div_one, show sgn (decide (n' < 0)) n'.natAbs = n' by unfold sgn; by_cases h0 : n' < 0 <;> simp [h0] <;> omega]
    exact c_e (aq_ fun c hc => (List.mem_append.1 hc).elim (bt_ _ c) (bt_ _ c))
   ·exact absurd h (by decide)
  ·by_cases hl : (zd g).length = 1
   ·have hz := oi_ hl
    have hz2 : zZ (g : Int) = [i64 (sgZ (g : Int)), .arr (iE [g])] := by show [i64 (sgZ (g : Int)), AV.arr (iE (zd g))] = _; rw [hz]
    rw [hz2]
    refine s_r 11 ?_
    refine a_5 ?_
    first | refine y_g rfl rfl (.fieldAddr_l rfl tf_73_1.h (by decide)) ?_ | refine y_g rfl rfl (.fieldAddr_a rfl tf_73_1.h (by decide)) ?_
    first | refine y_g rfl rfl (.load_l1 rfl rfl rfl tg_71.h rfl) ?_ | refine y_g rfl rfl (.load_a1 rfl rfl tg_71.h rfl) ?_
    first | refine y_g rfl rfl (.index_l rfl rfl (by omega) (by omega) te_71.h) ?_ | refine y_g rfl rfl (.index_a rfl rfl (by omega) rfl rfl te_71.h) ?_
    first | refine y_g rfl rfl (.load_l1 rfl rfl rfl tg_3.h rfl) ?_ | refine y_g rfl rfl (.load_a1 rfl rfl tg_3.h rfl) ?_
    refine y_g rfl rfl (.bin rfl rfl a2_) ?_
    refine o_0 (.pickT rfl rfl rfl) ?_
    refine aj_ ?_
    refine af_ rfl (fun h => ?_) (fun h => ?_)
    ·exact absurd h (by simp; omega)
    ·refine ag_ ⟨(), h1, ?_⟩
     rw [← hz2]
     unfold ratS
     exact s_e [(4, 5)]
   ·refine s_r 11 ?_
    refine a_5 ?_
    refine n_g rfl (by simp; omega) ?_
    refine n_g rfl (by simp; omega) ?_
    refine n_g rfl (by simp; omega) ?_
    refine n_g rfl (by simp; omega) ?_
    refine n_g rfl (by simp; omega) ?_
    refine o_0 (.pickF rfl (by simp; omega) rfl) ?_
    refine aj_ ?_
    refine af_ rfl (fun h => ?_) (fun h => ?_)
    ·exact absurd h (by simp)
    ·refine ag_ ⟨(), h1, ?_⟩
     unfold ratS
     exact s_e [(4, 5)]
 rintro _ hg1
 unfold ratS
 have hzq := ez_ (sgZ n') (zd (n'.natAbs / g)) (sgn (decide (n' < 0)) (n'.natAbs / g)) (kg_ (by omega)) (zd_lt _) (by rw [hv_zd, cD_]) (fun h => by rw [← hsg, dU_ hD, ← hg])
 have hzd := ez_ 1 (zd (D / g)) ((D / g : Nat) : Int) (kg_ (by omega)) (zd_lt _) (by rw [hv_zd, Int.natAbs_natCast]) (fun h => by unfold sgZ; rw [if_neg h, if_neg (by omega)])
 refine r_c 10 (gS_ n'.natAbs g hgp hn (by omega)) ?_
 refine a_z ?_
 refine r_c 10 (gS_ D g hgp hb (by omega)) ?_
 refine a_z ?_
 refine r_c 8 (hzq) ?_
 refine c_s (hzd) ?_
 refine a_z ?_
 exact ae_ (c_e (aq_ fun c hc => (List.mem_append.1 hc).elim (bt_ _ c) (bt_ _ c)))
theorem zl_of {z : Int} {k : Nat} (h : bl z.natAbs ≤ k) (hk : k ≤ 8796093022208) : zl z := Nat.le_trans h hk
theorem dc_ (n : Int) (h : -9223372036854775808 ≤ n ∧ n ≤ 9223372036854775807) : FSpec Tryz.prog 51 [i64 n] (.agg (rC (rq (n : Rat)))) := by
 rw [rC_rq]
 refine f_n Tryz.func51 ?_ ?_
 ·exact aa_ (ad_ _) ab_
 refine r_z 1 ?_
 refine r_c 5 (dP_ n h) ?_
 refine c_s (dP_ 1 (by decide)) ?_
 refine a_z ?_
 exact ae_ (c_e (aq_ fun c hc => (List.mem_append.1 hc).elim (bt_ _ c) (bt_ _ c)))
theorem fs_rOf (n d : Int) (hd : d ≠ 0) (h : -9223372036854775808 ≤ n ∧ n ≤ 9223372036854775807) (h2 : -9223372036854775808 ≤ d ∧ d ≤ 9223372036854775807) : FSpec Tryz.prog 118 [i64 n, i64 d] (.agg (rC (rq (Rat.divInt n d)))) := by
 have hb : ∀ z : Int, -9223372036854775808 ≤ z → z ≤ 9223372036854775807 → bl z.natAbs ≤ 4398046511104 := fun z h1 h2 => Nat.le_trans (bl_le (k := 64) (by omega)) (by decide)
 refine f_n Tryz.func118 ?_ ?_
 ·exact aa_ (ad_ _) (aa_ (ad_ _) ab_)
 refine r_z 1 ?_
 refine r_c 6 (dP_ n h) ?_
 refine c_s (dP_ d h2) ?_
 refine c_s (gY_ n d hd (hb n h.1 h.2) (hb d h2.1 h2.2)) ?_
 refine a_z ?_
 exact ae_ (c_e (aV_ _))
theorem kS_ (n : Int) : FSpec Tryz.prog 225 [.agg (zZ n)] (.agg (rC (rq (n : Rat)))) := by
 rw [rC_rq]
 refine f_n Tryz.func225 ?_ ?_
 ·exact aa_ (aN_ _) ab_
 refine r_z 2 ?_
 refine ac_ (r_d hmix 4 ?_)
 refine c_s (dP_ 1 (by decide)) ?_
 refine a_2 ?_
 refine aj_ (n_k ?_)
 exact ae_ (c_e (aq_ fun c hc => (List.mem_append.1 hc).elim (bt_ _ c) (bt_ _ c)))
theorem fs_rNum (x : RQ) : FSpec Tryz.prog 227 [.agg (rC x)] (.agg (zZ x.1.num)) := by
 refine f_n Tryz.func227 ?_ ?_
 ·exact aa_ (aV_ _) ab_
 refine r_z 2 ?_
 refine r_z 3 ?_
 exact ae_ (c_e (aN_ _))
theorem fs_rDen (x : RQ) (hx : rok x) : FSpec Tryz.prog 224 [.agg (rC x)] (.agg (zZ (x.1.den : Int))) := by
 refine f_n Tryz.func224 ?_ ?_
 ·exact aa_ (aV_ _) ab_
 refine r_z 2 ?_
 refine r_c 3 (cw_ x hx) ?_
 refine a_z ?_
 exact ae_ (c_e (aN_ _))
theorem fs_rNeg (x : RQ) (hx : rok x) : FSpec Tryz.prog 112 [.agg (rC x)] (.agg (rC (rq (-x.1)))) := by
 rw [rC_rq, Rat.neg_num, Rat.neg_den]
 refine f_n Tryz.func112 ?_ ?_
 ·exact aa_ (aV_ _) ab_
 refine r_z 2 ?_
 refine ac_ (r_d hmix 7 ?_)
 refine c_s (jM_ x.1.num) ?_
 refine c_s (cw_ x hx) ?_
 refine a_2 ?_
 refine aj_ (n_k ?_)
 exact ae_ (c_e (aq_ fun c hc => (List.mem_append.1 hc).elim (bt_ _ c) (bt_ _ c)))
theorem pA_ (x : RQ) (hx : rok x) : FSpec Tryz.prog 149 [.agg (rC x)] (.agg (rC (rq (absQ x.1)))) := by
 rw [rC_rq, j7_, j8_]
 refine f_n Tryz.func149 ?_ ?_
 ·exact aa_ (aV_ _) ab_
 refine r_z 2 ?_
 refine ac_ (r_d hmix 7 ?_)
 refine c_s (fs_ZAbs x.1.num) ?_
 refine c_s (cw_ x hx) ?_
 refine a_2 ?_
 refine aj_ (n_k ?_)
 exact ae_ (c_e (aq_ fun c hc => (List.mem_append.1 hc).elim (bt_ _ c) (bt_ _ c)))
theorem gU_ (x : RQ) : FSpec Tryz.prog 138 [.agg (rC x)] (i64 (sgZ x.1.num)) := by
 refine f_n Tryz.func138 ?_ ?_
 ·exact aa_ (aV_ _) ab_
 refine r_z 2 ?_
 refine r_z 4 ?_
 exact ae_ (t_e (ad_ _))
theorem gf_ (x y : RQ) (hx : rok x) (hy : rok y) (h : qs x.1 + qs y.1 ≤ 1099511627776) : FSpec Tryz.prog 117 [.agg (rC x), .agg (rC y)] (.agg (rC (rq (x.1 + y.1)))) := by
 obtain ⟨a, fa⟩ := x
 obtain ⟨b, fb⟩ := y
 simp only at h ⊢
 have hp := ic_ a b
 have h1 := bJ_ a; have h2 := bv_ a; have h3 := bJ_ b; have h4 := bv_ b
 have e1 := bk_ (x := a.num) (y := b.den) h1 (by simpa using h4)
 have e2 := bk_ (x := b.num) (y := a.den) h3 (by simpa using h2)
 have e3 := hp.1
 have e4 := hp.2
 have hd : (a.den : Int) * b.den ≠ 0 := by have := e4_ a b; rw [← Int.natCast_mul]; omega
 have e : a + b = Rat.divInt (a.num * b.den + b.num * a.den) (a.den * b.den) := by
  rw [id_, ← Int.natCast_mul, ← Rat.divInt_ofNat]
 rw [e]
 have e5 : bl ((a.den : Int) * b.den).natAbs ≤ qs a + qs b := by rw [← Int.natCast_mul, Int.natAbs_natCast]; exact e4
 refine f_n Tryz.func117 ?_ ?_
 ·exact aa_ (aV_ _) (aa_ (aV_ _) ab_)
 refine r_z 3 ?_
 refine ac_ (r_d hmix 18 ?_)
 refine c_s (cw_ (b, fb) hy) ?_
 refine c_s (dy_ a.num b.den (zl_of h1 (by omega)) (zl_of (by simpa using h4) (by omega))) ?_
 refine c_s (cw_ (a, fa) hx) ?_
 refine c_s (dy_ b.num a.den (zl_of h3 (by omega)) (zl_of (by simpa using h2) (by omega))) ?_
 refine c_s (pI_ (a.num * b.den) (b.num * a.den) (zl_of e1 (by omega)) (zl_of e2 (by omega))) ?_
 refine c_s (cw_ (a, fa) hx) ?_
 refine c_s (cw_ (b, fb) hy) ?_
 refine c_s (dy_ a.den b.den (zl_of (by simpa using h2) (by omega)) (zl_of (by simpa using h4) (by omega))) ?_
 refine c_s (gY_ (a.num * b.den + b.num * a.den) (a.den * b.den) hd (by omega) (by omega)) ?_
 refine a_1 ?_
 refine aj_ (n_k ?_)
 exact ae_ (c_e (aV_ _))
theorem hH_ (x y : RQ) (hx : rok x) (hy : rok y) (h : qs x.1 + qs y.1 ≤ 1099511627776) : FSpec Tryz.prog 103 [.agg (rC x), .agg (rC y)] (.agg (rC (rq (x.1 * y.1)))) := by
 obtain ⟨a, fa⟩ := x
 obtain ⟨b, fb⟩ := y
 simp only at h ⊢
 have hp := hr_ a b
 have h1 := bJ_ a; have h2 := bv_ a; have h3 := bJ_ b; have h4 := bv_ b
 have e3 := hp.1
 have e4 := hp.2
 have hd : (a.den : Int) * b.den ≠ 0 := by have := e4_ a b; rw [← Int.natCast_mul]; omega
 have e : a * b = Rat.divInt (a.num * b.num) (a.den * b.den) := by
  rw [ev_, ← Int.natCast_mul, ← Rat.divInt_ofNat]
 rw [e]
 have e5 : bl ((a.den : Int) * b.den).natAbs ≤ qs a + qs b := by rw [← Int.natCast_mul, Int.natAbs_natCast]; exact e4
 refine f_n Tryz.func103 ?_ ?_
 ·exact aa_ (aV_ _) (aa_ (aV_ _) ab_)
 refine r_z 3 ?_
 refine ac_ (r_d hmix 12 ?_)
 refine c_s (dy_ a.num b.num (zl_of h1 (by omega)) (zl_of h3 (by omega))) ?_
 refine c_s (cw_ (a, fa) hx) ?_
 refine c_s (cw_ (b, fb) hy) ?_
 refine c_s (dy_ a.den b.den (zl_of (by simpa using h2) (by omega)) (zl_of (by simpa using h4) (by omega))) ?_
 refine c_s (gY_ (a.num * b.num) (a.den * b.den) hd (by omega) (by omega)) ?_
 refine a_1 ?_
 refine aj_ (n_k ?_)
 exact ae_ (c_e (aV_ _))
theorem jH_ (x y : RQ) (hx : rok x) (hy : rok y) (hy0 : y.1 ≠ 0) (h : qs x.1 + qs y.1 ≤ 1099511627776) : FSpec Tryz.prog 106 [.agg (rC x), .agg (rC y)] (.agg (rC (rq (x.1 / y.1)))) := by
 obtain ⟨a, fa⟩ := x
 obtain ⟨b, fb⟩ := y
 simp only at h hy0 ⊢
 have h1 := bJ_ a; have h2 := bv_ a; have h3 := bJ_ b; have h4 := bv_ b
 have e1 := bk_ (x := a.num) (y := b.den) h1 (by simpa using h4)
 have e2 := bk_ (x := a.den) (y := b.num) (by simpa using h2) h3
 have hn0 : b.num ≠ 0 := fun e => hy0 (Rat.num_eq_zero.1 e)
 have hd : (a.den : Int) * b.num ≠ 0 := Int.mul_ne_zero (by have := a.den_pos; omega) hn0
 rw [dZ_]
 refine f_n Tryz.func106 ?_ ?_
 ·exact aa_ (aV_ _) (aa_ (aV_ _) ab_)
 refine r_z 3 ?_
 refine ac_ (r_d hmix 12 ?_)
 refine c_s (cw_ (b, fb) hy) ?_
 refine c_s (dy_ a.num b.den (zl_of h1 (by omega)) (zl_of (by simpa using h4) (by omega))) ?_
 refine c_s (cw_ (a, fa) hx) ?_
 refine c_s (dy_ a.den b.num (zl_of (by simpa using h2) (by omega)) (zl_of h3 (by omega))) ?_
 refine c_s (gY_ (a.num * b.den) (a.den * b.num) hd (by omega) (by omega)) ?_
 refine a_1 ?_
 refine aj_ (n_k ?_)
 exact ae_ (c_e (aV_ _))
theorem px_ (x y : RQ) (hx : rok x) (hy : rok y) (h : qs x.1 + qs y.1 ≤ 1099511627776) : FSpec Tryz.prog 82 [.agg (rC x), .agg (rC y)] (i64 (cmpQ x.1 y.1)) := by
 obtain ⟨a, fa⟩ := x
 obtain ⟨b, fb⟩ := y
 simp only at h ⊢
 have h1 := bJ_ a; have h2 := bv_ a; have h3 := bJ_ b; have h4 := bv_ b
 have e1 := bk_ (x := a.num) (y := b.den) h1 (by simpa using h4)
 have e2 := bk_ (x := b.num) (y := a.den) h3 (by simpa using h2)
 have e : cmpQ a b = cmpZ (a.num * b.den) (b.num * a.den) := by
  rw [cmpQ_eq]; unfold cmpZ
  obtain ⟨u, hu⟩ : ∃ u, u = a.num * (b.den : Int) := ⟨_, rfl⟩
  obtain ⟨v, hv⟩ : ∃ v, v = b.num * (a.den : Int) := ⟨_, rfl⟩
  rw [← hu, ← hv]
  split
  ·rfl
  ·split <;> split <;> omega
 rw [e]
 refine f_n Tryz.func82 ?_ ?_
 ·exact aa_ (aV_ _) (aa_ (aV_ _) ab_)
 refine r_z 3 ?_
 refine ac_ (r_d hmix 12 ?_)
 refine c_s (cw_ (b, fb) hy) ?_
 refine c_s (dy_ a.num b.den (zl_of h1 (by omega)) (zl_of (by simpa using h4) (by omega))) ?_
 refine c_s (cw_ (a, fa) hx) ?_
 refine c_s (dy_ b.num a.den (zl_of h3 (by omega)) (zl_of (by simpa using h2) (by omega))) ?_
 refine c_s (fs_ZCmp (a.num * b.den) (b.num * a.den) (zl_of e1 (by omega)) (zl_of e2 (by omega))) ?_
 refine a_1 ?_
 refine aj_ (n_k ?_)
 exact ae_ (t_e (ad_ _))
theorem pad9_pd {x : Nat} (h : x < 1000000000) : pad9 x = pd 9 x := by
 by_cases h0 : x = 0
 ·subst h0; decide +kernel
 ·rw [pd_dec 9 x (by omega) h]; rfl
theorem os_ : ∀ (n m : Nat), m ≤ n → 0 < m → txD (digs MB m).reverse = Lib.decDigits m
 | 0, m, h, h0 => by omega
 | n + 1, m, h, h0 => by
  have hb : MB = 1000000000 := rfl
  rw [ch_ (by decide) h0, List.reverse_cons]
  by_cases hm : m < MB
  ·rw [Nat.div_eq_of_lt hm, a8_, Nat.mod_eq_of_lt hm]; simp [txD]
  ·have hd : 0 < m / MB := Nat.div_pos (by omega) (by decide)
   have hne : (digs MB (m / MB)).reverse ≠ [] := fun e => by
    have := (cC_ (b := MB) (by decide)).1 (List.reverse_eq_nil_iff.1 e)
    omega
   have hlt : m % MB < 1000000000 := Nat.mod_lt m (by decide)
   rw [mq_ hne, os_ n (m / MB) (by have := Nat.div_lt_self h0 (by decide : 1 < MB); omega) hd, pad9_pd hlt, ← lf_ 9 (m / MB) (m % MB) hd hlt]
   congr 1
   show m / 1000000000 * 1000000000 + m % 1000000000 = m
   omega
theorem pb_ (m : Nat) : mtx m = Lib.decDigits m := by
 unfold mtx
 split
 ·rename_i h; subst h; decide +kernel
 ·exact os_ m m (Nat.le_refl _) (by omega)
def ztx (z : Int) : List UInt8 := (if z < 0 then [45] else []) ++ Lib.decDigits z.natAbs
theorem qtx_eq (q : Rat) : qtx q = ztx q.num ++ (if q.den = 1 then [] else 47 :: Lib.decDigits q.den) := by
 unfold qtx ztx
 rw [pb_, pb_]
theorem iQ_ (n : Nat) : (Lib.decDigits n).length ≤ bl n + 1 := by
 rw [Lib.decDigits_length]
 have h : n < 10 ^ (bl n + 1) := Nat.lt_of_lt_of_le (lt_bl n) (Nat.le_trans (Nat.pow_le_pow_left (by decide : 2 ≤ 10) _) (Nat.pow_le_pow_right (by decide) (by omega)))
 exact lM_ (bl n) n h
theorem first_text {c : UInt8} {l : List UInt8} : ∀ w, (Instr.index 9 (.string ⟨(c :: l).toArray⟩) (.int .i64 0)).run Tryz.prog w = .ok (.int .u8 c.toNat) w := fun w => by
 simp [Instr.index, asIntOf, run_underlying dr_, go_sem]
 rfl
theorem oy_ (c : UInt8) (l : List UInt8) : ∀ w, (Instr.sliceAt 9 (.string ⟨(c :: l).toArray⟩) (some (.int .i64 1)) none none).run Tryz.prog w = .ok (.string ⟨l.toArray⟩) w := fun w => by
 have b1 : ∀ (i y : Nat) (c : BoundsCode), i ≤ y → (Instr.sliceBound (.int .i64 (i : Int)) y c).run Tryz.prog w = .ok i w := fun i y c hi => b1_ hi c w
 have e : (⟨(c :: l).toArray⟩ : ByteArray).extract 1 (⟨(c :: l).toArray⟩ : ByteArray).size = ⟨l.toArray⟩ := by
  apply ByteArray.ext; simp [ByteArray.size]
 have hr : (Instr.slice 9 (.string ⟨(c :: l).toArray⟩) (some (.int .i64 ((1 : Nat) : Int))) none none).run Tryz.prog w = .ok (.string ⟨l.toArray⟩) w := by
  have hs : 1 ≤ (⟨(c :: l).toArray⟩ : ByteArray).size := by simp [ByteArray.size]
  have b2 := b1 1 (⟨(c :: l).toArray⟩ : ByteArray).size .sliceB hs
  rw [show ((1 : Nat) : Int) = 1 from rfl] at b2
  simp [Instr.slice, run_underlying dr_, Instr.sliceBounds, b2, Result.andThen, e]
 unfold Instr.sliceAt
 rw [Sem.run_bind, run_underlying dr_]
 exact hr
theorem dig_text (d : Nat) (zl zh : Int) (hd : d < 10) (el : zl = (d : Int)) (eh : zh = (d : Int) + 1) : ∀ w, (Instr.sliceAt 9 (.string ⟨#[48, 49, 50, 51, 52, 53, 54, 55, 56, 57]⟩) (some (.int .i64 zl)) (some (.int .i64 zh)) none).run Tryz.prog w = .ok (.string ⟨[UInt8.ofNat (48 + d)].toArray⟩) w := fun w => by
 rw [jW_ _ d (d + 1) zl zh el (by omega) (by omega) (by exact Nat.le_trans (m := 10) (by omega) (by decide)) w]
 have key : ∀ d, d < 10 → (ByteArray.mk #[48, 49, 50, 51, 52, 53, 54, 55, 56, 57]).extract d (d + 1) = ⟨[UInt8.ofNat (48 + d)].toArray⟩ := by decide
 rw [key d hd]
theorem zd_sm {m : Nat} (h0 : 0 < m) (h : m < 32768) : zd m = [m] := by
 have hb : UB = 32768 := rfl
 unfold zd
 rw [ch_ (by decide) h0, Nat.mod_eq_of_lt (by omega), Nat.div_eq_of_lt (by omega), a8_]; rfl
def ztO (z : Int) (n : Nat) : Nat → AState
 | k => ⟨[(1, .aptr [zZ z] 0 0), (3, tx (pd (4 * k) n)), (4, .arr (iE (zd (n / 10 ^ (4 * k)))))], [], 2, 51⟩
theorem ztO_mk (z : Int) (n : Nat) (k : Nat) : ztO z n k = ⟨[(1, .aptr [zZ z] 0 0), (3, tx (pd (4 * k) n)), (4, .arr (iE (zd (n / 10 ^ (4 * k)))))], [], 2, 51⟩ := rfl
def ztI (z : Int) (r B : Nat) (T : List UInt8) : Nat → AState
 | i => ⟨[(1, .aptr [zZ z] 0 0), (3, tx (pd i r ++ T)), (5, .arr (iE (zd B))), (7, i64 ((r / 10 ^ i : Nat) : Int)), (8, i64 i)], [], 2, 51⟩
theorem ml_ (z : Int) (r B : Nat) (T : List UInt8) (i : Nat) : ztI z r B T i = ⟨[(1, .aptr [zZ z] 0 0), (3, tx (pd i r ++ T)), (5, .arr (iE (zd B))), (7, i64 ((r / 10 ^ i : Nat) : Int)), (8, i64 i)], [], 2, 51⟩ := rfl
def ztD (z : Int) : List UInt8 → AState
 | T => ⟨[(1, .aptr [zZ z] 0 0), (3, tx T)], [], 2, 51⟩
theorem ka_ (z : Int) (T : List UInt8) : ztD z T = ⟨[(1, .aptr [zZ z] 0 0), (3, tx T)], [], 2, 51⟩ := rfl
theorem m5_ (z : Int) (h : bl z.natAbs ≤ 68719476736) : FSpec Tryz.prog 212 [.agg (zZ z)] (tx (ztx z)) := by
 have hcz : Closed (.aptr [zZ z] 0 0) := aP_ (bt_ z)
 refine f_n Tryz.func212 ?_ ?_
 ·exact aa_ (aN_ z) ab_
 refine r_z 2 ?_
 refine AWp.ent (st' := ⟨[(1, .aptr [zZ z] 0 0)], [], 2, 51⟩) ?_ ?_
 ·exact s_e []
 by_cases h0 : z = 0
 ·subst h0
  refine ac_ (s_r 3 ?_)
  refine a_2 ?_
  refine o_0 (.bin rfl rfl (vT a2_ ((by decide)))) ?_
  refine aj_ ?_
  refine af_ rfl (fun h1 => ?_) (fun h1 => ?_)
  ·refine r_z 1 ?_
   exact ae_ (aD_ rfl (by rw [show ztx 0 = [48] by unfold ztx; rw [Int.natAbs_zero, Lib.decDigits_one (by decide)]; rfl]; rfl) (ad_ _))
  ·cases h1
 refine ac_ (s_r 3 ?_)
 refine a_2 ?_
 refine o_0 (.bin rfl rfl (vF a2_ ((by unfold sgZ; rw [if_neg h0]; split <;> rfl)))) ?_
 refine aj_ ?_
 refine cF (ag_ (r_z 1 ?_))
 refine r_z 3 ?_
 obtain ⟨n, hn⟩ : ∃ n, n = z.natAbs := ⟨_, rfl⟩
 have hn0 : 0 < n := by omega
 rw [← hn] at h
 have hzd := bd_ n
 have hdl := aR_ (b := UB) (by decide) n
 refine aO_ (ztD z) (fun T => ∃ k, T = pd k n ∧ n < 10 ^ k ∧ k ≤ 4 * (bl n + 1)) ?_ ?_
 ·refine ah_ (ao_ (ztO z n) (fun k => n / 10 ^ (4 * k)) (fun k => k = 0 ∨ 0 < n / 10 ^ (4 * (k - 1))) 0 (.inl rfl) ?_ ?_)
  ·simp only [ztO_mk]
   have e : n / 10 ^ (4 * 0) = n := by simp
   rw [e, hn]
   exact s_f []
  rintro k hk
  simp only [ztO_mk]
  obtain ⟨A, hA⟩ : ∃ A, A = n / 10 ^ (4 * k) := ⟨_, rfl⟩
  have hk4 : 4 * k ≤ bl n + 4 := by
   rcases hk with hk | hk
   ·omega
   ·have h1 : 10 ^ (4 * (k - 1)) ≤ n := by
     apply Nat.le_of_not_lt
     intro hlt; rw [Nat.div_eq_of_lt hlt] at hk; omega
    have h2 := lt_bl n
    have h3 : 2 ^ (4 * (k - 1)) ≤ 10 ^ (4 * (k - 1)) := Nat.pow_le_pow_left (by decide) _
    have h4 : 4 * (k - 1) < bl n := (Nat.pow_lt_pow_iff_right (a := 2) (by decide)).1 (Nat.lt_of_le_of_lt (Nat.le_trans h3 h1) h2)
    omega
  rw [← hA]
  have hAb : bl A ≤ 68719476736 := Nat.le_trans (bG_ (by rw [hA]; exact Nat.div_le_self _ _)) h
  by_cases hA0 : A = 0
  ·have hz : (zd A).length = 0 := by rw [hA0, f1_]; rfl
   refine ac_ (q_z 3 ?_)
   refine cF (al_ ⟨pd (4 * k) n, ⟨4 * k, rfl, ?_, by omega⟩, ?_⟩)
   ·rw [hA0] at hA
    exact (Nat.div_eq_zero_iff.1 hA.symm).resolve_left (by have := Nat.one_le_pow (4 * k) 10 (by decide); omega)
   ·simp only [ka_]
    exact s_f []
  have hz : 0 < (zd A).length := List.length_pos_iff.2 fun e => hA0 (zd_eq_nil.1 e)
  refine ac_ (q_z 3 ?_)
  refine cT (ag_ (ah_ ?_))
  have hov := gS_ A 10000 (by decide) (by omega) (by decide)
  rw [zd_sm (by decide) (by decide : 10000 < 32768)] at hov
  obtain ⟨r, hr⟩ : ∃ r, r = A % 10000 := ⟨_, rfl⟩
  obtain ⟨B, hB⟩ : ∃ B, B = A / 10000 := ⟨_, rfl⟩
  rw [← hr, ← hB] at hov
  have hr4 : r < 10000 := by rw [hr]; exact Nat.mod_lt _ (by decide)
  have hzr : (zd r).length ≤ 4 := by
   rw [bd_]; exact b9_ (b := UB) (by decide) (k := 4) (Nat.lt_trans hr4 (by decide))
  have hsh := jG_ (zd r) hzr (zd_lt r)
  rw [hv_zd] at hsh
  obtain ⟨T, hT⟩ : ∃ T, T = pd (4 * k) n := ⟨_, rfl⟩
  have hTl : T.length = 4 * k := by rw [hT, kE_]
  rw [← hT]
  refine s_r 8 ?_
  refine a_2 ?_
  refine o_1 (.callS1 rfl rfl rfl (.keep (.shut rfl d_n (.nil))) rfl (hov)) ?_
  refine a_z ?_
  refine r_c 3 (hsh) ?_
  refine a_z ?_
  refine ac_ (r_z 1 ?_)
  refine au_ (ztI z r B T) (fun i => i = 4) ?_ ?_
  ·refine ah_ (ao_ (ztI z r B T) (fun i => 4 - i) (fun i => i ≤ 4) 0 (by decide) ?_ ?_)
   ·simp only [ml_]
    have e : ((r / 10 ^ 0 : Nat) : Int) = r := by simp
    rw [e]
    exact s_f []
   rintro i hi
   simp only [ml_]
   by_cases h4 : i < 4
   ·refine ac_ (q_z 2 ?_)
    refine cT (ag_ (ac_ (ah_ ?_)))
    obtain ⟨c, hc⟩ : ∃ c, c = r / 10 ^ i := ⟨_, rfl⟩
    rw [← hc]
    have hcr : c ≤ r := by rw [hc]; exact Nat.div_le_self _ _
    have hsz : [UInt8.ofNat (48 + c % 10)].length + (pd i r ++ T).length ≤ 9223372036854775807 := by
     rw [List.length_append, kE_, hTl]; simp only [List.length_cons, List.length_nil]; omega
    refine s_r 9 ?_
    refine a_5 ?_
    refine o_0 (.slice_v rfl rfl rfl rfl (dig_text (c % 10) _ _ (by omega) (by omega) (by omega))) ?_
    refine a_1 ?_
    refine o_0 (.bin rfl rfl (bO_ (l := [UInt8.ofNat (48 + c % 10)]) (m := pd i r ++ T) hsz)) ?_
    refine a_z ?_
    refine r_m 3 ?_
    refine a_z ?_
    refine r_m 3 ?_
    refine a_z ?_
    refine ⟨i + 1, by omega, h4, ?_⟩
    have e1 : pd (i + 1) r ++ T = [UInt8.ofNat (48 + c % 10)] ++ (pd i r ++ T) := by rw [pd_front, ← hc]; rfl
    have e2 : ((r / 10 ^ (i + 1) : Nat) : Int) = (c : Int) / 10 := by rw [Nat.pow_succ, ← Nat.div_div_eq_div_mul, ← hc]; omega
    show SEnt _ ⟨[(1, .aptr [zZ z] 0 0), (3, tx (pd (i + 1) r ++ T)), (5, .arr (iE (zd B))), (7, i64 ((r / 10 ^ (i + 1) : Nat) : Int)), (8, i64 ((i + 1 : Nat) : Int))], [], 2, _⟩
    rw [e1, e2]
    exact s_f []
   ·refine ac_ (q_z 2 ?_)
    refine cF (al_ ⟨i, by omega, ?_⟩)
    simp only [ml_]
    exact s_f []
  rintro _ rfl
  rw [ml_]
  refine r_m 2 ?_
  refine a_z ?_
  have e0 : n / 10 ^ (4 * (k + 1)) = B := by rw [hB, hA, Nat.div_div_eq_div_mul, show 4 * (k + 1) = 4 * k + 4 by omega, Nat.pow_add]
  refine ⟨k + 1, ?_, .inr ?_, ?_⟩
  ·show n / 10 ^ (4 * (k + 1)) < A
   rw [e0]; omega
  ·show 0 < n / 10 ^ (4 * (k + 1 - 1))
   rw [Nat.add_sub_cancel, ← hA]; omega
  ·have e1 : pd (4 * (k + 1)) n = pd 4 r ++ T := by
    rw [show 4 * (k + 1) = 4 + 4 * k by omega, pd_add, ← hA, ← hT, hr]
    congr 1
    exact (pd_mod 4 A).symm
   show SEnt _ ⟨[(1, .aptr [zZ z] 0 0), (3, tx (pd (4 * (k + 1)) n)), (4, .arr (iE (zd (n / 10 ^ (4 * (k + 1))))))], [], 2, _⟩
   rw [e0, e1]
   exact s_f []
 rintro T ⟨K, hT, hK, hKl⟩
 have hdz : dropZ T = Lib.decDigits n := by rw [hT]; exact nj_ K n hn0 hK
 clear hT hK hKl
 simp only [ka_]
 refine aO_ (ztD z) (fun T => T = Lib.decDigits n) ?_ ?_
 ·refine ah_ (ao_ (ztD z) (fun T => T.length) (fun T => dropZ T = Lib.decDigits n) T hdz ?_ ?_)
  ·simp only [ka_]
   exact s_f []
  intro T hT
  simp only [ka_]
  cases T with
  | nil => exact absurd hT.symm (gz_ n)
  | cons c T =>
   rw [dropZ] at hT
   by_cases hc : c = 48
   ·rw [if_pos hc] at hT
    refine ac_ (s_r 3 ?_)
    refine a_1 ?_
    refine o_0 (.index_s rfl rfl first_text) ?_
    refine o_0 (.bin rfl rfl (vT a2_ ((by rw [hc]; rfl)))) ?_
    refine aj_ ?_
    refine cT (ag_ (ah_ (r_m 3 ?_)))
    refine a_1 ?_
    refine o_0 (.slice_v rfl rfl rfl rfl (oy_ c T)) ?_
    refine a_z ?_
    refine ⟨T, by simp, hT, ?_⟩
    show SEnt _ ⟨[(1, .aptr [zZ z] 0 0), (3, tx T)], [], 2, _⟩
    exact s_f []
   ·rw [if_neg hc] at hT
    have hne : (((c.toNat : Nat) : Int) == 48) = false := by
     rw [beq_eq_false_iff_ne]
     intro e
     exact hc (UInt8.toNat_inj.1 (by have : c.toNat = 48 := by omega
                                     exact this))
    refine ac_ (s_r 3 ?_)
    refine a_1 ?_
    refine o_0 (.index_s rfl rfl first_text) ?_
    refine o_0 (.bin rfl rfl (vF a2_ (hne))) ?_
    refine aj_ ?_
    refine cF (al_ ⟨c :: T, hT, ?_⟩)
    show SEnt _ ⟨[(1, .aptr [zZ z] 0 0), (3, tx (c :: T))], [], 2, _⟩
    exact s_f []
 rintro T rfl
 simp only [ka_]
 have hdl2 := iQ_ n
 by_cases hneg : z < 0
 ·refine ac_ (s_r 3 ?_)
  refine a_2 ?_
  refine o_0 (.bin rfl rfl (vT bZ_ ((by unfold sgZ; rw [if_neg h0, if_pos hneg]; rfl)))) ?_
  refine aj_ ?_
  refine cT (s_r 3 ?_)
  refine a_1 ?_
  refine o_0 (.bin rfl rfl (bO_ (l := [45]) (by simp; omega))) ?_
  refine a_z ?_
  exact ae_ (aD_ rfl (by unfold ztx; rw [if_pos hneg, hn]) (ad_ _))
 ·refine ac_ (s_r 3 ?_)
  refine a_2 ?_
  refine o_0 (.bin rfl rfl (vF bZ_ ((by unfold sgZ; rw [if_neg h0, if_neg hneg]; rfl)))) ?_
  refine aj_ ?_
  refine cF (ag_ (r_z 2 ?_))
  exact ae_ (aD_ rfl (by unfold ztx; rw [if_neg hneg, hn]; rfl) (ad_ _))
theorem fs_ends (g : Nat) (op : Rat → Rat → Rat) (a b c d : Rat) (h1 : FSpec Tryz.prog g [.agg (qC a), .agg (qC c)] (.agg (qC (op a c)))) (h2 : FSpec Tryz.prog g [.agg (qC a), .agg (qC d)] (.agg (qC (op a d)))) (h3 : FSpec Tryz.prog g [.agg (qC b), .agg (qC c)] (.agg (qC (op b c)))) (h4 : FSpec Tryz.prog g [.agg (qC b), .agg (qC d)] (.agg (qC (op b d))))
    (hs : smL [op a c, op a d, op b c, op b d]) : FSpec Tryz.prog 276 [.clos g [] [], .agg (spC a b), .agg (spC c d)] (.agg (spC (minL [op a c, op a d, op b c, op b d]) (maxL [op a c, op a d, op b c, op b d]))) := by
 refine f_n Tryz.func276 ?_ ?_
 ·exact aa_ (aJ_ ab_ ab_) (aa_ (aA_ a b) (aa_ (aA_ c d) ab_))
 refine r_z 3 ?_
 refine ac_ (r_d hmix 27 ?_)
 refine c_s (h1) ?_
 refine c_s (h2) ?_
 refine c_s (h3) ?_
 refine c_s (h4) ?_
 refine a_1 ?_
 refine o_1 (.callS1 rfl rfl rfl (.shut rfl d_n (.nil)) rfl (nU_ [op a c, op a d, op b c, op b d] hs (by simp))) ?_
 refine a_1 ?_
 refine aj_ (n_k ?_)
 exact ae_ (c_e (aA_ _ _))
theorem fs_SMul (a b c d : Rat) (ha : sm a) (hb : sm b) (hc : sm c) (hd : sm d) (hs : smL [a * c, a * d, b * c, b * d]) : FSpec Tryz.prog 247 [.agg (spC a b), .agg (spC c d)] (.agg (spC (minL [a * c, a * d, b * c, b * d]) (maxL [a * c, a * d, b * c, b * d]))) := by
 refine f_n Tryz.func247 ?_ ?_
 ·exact aa_ (aA_ a b) (aa_ (aA_ c d) ab_)
 refine r_z 3 ?_
 refine r_c 4 (fs_ends 22 (fun x y => x * y) a b c d (cf_ a c (sm2 ha hc)) (cf_ a d (sm2 ha hd)) (cf_ b c (sm2 hb hc)) (cf_ b d (sm2 hb hd)) hs) ?_
 refine a_z ?_
 exact ae_ (c_e (aA_ _ _))
theorem qs_int (n : Int) : qs (n : Rat) ≤ max (bl n.natAbs) 1 := by
 have e1 : (n : Rat).num = n := rfl
 have e2 : (n : Rat).den = 1 := rfl
 unfold qs; rw [e1, e2, eq_]; exact Nat.le_refl _
theorem qs_i64 {n : Int} (h : -9223372036854775808 ≤ n ∧ n ≤ 9223372036854775807) : qs (n : Rat) ≤ 64 := by
 have h1 := qs_int n
 have h2 : bl n.natAbs ≤ 64 := bl_le (Nat.lt_of_le_of_lt (show n.natAbs ≤ 9223372036854775808 by omega) (by decide))
 omega
theorem fs_Of (n d : Int) (hn : -9223372036854775808 ≤ n ∧ n ≤ 9223372036854775807) (hd : -9223372036854775808 ≤ d ∧ d ≤ 9223372036854775807) (h0 : d ≠ 0) : FSpec Tryz.prog 87 [i64 n, i64 d] (.tup [.agg (qC ((n : Rat) / (d : Rat))), i64 0]) := by
 have h1 := qs_i64 hn
 have h2 := qs_i64 hd
 have hd0 : (d : Rat) ≠ 0 := by
  intro h
  have : (d : Rat).num = 0 := by rw [h]; rfl
  exact h0 this
 refine f_n Tryz.func87 ?_ ?_
 ·exact aa_ (ad_ _) (aa_ (ad_ _) ab_)
 refine r_z 2 ?_
 refine r_c 9 (cu_ n hn) ?_
 refine c_s (cu_ d hd) ?_
 refine c_s (fs_div (n : Rat) (d : Rat) hd0 (by omega)) ?_
 refine a_z ?_
 refine ae_ (Fin.many ⟨_, _, rfl, ⟨_, _, _, _, _, rfl, rfl, rfl, .inl ⟨tg_37.h, _, ts_37.h, nle rfl, rfl⟩⟩, ⟨_, _, rfl, rfl, rfl⟩⟩ (nle rfl) ?_)
 exact ai_ (ar_ at_ (ak_ _)) (ai_ (ar_ at_ (ad_ _)) ap_)
theorem m9_ (l : List Rat) (hl : l.length ≤ 1099511627776) : FSpec Tryz.prog 150 [.arr (pE l)] (.arr (pE l)) := by
 cases l with
 | nil =>
  refine FSpec.nil1 fun a c => ?_
  refine f_n Tryz.func150 ?_ ?_
  ·exact aa_ (ad_ _) ab_
  refine r_z 1 ?_
  refine ac_ (r_z 2 ?_)
  refine af_ rfl (fun h => ?_) (fun h => ?_)
  ·refine r_z 1 ?_
   exact ae_ (Fin.tmpN rfl)
  ·refine ag_ (s_r 4 ?_)
   refine a_2 ?_
   refine o_2 (.append_l rfl rfl rfl te_25.h rfl rfl rfl rfl rfl d_o (by first | exact cS_ _ | exact cR_ _ | exact cQ_ _ | exact cT_ _ | exact cL_ _ | rfl | simp) (by first | rfl | exact cS_ _ | exact cR_ _ | exact cQ_ _ | exact cT_ _ | exact cL_ _ | simp) rfl (.vnil) tz_37.h rfl tb_37.h d_o (by first | (simp [maxLen]; done) | (simp [maxLen]; omega))) ?_
   refine a_z ?_
   exact ae_ (Fin.tmpS rfl rfl rfl rfl (aW_ []))
 | cons q l =>
  have hne : pE (q :: l) ≠ [] := by simp [pE]
  simp at hl
  refine f_n Tryz.func150 ?_ ?_
  ·exact aa_ (aw_ (aW_ _)) ab_
  refine r_z 1 ?_
  refine ac_ (s_r 2 ?_)
  refine a_1 ?_
  first | refine aG_ (.nilq_v rfl rfl te_25.h) rfl rfl ?_ | refine aG_ (.nilq_arr rfl (hne) rfl te_25.h) rfl rfl ?_
  refine aj_ ?_
  refine cF ?_
  ·refine ag_ (s_r 4 ?_)
   refine a_2 ?_
   refine o_2 (.append_l rfl rfl rfl te_25.h rfl rfl rfl rfl rfl d_o (by first | exact cS_ _ | exact cR_ _ | exact cQ_ _ | exact cT_ _ | exact cL_ _ | rfl | simp) (by first | rfl | exact cS_ _ | exact cR_ _ | exact cQ_ _ | exact cT_ _ | exact cL_ _ | simp) rfl (.arr (f9_ _)) tz_37.h rfl tb_37.h d_o (by first | (simp [maxLen]; done) | (simp [maxLen]; omega))) ?_
   refine a_z ?_
   exact ae_ (Fin.tmpS rfl rfl rfl (by simp) (aW_ _))
def trS (l : List Rat) : Nat → AState
 | n => ⟨[(0, .arr (pE l)), (3, i64 n)], [], 1, 23⟩
theorem er_ (l : List Rat) (n : Nat) : trS l n = ⟨[(0, .arr (pE l)), (3, i64 n)], [], 1, 23⟩ := rfl
theorem cl_ (l : List Rat) (hl : l.length ≤ 1099511627776) : FSpec Tryz.prog 67 [.arr (pE l)] (.arr (pE (trimQ l))) := by
 refine f_n Tryz.func67 ?_ ?_
 ·exact aa_ (aw_ (aW_ _)) ab_
 refine r_z 1 ?_
 refine r_z 3 ?_
 refine aO_ (trS l) (fun n => n ≤ l.length ∧ trimQ l = l.take n) ?_ ?_
 ·refine ah_ (ao_ (trS l) (fun n => n) (fun n => n ≤ l.length ∧ trimQ l = trimQ (l.take n)) l.length ⟨Nat.le_refl _, by rw [List.take_length]⟩ ?_ ?_)
  ·simp only [er_]
   exact s_e []
  rintro n ⟨hn, ht⟩
  rw [er_]
  cases n with
  | zero =>
   refine ac_ (s_r 11 ?_)
   refine a_3 ?_
   refine n_g rfl (by simp) ?_
   refine n_g rfl (by simp) ?_
   refine n_g rfl (by simp) ?_
   refine n_g rfl (by simp) ?_
   refine n_g rfl (by simp) ?_
   refine n_g rfl (by simp) ?_
   refine n_g rfl (by simp) ?_
   refine o_0 (.pickF rfl (by simp) rfl) ?_
   refine aj_ ?_
   refine cF ?_
   ·refine al_ ⟨0, ⟨Nat.zero_le _, ?_⟩, ?_⟩
    ·rw [ht]; rfl
    ·simp only [er_]
     exact s_e []
  | succ n =>
   obtain ⟨q, hq⟩ : ∃ q, l[n]? = some q := ⟨_, List.getElem?_eq_getElem (by omega)⟩
   have hq' : (pE l)[(((n + 1 : Nat) : Int) - 1).toNat]? = some (qC q) := by
    rw [show (((n + 1 : Nat) : Int) - 1).toNat = n by omega]; exact cj_ hq
   have hs : trimQ (l.take (n + 1)) = if q = 0 then trimQ (l.take n) else l.take (n + 1) := by
    rw [bS_ hq, eN_]
   refine ac_ (s_r 11 ?_)
   refine a_3 ?_
   refine y_g rfl (by simp <;> omega) (.move rfl) ?_
   refine y_g rfl (by simp <;> omega) (.move rfl) ?_
   refine y_g rfl (by simp <;> omega) (.bin rfl rfl (e8_ (by omega))) ?_
   first | refine y_g rfl (by simp <;> omega) (.index_l rfl rfl (by omega) (by omega) te_25.h) ?_ | refine y_g rfl (by simp <;> omega) (.index_a rfl rfl (by omega) hq' rfl te_25.h) ?_
   first | refine y_g rfl (by simp <;> omega) (.load_l rfl rfl hq' tg_37.h ts_37.h (nle rfl)) ?_ | refine y_g rfl (by simp <;> omega) (.load_a rfl hq' tg_37.h ts_37.h (nle rfl)) ?_
   refine y_g rfl (by simp <;> omega) (.call rfl rfl rfl (cc_ q)) ?_
   refine y_g rfl (by simp <;> omega) (.bin rfl rfl a2_) ?_
   refine o_0 (.pickT rfl (by simp <;> omega) rfl) ?_
   refine aj_ ?_
   refine af_ rfl (fun h => ?_) (fun h => ?_)
   ·have h0 : q = 0 := by
     have h1 : sgZ q.num = 0 := by simpa using h
     exact sgZ_num_eq.1 h1
    refine ag_ (ah_ (r_m 3 ?_))
    refine a_z ?_
    refine ⟨n, Nat.lt_succ_self n, ⟨by omega, ?_⟩, ?_⟩
    ·rw [ht, hs, if_pos h0]
    ·simp only [er_]
     exact s_e []
   ·have h0 : q ≠ 0 := by
     intro e
     have h1 : ¬ sgZ q.num = 0 := by simpa using h
     exact h1 (sgZ_num_eq.2 e)
    refine al_ ⟨n + 1, ⟨hn, ?_⟩, ?_⟩
    ·rw [ht, hs, if_neg h0]
    ·simp only [er_]
     exact s_e []
 rintro n ⟨hn, ht⟩
 rw [er_]
 have hcl := m9_ (l.take n) (by simp; omega)
 refine s_r 5 ?_
 refine a_2 ?_
 refine o_0 (.sa_h rfl rfl (h := n) rfl (by simp; omega) te_25.h (f9_ _)) ?_
 refine o_0 (.call rfl rfl rfl ((by rw [js_]; exact hcl))) ?_
 refine o_0 (.assign rfl) ?_
 refine aj_ ?_
 refine ae_ (aD_ rfl ?_ ?_)
 ·rw [ht]
 ·exact aw_ (aW_ _)
theorem br_ (l : List Rat) (hl : l.length ≤ 1099511627776) : FSpec Tryz.prog 16 [.arr (pE l)] (i64 (degP l)) := by
 have := aU_ l
 refine f_n Tryz.func16 ?_ ?_
 ·exact aa_ (aw_ (aW_ _)) ab_
 refine r_z 1 ?_
 refine r_c 5 (cl_ l hl) ?_
 refine a_z ?_
 exact ae_ (t_e (ad_ _))
theorem eB_ (l : List Rat) (hl : l.length ≤ 1099511627776) : FSpec Tryz.prog 63 [.arr (pE l)] (.agg (qC (leadP l))) := by
 have hlen := aU_ l
 refine f_n Tryz.func63 ?_ ?_
 ·exact aa_ (aw_ (aW_ _)) ab_
 refine r_z 1 ?_
 refine r_c 3 (cl_ l hl) ?_
 refine a_z ?_
 refine ac_ (r_z 3 ?_)
 refine af_ rfl (fun h => ?_) (fun h => ?_)
 ·have h0 : trimQ l = [] := by
   have h1 : (trimQ l).length = 0 := by simpa using h
   exact List.length_eq_zero_iff.1 h1
  rw [hx_ h0]
  refine r_z 2 ?_
  refine ae_ (Fin.cell rfl rfl rfl tg_37.h ts_37.h (nle rfl) (Cv.agg ?_))
  rw [qC0]
  exact ai_ (Cv.emp _) (ai_ (ar_ at_ (ad_ _)) (ai_ (Cv.emp _) ap_))
 ·obtain ⟨n, hn⟩ : ∃ n, (trimQ l).length = n + 1 := ⟨(trimQ l).length - 1, by
   have h1 : ¬ (trimQ l).length = 0 := by simpa using h
   omega⟩
  have hg : (pE (trimQ l))[(((trimQ l).length : Int) - 1).toNat]? = some (qC (leadP l)) := by
   rw [hn, show (((n + 1 : Nat) : Int) - 1).toNat = n by omega]; exact cj_ (bm_ hn)
  refine ag_ (s_r 7 ?_)
  refine a_4 ?_
  refine i_x hg ?_
  refine l_x hg ?_
  refine a_z ?_
  exact ae_ (c_e (ak_ _))
theorem fs_at (l : List Rat) (i : Nat) : FSpec Tryz.prog 124 [.arr (pE l), i64 i] (.agg (qC (coP l i))) := by
 refine f_n Tryz.func124 ?_ ?_
 ·exact aa_ (aw_ (aW_ _)) (aa_ (ad_ _) ab_)
 refine r_z 1 ?_
 refine ac_ (r_z 4 ?_)
 refine af_ rfl (fun h => ?_) (fun h => ?_)
 ·have hlt : i < l.length := by simpa using h
  have hg : (pE l)[((i : Nat) : Int).toNat]? = some (qC (coP l i)) := cj_ (bn_ hlt)
  refine s_r 5 ?_
  refine a_2 ?_
  refine i_x hg ?_
  refine l_x hg ?_
  refine a_z ?_
  exact ae_ (c_e (ak_ _))
 ·have hge : l.length ≤ i := by simpa using h
  rw [cn_ hge]
  refine ag_ (r_z 2 ?_)
  refine ae_ (Fin.cell rfl rfl rfl tg_37.h ts_37.h (nle rfl) (Cv.agg ?_))
  rw [qC0]
  exact ai_ (Cv.emp _) (ai_ (ar_ at_ (ad_ _)) (ai_ (Cv.emp _) ap_))
theorem eE_set {n i e : Nat} {f : Nat → Rat} (h : i < n) (he : e = i) : (pE (tabP i f) ++ List.replicate (n - i) zC).set e (qC (f i)) = pE (tabP (i + 1) f) ++ List.replicate (n - (i + 1)) zC := by
 subst he
 obtain ⟨k, rfl⟩ : ∃ k, n = e + 1 + k := ⟨n - (e + 1), by omega⟩
 rw [show e + 1 + k - e = k + 1 by omega, show e + 1 + k - (e + 1) = k by omega, List.replicate_succ, List.set_append_right _ _ (by simp)]
 simp [tabP, List.range_succ, pE]
theorem eE_get {n i e : Nat} {f : Nat → Rat} (h : i < n) (he : e = i) : (pE (tabP i f) ++ List.replicate (n - i) zC)[e]? = some zC := by
 subst he
 rw [List.getElem?_append_right (by simp), List.getElem?_replicate, if_pos (by simp; omega)]
theorem h5_ (n i : Nat) (f : Nat → Rat) : ∀ e ∈ pE (tabP i f) ++ List.replicate (n - i) zC, ∀ c ∈ e, Closed c := by
 intro e he
 rcases List.mem_append.1 he with he | he
 ·exact aW_ _ e he
 ·rw [List.eq_of_mem_replicate he]; exact lm_
def eachS (n : Nat) (f : Nat → Rat) (g : Nat) (cap : List AV) : Nat → AState
 | i => ⟨[(1, .clos g [] cap), (5, .lsl 1 0 n (some n) 3), (10, i64 n), (11, i64 i)], [(1, some ⟨37, 3, pE (tabP i f) ++ List.replicate (n - i) zC⟩)], 2, 23⟩
theorem fU_ (n : Nat) (f : Nat → Rat) (g : Nat) (cap : List AV) (i : Nat) : eachS n f g cap i = ⟨[(1, .clos g [] cap), (5, .lsl 1 0 n (some n) 3), (10, i64 n), (11, i64 i)], [(1, some ⟨37, 3, pE (tabP i f) ++ List.replicate (n - i) zC⟩)], 2, 23⟩ := rfl
theorem l0_ (n : Nat) (f : Nat → Rat) (g : Nat) (cap : List AV) (hn : n ≤ 1099511627776) (hcap : ∀ c ∈ cap, Closed c) (hg : ∀ i, i < n → FSpec Tryz.prog g ((i64 i :: cap).map coe) (.agg (qC (f i)))) : FSpec Tryz.prog 101 [i64 n, .clos g [] cap] (.arr (pE (trimQ (tabP n f)))) := by
 refine f_n Tryz.func101 ?_ ?_
 ·exact aa_ (ad_ _) (aa_ (aJ_ ab_ hcap) ab_)
 refine r_z 1 ?_
 refine r_z 3 ?_
 refine ac_ (r_z 3 ?_)
 refine au_ (fun _ : Unit => eachS n f g cap n) (fun _ => True) ?_ ?_
 ·refine ah_ (ao_ (eachS n f g cap) (fun i => n - i) (fun i => i ≤ n) 0 (Nat.zero_le _) ?_ ?_)
  ·simp only [fU_]
   refine ax_ [(1, 5)] rfl rfl rfl au_r (fun hs => ?_) (fun hs => ?_)
   ·repeat' (first | exact aX_ | refine aL_ rfl ?_ ?_)
    all_goals (first | (exact ar_ hs (aJ_ ab_ hcap)) | exact au_c)
   ·repeat' (first | exact as_ | refine an_ rfl rfl rfl rfl ?_ ?_)
    all_goals (first | (exact az_ hs rfl (h5_ n 0 f)) | exact au_e | (refine aF_ ?_; repeat' (first | exact ap_ | refine ai_ ?_ ?_)))
    all_goals (first | (exact ar_ hs (aJ_ ab_ hcap)) | exact au_c)
  rintro i hi
  rw [fU_]
  refine r_z 1 ?_
  refine ac_ (af_ rfl (fun h => ?_) (fun h => ?_))
  ·refine ag_ ?_
   have hlt : i < n := by simpa using h
   refine ac_ (ah_ (r_z 2 ?_))
   refine r_m 7 ?_
   refine c_s (hg i hlt) ?_
   refine a_1 ?_
   refine o_1n (.store rfl rfl (eE_get hlt (Nat.zero_add i)) rfl rfl rfl ts_37.h (nle rfl)) ?_
   refine aj_ ?_
   refine r_m 2 ?_
   refine a_z ?_
   refine ⟨i + 1, by omega, hlt, ?_⟩
   simp only [fU_]
   refine ax_ [] rfl rfl rfl au_r (fun hs => ?_) (fun hs => ?_)
   ·repeat' (first | exact aX_ | refine aL_ rfl ?_ ?_)
    all_goals (first | (exact ar_ hs (aJ_ ab_ hcap)) | exact au_c)
   ·repeat' (first | exact as_ | refine an_ rfl rfl rfl rfl ?_ ?_)
    all_goals (first | (exact az_ hs (eE_set hlt (Nat.zero_add i)) (h5_ n (i + 1) f)) | exact au_e | (refine aF_ ?_; repeat' (first | exact ap_ | refine ai_ ?_ ?_)))
    all_goals (first | (exact ar_ hs (aJ_ ab_ hcap)) | exact au_c)
  ·have hge : i = n := by
    have : ¬ i < n := by simpa using h
    omega
   subst hge
   refine al_ ⟨(), trivial, ?_⟩
   simp only [fU_]
   refine ax_ [] rfl rfl rfl au_r (fun hs => ?_) (fun hs => ?_)
   ·repeat' (first | exact aX_ | refine aL_ rfl ?_ ?_)
    all_goals (first | (exact ar_ hs (aJ_ ab_ hcap)) | exact au_c)
   ·repeat' (first | exact as_ | refine an_ rfl rfl rfl rfl ?_ ?_)
    all_goals (first | (exact bl_ hs (h5_ i i f)) | exact au_e | (refine aF_ ?_; repeat' (first | exact ap_ | refine ai_ ?_ ?_)))
    all_goals (first | (exact ar_ hs (aJ_ ab_ hcap)) | exact au_c)
 rintro _ _
 rw [fU_]
 have hfull : List.take n (List.drop 0 (pE (tabP n f) ++ List.replicate (n - n) zC)) = pE (tabP n f) := by
  rw [Nat.sub_self, List.replicate_zero, List.append_nil, List.drop_zero, List.take_of_length_le (by simp)]
 refine s_r 3 ?_
 refine a_1 ?_
 refine o_1 (.callS1 rfl rfl rfl (.shut rfl d_n (.nil)) rfl ((by rw [hfull]; exact cl_ (tabP n f) (by simp; exact hn)))) ?_
 refine a_z ?_
 exact ae_ (t_e (aw_ (aW_ _)))
section
variable {P : Go.Program} {T : Nat} {x y : Operand}
theorem nA_ {l m : List UInt8} : ∀ w, (do eqGuard .neq T x y (.string ⟨l.toArray⟩) (.string ⟨m.toArray⟩); binOp .neq T (.string ⟨l.toArray⟩) (.string ⟨m.toArray⟩) : Sem Value).run P w = .ok (.bool (!decide (l = m))) w := fun w => by
 rw [nz_]
 congr 2
 have e : ∀ l : List UInt8, (⟨l.toArray⟩ : ByteArray).toList = l := by
  intro l
  have := ByteArray.toList_eq (bs := ⟨l.toArray⟩)
  simpa using this
 rw [e, e]
 rw [Bool.eq_iff_iff]; simp
end
def sgnTx (o : Option (List UInt8)) (c : Rat) : Option (List UInt8) :=
 match o with
 | none => if c < 0 then some [45] else none
 | some s => if c < 0 then some (s ++ [32, 45, 32]) else some (s ++ [32, 43, 32])
def wrO (o : Option (List UInt8)) (t : List UInt8) : Option (List UInt8) := some (o.getD [] ++ t)
def fc_ (o : Option (List UInt8)) (t : List UInt8) : Option (List UInt8) := if t = [49] then o else wrO o (t ++ [32])
def g9_ (tq : Rat → List UInt8) (ti : Nat → List UInt8) (o : Option (List UInt8)) (c : Rat) (n : Nat) : Option (List UInt8) :=
 if n = 0 then wrO (sgnTx o c) (tq (absQ c))
 else if 1 < n then wrO (wrO (fc_ (sgnTx o c) (tq (absQ c))) [120]) ([94] ++ ti n) else wrO (fc_ (sgnTx o c) (tq (absQ c))) [120]
def textR (tq : Rat → List UInt8) (ti : Nat → List UInt8) (p : List Rat) : Nat → Option (List UInt8) → Option (List UInt8)
 | 0, o => o
 | n + 1, o => textR tq ti p n (if coP p n = 0 then o else g9_ tq ti o (coP p n) n)
def textG (tq : Rat → List UInt8) (ti : Nat → List UInt8) (p : List Rat) : List UInt8 := (textR tq ti (trimQ p) (trimQ p).length none).getD [48]
def textP (p : List Rat) : List UInt8 := textG textQ dec2 p
def okPT (p : List Rat) : Prop := p.length ≤ 1000 ∧ (trimQ p).length ≤ 99 ∧ (∀ c ∈ trimQ p, okT c)
instance (p : List Rat) : Decidable (okPT p) := inferInstanceAs (Decidable (_ ∧ _ ∧ _))
def pb0 (p : List Rat) : Int → AState
 | n => ⟨[(0, .arr (pE p)), (3, .lptr 1 0 0), (4, i64 n)], [(1, some ⟨182, 2, [bldC 1 2 none]⟩)], 4, 67⟩
theorem el_ (p : List Rat) (n : Int) : pb0 p n = ⟨[(0, .arr (pE p)), (3, .lptr 1 0 0), (4, i64 n)], [(1, some ⟨182, 2, [bldC 1 2 none]⟩)], 4, 67⟩ := rfl
def pb1 (p : List Rat) : Int × List UInt8 → AState
 | (n, s) => ⟨[(0, .arr (pE p)), (3, .lptr 1 0 0), (4, i64 n)], [(1, some ⟨182, 2, [bldC 1 2 (some s)]⟩), (2, some ⟨5, 1, bE s⟩)], 4, 67⟩
theorem cE_ (p : List Rat) (n : Int) (s : List UInt8) : pb1 p (n, s) = ⟨[(0, .arr (pE p)), (3, .lptr 1 0 0), (4, i64 n)], [(1, some ⟨182, 2, [bldC 1 2 (some s)]⟩), (2, some ⟨5, 1, bE s⟩)], 4, 67⟩ := rfl
def pbS (p : List Rat) (n : Int) : Option (List UInt8) → AState
 | none => pb0 p n
 | some s => pb1 p (n, s)
def pc0 (p : List Rat) (c : Rat) : Int → AState
 | n => ⟨[(0, .arr (pE p)), (3, .lptr 1 0 0), (4, i64 n), (5, .lptr 3 0 0)], [(1, some ⟨182, 2, [bldC 1 2 none]⟩), (3, some ⟨37, 3, [qC c]⟩)], 4, 67⟩
theorem iu_ (p : List Rat) (c : Rat) (n : Int) : pc0 p c n = ⟨[(0, .arr (pE p)), (3, .lptr 1 0 0), (4, i64 n), (5, .lptr 3 0 0)], [(1, some ⟨182, 2, [bldC 1 2 none]⟩), (3, some ⟨37, 3, [qC c]⟩)], 4, 67⟩ := rfl
def pc1 (p : List Rat) (c : Rat) : Int × List UInt8 → AState
 | (n, s) => ⟨[(0, .arr (pE p)), (3, .lptr 1 0 0), (4, i64 n), (5, .lptr 3 0 0)], [(1, some ⟨182, 2, [bldC 1 2 (some s)]⟩), (2, some ⟨5, 1, bE s⟩), (3, some ⟨37, 3, [qC c]⟩)], 4, 67⟩
theorem gv_ (p : List Rat) (c : Rat) (n : Int) (s : List UInt8) : pc1 p c (n, s) = ⟨[(0, .arr (pE p)), (3, .lptr 1 0 0), (4, i64 n), (5, .lptr 3 0 0)], [(1, some ⟨182, 2, [bldC 1 2 (some s)]⟩), (2, some ⟨5, 1, bE s⟩), (3, some ⟨37, 3, [qC c]⟩)], 4, 67⟩ := rfl
def pcS (p : List Rat) (c : Rat) (n : Int) : Option (List UInt8) → AState
 | none => pc0 p c n
 | some s => pc1 p c (n, s)
def pd0 (p : List Rat) (t : List UInt8) : Int → AState
 | n => ⟨[(0, .arr (pE p)), (3, .lptr 1 0 0), (4, i64 n), (6, tx t)], [(1, some ⟨182, 2, [bldC 1 2 none]⟩)], 4, 67⟩
theorem mH_ (p : List Rat) (t : List UInt8) (n : Int) : pd0 p t n = ⟨[(0, .arr (pE p)), (3, .lptr 1 0 0), (4, i64 n), (6, tx t)], [(1, some ⟨182, 2, [bldC 1 2 none]⟩)], 4, 67⟩ := rfl
def pd1 (p : List Rat) (t : List UInt8) : Int × List UInt8 → AState
 | (n, s) => ⟨[(0, .arr (pE p)), (3, .lptr 1 0 0), (4, i64 n), (6, tx t)], [(1, some ⟨182, 2, [bldC 1 2 (some s)]⟩), (2, some ⟨5, 1, bE s⟩)], 4, 67⟩
theorem mG_ (p : List Rat) (t : List UInt8) (n : Int) (s : List UInt8) : pd1 p t (n, s) = ⟨[(0, .arr (pE p)), (3, .lptr 1 0 0), (4, i64 n), (6, tx t)], [(1, some ⟨182, 2, [bldC 1 2 (some s)]⟩), (2, some ⟨5, 1, bE s⟩)], 4, 67⟩ := rfl
def pdS (p : List Rat) (t : List UInt8) (n : Int) : Option (List UInt8) → AState
 | none => pd0 p t n
 | some s => pd1 p t (n, s)
def okOx (o : Option (List UInt8)) (n : Nat) : Prop := ∀ s, o = some s → s ≠ [] ∧ s.length ≤ n
theorem jt_ (n : Nat) : okOx none n := fun s h => by cases h
theorem ix_ {o : Option (List UInt8)} {n : Nat} {t : List UInt8} (h : okOx o n) (h0 : t ≠ []) : okOx (wrO o t) (n + t.length) := by
 intro s hs
 cases hs
 cases o with
 | none => exact ⟨by simpa using h0, by simp⟩
 | some q => exact ⟨by simp [h0], by have := (h q rfl).2; simp; omega⟩
theorem mN_ {o : Option (List UInt8)} {n : Nat} (h : okOx o n) (c : Rat) : okOx (sgnTx o c) (n + 3) := by
 intro s hs
 cases o with
 | none =>
  simp only [sgnTx] at hs
  split at hs
  ·cases hs; exact ⟨by simp, by simp⟩
  ·cases hs
 | some q =>
  have := (h q rfl).2
  simp only [sgnTx] at hs
  split at hs <;> cases hs <;> exact ⟨by simp, by simp; omega⟩
theorem dh_ {o : Option (List UInt8)} {n m : Nat} (h : okOx o n) (hm : n ≤ m) : okOx o m := fun s hs => ⟨(h s hs).1, Nat.le_trans (h s hs).2 hm⟩
theorem textQ_ne (q : Rat) : textQ q ≠ [] := List.length_pos_iff.1 (textQ_len (q := q)).2
theorem sgZ_neg (c : Rat) : sgZ c.num < 0 ↔ c < 0 := by
 rw [← ga_]
 unfold sgZ
 split
 ·omega
 ·split <;> omega
theorem okT_abs {c : Rat} (h : okT c) : okT (absQ c) := by
 rw [go_]
 split
 ·obtain ⟨h1, h2⟩ := h
  exact ⟨by rw [Rat.neg_num]; simpa using h1, by rw [Rat.neg_den]; exact h2⟩
 ·exact h
theorem pP_ (tq : Rat → List UInt8) (ti : Nat → List UInt8) (L : Nat) (p : List Rat) (h1 : p.length ≤ 1000) (hL : L ≤ 10000) (h3 : ∀ c ∈ trimQ p, FSpec Tryz.prog 89 [.agg (qC (absQ c))] (tx (tq (absQ c))) ∧ tq (absQ c) ≠ [] ∧ (tq (absQ c)).length ≤ L) (hI : ∀ n, n < (trimQ p).length → FSpec Tryz.prog 147 [i64 n] (tx (ti n)) ∧ (ti n).length ≤ 20) : FSpec Tryz.prog 65 [.arr (pE p)] (tx (textG tq ti p)) := by
 have htr := cl_ p (by omega)
 obtain ⟨q, hq⟩ : ∃ q, q = trimQ p := ⟨_, rfl⟩
 have hR : textG tq ti p = (textR tq ti q q.length none).getD [48] := by unfold textG; rw [hq]
 rw [hR]
 have h2 := aU_ p
 rw [← hq] at htr h2 h3 hI
 have hall : ∀ k, (q.length - k) * (L + 30) ≤ 10030000 := fun k => Nat.mul_le_mul (show q.length - k ≤ 1000 by omega) (show L + 30 ≤ 10030 by omega)
 refine f_n Tryz.func65 ?_ ?_
 ·exact aa_ (am_ p) ab_
 refine r_z 1 ?_
 refine r_z 1 ?_
 refine r_c 3 (htr) ?_
 refine a_z ?_
 refine ac_ (r_z 4 ?_)
 refine au_ (pbS q (-1)) (fun o => o = textR tq ti q q.length none ∧ okOx o 20000000) ?_ ?_
 ·refine ah_ (ao_ (fun x : Nat × Option (List UInt8) => pbS q ((x.1 : Int) - 1) x.2) (fun x => x.1) (fun x => x.1 ≤ q.length ∧ textR tq ti q x.1 x.2 = textR tq ti q q.length none ∧ okOx x.2 ((q.length - x.1) * (L + 30))) (q.length, none) ⟨Nat.le_refl _, rfl, jt_ _⟩ ?_ ?_)
  ·show SEnt _ (pb0 q ((q.length : Int) - 1))
   rw [el_]
   exact s_e [(1, 3)]
  rintro ⟨n, o⟩ ⟨hn, hr, ho⟩
  simp only at hn hr ho
  cases n with
  | zero =>
   cases o with
   | none =>
    show AWp _ _ _ _ (pb0 q (((0 : Nat) : Int) - 1))
    rw [el_]
    refine ac_ (r_z 2 ?_)
    refine af_ rfl (fun h4 => ?_) (fun h4 => ?_)
    ·exact absurd h4 (by simp)
    ·refine al_ ⟨none, ⟨hr, jt_ _⟩, ?_⟩
     show SEnt _ (pb0 q (-1))
     rw [el_]
     exact s_e []
   | some s =>
    show AWp _ _ _ _ (pb1 q (((0 : Nat) : Int) - 1, s))
    rw [cE_]
    refine ac_ (r_z 2 ?_)
    refine af_ rfl (fun h4 => ?_) (fun h4 => ?_)
    ·exact absurd h4 (by simp)
    ·refine al_ ⟨some s, ⟨hr, dh_ ho (by have := hall 0; omega)⟩, ?_⟩
     show SEnt _ (pb1 q (-1, s))
     rw [cE_]
     exact s_e []
  | succ n =>
   have hcn : ((n + 1 : Nat) : Int) - 1 = (n : Int) := by omega
   rw [hcn]
   rw [textR] at hr
   have hlt : n < q.length := by omega
   obtain ⟨c, hc⟩ : ∃ c, c = coP q n := ⟨_, rfl⟩
   rw [← hc] at hr
   have hg : (pE q)[((n : Nat) : Int).toNat]? = some (qC c) := by rw [Int.toNat_natCast, hc]; exact cj_ (bn_ hlt)
   obtain ⟨fT, htn, htl⟩ := h3 c (by rw [hc]; exact List.mem_of_getElem? (bn_ hlt))
   have hm : (q.length - n) * (L + 30) = (q.length - (n + 1)) * (L + 30) + (L + 30) := by
    rw [show q.length - n = (q.length - (n + 1)) + 1 by omega, Nat.add_mul, Nat.one_mul]
   obtain ⟨B, hB⟩ : ∃ B, B = (q.length - (n + 1)) * (L + 30) := ⟨_, rfl⟩
   have hmx : B ≤ 10030000 := by rw [hB]; exact hall _
   rw [← hB] at ho hm
   obtain ⟨t, ht⟩ : ∃ t, t = tq (absQ c) := ⟨_, rfl⟩
   rw [← ht] at htn htl fT
   obtain ⟨fI, hd2⟩ := hI n hlt
   refine aO_ (fun _ : Unit => pbS q n o) (fun _ => True) ?_ ?_
   ·cases o with
    | none =>
     show AWp _ _ _ _ (pb0 q n)
     rw [el_]
     refine r_z 2 ?_
     refine af_ rfl (fun h4 => ?_) (fun h4 => ?_)
     ·refine ag_ ⟨(), trivial, ?_⟩
      show SEnt _ (pb0 q n)
      rw [el_]
      exact s_e []
     ·exact absurd h4 (by simp)
    | some s =>
     show AWp _ _ _ _ (pb1 q (n, s))
     rw [cE_]
     refine r_z 2 ?_
     refine af_ rfl (fun h4 => ?_) (fun h4 => ?_)
     ·refine ag_ ⟨(), trivial, ?_⟩
      show SEnt _ (pb1 q (n, s))
      rw [cE_]
      exact s_e []
     ·exact absurd h4 (by simp)
   rintro _ _
   refine aO_ (pbS q n) (fun o' => o' = (if c = 0 then o else g9_ tq ti o c n)) ?_ ?_
   ·refine ah_ (aO_ (fun _ : Unit => pcS q c n o) (fun _ => True) ?_ ?_)
    ·cases o with
     | none =>
      show AWp _ _ _ _ (pb0 q n)
      rw [el_]
      refine r_m 6 ?_
      refine a_2 ?_
      refine i_x hg ?_
      refine l_x hg ?_
      refine a_z ?_
      refine ⟨(), trivial, ?_⟩
      show SEnt _ (pc0 q c n)
      rw [iu_]
      refine ax_ [(3, 5)] rfl rfl rfl au_r (fun hs => au_f) (fun hs => ?_)
      ·repeat' (first | exact as_ | refine an_ rfl rfl rfl rfl ?_ ?_)
       all_goals (first | (exact bl_ hs (aa_ (aY_ c) ab_)) | exact au_e)
     | some s =>
      show AWp _ _ _ _ (pb1 q (n, s))
      rw [cE_]
      refine r_m 6 ?_
      refine a_2 ?_
      refine i_x hg ?_
      refine l_x hg ?_
      refine a_z ?_
      refine ⟨(), trivial, ?_⟩
      show SEnt _ (pc1 q c (n, s))
      rw [gv_]
      refine ax_ [(3, 5)] rfl rfl rfl au_r (fun hs => au_f) (fun hs => ?_)
      ·repeat' (first | exact as_ | refine an_ rfl rfl rfl rfl ?_ ?_)
       all_goals (first | (exact bl_ hs (aa_ (aY_ c) ab_)) | exact au_e)
    rintro _ _
    refine aO_ (fun _ : Unit => pcS q c n o) (fun _ => c ≠ 0) ?_ ?_
    ·cases o with
     | none =>
      show AWp _ _ _ _ (pc0 q c n)
      rw [iu_]
      refine r_c 3 (cc_ c) ?_
      refine a_z ?_
      refine af_ rfl (fun h4 => ?_) (fun h4 => ?_)
      ·have h5 : c = 0 := sgZ_num_eq.1 (by simpa using h4)
       refine al_ ⟨none, by rw [if_pos h5], ?_⟩
       show SEnt _ (pb0 q n)
       rw [el_]
       exact s_e []
      ·have h5 : c ≠ 0 := fun e => by have h6 := sgZ_num_eq.2 e; simp [h6] at h4
       refine ag_ ⟨(), h5, ?_⟩
       show SEnt _ (pc0 q c n)
       rw [iu_]
       exact s_e []
     | some s =>
      show AWp _ _ _ _ (pc1 q c (n, s))
      rw [gv_]
      refine r_c 3 (cc_ c) ?_
      refine a_z ?_
      refine af_ rfl (fun h4 => ?_) (fun h4 => ?_)
      ·have h5 : c = 0 := sgZ_num_eq.1 (by simpa using h4)
       refine al_ ⟨some s, by rw [if_pos h5], ?_⟩
       show SEnt _ (pb1 q (n, s))
       rw [cE_]
       exact s_e []
      ·have h5 : c ≠ 0 := fun e => by have h6 := sgZ_num_eq.2 e; simp [h6] at h4
       refine ag_ ⟨(), h5, ?_⟩
       show SEnt _ (pc1 q c (n, s))
       rw [gv_]
       exact s_e []
    rintro _ hc0
    rw [if_neg hc0]
    have hsg : (sgZ c.num < 0) ↔ c < 0 := sgZ_neg c
    refine aO_ (pcS q c n) (fun o' => o' = sgnTx o c) ?_ ?_
    ·refine ah_ ?_
     cases o with
     | none =>
      show AWp _ _ _ _ (pc0 q c n)
      rw [iu_]
      refine s_r 8 ?_
      refine o_0 (.callR (s := none) (j := 0) (tb := 0) rfl rfl rfl rfl rfl (fun _ h => by cases h) (jQ_)) ?_
      refine a_2 ?_
      first | refine y_g rfl d_t (.load_l rfl rfl rfl tg_37.h ts_37.h (nle rfl)) ?_ | refine y_g rfl d_t (.load_a rfl rfl tg_37.h ts_37.h (nle rfl)) ?_
      refine y_g rfl d_t (.call rfl rfl rfl (cc_ c)) ?_
      refine y_g rfl d_t (.bin rfl rfl bZ_) ?_
      refine o_0 (.pickT rfl d_t rfl) ?_
      refine a_z ?_
      refine af_ rfl (fun h4 => ?_) (fun h4 => ?_)
      ·have h5 : c < 0 := hsg.1 (by simpa using h4)
       refine r_m 1 ?_
       refine o_2 (.callB (s := none) (j := 0) rfl rfl rfl rfl rfl rfl (fun _ h => by cases h) (d5_ [45] (by simp) (by simp))) ?_
       refine aj_ ?_
       refine ⟨some [45], by simp only [sgnTx]; rw [if_pos h5], ?_⟩
       show SEnt _ (pc1 q c (n, [45]))
       rw [gv_]
       refine SEnt.to2 [(2, 100012)] rfl rfl rfl au_r (fun hs => au_f) (fun hs => ?_)
       ·repeat' (first | exact as_ | refine an_ rfl rfl rfl rfl ?_ ?_)
        all_goals (first | (exact bl_ hs (aa_ (aY_ c) ab_)) | exact au_e)
      ·have h5 : ¬ c < 0 := fun e => by have h6 := hsg.2 e; simp [h6] at h4
       refine s_r 8 ?_
       refine o_0 (.callR (s := none) (j := 0) (tb := 0) rfl rfl rfl rfl rfl (fun _ h => by cases h) (jQ_)) ?_
       refine a_2 ?_
       refine n_g rfl d_f ?_
       refine n_g rfl d_f ?_
       refine n_g rfl d_f ?_
       refine o_0 (.pickF rfl d_f rfl) ?_
       refine a_z ?_
       refine cF (s_r 3 ?_)
       refine o_0 (.callR (s := none) (j := 0) (tb := 0) rfl rfl rfl rfl rfl (fun _ h => by cases h) (jQ_)) ?_
       refine a_z ?_
       refine af_ rfl (fun h7 => ?_) (fun h7 => ?_)
       ·exact absurd h7 (by simp)
       refine ag_ ⟨none, by simp only [sgnTx]; rw [if_neg h5], ?_⟩
       show SEnt _ (pc0 q c n)
       rw [iu_]
       exact s_e []
     | some s =>
      have hsn := (ho s rfl).1
      have hsl := (ho s rfl).2
      have hs0 : s.length ≠ 0 := by simpa using hsn
      show AWp _ _ _ _ (pc1 q c (n, s))
      rw [gv_]
      refine s_r 8 ?_
      refine o_0 (.callR (s := some _) rfl rfl rfl rfl rfl (fun _ h => by cases h; exact rfl) (jP_ s)) ?_
      refine a_2 ?_
      refine n_g rfl (by simp; omega) ?_
      refine n_g rfl (by simp; omega) ?_
      refine n_g rfl (by simp; omega) ?_
      refine o_0 (.pickF rfl (by simp; omega) rfl) ?_
      refine a_z ?_
      refine af_ rfl (fun h4 => ?_) (fun h4 => ?_)
      ·first | (simp at h4; done) | (simp at h4; omega) | (simp at h4; exact absurd h4 hsn)
      refine s_r 8 ?_
      refine o_0 (.callR (s := some _) rfl rfl rfl rfl rfl (fun _ h => by cases h; exact rfl) (jP_ s)) ?_
      refine a_2 ?_
      first | refine y_g rfl (by simp; omega) (.load_l rfl rfl rfl tg_37.h ts_37.h (nle rfl)) ?_ | refine y_g rfl (by simp; omega) (.load_a rfl rfl tg_37.h ts_37.h (nle rfl)) ?_
      refine y_g rfl (by simp; omega) (.call rfl rfl rfl (cc_ c)) ?_
      refine y_g rfl (by simp; omega) (.bin rfl rfl bZ_) ?_
      refine o_0 (.pickT rfl (by simp; omega) rfl) ?_
      refine a_z ?_
      refine af_ rfl (fun h6 => ?_) (fun h6 => ?_)
      ·have h5 : c < 0 := hsg.1 (by simpa using h6)
       refine r_m 1 ?_
       refine o_3 (.callB (s := some _) rfl rfl rfl rfl rfl rfl (fun _ h => by cases h; exact ⟨rfl, by decide⟩) (db_ s [32, 45, 32] (by simp; omega))) ?_
       refine aj_ ?_
       refine ⟨some (s ++ [32, 45, 32]), by simp only [sgnTx]; rw [if_pos h5], ?_⟩
       show SEnt _ (pc1 q c (n, s ++ [32, 45, 32]))
       rw [gv_]
       refine SEnt.to2 [(2, 100020)] rfl rfl rfl au_r (fun hs => au_f) (fun hs => ?_)
       ·repeat' (first | exact as_ | refine an_ rfl rfl rfl rfl ?_ ?_)
        all_goals (first | (exact bl_ hs (aa_ (aY_ c) ab_)) | exact au_e)
      ·have h5 : ¬ c < 0 := fun e => by have h7 := hsg.2 e; simp [h7] at h6
       refine s_r 3 ?_
       refine o_0 (.callR (s := some _) rfl rfl rfl rfl rfl (fun _ h => by cases h; exact rfl) (jP_ s)) ?_
       refine a_z ?_
       refine af_ rfl (fun h7 => ?_) (fun h7 => ?_)
       ·refine r_m 1 ?_
        refine o_3 (.callB (s := some _) rfl rfl rfl rfl rfl rfl (fun _ h => by cases h; exact ⟨rfl, by decide⟩) (db_ s [32, 43, 32] (by simp; omega))) ?_
        refine aj_ ?_
        refine ⟨some (s ++ [32, 43, 32]), by simp only [sgnTx]; rw [if_neg h5], ?_⟩
        show SEnt _ (pc1 q c (n, s ++ [32, 43, 32]))
        rw [gv_]
        refine SEnt.to2 [(2, 100023)] rfl rfl rfl au_r (fun hs => au_f) (fun hs => ?_)
        ·repeat' (first | exact as_ | refine an_ rfl rfl rfl rfl ?_ ?_)
         all_goals (first | (exact bl_ hs (aa_ (aY_ c) ab_)) | exact au_e)
       ·first | (simp at h7; done) | (simp at h7; omega) | (simp at h7; exact absurd h7 hsn)
    rintro o1 rfl
    have ho1 := mN_ ho c
    obtain ⟨o1, ho1e⟩ : ∃ o1, o1 = sgnTx o c := ⟨_, rfl⟩
    rw [← ho1e] at ho1 ⊢
    refine aO_ (fun _ : Unit => pdS q t n o1) (fun _ => True) ?_ ?_
    ·cases o1 with
     | none =>
      show AWp _ _ _ _ (pc0 q c n)
      rw [iu_]
      refine r_m 4 ?_
      refine c_s (m4_ c) ?_
      refine c_s (fT) ?_
      refine a_z ?_
      refine ⟨(), trivial, ?_⟩
      show SEnt _ (pd0 q t n)
      rw [mH_]
      exact s_e []
     | some s =>
      show AWp _ _ _ _ (pc1 q c (n, s))
      rw [gv_]
      refine r_m 4 ?_
      refine c_s (m4_ c) ?_
      refine c_s (fT) ?_
      refine a_z ?_
      refine ⟨(), trivial, ?_⟩
      show SEnt _ (pd1 q t (n, s))
      rw [mG_]
      exact s_e []
    rintro _ _
    refine aO_ (fun _ : Unit => pdS q t n o1) (fun _ => n ≠ 0) ?_ ?_
    ·cases o1 with
     | none =>
      show AWp _ _ _ _ (pd0 q t n)
      rw [mH_]
      refine r_z 2 ?_
      refine af_ rfl (fun h4 => ?_) (fun h4 => ?_)
      ·have h5 : n = 0 := by simpa using h4
       subst h5
       refine s_r 2 ?_
       refine a_1 ?_
       refine o_2 (.callB (s := none) (j := 0) rfl rfl rfl rfl rfl rfl (fun _ h => by cases h) (d5_ t htn (by omega))) ?_
       refine aj_ ?_
       refine al_ ⟨some t, by unfold g9_; rw [if_pos rfl, ← ho1e, ← ht]; rfl, ?_⟩
       show SEnt _ (pb1 q (((0 : Nat) : Int), t))
       rw [cE_]
       refine SEnt.to2 [(2, 100007)] rfl rfl rfl au_r (fun hs => au_f) (fun hs => au_h)
      ·have h5 : n ≠ 0 := fun e => by simp [e] at h4
       refine ag_ ⟨(), h5, ?_⟩
       show SEnt _ (pd0 q t n)
       rw [mH_]
       exact s_e []
     | some s =>
      have hsl := (ho1 s rfl).2
      show AWp _ _ _ _ (pd1 q t (n, s))
      rw [mG_]
      refine r_z 2 ?_
      refine af_ rfl (fun h4 => ?_) (fun h4 => ?_)
      ·have h5 : n = 0 := by simpa using h4
       subst h5
       refine s_r 2 ?_
       refine a_1 ?_
       refine o_3 (.callB (s := some _) rfl rfl rfl rfl rfl rfl (fun _ h => by cases h; exact ⟨rfl, by decide⟩) (db_ s t (by omega))) ?_
       refine aj_ ?_
       refine al_ ⟨some (s ++ t), by unfold g9_; rw [if_pos rfl, ← ho1e, ← ht]; rfl, ?_⟩
       show SEnt _ (pb1 q (((0 : Nat) : Int), s ++ t))
       rw [cE_]
       refine SEnt.to2 [(2, 100007)] rfl rfl rfl au_r (fun hs => au_f) (fun hs => au_h)
      ·have h5 : n ≠ 0 := fun e => by simp [e] at h4
       refine ag_ ⟨(), h5, ?_⟩
       show SEnt _ (pd1 q t (n, s))
       rw [mG_]
       exact s_e []
    rintro _ hn0
    refine aO_ (pbS q n) (fun o' => o' = fc_ o1 t) ?_ ?_
    ·cases o1 with
     | none =>
      show AWp _ _ _ _ (pd0 q t n)
      rw [mH_]
      refine s_r 2 ?_
      refine a_1 ?_
      refine o_0 (.bin rfl rfl (nA_ (m := [49]))) ?_
      refine aj_ ?_
      refine af_ rfl (fun h4 => ?_) (fun h4 => ?_)
      ·have h5 : ¬ t = [49] := by simpa using h4
       refine r_m 3 ?_
       refine a_1 ?_
       refine o_0 (.bin rfl rfl (bO_ (m := [32]) (by simp; omega))) ?_
       refine o_2 (.callB (s := none) (j := 0) rfl rfl rfl rfl rfl rfl (fun _ h => by cases h) (d5_ (t ++ [32]) (by simp) (by simp; omega))) ?_
       refine aj_ ?_
       refine ⟨some (t ++ [32]), by unfold fc_; rw [if_neg h5]; rfl, ?_⟩
       show SEnt _ (pb1 q (n, t ++ [32]))
       rw [cE_]
       refine SEnt.to2 [(2, 100008)] rfl rfl rfl au_r (fun hs => au_f) (fun hs => au_h)
      ·have h5 : t = [49] := by simpa using h4
       refine ag_ ⟨none, by unfold fc_; rw [if_pos h5], ?_⟩
       show SEnt _ (pb0 q n)
       rw [el_]
       exact s_e []
     | some s =>
      have hsl := (ho1 s rfl).2
      show AWp _ _ _ _ (pd1 q t (n, s))
      rw [mG_]
      refine s_r 2 ?_
      refine a_1 ?_
      refine o_0 (.bin rfl rfl (nA_ (m := [49]))) ?_
      refine aj_ ?_
      refine af_ rfl (fun h4 => ?_) (fun h4 => ?_)
      ·have h5 : ¬ t = [49] := by simpa using h4
       refine r_m 3 ?_
       refine a_1 ?_
       refine o_0 (.bin rfl rfl (bO_ (m := [32]) (by simp; omega))) ?_
       refine o_3 (.callB (s := some _) rfl rfl rfl rfl rfl rfl (fun _ h => by cases h; exact ⟨rfl, by decide⟩) (db_ s (t ++ [32]) (by simp; omega))) ?_
       refine aj_ ?_
       refine ⟨some (s ++ (t ++ [32])), by unfold fc_; rw [if_neg h5]; rfl, ?_⟩
       show SEnt _ (pb1 q (n, s ++ (t ++ [32])))
       rw [cE_]
       refine SEnt.to2 [(2, 100008)] rfl rfl rfl au_r (fun hs => au_f) (fun hs => au_h)
      ·have h5 : t = [49] := by simpa using h4
       refine ag_ ⟨some s, by unfold fc_; rw [if_pos h5], ?_⟩
       show SEnt _ (pb1 q (n, s))
       rw [cE_]
       exact s_e []
    rintro o2 ho2e
    have ho2 : okOx o2 (B + L + 4) := by
     rw [ho2e]; unfold fc_
     split
     ·exact dh_ ho1 (by omega)
     ·exact dh_ (ix_ ho1 (t := t ++ [32]) (by simp)) (by simp; omega)
    refine aO_ (fun s => pb1 q (n, s)) (fun s => wrO o2 [120] = some s) ?_ ?_
    ·cases o2 with
     | none =>
      show AWp _ _ _ _ (pb0 q n)
      rw [el_]
      refine r_m 1 ?_
      refine o_2 (.callB (s := none) (j := 0) rfl rfl rfl rfl rfl rfl (fun _ h => by cases h) (d5_ [120] (by simp) (by simp))) ?_
      refine aj_ ?_
      refine ⟨[120], rfl, ?_⟩
      simp only [cE_]
      refine SEnt.to2 [(2, 100004)] rfl rfl rfl au_r (fun hs => au_f) (fun hs => au_h)
     | some s =>
      have hsl := (ho2 s rfl).2
      show AWp _ _ _ _ (pb1 q (n, s))
      rw [cE_]
      refine r_m 1 ?_
      refine o_3 (.callB (s := some _) rfl rfl rfl rfl rfl rfl (fun _ h => by cases h; exact ⟨rfl, by decide⟩) (db_ s [120] (by simp; omega))) ?_
      refine aj_ ?_
      refine ⟨s ++ [120], rfl, ?_⟩
      simp only [cE_]
      refine SEnt.to2 [(2, 100004)] rfl rfl rfl au_r (fun hs => au_f) (fun hs => au_h)
    rintro s hs3
    have ho3 := ix_ ho2 (t := [120]) (by simp) s hs3
    have hsl : s.length ≤ B + L + 5 := ho3.2
    simp only [cE_]
    refine r_z 2 ?_
    refine af_ rfl (fun h4 => ?_) (fun h4 => ?_)
    ·have h5 : 1 < n := by simp at h4; omega
     refine r_m 4 ?_
     refine c_s (fI) ?_
     refine o_0 (.bin rfl rfl (bO_ (l := [94]) (by simp; omega))) ?_
     refine o_3 (.callB (s := some _) rfl rfl rfl rfl rfl rfl (fun _ h => by cases h; exact ⟨rfl, by decide⟩) (db_ s ([94] ++ ti n) (by simp; omega))) ?_
     refine aj_ ?_
     refine ⟨some (s ++ ([94] ++ ti n)), by unfold g9_; rw [if_neg hn0, if_pos h5, ← ho1e, ← ht, ← ho2e, hs3]; rfl, ?_⟩
     show SEnt _ (pb1 q (n, s ++ ([94] ++ ti n)))
     rw [cE_]
     refine SEnt.to2 [(2, 100009)] rfl rfl rfl au_r (fun hs => au_f) (fun hs => au_h)
    ·have h5 : ¬ 1 < n := by simp at h4; omega
     refine ag_ ⟨some s, by unfold g9_; rw [if_neg hn0, if_neg h5, ← ho1e, ← ht, ← ho2e, hs3], ?_⟩
     show SEnt _ (pb1 q (n, s))
     rw [cE_]
     exact s_e []
   rintro o' ho'
   have hok' : okOx o' (B + (L + 30)) := by
    rw [ho']
    split
    ·exact dh_ ho (by omega)
    ·have g1 := mN_ ho c
     unfold g9_
     rw [← ht]
     have g2 : okOx (fc_ (sgnTx o c) t) (B + L + 4) := by
      unfold fc_
      split
      ·exact dh_ g1 (by omega)
      ·exact dh_ (ix_ g1 (t := t ++ [32]) (by simp)) (by simp; omega)
     have g3 := ix_ g2 (t := [120]) (by simp)
     split
     ·exact dh_ (ix_ g1 htn) (by omega)
     ·split
      ·exact dh_ (ix_ g3 (t := [94] ++ ti n) (by simp)) (by simp; omega)
      ·exact dh_ g3 (by simp; omega)
   rw [← ho'] at hr
   cases o' with
   | none =>
    show AWp _ _ _ _ (pb0 q n)
    rw [el_]
    refine r_m 3 ?_
    refine a_z ?_
    refine ⟨(n, none), Nat.lt_succ_self n, ⟨by simp only; omega, hr, jt_ _⟩, ?_⟩
    show SEnt _ (pb0 q ((n : Int) - 1))
    rw [el_]
    exact s_e []
   | some s =>
    show AWp _ _ _ _ (pb1 q (n, s))
    rw [cE_]
    refine r_m 3 ?_
    refine a_z ?_
    refine ⟨(n, some s), Nat.lt_succ_self n, ⟨by simp only; omega, hr, by simp only; rw [hm]; exact hok'⟩, ?_⟩
    show SEnt _ (pb1 q ((n : Int) - 1, s))
    rw [cE_]
    exact s_e []
 rintro o ⟨rfl, ho⟩
 cases ho2 : textR tq ti q q.length none with
 | none =>
  show AWp _ _ _ _ (pb0 q (-1))
  rw [el_]
  refine ac_ (s_r 2 ?_)
  refine o_0 (.callR (s := none) (j := 0) (tb := 0) rfl rfl rfl rfl rfl (fun _ h => by cases h) (jQ_)) ?_
  refine a_z ?_
  refine af_ rfl (fun h4 => ?_) (fun h4 => ?_)
  ·refine r_z 1 ?_
   exact ae_ (t_e (ad_ _))
  ·exact absurd h4 (by simp)
 | some s =>
  have hs := ho s ho2
  have hsl : s.length ≠ 0 := by have := hs.1; simpa using this
  have hne := hs.1
  show AWp _ _ _ _ (pb1 q (-1, s))
  rw [cE_]
  refine ac_ (s_r 2 ?_)
  refine o_0 (.callR (s := some _) rfl rfl rfl rfl rfl (fun _ h => by cases h; exact rfl) (jP_ s)) ?_
  refine a_z ?_
  refine af_ rfl (fun h4 => ?_) (fun h4 => ?_)
  ·exact absurd h4 (by simp; omega)
  ·refine ag_ (s_r 2 ?_)
   refine o_2 (.callD rfl rfl rfl rfl rfl rfl (by decide) (by first | assumption | simp) (hW_)) ?_
   refine a_z ?_
   exact ae_ (t_e (ad_ _))
theorem jO_ (p : List Rat) (h : okPT p) : FSpec Tryz.prog 65 [.arr (pE p)] (tx (textP p)) := by
 obtain ⟨h1, h2, h3⟩ := h
 exact pP_ textQ dec2 6 p h1 (by decide) (fun c hc => ⟨fQ_ (absQ c) (okT_abs (h3 c hc)), textQ_ne _, textQ_len.1⟩) (fun n hn => ⟨l1_ n (by omega), Nat.le_trans (e5_ n) (by decide)⟩)
end Go.Proofs.YtdhedjbmdnnbkaaGreatDoor
