/- Part S18 of the proof. -/
import Derived.Test.YtdhedjbmdnnbkaaGreatDoorS17
set_option linter.all false
namespace Go.Proofs.YtdhedjbmdnnbkaaGreatDoor
open Go.Abs
set_option maxRecDepth 100000
def rovS (A D : Nat) : List Nat → Nat → Nat → AState
 | [], R, i => ⟨[(0, .arr (iE (zd A))), (1, .arr (iE (zd D))), (6, .emp), (7, .arr (iE (zd R))), (8, i64 i)], [], 1, 54⟩
 | q :: Q, R, i => ⟨[(0, .arr (iE (zd A))), (1, .arr (iE (zd D))), (6, .lsl 1 0 (Q.length + 1) none 1), (7, .arr (iE (zd R))), (8, i64 i)], [(1, some ⟨3, 1, iE (q :: Q)⟩)], 2, 54⟩
theorem rovS_nil (A D R i : Nat) : rovS A D [] R i = ⟨[(0, .arr (iE (zd A))), (1, .arr (iE (zd D))), (6, .emp), (7, .arr (iE (zd R))), (8, i64 i)], [], 1, 54⟩ := rfl
theorem rovS_cons (A D : Nat) (q : Nat) (Q : List Nat) (R i : Nat) : rovS A D (q :: Q) R i = ⟨[(0, .arr (iE (zd A))), (1, .arr (iE (zd D))), (6, .lsl 1 0 (Q.length + 1) none 1), (7, .arr (iE (zd R))), (8, i64 i)], [(1, some ⟨3, 1, iE (q :: Q)⟩)], 2, 54⟩ := rfl
theorem rov_step {P D R a : Nat} (hD : 0 < D) (hR : R = P % D) (ha : a < UB) : R * UB + a < UB * D ∧ (P * UB + a) / D = P / D * UB + (R * UB + a) / D ∧ (P * UB + a) % D = (R * UB + a) % D ∧ (R * UB + a) / D < UB := by
 have h1 := Nat.div_add_mod P D
 have h2 := Nat.mod_lt P hD
 rw [← hR] at h1 h2
 have h3 : R * UB + a < UB * D := by
  have : (R + 1) * UB ≤ D * UB := Nat.mul_le_mul_right _ h2
  rw [Nat.add_mul, Nat.one_mul, Nat.mul_comm D] at this
  omega
 have h4 : P * UB + a = D * (P / D * UB) + (R * UB + a) := by
  conv => lhs; rw [← h1]
  rw [Nat.add_mul, Nat.mul_assoc, Nat.add_assoc]
 refine ⟨h3, ?_, ?_, ?_⟩
 ·rw [h4, Nat.mul_add_div hD]
 ·rw [h4, Nat.mul_add_mod]
 ·rw [Nat.div_lt_iff_lt_mul hD]; exact h3
theorem fs_rover (A D : Nat) (hD : 0 < D) (hA : bl A ≤ 4398046511104) (hb : bl D ≤ 4398046511104) : FSpec Tryz.prog 241 [.arr (iE (zd A)), .arr (iE (zd D))] (.tup [.arr (iE (zd (A / D))), .arr (iE (zd (A % D)))]) := by
 have hzA := zd_length A
 have hzD := zd_length D
 have hlD := digs_length (b := UB) (by decide) D
 have hlA := digs_length (b := UB) (by decide) A
 obtain ⟨n, hn⟩ : ∃ n, n = (zd D).length := ⟨_, rfl⟩
 have hn1 : 1 ≤ n := by
  have : zd D ≠ [] := fun h => by have := zd_eq_nil.1 h; omega
  have := List.length_pos_iff.2 this; omega
 have hDn : UB ^ (n - 1) ≤ D := by
  rcases digs_len_le (b := UB) (n := D) (by decide) with h | h
  ·rwa [← hzD, ← hn] at h
  ·omega
 refine FSpec.enter Tryz.func241 rfl (by kernel_rfl) rfl rfl rfl ?_ rfl ?_
 ·exact closed_cons (closed_iA _) (closed_cons (closed_iA _) closed_nil)
 refine r_z 2 ?_
 refine AWp.seq ?_
 refine r_z 5 ?_
 refine AWp.cond rfl (fun h => ?_) (fun h => ?_)
 ·have hlt : (zd A).length < (zd D).length := by have := of_decide_eq_true h; omega
  have hAD : A < D := lt_of_len (b := UB) (by decide) (by omega)
  refine r_z 3 ?_
  refine AWp.ret ?_
  refine Fin.many ⟨_, _, rfl, rfl, ⟨_, _, rfl, rfl, rfl⟩⟩ (nle rfl) ?_
  rw [Nat.div_eq_of_lt hAD, Nat.mod_eq_of_lt hAD, zd_zero]
  exact CvL.cons (Cv.emp _) (CvL.cons (Cv.clo shr_nil (closed_iA _)) CvL.nil)
 have hge : n ≤ (zd A).length := by have := of_decide_eq_false h; omega
 refine AWp.skip ?_
 refine r_z 1 ?_
 obtain ⟨P0, hP0⟩ : ∃ P0, P0 = hv ((zd A).take (n - 1)) := ⟨_, rfl⟩
 have hP0D : P0 < D := by
  have h1 := hv_lt (l := (zd A).take (n - 1)) fun d hd => zd_lt A d (List.mem_of_mem_take hd)
  rw [← hP0] at h1
  have h2 : UB ^ ((zd A).take (n - 1)).length ≤ UB ^ (n - 1) := Nat.pow_le_pow_right (by decide) (by simp; omega)
  omega
 have hst := fs_strip ((zd A).take (n - 1)) (by simp; omega)
 rw [stripD_eq (fun d hd => zd_lt A d (List.mem_of_mem_take hd)), ← hP0] at hst
 refine AWp.cut (fun _ : Unit => ⟨[(0, .arr (iE (zd A))), (1, .arr (iE (zd D))), (6, .emp), (7, .arr (iE (zd P0)))], [], 1, 54⟩) (fun _ => True) ?_ ?_
 ·by_cases hn2 : n = 1
  ·rw [hn2] at hst
   refine AWp.reg (m := 8) rfl ?_
   refine a_4 ?_
   refine o_0 (.sa_h rfl rfl (h := 0) (by omega) (by simp) te_71.h (iE_len1 _)) ?_
   refine o_0 (.append0 rfl rfl rfl te_71.h rfl rfl rfl (.arr (es := []) (by simp))) ?_
   refine c_s (hst) ?_
   refine a_z ?_
   refine ⟨(), trivial, ?_⟩
   exact s_e []
  ·have hne : (iE (zd A)).take (n - 1) ≠ [] := fun h => by
    have := congrArg List.length h
    rw [List.length_take, iE_length, List.length_nil] at this; omega
   have hfull : List.take ((iE (zd A)).take (n - 1)).length (List.drop 0 ((iE (zd A)).take (n - 1))) = iE ((zd A).take (n - 1)) := by rw [List.drop_zero, List.take_length, iE_take]
   refine AWp.reg (m := 8) rfl ?_
   refine a_4 ?_
   refine o_0 (.sa_h rfl rfl (h := n - 1) (by omega) (by simp; omega) te_71.h (iE_len1 _)) ?_
   refine o_1 (.append_e rfl rfl rfl te_71.h rfl rfl rfl (.arr (fun e he => iE_len1 _ e (List.mem_of_mem_take he))) (by first | assumption | (simp; done)) tz_3.h rfl tb_3.h (by first | rfl | assumption | (simp; done) | (simp; omega) | omega) (by first | (simp [maxLen]; done) | (simp [maxLen]; omega))) ?_
   refine o_1 (.callS1 rfl rfl rfl (.shut rfl (by first | exact nle rfl | (simp; done) | (simp; omega)) (.nil)) rfl ((by rw [hfull]; exact hst))) ?_
   refine a_z ?_
   refine ⟨(), trivial, ?_⟩
   exact s_e []
 rintro _ _
 refine AWp.seq ?_
 refine r_z 4 ?_
 refine AWp.cutT (fun x : List Nat × Nat => rovS A D x.1 x.2 (zd A).length) (fun x => (∀ d ∈ x.1, d < UB) ∧ hv x.1 = A / D ∧ x.2 = A % D ∧ x.1.length ≤ (zd A).length) ?_ ?_
 ·refine AWp.block ?_
  refine AWp.loopS (fun x : List Nat × Nat × Nat => rovS A D x.1 x.2.1 x.2.2) (fun x => (zd A).length - x.2.2) (fun x => x.2.2 ≤ (zd A).length ∧ (∀ d ∈ x.1, d < UB) ∧ hv x.1 = hv ((zd A).take x.2.2) / D ∧ x.2.1 = hv ((zd A).take x.2.2) % D ∧ x.1.length ≤ x.2.2) ([], P0, n - 1) ⟨by simp only; omega, by simp, by simp only; rw [← hP0, Nat.div_eq_of_lt hP0D]; rfl, by simp only; rw [← hP0, Nat.mod_eq_of_lt hP0D], by simp⟩ ?_ ?_
  ·simp only [rovS_nil]
   exact s_e []
  rintro ⟨Q, R, i⟩ ⟨hi, hQd, hQ, hR, hQl⟩
  simp only at hi hQd hQ hR hQl
  -- the head, whatever the quotient so far
  by_cases hlt : i < (zd A).length
  ·obtain ⟨a, hai⟩ : ∃ a, (zd A)[i]? = some a := ⟨_, List.getElem?_eq_getElem hlt⟩
   have ha : a < UB := zd_lt A a (List.mem_of_getElem? hai)
   have hai' : (iE (zd A))[((i : Nat) : Int).toNat]? = some [i64 a] := iE_get hai
   have hPs : hv ((zd A).take (i + 1)) = hv ((zd A).take i) * UB + a := by rw [take_snoc hai, hv_snoc]
   obtain ⟨P, hP⟩ : ∃ P, P = hv ((zd A).take i) := ⟨_, rfl⟩
   rw [← hP] at hQ hR hPs
   obtain ⟨s1, s2, s3, s4⟩ := rov_step hD hR ha
   have hRD : R < D := by rw [hR]; exact Nat.mod_lt _ hD
   have hlR := digs_length (b := UB) (by decide) R
   have hbR := bl_mono (Nat.le_of_lt hRD)
   have hzR := zd_length R
   have hsh := fs_share (R * UB + a) D hD s1 hb
   cases Q with
   | nil =>
    simp only [rovS_nil]
    refine AWp.seq ?_
    refine r_z 4 ?_
    refine AWp.cond rfl (fun h => ?_) (fun h => ?_)
    rotate_left
    ·exact absurd h (by simp; omega)
    refine AWp.skip ?_
    refine AWp.seq ?_
    refine AWp.block ?_
    refine AWp.cut (fun _ : Unit => rovS A D [] (R * UB + a) i) (fun _ => True) ?_ ?_
    ·by_cases hR0 : R = 0
     ·subst hR0
      have hst1 := fs_strip [a] (by simp)
      rw [stripD_eq (by simpa using ha), show hv [a] = 0 * UB + a by rw [hv_cons, hv_nil]; simp] at hst1
      rw [zd_zero]
      refine AWp.regD hmix (m := 10) rfl ?_
      refine a_1 ?_
      refine o_0 (.append0 rfl rfl rfl te_71.h rfl rfl rfl (.arr (es := []) (by simp))) ?_
      refine a_2 ?_
      first | refine AR.op0 (.index_l rfl rfl (by omega) (by omega) te_71.h) rfl rfl ?_ | refine AR.op0 (.index_a rfl rfl (by omega) hai' rfl te_71.h) rfl rfl ?_
      first | refine AR.op0 (.load_l1 rfl rfl hai' tg_3.h rfl) rfl rfl ?_ | refine AR.op0 (.load_a1 rfl hai' tg_3.h rfl) rfl rfl ?_
      refine a_2 ?_
      refine o_1 (.callS1 rfl rfl rfl (.shut rfl (by first | exact nle rfl | (simp; done) | (simp; omega)) (.nil)) rfl ((FSpec.argE hst1 rfl))) ?_
      refine a_1 ?_
      refine AR.nil ⟨by kernel_rfl, ?_⟩
      refine ⟨(), trivial, ?_⟩
      simp only [rovS_nil]
      exact s_e []
     ·have hne : iE (zd R) ≠ [] := fun h => by
       have h1 := congrArg List.length h
       rw [iE_length, List.length_nil, List.length_eq_zero_iff] at h1
       exact hR0 (zd_eq_nil.1 h1)
      have hd2 : ∀ d ∈ zd R ++ [a], d < UB := fun d hd => by
       rcases List.mem_append.1 hd with hd | hd
       ·exact zd_lt R d hd
       ·simp at hd; rw [hd]; exact ha
      have hst1 := fs_strip (zd R ++ [a]) (by simp; omega)
      rw [stripD_eq hd2, hv_snoc, hv_zd] at hst1
      refine AWp.regD hmix (m := 10) rfl ?_
      refine a_1 ?_
      refine o_1 (.append_e rfl rfl rfl te_71.h rfl rfl rfl (.arr (iE_len1 _)) (by first | assumption | (simp; done)) tz_3.h rfl tb_3.h (by first | rfl | assumption | (simp; done) | (simp; omega) | omega) (by first | (simp [maxLen]; done) | (simp [maxLen]; omega))) ?_
      refine a_2 ?_
      first | refine AR.op0 (.index_l rfl rfl (by omega) (by omega) te_71.h) rfl rfl ?_ | refine AR.op0 (.index_a rfl rfl (by omega) hai' rfl te_71.h) rfl rfl ?_
      first | refine AR.op0 (.load_l1 rfl rfl hai' tg_3.h rfl) rfl rfl ?_ | refine AR.op0 (.load_a1 rfl hai' tg_3.h rfl) rfl rfl ?_
      refine a_2 ?_
      refine o_1 (.callS1 rfl rfl rfl (.shut rfl (by first | exact nle rfl | (simp; done) | (simp; omega)) (.nil)) rfl ((FSpec.argE hst1 (by rw [List.drop_zero, List.take_of_length_le (by simp)]; simp [iE, i64])))) ?_
      refine a_1 ?_
      refine AR.nil ⟨by kernel_rfl, ?_⟩
      refine ⟨(), trivial, ?_⟩
      simp only [rovS_nil]
      exact s_e []
    rintro _ _
    simp only [rovS_nil]
    refine r_z 1 ?_
    refine r_c 8 (hsh) ?_
    refine a_z ?_
    refine AWp.reg (m := 5) rfl ?_
    refine a_z ?_
    refine AWp.reg (m := 3) rfl ?_
    refine a_z ?_
    refine ⟨([(R * UB + a) / D], (R * UB + a) % D, i + 1), by simp only; omega, ⟨by simp only; omega, by simpa using s4, ?_, ?_, by simp⟩, ?_⟩
    ·simp only; rw [hPs, s2, ← hQ, hv_cons, hv_nil]; simp
    ·simp only; rw [hPs, s3]
    ·simp only [rovS_cons]
     exact s_e [(1, 6)]
   | cons q Q =>
    simp only [rovS_cons]
    refine AWp.seq ?_
    refine r_z 4 ?_
    refine AWp.cond rfl (fun h => ?_) (fun h => ?_)
    rotate_left
    ·exact absurd h (by simp; omega)
    refine AWp.skip ?_
    refine AWp.seq ?_
    refine AWp.block ?_
    refine AWp.cut (fun _ : Unit => rovS A D (q :: Q) (R * UB + a) i) (fun _ => True) ?_ ?_
    ·by_cases hR0 : R = 0
     ·subst hR0
      have hst1 := fs_strip [a] (by simp)
      rw [stripD_eq (by simpa using ha), show hv [a] = 0 * UB + a by rw [hv_cons, hv_nil]; simp] at hst1
      rw [zd_zero]
      refine AWp.regD hmix (m := 10) rfl ?_
      refine a_1 ?_
      refine o_0 (.append0 rfl rfl rfl te_71.h rfl rfl rfl (.arr (es := []) (by simp))) ?_
      refine a_2 ?_
      first | refine AR.op0 (.index_l rfl rfl (by omega) (by omega) te_71.h) rfl rfl ?_ | refine AR.op0 (.index_a rfl rfl (by omega) hai' rfl te_71.h) rfl rfl ?_
      first | refine AR.op0 (.load_l1 rfl rfl hai' tg_3.h rfl) rfl rfl ?_ | refine AR.op0 (.load_a1 rfl hai' tg_3.h rfl) rfl rfl ?_
      refine a_2 ?_
      refine o_1 (.callS1 rfl rfl rfl (.shut rfl (by first | exact nle rfl | (simp; done) | (simp; omega)) (.nil)) rfl ((FSpec.argE hst1 rfl))) ?_
      refine a_1 ?_
      refine AR.nil ⟨by kernel_rfl, ?_⟩
      refine ⟨(), trivial, ?_⟩
      simp only [rovS_cons]
      exact s_e []
     ·have hne : iE (zd R) ≠ [] := fun h => by
       have h1 := congrArg List.length h
       rw [iE_length, List.length_nil, List.length_eq_zero_iff] at h1
       exact hR0 (zd_eq_nil.1 h1)
      have hd2 : ∀ d ∈ zd R ++ [a], d < UB := fun d hd => by
       rcases List.mem_append.1 hd with hd | hd
       ·exact zd_lt R d hd
       ·simp at hd; rw [hd]; exact ha
      have hst1 := fs_strip (zd R ++ [a]) (by simp; omega)
      rw [stripD_eq hd2, hv_snoc, hv_zd] at hst1
      refine AWp.regD hmix (m := 10) rfl ?_
      refine a_1 ?_
      refine o_1 (.append_e rfl rfl rfl te_71.h rfl rfl rfl (.arr (iE_len1 _)) (by first | assumption | (simp; done)) tz_3.h rfl tb_3.h (by first | rfl | assumption | (simp; done) | (simp; omega) | omega) (by first | (simp [maxLen]; done) | (simp [maxLen]; omega))) ?_
      refine a_2 ?_
      first | refine AR.op0 (.index_l rfl rfl (by omega) (by omega) te_71.h) rfl rfl ?_ | refine AR.op0 (.index_a rfl rfl (by omega) hai' rfl te_71.h) rfl rfl ?_
      first | refine AR.op0 (.load_l1 rfl rfl hai' tg_3.h rfl) rfl rfl ?_ | refine AR.op0 (.load_a1 rfl hai' tg_3.h rfl) rfl rfl ?_
      refine a_2 ?_
      refine o_1 (.callS1 rfl rfl rfl (.shut rfl (by first | exact nle rfl | (simp; done) | (simp; omega)) (.nil)) rfl ((FSpec.argE hst1 (by rw [List.drop_zero, List.take_of_length_le (by simp)]; simp [iE, i64])))) ?_
      refine a_1 ?_
      refine AR.nil ⟨by kernel_rfl, ?_⟩
      refine ⟨(), trivial, ?_⟩
      simp only [rovS_cons]
      exact s_e []
    rintro _ _
    simp only [rovS_cons]
    refine r_z 1 ?_
    refine r_c 8 (hsh) ?_
    refine a_z ?_
    have hQl' : Q.length + 1 ≤ i := by simpa using hQl
    refine AWp.reg (m := 5) rfl ?_
    refine a_z ?_
    refine AWp.reg (m := 3) rfl ?_
    refine a_z ?_
    refine ⟨(q :: (Q ++ [(R * UB + a) / D]), (R * UB + a) % D, i + 1), by simp only; omega, ⟨by simp only; omega, ?_, ?_, ?_, by simp at hQl ⊢; omega⟩, ?_⟩
    ·intro d hd
     rcases List.mem_append.1 (show d ∈ (q :: Q) ++ [(R * UB + a) / D] from hd) with hd | hd
     ·exact hQd d hd
     ·simp at hd; rw [hd]; exact s4
    ·simp only; rw [hPs, s2, ← hQ, ← hv_snoc]; rfl
    ·simp only; rw [hPs, s3]
    ·simp only [rovS_cons]
     have e : iE (q :: Q) ++ List.take 1 (List.drop 0 [[i64 ((R * UB + a) / D : Nat)]]) = iE (q :: (Q ++ [(R * UB + a) / D])) := by simp [iE]
     refine SEnt.to [(1, 6)] rfl rfl rfl ?_ (fun hs => au_f) (fun hs => ?_)
     ·repeat' (first | exact ShrL.nil | refine ShrL.cons rfl rfl rfl rfl (by first | (simp) | rfl | (simp; done) | (simp <;> omega)) ?_)
     ·repeat' (first | exact CvH.nil | refine CvH.cons rfl rfl rfl rfl ?_ ?_)
      all_goals (first | (exact CvLL.cloE hs e (closed_iE _)) | exact au_e)
  ·have hge : i = (zd A).length := by omega
   subst hge
   rw [List.take_length, hv_zd] at hQ hR
   cases Q with
   | nil =>
    simp only [rovS_nil]
    refine AWp.seq ?_
    refine r_z 4 ?_
    refine AWp.cond rfl (fun h => ?_) (fun h => ?_)
    ·exact absurd h (by simp)
    ·refine AWp.exit ⟨([], R), ⟨hQd, hQ, hR, hQl⟩, ?_⟩
     simp only [rovS_nil]
     exact s_e []
   | cons q Q =>
    simp only [rovS_cons]
    refine AWp.seq ?_
    refine r_z 4 ?_
    refine AWp.cond rfl (fun h => ?_) (fun h => ?_)
    ·exact absurd h (by simp)
    ·refine AWp.exit ⟨(q :: Q, R), ⟨hQd, hQ, hR, hQl⟩, ?_⟩
     simp only [rovS_cons]
     exact s_e []
 rintro ⟨Q, R⟩ ⟨hQd, hQ, hR, hQl⟩
 simp only at hQd hQ hR hQl
 have hsq := fs_strip Q (by omega)
 rw [stripD_eq hQd, hQ] at hsq
 subst hR
 cases Q with
 | nil =>
  simp only [rovS_nil]
  refine r_c 5 (hsq) ?_
  refine a_z ?_
  refine AWp.ret ?_
  refine Fin.many ⟨_, _, rfl, rfl, ⟨_, _, rfl, rfl, rfl⟩⟩ (nle rfl) ?_
  exact CvL.cons (Cv.clo shr_nil (closed_iA _)) (CvL.cons (Cv.clo shr_nil (closed_iA _)) CvL.nil)
 | cons q Q =>
  simp only [rovS_cons]
  have hfull : List.take (Q.length + 1) (List.drop 0 (iE (q :: Q))) = iE (q :: Q) := by rw [List.drop_zero, List.take_of_length_le (by simp)]
  refine s_r 5 ?_
  refine a_1 ?_
  refine o_1 (.callS1 rfl rfl rfl (.shut rfl (by first | exact nle rfl | (simp; done) | (simp; omega)) (.nil)) rfl ((by rw [hfull]; exact hsq))) ?_
  refine a_z ?_
  refine AWp.ret ?_
  refine Fin.many ⟨_, _, rfl, rfl, ⟨_, _, rfl, rfl, rfl⟩⟩ (nle rfl) ?_
  exact CvL.cons (Cv.clo shr_nil (closed_iA _)) (CvL.cons (Cv.clo shr_nil (closed_iA _)) CvL.nil)
def zgS  : Nat × Nat → AState
 | (p, q) => ⟨[(4, .lptr 1 0 0), (5, .arr (iE (zd p))), (6, .arr (iE (zd q)))], [(1, some ⟨73, 2, [[i64 0, .emp]]⟩)], 2, 48⟩
theorem zgS_mk  (p : Nat) (q : Nat) : zgS  (p, q) = ⟨[(4, .lptr 1 0 0), (5, .arr (iE (zd p))), (6, .arr (iE (zd q)))], [(1, some ⟨73, 2, [[i64 0, .emp]]⟩)], 2, 48⟩ := rfl
def zgW  : Nat × Nat → AState
 | (x, y) => ⟨[(4, .lptr 1 0 0), (7, i64 x), (8, i64 y)], [(1, some ⟨73, 2, [[i64 0, .emp]]⟩)], 2, 48⟩
theorem zgW_mk  (x : Nat) (y : Nat) : zgW  (x, y) = ⟨[(4, .lptr 1 0 0), (7, i64 x), (8, i64 y)], [(1, some ⟨73, 2, [[i64 0, .emp]]⟩)], 2, 48⟩ := rfl
theorem zgcd_step (p q : Nat) : Nat.gcd q (p % q) = Nat.gcd p q := by
 rw [Nat.gcd_comm p q, Nat.gcd_rec q p, Nat.gcd_comm]
theorem zshort_lt {n : Nat} (h : (zd n).length ≤ 4) : n < 1152921504606846976 := by
 have h1 := hv_lt (zd_lt n)
 rw [hv_zd] at h1
 exact Nat.lt_of_lt_of_le h1 (Nat.pow_le_pow_right (n := 32768) (j := 4) (by decide) h)
theorem fs_ZGcd (x y : Int) (hx : bl x.natAbs ≤ 4398046511104) (hy : bl y.natAbs ≤ 4398046511104) : FSpec Tryz.prog 226 [.agg (zZ x), .agg (zZ y)] (.agg (zZ (Nat.gcd x.natAbs y.natAbs : Nat))) := by
 refine FSpec.enter Tryz.func226 rfl (by kernel_rfl) rfl rfl rfl ?_ rfl ?_
 ·exact closed_cons (closed_zZA x) (closed_cons (closed_zZA y) closed_nil)
 refine r_z 3 ?_
 refine AWp.seq ?_
 refine AWp.regD hmix (m := 6) rfl ?_
 refine a_6 ?_
 refine AR.nil ⟨by kernel_rfl, ?_⟩
 refine AWp.cut (fun p : Nat => zgS (p, 0)) (fun p => p = Nat.gcd x.natAbs y.natAbs) ?_ ?_
 ·refine AWp.block ?_
  refine AWp.loopS zgS (fun v => v.2) (fun v => Nat.gcd v.1 v.2 = Nat.gcd x.natAbs y.natAbs ∧ bl v.1 ≤ 4398046511104 ∧ bl v.2 ≤ 4398046511104) (x.natAbs, y.natAbs) ⟨rfl, hx, hy⟩ ?_ ?_
  ·simp only [zgS_mk]
   exact s_e [(1, 4)]
  rintro ⟨p, q⟩ ⟨hg, hp, hq⟩
  simp only at hg hp hq
  have hzp := zd_length p
  have hzq := zd_length q
  have hlp := digs_length (b := UB) (by decide) p
  have hlq := digs_length (b := UB) (by decide) q
  rw [zgS_mk]
  refine AWp.seq ?_
  refine r_z 3 ?_
  refine AWp.cond rfl (fun h => ?_) (fun h => ?_)
  ·have hq0 : 0 < q := by
    rcases Nat.eq_zero_or_pos q with e | e
    ·subst e; rw [zd_zero] at h; simp at h
    ·exact e
   refine AWp.skip ?_
   refine AWp.block ?_
   refine AWp.cut (fun _ : Unit => zgS (p, q)) (fun _ => True) ?_ ?_
   ·by_cases hl : (zd p).length ≤ 4
    ·by_cases hl2 : (zd q).length ≤ 4
     ·have hwp := zshort_lt hl
      have hwq := zshort_lt hl2
      have hsp := fs_short (zd p) hl (zd_lt p)
      have hsq := fs_short (zd q) hl2 (zd_lt q)
      rw [hv_zd] at hsp hsq
      refine s_r 8 ?_
      refine a_4 ?_
      refine AR.op0y rfl rfl (gy (by simp; omega)) (.move rfl) rfl rfl ?_
      first | refine AR.op0y rfl rfl (gy (by simp; omega)) (.lenD rfl rfl rfl rfl te_71.h) rfl rfl ?_ | refine AR.op0y rfl rfl (gy (by simp; omega)) (.lenI rfl rfl rfl rfl te_71.h) rfl rfl ?_ | refine AR.op0y rfl rfl (gy (by simp; omega)) (.lenP rfl rfl rfl rfl te_71.h) rfl rfl ?_ | refine AR.op0y rfl rfl (gy (by simp; omega)) (.lenC rfl rfl rfl rfl te_71.h) rfl rfl ?_ | refine AR.op0y rfl rfl (gy (by simp; omega)) (.lenR rfl rfl rfl rfl te_71.h) rfl rfl ?_ | refine AR.op0y rfl rfl (gy (by simp; omega)) (.len rfl rfl rfl rfl rfl te_71.h) rfl rfl ?_
      refine AR.op0y rfl rfl (gy (by simp; omega)) (.bin rfl rfl binI_leq) rfl rfl ?_
      refine o_0 (.pickT rfl (by simp; omega) rfl) ?_
      refine AR.nil ?_
      refine AWp.cond rfl (fun h1 => ?_) (fun h1 => ?_)
      ·refine r_c 6 (hsp) ?_
       refine c_s (hsq) ?_
       refine a_z ?_
       refine AWp.cut (fun v : Nat => zgW (v, 0)) (fun v => v = Nat.gcd x.natAbs y.natAbs) ?_ ?_
       ·refine AWp.block ?_
        refine AWp.loopS zgW (fun v => v.2) (fun v => Nat.gcd v.1 v.2 = Nat.gcd x.natAbs y.natAbs ∧ v.1 < 1152921504606846976 ∧ v.2 < 1152921504606846976) (p, q) ⟨hg, hwp, hwq⟩ ?_ ?_
        ·simp only [zgW_mk]
         exact s_e []
        rintro ⟨u, v⟩ ⟨huv, hu, hv⟩
        simp only at huv hu hv
        rw [zgW_mk]
        refine AWp.seq ?_
        refine r_z 2 ?_
        refine AWp.cond rfl (fun h2 => ?_) (fun h2 => ?_)
        ·have hv0 : 0 < v := by simp at h2; omega
         refine AWp.skip ?_
         refine AWp.block ?_
         refine AWp.regD hmix (m := 6) rfl ?_
         refine a_6 ?_
         refine AR.nil ⟨by kernel_rfl, ?_⟩
         refine ⟨(v, u % v), Nat.mod_lt _ hv0, ⟨(zgcd_step u v).trans huv, hv, Nat.lt_trans (Nat.mod_lt _ hv0) hv⟩, ?_⟩
         simp only [zgW_mk]
         exact s_e []
        ·have hv0 : v = 0 := by simp at h2; omega
         subst hv0
         refine AWp.exit ⟨u, by simpa using huv, ?_⟩
         simp only [zgW_mk]
         exact s_e []
       rintro v hv
       rw [zgW_mk]
       have hv64 : v < 1152921504606846976 := by
        rw [hv, ← hg]
        have h1 : Nat.gcd p q ≤ q := Nat.gcd_le_right _ hq0
        omega
       refine r_c 3 (fs_ZInt v (by omega)) ?_
       refine a_z ?_
       refine AWp.ret ?_
       refine Fin.cellE rfl rfl rfl tg_73.h ts_73.h (nle rfl) ?_ ?_
       ·rw [← hv]; rfl
       ·exact closed_zZA _
      ·exact absurd h1 (by simp; omega)
     ·refine s_r 8 ?_
      refine a_4 ?_
      refine AR.op0y rfl rfl (gy (by simp; omega)) (.move rfl) rfl rfl ?_
      first | refine AR.op0y rfl rfl (gy (by simp; omega)) (.lenD rfl rfl rfl rfl te_71.h) rfl rfl ?_ | refine AR.op0y rfl rfl (gy (by simp; omega)) (.lenI rfl rfl rfl rfl te_71.h) rfl rfl ?_ | refine AR.op0y rfl rfl (gy (by simp; omega)) (.lenP rfl rfl rfl rfl te_71.h) rfl rfl ?_ | refine AR.op0y rfl rfl (gy (by simp; omega)) (.lenC rfl rfl rfl rfl te_71.h) rfl rfl ?_ | refine AR.op0y rfl rfl (gy (by simp; omega)) (.lenR rfl rfl rfl rfl te_71.h) rfl rfl ?_ | refine AR.op0y rfl rfl (gy (by simp; omega)) (.len rfl rfl rfl rfl rfl te_71.h) rfl rfl ?_
      refine AR.op0y rfl rfl (gy (by simp; omega)) (.bin rfl rfl binI_leq) rfl rfl ?_
      refine o_0 (.pickT rfl (by simp; omega) rfl) ?_
      refine AR.nil ?_
      refine AWp.cond rfl (fun h => ?_) (fun _ => AWp.skip ⟨(), trivial, ?_⟩)
      ·exact absurd h (by simp; omega)
      ·simp only [zgS_mk]
       exact s_e []
    ·refine s_r 8 ?_
     refine a_4 ?_
     refine AR.opN rfl rfl (gn (by simp; omega)) rfl rfl ?_
     refine AR.opN rfl rfl (gn (by simp; omega)) rfl rfl ?_
     refine AR.opN rfl rfl (gn (by simp; omega)) rfl rfl ?_
     refine o_0 (.pickF rfl (by simp; omega) rfl) ?_
     refine AR.nil ?_
     refine AWp.cond rfl (fun h => ?_) (fun _ => AWp.skip ⟨(), trivial, ?_⟩)
     ·cases h
     ·simp only [zgS_mk]
      exact s_e []
   rintro _ _
   rw [zgS_mk]
   refine r_c 8 (fs_rover p q hq0 hp hq) ?_
   refine a_z ?_
   refine AWp.reg (m := 4) rfl ?_
   refine a_z ?_
   refine ⟨(q, p % q), Nat.mod_lt _ hq0, ⟨(zgcd_step p q).trans hg, hq, ?_⟩, ?_⟩
   ·have := bl_mono (Nat.le_of_lt (Nat.mod_lt p hq0))
    simp only; omega
   ·simp only [zgS_mk]
    exact s_e []
  ·have hq0 : q = 0 := by
    refine zd_eq_nil.1 (List.length_eq_zero_iff.1 ?_)
    have := of_decide_eq_false h; omega
   subst hq0
   refine AWp.exit ⟨p, by simpa using hg, ?_⟩
   simp only [zgS_mk]
   exact s_e []
 rintro p hp
 rw [zgS_mk]
 have hbp : bl p ≤ 4398046511104 := by
  rw [hp]
  rcases Nat.eq_zero_or_pos y.natAbs with e | e
  ·rw [e, Nat.gcd_zero_right]; exact hx
  ·exact Nat.le_trans (bl_mono (Nat.gcd_le_right _ e)) hy
 have hzp := zd_length p
 have hlp := digs_length (b := UB) (by decide) p
 refine r_c 3 (fs_with 1 (zd p) (p : Int) (by omega) (zd_lt p) (by rw [hv_zd, Int.natAbs_natCast]) (fun h => by unfold sgZ; rw [if_neg h, if_neg (by omega)])) ?_
 refine a_z ?_
 refine AWp.ret ?_
 refine Fin.cellE rfl rfl rfl tg_73.h ts_73.h (nle rfl) ?_ ?_
 ·rw [← hp]; rfl
 ·exact closed_zZA _
theorem fs_rden (x : RQ) (hx : rok x) : FSpec Tryz.prog 167 [.agg (rC x)] (.agg (zZ (x.1.den : Int))) := by
 refine FSpec.enter Tryz.func167 rfl (by kernel_rfl) rfl rfl rfl ?_ rfl ?_
 ·exact closed_cons (closed_rA x) closed_nil
 refine r_z 2 ?_
 refine AWp.seq ?_
 refine r_z 4 ?_
 obtain ⟨q, f⟩ := x
 have hp := q.den_pos
 cases f with
 | true =>
  have h0 : q = 0 := hx rfl
  subst h0
  refine AWp.cond (t := true) rfl (fun h => ?_) (fun h => ?_)
  ·refine r_c 2 (fs_ZInt 1 (by decide)) ?_
   refine a_z ?_
   refine AWp.ret ?_
   refine Fin.cellE rfl rfl rfl tg_73.h ts_73.h (nle rfl) ?_ ?_
   ·rfl
   ·exact closed_zZA _
  ·cases h
 | false =>
  refine AWp.cond rfl (fun h => ?_) (fun h => ?_)
  ·exfalso
   have h1 : sgZ (q.den : Int) = 0 := by simpa using h
   rcases sgZ_cases (q.den : Int) with ⟨a, b⟩ | ⟨a, b⟩ | ⟨a, b⟩ <;> omega
  ·refine AWp.skip ?_
   refine r_z 3 ?_
   refine AWp.ret ?_
   refine Fin.cellE rfl rfl rfl tg_73.h ts_73.h (nle rfl) ?_ ?_
   ·rfl
   ·exact closed_zZA _
theorem zd_one : zd 1 = [1] := by
 unfold zd; rw [digs_pos (by decide) (by decide), show 1 / UB = 0 by decide, digs_zero]; rfl
theorem zZ_one {g : Nat} (h : g = 1) : zZ (g : Int) = [i64 1, .arr [[i64 1]]] := by
 subst h
 show [i64 (sgZ 1), AV.arr (iE (zd 1))] = _
 rw [zd_one]; rfl
theorem zd_single {g : Nat} (h : (zd g).length = 1) : zd g = [g] := by
 obtain ⟨a, ha⟩ := List.length_eq_one_iff.1 h
 have h1 := hv_zd g
 rw [ha, hv_cons, hv_nil] at h1
 simp at h1
 rw [ha, h1]
theorem zd_len_le {n : Nat} (h : bl n ≤ 4398046511104) : (zd n).length ≤ 281474976710656 := by
 rw [zd_length]
 have := digs_length (b := UB) (by decide) n
 omega
def ratS (n' : Int) (D g : Nat) : AState := ⟨[(2, .lptr 1 0 0), (3, .lptr 2 0 0), (4, .lptr 3 0 0), (5, .lptr 4 0 0)], [(1, some ⟨73, 2, [zZ n']⟩), (2, some ⟨73, 2, [zZ (D : Int)]⟩), (3, some ⟨75, 4, [[i64 0, .emp, i64 0, .emp]]⟩), (4, some ⟨73, 2, [zZ (g : Int)]⟩)], 5, 57⟩
theorem fs_Ratio (n d : Int) (hd : d ≠ 0) (hn : bl n.natAbs ≤ 4398046511104) (hb : bl d.natAbs ≤ 4398046511104) : FSpec Tryz.prog 184 [.agg (zZ n), .agg (zZ d)] (.agg (rC (rq (Rat.divInt n d)))) := by
 refine FSpec.enter Tryz.func184 rfl (by kernel_rfl) rfl rfl rfl ?_ rfl ?_
 ·exact closed_cons (closed_zZA n) (closed_cons (closed_zZA d) closed_nil)
 refine r_z 3 ?_
 refine AWp.cut (fun n' : Int => ⟨[(2, .lptr 1 0 0), (3, .lptr 2 0 0), (4, .lptr 3 0 0)], [(1, some ⟨73, 2, [zZ n']⟩), (2, some ⟨73, 2, [zZ (d.natAbs : Int)]⟩), (3, some ⟨75, 4, [[i64 0, .emp, i64 0, .emp]]⟩)], 4, 57⟩) (fun n' => n'.natAbs = n.natAbs ∧ Rat.divInt n d = mkRat n' d.natAbs) ?_ ?_
 ·refine r_z 3 ?_
  refine AWp.cond rfl (fun h => ?_) (fun h => ?_)
  ·have hneg : d < 0 := by
    have h1 : sgZ d < 0 := by simpa using h
    rcases sgZ_cases d with ⟨a, b⟩ | ⟨a, b⟩ | ⟨a, b⟩ <;> omega
   have e : -d = (d.natAbs : Int) := by omega
   have hdn := fs_ZNeg d
   rw [e] at hdn
   refine AWp.regD hmix (m := 6) rfl ?_
   refine c_s (fs_ZNeg n) ?_
   refine c_s (hdn) ?_
   refine a_2 ?_
   refine AR.nil ⟨by kernel_rfl, ?_⟩
   refine ⟨-n, ⟨by omega, divInt_neg n d hneg⟩, ?_⟩
   exact s_e []
  ·have hpos : 0 < d := by
    have h1 : ¬ sgZ d < 0 := by simpa using h
    rcases sgZ_cases d with ⟨a, b⟩ | ⟨a, b⟩ | ⟨a, b⟩ <;> omega
   have e : d = (d.natAbs : Int) := by omega
   refine AWp.skip ⟨n, ⟨rfl, divInt_pos n d hpos⟩, ?_⟩
   rw [← e]
   exact s_e []
 rintro n' ⟨hna, hv⟩
 have hD : 0 < d.natAbs := by omega
 obtain ⟨D, hDd⟩ : ∃ D, D = d.natAbs := ⟨_, rfl⟩
 rw [hv]
 rw [← hDd] at hb hD ⊢
 rw [← hna] at hn
 obtain ⟨g, hg⟩ : ∃ g, g = Nat.gcd n'.natAbs D := ⟨_, rfl⟩
 have hgp : 0 < g := by rw [hg]; exact Nat.gcd_pos_of_pos_right _ hD
 have hgD : g ≤ D := by rw [hg]; exact Nat.gcd_le_right _ hD
 have hbg := bl_mono hgD
 have hnum : (mkRat n' D).num.natAbs = n'.natAbs / g := by rw [mkRat_sgn hD, sgn_natAbs, hg]
 have hden : (mkRat n' D).den = D / g := by rw [(mkRat_num hD).2, hg]
 have hsg := sgZ_mkRat (n := n') hD
 have hgc := fs_ZGcd n' (D : Int) hn (by rw [Int.natAbs_natCast]; exact hb)
 rw [Int.natAbs_natCast, ← hg] at hgc
 have hfin : rC (rq (mkRat n' D)) = zZ (sgn (decide (n' < 0)) (n'.natAbs / g)) ++ zZ ((D / g : Nat) : Int) := by
  rw [rC_rq, hden, mkRat_sgn hD, ← hg]
 rw [hfin]
 have hgn : bl (D / g) ≤ bl D := bl_div_le D g
 have hgn2 : bl (n'.natAbs / g) ≤ bl n'.natAbs := bl_div_le n'.natAbs g
 refine r_c 5 (hgc) ?_
 refine a_z ?_
 refine AWp.cut (fun _ : Unit => ratS n' D g) (fun _ => g ≠ 1) ?_ ?_
 ·by_cases h1 : g = 1
  ·rw [zZ_one h1]
   refine s_r 11 ?_
   refine a_5 ?_
   first | refine AR.op0y rfl rfl (gy rfl) (.fieldAddr_l rfl tf_73_1.h (by decide)) rfl rfl ?_ | refine AR.op0y rfl rfl (gy rfl) (.fieldAddr_a rfl tf_73_1.h (by decide)) rfl rfl ?_
   first | refine AR.op0y rfl rfl (gy rfl) (.load_l1 rfl rfl rfl tg_71.h rfl) rfl rfl ?_ | refine AR.op0y rfl rfl (gy rfl) (.load_a1 rfl rfl tg_71.h rfl) rfl rfl ?_
   first | refine AR.op0y rfl rfl (gy rfl) (.index_l rfl rfl (by omega) (by omega) te_71.h) rfl rfl ?_ | refine AR.op0y rfl rfl (gy rfl) (.index_a rfl rfl (by omega) rfl rfl te_71.h) rfl rfl ?_
   first | refine AR.op0y rfl rfl (gy rfl) (.load_l1 rfl rfl rfl tg_3.h rfl) rfl rfl ?_ | refine AR.op0y rfl rfl (gy rfl) (.load_a1 rfl rfl tg_3.h rfl) rfl rfl ?_
   refine AR.op0y rfl rfl (gy rfl) (.bin rfl rfl binI_eql) rfl rfl ?_
   refine o_0 (.pickT rfl rfl rfl) ?_
   refine AR.nil ?_
   refine AWp.cond rfl (fun h => ?_) (fun h => ?_)
   ·refine r_z 4 ?_
    refine AWp.ret ?_
    rw [h1, Nat.div_one, Nat.div_one, show sgn (decide (n' < 0)) n'.natAbs = n' by unfold sgn; by_cases h0 : n' < 0 <;> simp [h0] <;> omega]
    refine Fin.cellE rfl rfl rfl tg_75.h ts_75.h (nle rfl) ?_ ?_
    ·rfl
    ·exact closed_agg fun c hc => (List.mem_append.1 hc).elim (closed_zZ _ c) (closed_zZ _ c)
   ·exact absurd h (by decide)
  ·by_cases hl : (zd g).length = 1
   ·have hz := zd_single hl
    have hz2 : zZ (g : Int) = [i64 (sgZ (g : Int)), .arr (iE [g])] := by show [i64 (sgZ (g : Int)), AV.arr (iE (zd g))] = _; rw [hz]
    rw [hz2]
    refine s_r 11 ?_
    refine a_5 ?_
    first | refine AR.op0y rfl rfl (gy rfl) (.fieldAddr_l rfl tf_73_1.h (by decide)) rfl rfl ?_ | refine AR.op0y rfl rfl (gy rfl) (.fieldAddr_a rfl tf_73_1.h (by decide)) rfl rfl ?_
    first | refine AR.op0y rfl rfl (gy rfl) (.load_l1 rfl rfl rfl tg_71.h rfl) rfl rfl ?_ | refine AR.op0y rfl rfl (gy rfl) (.load_a1 rfl rfl tg_71.h rfl) rfl rfl ?_
    first | refine AR.op0y rfl rfl (gy rfl) (.index_l rfl rfl (by omega) (by omega) te_71.h) rfl rfl ?_ | refine AR.op0y rfl rfl (gy rfl) (.index_a rfl rfl (by omega) rfl rfl te_71.h) rfl rfl ?_
    first | refine AR.op0y rfl rfl (gy rfl) (.load_l1 rfl rfl rfl tg_3.h rfl) rfl rfl ?_ | refine AR.op0y rfl rfl (gy rfl) (.load_a1 rfl rfl tg_3.h rfl) rfl rfl ?_
    refine AR.op0y rfl rfl (gy rfl) (.bin rfl rfl binI_eql) rfl rfl ?_
    refine o_0 (.pickT rfl rfl rfl) ?_
    refine AR.nil ?_
    refine AWp.cond rfl (fun h => ?_) (fun h => ?_)
    ·exact absurd h (by simp; omega)
    ·refine AWp.skip ⟨(), h1, ?_⟩
     rw [← hz2]
     unfold ratS
     exact s_e [(4, 5)]
   ·refine s_r 11 ?_
    refine a_5 ?_
    refine AR.opN rfl rfl (gn (by simp; omega)) rfl rfl ?_
    refine AR.opN rfl rfl (gn (by simp; omega)) rfl rfl ?_
    refine AR.opN rfl rfl (gn (by simp; omega)) rfl rfl ?_
    refine AR.opN rfl rfl (gn (by simp; omega)) rfl rfl ?_
    refine AR.opN rfl rfl (gn (by simp; omega)) rfl rfl ?_
    refine o_0 (.pickF rfl (by simp; omega) rfl) ?_
    refine AR.nil ?_
    refine AWp.cond rfl (fun h => ?_) (fun h => ?_)
    ·exact absurd h (by simp)
    ·refine AWp.skip ⟨(), h1, ?_⟩
     unfold ratS
     exact s_e [(4, 5)]
 rintro _ hg1
 unfold ratS
 have hzq := fs_with (sgZ n') (zd (n'.natAbs / g)) (sgn (decide (n' < 0)) (n'.natAbs / g)) (zd_len_le (by omega)) (zd_lt _) (by rw [hv_zd, sgn_natAbs]) (fun h => by rw [← hsg, mkRat_sgn hD, ← hg])
 have hzd := fs_with 1 (zd (D / g)) ((D / g : Nat) : Int) (zd_len_le (by omega)) (zd_lt _) (by rw [hv_zd, Int.natAbs_natCast]) (fun h => by unfold sgZ; rw [if_neg h, if_neg (by omega)])
 refine r_c 10 (fs_rover n'.natAbs g hgp hn (by omega)) ?_
 refine a_z ?_
 refine r_c 10 (fs_rover D g hgp hb (by omega)) ?_
 refine a_z ?_
 refine r_c 8 (hzq) ?_
 refine c_s (hzd) ?_
 refine a_z ?_
 refine AWp.ret ?_
 refine Fin.cellE rfl rfl rfl tg_75.h ts_75.h (nle rfl) ?_ ?_
 ·rfl
 ·exact closed_agg fun c hc => (List.mem_append.1 hc).elim (closed_zZ _ c) (closed_zZ _ c)
theorem zl_of {z : Int} {k : Nat} (h : bl z.natAbs ≤ k) (hk : k ≤ 8796093022208) : zl z := Nat.le_trans h hk
theorem fs_rOf (n d : Int) (hd : d ≠ 0) (h : -9223372036854775808 ≤ n ∧ n ≤ 9223372036854775807) (h2 : -9223372036854775808 ≤ d ∧ d ≤ 9223372036854775807) : FSpec Tryz.prog 118 [i64 n, i64 d] (.agg (rC (rq (Rat.divInt n d)))) := by
 have hb : ∀ z : Int, -9223372036854775808 ≤ z → z ≤ 9223372036854775807 → bl z.natAbs ≤ 4398046511104 := fun z h1 h2 => Nat.le_trans (bl_le (k := 64) (by omega)) (by decide)
 refine FSpec.enter Tryz.func118 rfl (by kernel_rfl) rfl rfl rfl ?_ rfl ?_
 ·exact closed_cons (closed_v _) (closed_cons (closed_v _) closed_nil)
 refine r_z 1 ?_
 refine r_c 6 (fs_ZInt n h) ?_
 refine c_s (fs_ZInt d h2) ?_
 refine c_s (fs_Ratio n d hd (hb n h.1 h.2) (hb d h2.1 h2.2)) ?_
 refine a_z ?_
 refine AWp.ret ?_
 refine Fin.cellE rfl rfl rfl tg_75.h ts_75.h (nle rfl) ?_ ?_
 ·rfl
 ·exact closed_rA _
theorem fs_rMul (x y : RQ) (hx : rok x) (hy : rok y) (h : qs x.1 + qs y.1 ≤ 1099511627776) : FSpec Tryz.prog 103 [.agg (rC x), .agg (rC y)] (.agg (rC (rq (x.1 * y.1)))) := by
 obtain ⟨a, fa⟩ := x
 obtain ⟨b, fb⟩ := y
 simp only at h ⊢
 have hp := mul_parts a b
 have h1 := qs_num a; have h2 := qs_den a; have h3 := qs_num b; have h4 := qs_den b
 have e3 := hp.1
 have e4 := hp.2
 have hd : (a.den : Int) * b.den ≠ 0 := by have := den_pos2 a b; rw [← Int.natCast_mul]; omega
 have e : a * b = Rat.divInt (a.num * b.num) (a.den * b.den) := by
  rw [mul_mkRat, ← Int.natCast_mul, ← Rat.divInt_ofNat]
 rw [e]
 have e5 : bl ((a.den : Int) * b.den).natAbs ≤ qs a + qs b := by rw [← Int.natCast_mul, Int.natAbs_natCast]; exact e4
 refine FSpec.enter Tryz.func103 rfl (by kernel_rfl) rfl rfl rfl ?_ rfl ?_
 ·exact closed_cons (closed_rA _) (closed_cons (closed_rA _) closed_nil)
 refine r_z 3 ?_
 refine AWp.seq ?_
 refine AWp.regD hmix (m := 12) rfl ?_
 refine c_s (fs_ZMul a.num b.num (zl_of h1 (by omega)) (zl_of h3 (by omega))) ?_
 refine c_s (fs_rden (a, fa) hx) ?_
 refine c_s (fs_rden (b, fb) hy) ?_
 refine c_s (fs_ZMul a.den b.den (zl_of (by simpa using h2) (by omega)) (zl_of (by simpa using h4) (by omega))) ?_
 refine c_s (fs_Ratio (a.num * b.num) (a.den * b.den) hd (by omega) (by omega)) ?_
 refine a_1 ?_
 refine AR.nil ⟨by kernel_rfl, ?_⟩
 refine AWp.ret ?_
 refine Fin.cellE rfl rfl rfl tg_75.h ts_75.h (nle rfl) ?_ ?_
 ·rfl
 ·exact closed_rA _
def powQ (q : Rat) : Nat → Rat
 | 0 => q
 | k + 1 => powQ q k * q
theorem powQ_qs (q : Rat) : ∀ k, qs (powQ q k) ≤ (k + 1) * qs q
 | 0 => by simp [powQ]
 | k + 1 => by
  have h1 := qs_mul (powQ q k) q
  have h2 := powQ_qs q k
  show qs (powQ q k * q) ≤ _
  rw [Nat.add_mul (k + 1), Nat.one_mul]
  omega
def dNum (D : Int) : Int := if D = 0 then 1 else D
def numV (N D : Int) (p : Nat) : Rat := powQ (Rat.divInt N (dNum D)) (p % 4)
def nuC (N D : Int) (p : Nat) : List AV := [i64 N, i64 D, .v (.int .u8 p)]
def i64r (n : Int) : Prop := -9223372036854775808 ≤ n ∧ n ≤ 9223372036854775807
theorem closed_nuC (N D : Int) (p : Nat) : ∀ c ∈ nuC N D p, Closed c := closed_cons (closed_v _) (closed_cons (closed_v _) (closed_cons (closed_v _) closed_nil))
theorem div_cast (n d : Int) : (n : Rat) / (d : Rat) = Rat.divInt n d := (Rat.divInt_eq_div n d).symm
def boT (N : Int) (D : Int) (p : Nat) (q : Rat) : Nat → AState
 | k => ⟨[(1, .lptr 1 0 0), (2, .lptr 2 0 0), (3, .lptr 3 0 0), (4, .lptr 4 0 0), (6, .lptr 5 0 0), (7, .lptr 6 0 0), (8, .lptr 7 0 0), (9, .v (.int .u8 k))],
  [(1, some ⟨82, 3, [nuC N D p]⟩), (2, some ⟨37, 3, [zC]⟩), (3, some ⟨75, 4, [[i64 0, .emp, i64 0, .emp]]⟩), (4, some ⟨37, 3, [qC q]⟩), (5, some ⟨75, 4, [rC (rq q)]⟩), (6, some ⟨37, 3, [qC (powQ q k)]⟩), (7, some ⟨75, 4, [rC (rq (powQ q k))]⟩)], 8, 44⟩
theorem boT_mk (N : Int) (D : Int) (p : Nat) (q : Rat) (k : Nat) : boT N D p q k = ⟨[(1, .lptr 1 0 0), (2, .lptr 2 0 0), (3, .lptr 3 0 0), (4, .lptr 4 0 0), (6, .lptr 5 0 0), (7, .lptr 6 0 0), (8, .lptr 7 0 0), (9, .v (.int .u8 k))],
   [(1, some ⟨82, 3, [nuC N D p]⟩), (2, some ⟨37, 3, [zC]⟩), (3, some ⟨75, 4, [[i64 0, .emp, i64 0, .emp]]⟩), (4, some ⟨37, 3, [qC q]⟩), (5, some ⟨75, 4, [rC (rq q)]⟩), (6, some ⟨37, 3, [qC (powQ q k)]⟩), (7, some ⟨75, 4, [rC (rq (powQ q k))]⟩)], 8, 44⟩ := rfl
theorem fs_Both1 (N D : Int) (p : Nat) (hN : i64r N) (hD : i64r D) (hp : p ≤ 255) : FSpec Tryz.prog 41 [.agg (nuC N D p)] (.tup [.agg (qC (numV N D p)), .agg (rC (rq (numV N D p)))]) := by
 obtain ⟨d, hd⟩ : ∃ d, d = dNum D := ⟨_, rfl⟩
 have hd0 : d ≠ 0 := by rw [hd]; unfold dNum; split <;> omega
 have hdr : i64r d := by
  rw [hd]; unfold dNum i64r; unfold i64r at hD; split <;> omega
 unfold i64r at hN hdr
 obtain ⟨q, hq⟩ : ∃ q, q = Rat.divInt N d := ⟨_, rfl⟩
 have hof := fs_Of N d hN hdr hd0
 rw [div_cast, ← hq] at hof
 have hro := fs_rOf N d hd0 hN hdr
 rw [← hq] at hro
 have hnv : numV N D p = powQ q (p % 4) := by unfold numV; rw [← hd, ← hq]
 rw [hnv]
 refine FSpec.enter Tryz.func41 rfl (by kernel_rfl) rfl rfl rfl ?_ rfl ?_
 ·exact closed_cons (closed_agg (closed_nuC N D p)) closed_nil
 refine r_z 3 ?_
 refine AWp.cut (fun _ : Unit => ⟨[(1, .lptr 1 0 0), (2, .lptr 2 0 0), (3, .lptr 3 0 0)],
  [(1, some ⟨82, 3, [nuC N d p]⟩), (2, some ⟨37, 3, [zC]⟩), (3, some ⟨75, 4, [[i64 0, .emp, i64 0, .emp]]⟩)], 4, 44⟩) (fun _ => True) ?_ ?_
 ·refine r_z 3 ?_
  refine AWp.cond rfl (fun h1 => ?_) (fun h1 => ?_)
  ·have h2 : D = 0 := by simpa using h1
   have h3 : d = 1 := by rw [hd]; unfold dNum; rw [if_pos h2]
   refine AWp.reg (m := 2) rfl ?_
   refine a_z ?_
   refine ⟨(), trivial, ?_⟩
   rw [h3]
   refine SEnt.to [] rfl rfl rfl au_r (fun hs => au_f) (fun hs => ?_)
   ·repeat' (first | exact CvH.nil | refine CvH.cons rfl rfl rfl rfl ?_ ?_)
    all_goals (first | (exact CvLL.box (CvL.clo hs (closed_nuC N 1 p))) | exact au_e)
  ·have h2 : ¬ D = 0 := by simpa using h1
   have h3 : d = D := by rw [hd]; unfold dNum; rw [if_neg h2]
   refine AWp.skip ⟨(), trivial, ?_⟩
   rw [h3]
   refine SEnt.to [] rfl rfl rfl au_r (fun hs => au_f) (fun hs => ?_)
   ·repeat' (first | exact CvH.nil | refine CvH.cons rfl rfl rfl rfl ?_ ?_)
    all_goals (first | (exact CvLL.box (CvL.clo hs (closed_nuC N D p))) | exact au_e)
 rintro _ _
 refine r_c 11 (hof) ?_
 refine a_z ?_
 refine r_c 7 (hro) ?_
 refine a_z ?_
 refine AWp.seq ?_
 refine AWp.regD hmix (m := 6) rfl ?_
 refine a_6 ?_
 refine AR.nil ⟨by kernel_rfl, ?_⟩
 refine AWp.seq ?_
 refine r_z 1 ?_
 have hqs : qs q ≤ 64 := by
  have hb : ∀ z : Int, -9223372036854775808 ≤ z ∧ z ≤ 9223372036854775808 → bl z.natAbs ≤ 64 := fun z h => bl_le (k := 64) (by omega)
  rw [hq]
  by_cases hn : d < 0
  ·rw [divInt_neg N d hn]
   exact qs_mkRat (by omega) (hb (-N) (by omega)) (hb d (by omega))
  ·rw [divInt_pos N d (by omega)]
   exact qs_mkRat (by omega) (hb N (by omega)) (hb d (by omega))
 have hm4 : (p : Int) % 4 = ((p % 4 : Nat) : Int) := by omega
 refine AWp.cutT (fun _ : Unit => boT N d p q (p % 4)) (fun _ => True) ?_ ?_
 ·refine AWp.block ?_
  refine AWp.loopS (boT N d p q) (fun k => p % 4 - k) (fun k => k ≤ p % 4) 0 (Nat.zero_le _) ?_ ?_
  ·simp only [boT_mk, powQ]
   refine SEnt.to [(4, 4), (5, 6), (6, 7), (7, 8)] rfl rfl rfl au_r (fun hs => au_f) (fun hs => ?_)
   ·repeat' (first | exact CvH.nil | refine CvH.cons rfl rfl rfl rfl ?_ ?_)
    all_goals (first | (exact CvLL.box (CvL.clo hs (closed_rC _))) | exact au_e)
  rintro k hk
  rw [boT_mk]
  refine AWp.seq ?_
  refine r_z 5 ?_
  refine AWp.cond rfl (fun h => ?_) (fun h => ?_)
  ·refine AWp.skip ?_
   have hlt : k < p % 4 := by
    have h2 : (k : Int) < (p : Int) % 4 := by simpa using h
    omega
   have hpk := powQ_qs q k
   have hpk2 : (k + 1) * qs q ≤ 4 * 64 := Nat.mul_le_mul (by omega) hqs
   refine AWp.seq ?_
   refine AWp.block ?_
   refine AWp.regD hmix (m := 8) rfl ?_
   refine c_s (fs_mul (powQ q k) q (by omega)) ?_
   refine c_s (fs_rMul (rq (powQ q k)) (rq q) (rok_rq _) (rok_rq _) (by simp only [rq]; omega)) ?_
   refine a_2 ?_
   refine AR.nil ⟨by kernel_rfl, ?_⟩
   refine AWp.reg (m := 3) rfl ?_
   refine a_z ?_
   refine ⟨k + 1, by omega, hlt, ?_⟩
   simp only [boT_mk]
   refine SEnt.to [] rfl rfl rfl au_r (fun hs => au_f) (fun hs => ?_)
   ·repeat' (first | exact CvH.nil | refine CvH.cons rfl rfl rfl rfl ?_ ?_)
    all_goals (first | (exact CvLL.box (CvL.clo hs (closed_rC _))) | exact au_e)
  ·have hge : k = p % 4 := by
    have h2 : ¬ (k : Int) < (p : Int) % 4 := by simpa using h
    omega
   subst hge
   refine AWp.exit ⟨(), trivial, ?_⟩
   refine SEnt.to [] rfl rfl rfl au_r (fun hs => au_f) (fun hs => ?_)
   ·repeat' (first | exact CvH.nil | refine CvH.cons rfl rfl rfl rfl ?_ ?_)
    all_goals (first | (exact CvLL.box (CvL.clo hs (closed_rC _))) | exact au_e)
 rintro _ _
 rw [boT_mk]
 refine AWp.seq ?_
 refine AWp.regD hmix (m := 4) rfl ?_
 refine a_4 ?_
 refine AR.nil ⟨by kernel_rfl, ?_⟩
 refine AWp.ret ?_
 refine Fin.many ⟨_, _, rfl, ⟨_, _, _, _, _, rfl, rfl, rfl, .inl ⟨tg_37.h, _, ts_37.h, nle rfl, rfl⟩⟩, ⟨_, _, rfl, ⟨_, _, _, _, _, rfl, rfl, rfl, .inl ⟨tg_75.h, _, ts_75.h, nle rfl, rfl⟩⟩, rfl⟩⟩ (nle rfl) ?_
 exact CvL.cons (Cv.clo shr_nil (closed_qA _)) (CvL.cons (Cv.clo shr_nil (closed_rA _)) CvL.nil)
def twP : List Rat := scaleP [0, 1] 2
def fmC (p : List Rat) (g : Nat) (cap : List AV) : List AV := [.arr (pE p), .clos g [] cap]
def u8v (k : Int) : Value := .int .u8 k
def famK : List Value := [u8v 1, u8v 2, u8v 3, u8v 4, u8v 5]
def famV : List AV := [.agg (fmC [0, 1] 264 [bP twP]), .agg (fmC twP 264 [bP twP]), .agg (fmC [0, 1] 265 []), .agg (fmC [1, -1] 266 []), .agg (fmC twP 267 [bP twP])]
abbrev famA : AV := .mp famK famV
theorem closed_fmC (p : List Rat) (g : Nat) {cap : List AV} (h : ∀ c ∈ cap, Closed c) : ∀ c ∈ fmC p g cap, Closed c := closed_cons (closed_pA p) (closed_cons (closed_clos closed_nil h) closed_nil)
theorem famV_closed : ∀ c ∈ famV, Closed c := by
 have c1 : ∀ c ∈ [bP twP], Closed c := closed_cons (closed_bP _) closed_nil
 exact closed_cons (closed_agg (closed_fmC _ _ c1)) (closed_cons (closed_agg (closed_fmC _ _ c1)) (closed_cons (closed_agg (closed_fmC _ _ closed_nil)) (closed_cons (closed_agg (closed_fmC _ _ closed_nil)) (closed_cons (closed_agg (closed_fmC _ _ c1)) closed_nil))))
def famTab : MapTab := ⟨244, .u8, 0, 7, [(4, 1, 10, 3), (8, 2, 13, 7), (11, 3, 15, 10), (16, 4, 19, 15), (20, 5, 22, 19)], [(21, 23), (22, 0)]⟩
theorem fs_families : FSpec Tryz.prog 230 [] famA := by
 refine FSpec.enter Tryz.func230 rfl (by kernel_rfl) rfl rfl rfl ?_ rfl ?_
 ·exact closed_nil
 refine r_z 1 ?_
 refine r_c 5 (fs_x) ?_
 refine c_s (fs_Int 2 (by decide)) ?_
 refine c_s (fs_Scale [0, 1] 2 (by decide) (by decide) (by decide)) ?_
 refine a_z ?_
 refine AWp.ent (st' := ⟨[(1, bP twP)], [], 2, 24⟩) ?_ ?_
 ·refine SEnt.to [] rfl rfl rfl au_r (fun hs => ?_) (fun hs => ?_)
  ·repeat' (first | exact CvF.nil | refine CvF.cons rfl ?_ ?_)
   all_goals (first | (exact Cv.boxp hs rfl (dead_of rfl) rfl (closed_cons (closed_pA _) closed_nil)) | exact au_c)
  ·repeat' (first | exact CvH.nil | refine CvH.cons rfl rfl rfl rfl ?_ ?_)
   all_goals (first | exact au_e | (refine CvLL.box ?_; repeat' (first | exact CvL.nil | refine CvL.cons ?_ ?_)))
   all_goals (first | (exact Cv.boxp hs rfl (dead_of rfl) rfl (closed_cons (closed_pA _) closed_nil)) | exact au_c)
 refine r_z 2 ?_
 refine AWp.seq ?_
 refine AWp.mapRegion famTab (vs := famV) (d := 0) hmix tm_244.h tu_5.h (by kernel_rfl) (by kernel_rfl) (by kernel_rfl) ⟨22, by simp [famTab], by decide⟩ (by decide) ?_ ?_
 ·refine AX.sp rfl rfl ?_
  refine AX.op0 (.call rfl rfl rfl (fs_x)) rfl rfl ?_
  refine AX.op0 (.move rfl) rfl rfl ?_
  refine AX.op0 (.build tz_243.h tp_243.h rfl rfl) rfl rfl ?_
  refine AX.spn rfl ?_
  first | refine AX.op0 (.load_l1 rfl rfl rfl tg_25.h rfl) rfl rfl ?_ | refine AX.op0 (.load_a1 rfl rfl tg_25.h rfl) rfl rfl ?_
  refine AX.op0 (.move rfl) rfl rfl ?_
  refine AX.op0 (.build tz_243.h tp_243.h rfl rfl) rfl rfl ?_
  refine AX.spn rfl ?_
  refine AX.op0 (.call rfl rfl rfl (fs_x)) rfl rfl ?_
  refine AX.op0 (.build tz_243.h tp_243.h rfl rfl) rfl rfl ?_
  refine AX.spn rfl ?_
  refine AX.op0 (.call rfl rfl rfl (fs_Int 1 (by decide))) rfl rfl ?_
  refine AX.op0 (.call rfl rfl rfl (fs_Int (-1) (by decide))) rfl rfl ?_
  refine AX.op1 (.buildSlice te_25.h tz_37.h rfl (by decide) rfl rfl rfl (by first | (simp; done) | (simp [setAt_length, ofV]; done) | rfl)) rfl rfl ?_
  refine AX.op0 (.build tz_243.h tp_243.h rfl rfl) rfl rfl ?_
  refine AX.spn rfl ?_
  first | refine AX.op0 (.load_l1 rfl rfl rfl tg_25.h rfl) rfl rfl ?_ | refine AX.op0 (.load_a1 rfl rfl tg_25.h rfl) rfl rfl ?_
  refine AX.op0 (.makeFunc rfl rfl) rfl rfl ?_
  refine AX.op0 (.build tz_243.h tp_243.h rfl rfl) rfl rfl ?_
  refine AX.spn rfl ?_
  refine AX.sp rfl rfl ?_
  refine AX.sp rfl rfl ?_
  refine AX.nil ⟨by kernel_rfl, ?_⟩
  have c1 : ∀ c ∈ [bP twP], Closed c := closed_cons (closed_bP _) closed_nil
  refine CvS.cons rfl (Cv.clo shr_nil (closed_agg (closed_fmC _ _ c1))) (CvS.cons rfl (Cv.clo shr_nil (closed_agg (closed_fmC _ _ c1))) (CvS.cons rfl (Cv.clo shr_nil (closed_agg (closed_fmC _ _ closed_nil))) (CvS.cons rfl ?_ (CvS.cons rfl (Cv.clo shr_nil (closed_agg (closed_fmC _ _ c1))) CvS.nil))))
  exact Cv.agg (CvL.cons (Cv.sealE shr_nil rfl (fun _ _ h => by cases h) rfl rfl (closed_pE _)) (CvL.cons (Cv.clo shr_nil (closed_clos closed_nil closed_nil)) CvL.nil))
 refine AWp.ret ?_
 refine Fin.tmpE rfl ?_ ?_
 ·rfl
 ·exact closed_mp famV_closed
theorem fs_fam1 (n : Int) (p last : List Rat) (h : okMul twP p) (hl : smL last) (h1 : (mulP twP p).length ≤ 274877906944) (h2 : last.length ≤ 274877906944) : FSpec Tryz.prog 264 [i64 n, .arr (pE p), .arr (pE last), bP twP] (.arr (pE (subP (mulP twP p) last))) := by
 refine FSpec.enter Tryz.func264 rfl (by kernel_rfl) rfl rfl rfl ?_ rfl ?_
 ·exact closed_cons (closed_v _) (closed_cons (closed_pA _) (closed_cons (closed_pA _) (closed_cons (closed_bP _) closed_nil)))
 refine r_z 1 ?_
 refine r_c 6 (fs_Mul twP p (mxL twP) (mxL p) (bdL_mx _) (bdL_mx _) (mxL_pos _) (mxL_pos _) h.1 h.2.1 h.2.2.1 h.2.2.2) ?_
 refine c_s (fs_Sub (mulP twP p) last (okMul_sm h) hl (by omega) (by omega)) ?_
 refine a_z ?_
 refine AWp.ret ?_
 refine Fin.tmpE rfl ?_ ?_
 ·rfl
 ·exact closed_pA _
def chP : Nat → List Rat × List Rat
 | 0 => (constP 1, [0, 1])
 | k + 1 => ((chP k).2, subP (mulP twP (chP k).2) (chP k).1)
def okCh (k : Nat) : Prop := okMul twP (chP k).2 ∧ smL (chP k).1 ∧ (mulP twP (chP k).2).length ≤ 274877906944 ∧ (chP k).1.length ≤ 274877906944
instance (k : Nat) : Decidable (okCh k) := inferInstanceAs (Decidable (_ ∧ _ ∧ _ ∧ _))
def chT (k : Nat) : Option (List AV) := some [.arr (pE (chP k).1)]
abbrev bF : AV := .aptr [fmC [0, 1] 264 [bP twP]] 0 0
theorem closed_bF : Closed bF := closed_box (closed_fmC _ _ (closed_cons (closed_bP _) closed_nil))
theorem gs_members (K : Nat) (hK : K ≤ 1000000) (hok : ∀ k, k < K → okCh k) : GSpecB Tryz.prog 268 [bF] chT K := by
 refine GSpecB.enter Tryz.func268 rfl (by kernel_rfl) rfl rfl rfl ?_ ?_ rfl ?_
 ·exact closed_cons closed_bF closed_nil
 ·intro k xs h
  cases h
  exact closed_cons (closed_pA _) closed_nil
 intro ll N hN E
 refine GWp.seq ?_
 refine GWp.lift ?_
 refine AWp.regD hmix (m := 6) rfl ?_
 refine c_s (fs_Int 1 (by decide)) ?_
 refine c_s (fs_constant 1) ?_
 refine a_4 ?_
 refine AR.nil ⟨by kernel_rfl, ?_⟩
 refine GWp.seq ?_
 refine GWp.lift ?_
 refine AWp.reg (m := 1) rfl ?_
 refine a_z ?_
 refine GWp.block ?_
 refine GWp.loopS (fun k : Nat => ⟨[(0, .v (.func (.yield ll) #[] #[])), (1, bF), (3, .arr (pE (chP k).1)), (4, .arr (pE (chP k).2)), (5, i64 ((k : Int) + 1))], [], 1, 22⟩) (fun k => k) (fun k => N + 1 - k) (fun k => k ≤ N) 0 (Nat.zero_le _) rfl ?_ ?_
 ·refine SEnt.to [] rfl rfl rfl au_r (fun hs => ?_) (fun hs => ?_)
  ·repeat' (first | exact CvF.nil | refine CvF.cons rfl ?_ ?_)
   all_goals (first | (exact Cv.clo hs closed_bF) | exact au_c)
  ·repeat' (first | exact CvH.nil | refine CvH.cons rfl rfl rfl rfl ?_ ?_)
   all_goals (first | exact au_e | (refine CvLL.box ?_; repeat' (first | exact CvL.nil | refine CvL.cons ?_ ?_)))
   all_goals (first | (exact Cv.clo hs closed_bF) | exact au_c)
 intro k hk
 refine GWp.seq ?_
 refine GWp.seq ?_
 refine GWp.regY (fr2 := [(0, .v (.func (.yield ll) #[] #[])), (1, bF), (3, .arr (pE (chP k).1)), (4, .arr (pE (chP k).2)), (5, i64 ((k : Int) + 1)), (10, .v (.func (.yield ll) #[] #[])), (11, .arr (pE (chP k).1))]) (hp2 := []) (nx2 := 2) 2 rfl rfl rfl rfl rfl rfl ?_ rfl rfl rfl ?_ ?_ ?_
 ·refine o_0 (.move rfl) ?_
  refine o_0 (.move rfl) ?_
  refine AR.nil ?_
  refine SEntT.to [] rfl rfl rfl au_r (fun hs => au_f) (fun hs => au_h)
 rotate_left 2
 intro go
 refine AR.nil ?_
 rotate_left
 ·rfl
 ·exact closed_cons (closed_pA _) closed_nil
 cases go with
 | false =>
  refine GWp.cond rfl (fun h => ?_) (fun h => ?_)
  ·cases h
  ·exact GWp.exit ⟨.inl rfl, fun h => by cases h⟩
 | true =>
  refine GWp.bound fun hk1 => ?_
  refine GWp.cond rfl (fun h => ?_) (fun h => ?_)
  rotate_left
  ·cases h
  refine GWp.skip ?_
  obtain ⟨o1, o2, o3, o4⟩ := hok k (by omega)
  refine GWp.lift ?_
  refine AWp.seq ?_
  refine AWp.block ?_
  refine AWp.reg (m := 9) rfl ?_
  refine c_s (fs_fam1 ((k : Int) + 1) (chP k).2 (chP k).1 o1 o2 o3 o4) ?_
  refine a_z ?_
  refine AWp.reg (m := 3) rfl ?_
  refine a_z ?_
  refine ⟨rfl, k + 1, by omega, hk1, rfl, ?_⟩
  refine SEnt.to [] rfl rfl rfl au_r (fun hs => ?_) (fun hs => ?_)
  ·repeat' (first | exact CvF.nil | refine CvF.cons rfl ?_ ?_)
   all_goals (first | (exact Cv.clo hs closed_bF) | exact au_c)
  ·repeat' (first | exact CvH.nil | refine CvH.cons rfl rfl rfl rfl ?_ ?_)
   all_goals (first | exact au_e | (refine CvLL.box ?_; repeat' (first | exact CvL.nil | refine CvL.cons ?_ ?_)))
   all_goals (first | (exact Cv.clo hs closed_bF) | exact au_c)
theorem fs_members : FSpec Tryz.prog 231 [.agg (fmC [0, 1] 264 [bP twP])] (.clos 268 [] [bF]) := by
 have hc : ∀ c ∈ fmC [0, 1] 264 [bP twP], Closed c := closed_fmC _ _ (closed_cons (closed_bP _) closed_nil)
 refine FSpec.enter Tryz.func231 rfl (by kernel_rfl) rfl rfl rfl ?_ rfl ?_
 ·exact closed_cons (closed_agg hc) closed_nil
 refine r_z 2 ?_
 refine r_z 2 ?_
 refine AWp.ret ?_
 refine ⟨.inr rfl, [_], ⟨_, [], rfl, rfl, rfl⟩, ?_⟩
 exact Cv.clos CvL.nil (CvL.cons (Cv.boxp shr_nil rfl (fun _ _ h => by cases h) rfl hc) CvL.nil)
def chL2 (n : Nat) : List (List Rat) := (List.range n).map fun k => (chP k).1
theorem chL2_succ (n : Nat) : chL2 (n + 1) = chL2 n ++ [(chP n).1] := by simp [chL2, List.range_succ]
@[simp] theorem chL2_length (n : Nat) : (chL2 n).length = n := by simp [chL2]
def fi0 (n : Int) : Unit → AState
 | u => ⟨[(1, .lptr 1 0 0), (3, .lptr 2 0 0), (7, .clos 268 [] [bF])], [(1, some ⟨3, 1, [[i64 n]]⟩), (2, some ⟨189, 1, [[.emp]]⟩)], 4, 18⟩
theorem fi0_mk (n : Int) (u : Unit) : fi0 n u = ⟨[(1, .lptr 1 0 0), (3, .lptr 2 0 0), (7, .clos 268 [] [bF])], [(1, some ⟨3, 1, [[i64 n]]⟩), (2, some ⟨189, 1, [[.emp]]⟩)], 4, 18⟩ := rfl
def fi1 (n : Int) : Nat → AState
 | k => ⟨[(1, .lptr 1 0 0), (3, .lptr 2 0 0), (7, .clos 268 [] [bF])], [(1, some ⟨3, 1, [[i64 n]]⟩), (2, some ⟨189, 1, [[.lsl 3 0 (k + 1) none 1]]⟩), (3, some ⟨25, 1, cE (chL2 (k + 1))⟩)], 4, 18⟩
def fiX (z : Nat) : Unit → AState
 | u => ⟨[(3, .lptr 1 0 0)], [(1, some ⟨189, 1, [[.lsl 2 0 (z + 1) none 1]]⟩), (2, some ⟨25, 1, cE (chL2 (z + 1))⟩)], 4, 18⟩
theorem fiX_mk (z : Nat) (u : Unit) : fiX z u = ⟨[(3, .lptr 1 0 0)], [(1, some ⟨189, 1, [[.lsl 2 0 (z + 1) none 1]]⟩), (2, some ⟨25, 1, cE (chL2 (z + 1))⟩)], 4, 18⟩ := rfl
def fiS (n : Int) : Nat → AState
 | 0 => fi0 n ()
 | k + 1 => fi1 n k
theorem closed_cF : Closed (.clos 268 [] [bF]) := closed_clos closed_nil (closed_cons closed_bF closed_nil)
theorem fs_firsts (n : Nat) (hn : n ≤ 1000) (hok : ∀ k, k < n → okCh k) : FSpec Tryz.prog 170 [i64 n] (.arr (cE (chL2 (n + 1)))) := by
 have hgs := gs_members n (by omega) hok
 refine FSpec.enter Tryz.func170 rfl (by kernel_rfl) rfl rfl rfl ?_ rfl ?_
 ·exact closed_cons (closed_v _) closed_nil
 refine r_z 2 ?_
 refine r_z 1 ?_
 refine AWp.seq ?_
 refine r_c 3 (fs_families) ?_
 refine c_s (fs_members) ?_
 refine AR.nil ?_
 refine AWp.cutT (fiX n) (fun _ => True) ?_ ?_
 ·refine AWp.block ?_
  refine AWp.rangeFuncB (α := Nat) (γ := Unit) n (fiS n) (fun k => k) (fun k => k ≤ n) (fiX n) (fun e _ => e = .exit 0) 0 rfl hgs rfl rfl ?_ (fun k => by cases k <;> exact ⟨rfl, rfl⟩) (fun _ => rfl) (Nat.zero_le _) rfl (fun _ h => h) ?_ ?_ ?_ ?_ ?_
  ·intro k xs hT; cases hT; rfl
  ·show SEntT _ (fi0 n ())
   rw [fi0_mk]
   refine SEntT.to [(2, 3)] rfl rfl rfl au_r (fun hs => ?_) (fun hs => ?_)
   ·repeat' (first | exact CvF.nil | refine CvF.cons rfl ?_ ?_)
    all_goals (first | (exact Cv.clo hs closed_cF) | exact au_c)
   ·repeat' (first | exact CvH.nil | refine CvH.cons rfl rfl rfl rfl ?_ ?_)
    all_goals (first | exact au_e | (refine CvLL.box ?_; repeat' (first | exact CvL.nil | refine CvL.cons ?_ ?_)))
    all_goals (first | (exact Cv.clo hs closed_cF) | exact au_c)
  ·exact closed_cons closed_bF closed_nil
  ·intro l k xs hk hT
   cases hT
   cases k with
   | zero =>
    show AWp _ _ _ _ ⟨setPs (fi0 n ()).fr _ _ ++ shiftFr (fi0 n ()).fr, _, _, _⟩
    show AWp _ _ _ _ ⟨[(8, .arr (pE (chP 0).1)), (1, .lptr 1 0 0), (3, .lptr 2 0 0), (7, .clos 268 [] [bF]), (1001, .lptr 1 0 0), (1003, .lptr 2 0 0), (1007, .clos 268 [] [bF])], [(1, some ⟨3, 1, [[i64 n]]⟩), (2, some ⟨189, 1, [[.emp]]⟩)], 4, 18⟩
    refine AWp.reg (m := 1) rfl ?_
    refine a_z ?_
    refine AWp.block ?_
    refine s_r 5 ?_
    refine a_3 ?_
    refine o_1 (.append_e rfl rfl rfl te_189.h rfl rfl rfl (.lsl rfl (nle rfl)) (by first | assumption | (simp; done)) tz_25.h rfl tb_25.h (by first | rfl | assumption | (simp; done) | (simp; omega) | omega) (by first | (simp [maxLen]; done) | (simp [maxLen]; omega))) ?_
    refine a_z ?_
    refine r_z 4 ?_
    refine AWp.cond rfl (fun h1 => ?_) (fun h1 => ?_)
    ·have h2 : n = 0 := by
      simp at h1; omega
     subst h2
     refine AWp.exit ?_
     refine ⟨rfl, (), rfl, ?_⟩
     show SEntT _ ⟨[(1003, .lptr 1 0 0)], [(1, some ⟨189, 1, [[.lsl 2 0 (0 + 1) none 1]]⟩), (2, some ⟨25, 1, cE (chL2 (0 + 1))⟩)], 4, 18⟩
     refine SEntT.to [(1, 1003), (2, 12)] rfl rfl rfl au_r (fun hs => au_f) (fun hs => ?_)
     ·repeat' (first | exact CvH.nil | refine CvH.cons rfl rfl rfl rfl ?_ ?_)
      all_goals (first | (exact CvLL.clo hs (closed_cE [(chP 0).1])) | exact au_e)
    ·have h2 : ¬ n = 0 := by
      simp at h1; omega
     refine AWp.skip ?_
     refine ⟨0 + 1, ⟨by omega, rfl⟩, ?_⟩
     show SEntT _ ⟨[(1001, .lptr 1 0 0), (1003, .lptr 2 0 0), (1007, .clos 268 [] [bF])], [(1, some ⟨3, 1, [[i64 n]]⟩), (2, some ⟨189, 1, [[.lsl 3 0 (0 + 1) none 1]]⟩), (3, some ⟨25, 1, cE (chL2 (0 + 1))⟩)], 4, 18⟩
     refine SEntT.to [(3, 12)] rfl rfl rfl au_r (fun hs => ?_) (fun hs => ?_)
     ·repeat' (first | exact CvF.nil | refine CvF.cons rfl ?_ ?_)
      all_goals (first | (exact Cv.clo hs closed_cF) | exact au_c)
     ·repeat' (first | exact CvH.nil | refine CvH.cons rfl rfl rfl rfl ?_ ?_)
      all_goals (first | (exact CvLL.clo hs (closed_cE [(chP 0).1])) | exact au_e | (refine CvLL.box ?_; repeat' (first | exact CvL.nil | refine CvL.cons ?_ ?_)))
      all_goals (first | (exact Cv.clo hs closed_cF) | exact au_c)
   | succ k =>
    show AWp _ _ _ _ ⟨setPs (fi1 n k).fr _ _ ++ shiftFr (fi1 n k).fr, _, _, _⟩
    show AWp _ _ _ _ ⟨[(8, .arr (pE (chP (k + 1)).1)), (1, .lptr 1 0 0), (3, .lptr 2 0 0), (7, .clos 268 [] [bF]), (1001, .lptr 1 0 0), (1003, .lptr 2 0 0), (1007, .clos 268 [] [bF])], [(1, some ⟨3, 1, [[i64 n]]⟩), (2, some ⟨189, 1, [[.lsl 3 0 (k + 1) none 1]]⟩), (3, some ⟨25, 1, cE (chL2 (k + 1))⟩)], 4, 18⟩
    refine AWp.reg (m := 1) rfl ?_
    refine a_z ?_
    refine AWp.block ?_
    refine r_z 5 ?_
    refine r_z 4 ?_
    refine AWp.cond rfl (fun h1 => ?_) (fun h1 => ?_)
    ·have h2 : n = k + 1 := by
      simp at h1; omega
     subst h2
     refine AWp.exit ?_
     refine ⟨rfl, (), rfl, ?_⟩
     show SEntT _ ⟨[(1003, .lptr 1 0 0)], [(1, some ⟨189, 1, [[.lsl 2 0 ((k + 1) + 1) none 1]]⟩), (2, some ⟨25, 1, cE (chL2 ((k + 1) + 1))⟩)], 4, 18⟩
     refine SEntT.to [(1, 1003), (2, 12)] rfl rfl rfl au_r (fun hs => au_f) (fun hs => ?_)
     ·repeat' (first | exact CvH.nil | refine CvH.cons rfl rfl rfl rfl ?_ ?_)
      all_goals (first | (exact CvLL.cloE hs (by rw [chL2_succ (k + 1), cE_snoc]; rfl) (closed_cE _)) | exact au_e)
    ·have h2 : ¬ n = k + 1 := by
      simp at h1; omega
     refine AWp.skip ?_
     refine ⟨k + 1 + 1, ⟨by omega, rfl⟩, ?_⟩
     show SEntT _ ⟨[(1001, .lptr 1 0 0), (1003, .lptr 2 0 0), (1007, .clos 268 [] [bF])], [(1, some ⟨3, 1, [[i64 n]]⟩), (2, some ⟨189, 1, [[.lsl 3 0 ((k + 1) + 1) none 1]]⟩), (3, some ⟨25, 1, cE (chL2 ((k + 1) + 1))⟩)], 4, 18⟩
     refine SEntT.to [(3, 12)] rfl rfl rfl au_r (fun hs => ?_) (fun hs => ?_)
     ·repeat' (first | exact CvF.nil | refine CvF.cons rfl ?_ ?_)
      all_goals (first | (exact Cv.clo hs closed_cF) | exact au_c)
     ·repeat' (first | exact CvH.nil | refine CvH.cons rfl rfl rfl rfl ?_ ?_)
      all_goals (first | (exact CvLL.cloE hs (by rw [chL2_succ (k + 1), cE_snoc]; rfl) (closed_cE _)) | exact au_e | (refine CvLL.box ?_; repeat' (first | exact CvL.nil | refine CvL.cons ?_ ?_)))
      all_goals (first | (exact Cv.clo hs closed_cF) | exact au_c)
  ·intro k hk hT; cases hT
  ·rintro e u rfl
   exact ⟨u, trivial, SEnt.refl _⟩
 rintro u _
 rw [fiX_mk]
 refine r_z 2 ?_
 refine AWp.ret ?_
 exact Fin.tmpS rfl rfl rfl (by simp) (closed_cE _)
def okTo (L : Nat) (p t : List Rat) (k : Rat) (n : Nat) : Prop := n < L ∧ smL p ∧ smL t ∧ leadP t ≠ 0 ∧ sm k ∧ smL (scaleP t k) ∧ p.length ≤ 274877906944 ∧ t.length ≤ 274877906944
instance (L : Nat) (p t : List Rat) (k : Rat) (n : Nat) : Decidable (okTo L p t k n) := inferInstanceAs (Decidable (_ ∧ _ ∧ _ ∧ _ ∧ _ ∧ _ ∧ _ ∧ _))
def toM : Nat → List Rat → List Rat → Option (List Rat)
 | 0, _, _ => none
 | f + 1, p, out => if trimQ p = [] then (if p.length ≤ 1099511627776 then some out else none) else
  let n := (trimQ p).length - 1
  let t := (chP n).1
  let k := leadP p / leadP t
  if okTo out.length p t k n then toM f (subP p (scaleP t k)) (out.set n k) else none
def toFirstM (f : Nat) (p : List Rat) : Option (List Rat) :=
 if p.length ≤ 1000 ∧ (trimQ p).length ≤ 41 ∧ (∀ k, k < (trimQ p).length → okCh k) then toM f (trimQ p) (List.replicate (trimQ p).length 0) else none
def toS (ts : List (List Rat)) : List Rat × List Rat → AState
 | (p, out) => ⟨[(0, .arr (pE p)), (4, .lsl 1 0 out.length (some out.length) 3), (5, .arr (cE ts)), (6, i64 (degP p))], [(1, some ⟨37, 3, pE out⟩)], 2, 47⟩
theorem toS_mk (ts : List (List Rat)) (p : List Rat) (out : List Rat) : toS ts (p, out) = ⟨[(0, .arr (pE p)), (4, .lsl 1 0 out.length (some out.length) 3), (5, .arr (cE ts)), (6, i64 (degP p))], [(1, some ⟨37, 3, pE out⟩)], 2, 47⟩ := rfl
theorem fs_ToFirst (f : Nat) (p r : List Rat) (h : toFirstM f p = some r) : FSpec Tryz.prog 86 [.arr (pE p)] (.tup [.arr (pE r), i64 0]) := by
 unfold toFirstM at h
 split at h
 case isFalse => cases h
 case isTrue hp =>
 obtain ⟨hp1, hp2, hp3⟩ := hp
 have htl := trimQ_len p
 obtain ⟨q, hq⟩ : ∃ q, q = trimQ p := ⟨_, rfl⟩
 rw [← hq] at h hp2 hp3 htl
 have hql : q.length ≤ 41 := hp2
 refine FSpec.enter Tryz.func86 rfl (by kernel_rfl) rfl rfl rfl ?_ rfl ?_
 ·exact closed_cons (closed_pA p) closed_nil
 refine r_z 2 ?_
 have htr := fs_Trim p (by omega)
 rw [← hq] at htr
 refine r_c 3 (htr) ?_
 refine a_z ?_
 refine AWp.seq ?_
 refine r_c 3 (fs_Degree q (by omega)) ?_
 refine a_z ?_
 refine AWp.cond rfl (fun h1 => ?_) (fun h1 => ?_)
 ·have h2 : (40 : Int) < degP q := by simpa using h1
  have h3 := trimQ_len q
  unfold degP at h2
  omega
 refine AWp.skip ?_
 refine s_r 4 ?_
 refine a_2 ?_
 refine o_1 (.makeSlice (l := q.length) (c := q.length) rfl rfl te_24.h tz_37.h rfl tb_37.h (by first | omega | (simp; done) | (simp; omega)) (by first | omega | (simp; done) | (simp; omega)) (by unfold maxLen; first | omega | (simp; done) | (simp; omega))) ?_
 refine a_z ?_
 refine r_c 4 (fs_firsts q.length (by omega) hp3) ?_
 refine a_z ?_
 refine AWp.seq ?_
 refine r_c 3 (fs_Degree q (by omega)) ?_
 refine a_z ?_
 refine AWp.cutT (fun _ : Unit => ⟨[(4, .lsl 1 0 r.length (some r.length) 3)], [(1, some ⟨37, 3, pE r⟩)], 2, 47⟩) (fun _ => True) ?_ ?_
 ·refine AWp.block ?_
  refine AWp.loopS (fun x : Nat × List Rat × List Rat => toS (chL2 (q.length + 1)) x.2) (fun x => x.1) (fun x => toM x.1 x.2.1 x.2.2 = some r ∧ x.2.2.length = q.length ∧ x.2.1.length ≤ 1099511627776) (f, q, List.replicate q.length 0) ⟨h, by simp, by simp only; omega⟩ ?_ ?_
  ·simp only [toS_mk, List.length_replicate]
   refine SEnt.to [(1, 4)] rfl rfl rfl au_r (fun hs => ?_) (fun hs => ?_)
   ·repeat' (first | exact CvF.nil | refine CvF.cons rfl ?_ ?_)
    all_goals (first | (exact Cv.clo hs (closed_cA _)) | exact au_c)
   ·repeat' (first | exact CvH.nil | refine CvH.cons rfl rfl rfl rfl ?_ ?_)
    all_goals (first | (exact CvLL.zeros hs _) | exact au_e | (refine CvLL.box ?_; repeat' (first | exact CvL.nil | refine CvL.cons ?_ ?_)))
    all_goals (first | (exact Cv.clo hs (closed_cA _)) | exact au_c)
  rintro ⟨k, p, out⟩ ⟨h, ho, hpl⟩
  simp only at h ho hpl
  simp only [toS_mk]
  cases k with
  | zero => cases h
  | succ k =>
   rw [toM] at h
   refine AWp.seq ?_
   refine r_z 2 ?_
   refine AWp.cond rfl (fun h1 => ?_) (fun h1 => ?_)
   ·have h0 : trimQ p ≠ [] := by
     intro e
     have e2 := degP_neg.2 e
     simp at h1; omega
    rw [if_neg h0] at h
    simp only at h
    split at h
    case isFalse => cases h
    case isTrue hk =>
    obtain ⟨n, hn⟩ : ∃ n, n = (trimQ p).length - 1 := ⟨_, rfl⟩
    obtain ⟨t, ht⟩ : ∃ t, t = (chP n).1 := ⟨_, rfl⟩
    obtain ⟨x, hx⟩ : ∃ x, x = leadP p / leadP t := ⟨_, rfl⟩
    rw [← hn, ← ht, ← hx] at h hk
    obtain ⟨k1, k2, k3, k4, k5, k6, k7, k8⟩ := hk
    have hdn : degP p = (n : Int) := by
     unfold degP
     have := List.length_pos_iff.2 h0
     omega
    have hov := fs_over2 (leadP p) (leadP t) k4 (by have e1 := leadP_sm k2; have e2 := leadP_sm k3; unfold sm at e1 e2; omega)
    rw [← hx] at hov
    have hgt : (cE (chL2 (q.length + 1)))[((n : Nat) : Int).toNat]? = some [.arr (pE t)] := by
     refine cE_get ?_
     rw [Int.toNat_natCast, ht, chL2, List.getElem?_map, List.getElem?_range (by omega)]; rfl
    have hsl := scaleP_len t x
    have hgo : (pE (out.set n x))[0 + ((n : Nat) : Int).toNat]? = some (qC x) := by
     rw [show 0 + ((n : Nat) : Int).toNat = n by omega]
     exact pE_get (by rw [List.getElem?_set, if_pos rfl, if_pos k1])
    have hst : (pE out).set (0 + ((n : Nat) : Int).toNat) (qC x) = pE (out.set n x) := by
     rw [show 0 + ((n : Nat) : Int).toNat = n by omega, pE_set]
    have hlo : (out.set n x).length = out.length := by simp
    have hg0 : (pE out)[0 + ((n : Nat) : Int).toNat]? = some (qC (coP out n)) := by
     rw [show 0 + ((n : Nat) : Int).toNat = n by omega]; exact pE_get (coP_get k1)
    have hsb : (subP p (scaleP t x)).length ≤ 1099511627776 := by
     have h1 := addP_len p (scaleP (scaleP t x) (-1))
     have h2 := scaleP_len (scaleP t x) (-1)
     unfold subP; omega
    rw [hdn]
    refine AWp.skip ?_
    refine AWp.seq ?_
    refine AWp.block ?_
    refine AWp.seq ?_
    refine AWp.regD hmix (m := 12) rfl ?_
    refine c_s (fs_Lead p (by omega)) ?_
    refine a_2 ?_
    first | refine AR.op0 (.index_l rfl rfl (by omega) (by omega) te_189.h) rfl rfl ?_ | refine AR.op0 (.index_a rfl rfl (by omega) hgt rfl te_189.h) rfl rfl ?_
    first | refine AR.op0 (.load_l1 rfl rfl hgt tg_25.h rfl) rfl rfl ?_ | refine AR.op0 (.load_a1 rfl hgt tg_25.h rfl) rfl rfl ?_
    refine c_s (fs_Lead t (by omega)) ?_
    refine c_s (hov) ?_
    refine a_1 ?_
    refine o_1n (.store rfl rfl hg0 rfl rfl rfl ts_37.h (nle rfl)) ?_
    refine AR.nil ⟨by kernel_rfl, ?_⟩
    refine AWp.ent (st' := ⟨[(0, .arr (pE p)), (4, .lsl 1 0 out.length (some out.length) 3), (5, .arr (cE (chL2 (q.length + 1)))), (6, i64 n)], [(1, some ⟨37, 3, pE (out.set n x)⟩)], 2, 47⟩) ?_ ?_
    ·refine SEnt.to [] rfl rfl rfl ?_ (fun hs => ?_) (fun hs => ?_)
     ·repeat' (first | exact ShrL.nil | refine ShrL.cons rfl rfl rfl rfl (by first | (simp) | rfl | (simp; done) | (simp <;> omega)) ?_)
     ·repeat' (first | exact CvF.nil | refine CvF.cons rfl ?_ ?_)
      all_goals (first | (exact Cv.clo hs (closed_cA _)) | exact au_c)
     ·repeat' (first | exact CvH.nil | refine CvH.cons rfl rfl rfl rfl ?_ ?_)
      all_goals (first | (exact CvLL.cloE hs hst (closed_pE _)) | exact au_e | (refine CvLL.box ?_; repeat' (first | exact CvL.nil | refine CvL.cons ?_ ?_)))
      all_goals (first | (exact Cv.clo hs (closed_cA _)) | exact au_c)
    refine AWp.regD hmix (m := 12) rfl ?_
    refine a_3 ?_
    first | refine AR.op0 (.index_l rfl rfl (by omega) (by omega) te_189.h) rfl rfl ?_ | refine AR.op0 (.index_a rfl rfl (by omega) hgt rfl te_189.h) rfl rfl ?_
    first | refine AR.op0 (.load_l1 rfl rfl hgt tg_25.h rfl) rfl rfl ?_ | refine AR.op0 (.load_a1 rfl hgt tg_25.h rfl) rfl rfl ?_
    refine a_3 ?_
    first | refine AR.op0 (.load_l rfl rfl hgo tg_37.h ts_37.h (nle rfl)) rfl rfl ?_ | refine AR.op0 (.load_a rfl hgo tg_37.h ts_37.h (nle rfl)) rfl rfl ?_
    refine c_s (fs_Scale t x k3 k5 (by omega)) ?_
    refine c_s (fs_Sub p (scaleP t x) k2 k6 (by omega) (by omega)) ?_
    refine a_1 ?_
    refine AR.nil ⟨by kernel_rfl, ?_⟩
    refine AWp.reg (m := 3) rfl ?_
    refine c_s (fs_Degree (subP p (scaleP t x)) hsb) ?_
    refine a_z ?_
    refine ⟨(k, subP p (scaleP t x), out.set n x), Nat.lt_succ_self k, ⟨h, by simp only; omega, hsb⟩, ?_⟩
    simp only [toS_mk, hlo]
    refine SEnt.to [] rfl rfl rfl au_r (fun hs => ?_) (fun hs => ?_)
    ·repeat' (first | exact CvF.nil | refine CvF.cons rfl ?_ ?_)
     all_goals (first | (exact Cv.clo hs (closed_cA _)) | exact au_c)
    ·repeat' (first | exact CvH.nil | refine CvH.cons rfl rfl rfl rfl ?_ ?_)
     all_goals (first | exact au_e | (refine CvLL.box ?_; repeat' (first | exact CvL.nil | refine CvL.cons ?_ ?_)))
     all_goals (first | (exact Cv.clo hs (closed_cA _)) | exact au_c)
   ·have h0 : trimQ p = [] := by
     refine degP_neg.1 ?_
     simp at h1; omega
    rw [if_pos h0, if_pos hpl] at h
    cases h
    refine AWp.exit ⟨(), trivial, ?_⟩
    exact s_e []
 rintro _ _
 refine r_z 3 ?_
 refine AWp.ret ?_
 refine Fin.many ⟨_, _, rfl, rfl, ⟨_, _, rfl, rfl, rfl⟩⟩ (nle rfl) ?_
 exact CvL.cons (Cv.sealE shr_nil rfl (fun _ _ h => by cases h) rfl (by simp) (closed_pE r)) (CvL.cons (Cv.clo shr_nil (closed_v _)) CvL.nil)
def twoP : List Rat := [-2, 0, 1]
theorem w_text1 : textP [1, mkRat (-3) 2, 0, 1] = [120, 94, 51, 32, 45, 32, 51, 47, 50, 32, 120, 32, 43, 32, 49] ∧ okPT [1, mkRat (-3) 2, 0, 1] := by decide +kernel
theorem w_div : divP [-1, 0, 1] [2, 1] = ([-2, 1], [3]) ∧ okDiv [-1, 0, 1] [2, 1] ∧ trimQ [2, 1] ≠ [] := by decide +kernel
theorem w_text2 : textP [-2, 1] = [120, 32, 45, 32, 50] ∧ okPT [-2, 1] := by decide +kernel
theorem w_text3 : textP [3] = [51] ∧ okPT [3] := by decide +kernel
theorem w_first : toFirstM 10 [0, 0, 1] = some [mkRat 1 2, 0, mkRat 1 2] := by decide +kernel
theorem w_res : resM 10 1 twoP [-3, 0, 1] = some 1 := by decide +kernel
theorem w_q : textQ (mkRat 1 2) = [49, 47, 50] ∧ okT (mkRat 1 2) ∧ textQ 1 = [49] ∧ okT 1 := by decide +kernel
def spanChk : Bool := match placeM 40 twoP with
 | some c => decide (1 < allV c ∧ spanM 40 c 1 4 = some (mkRat 11 8, mkRat 23 16))
 | none => false
theorem w_span : spanChk = true := by decide +kernel
theorem w_range : rangeM 40 40 twoP (-1, 2) 0 = some (-2, 2) := by decide +kernel
theorem w_sp : textSp (mkRat 11 8, mkRat 23 16) = [91, 49, 49, 47, 56, 32, 50, 51, 47, 49, 54, 93] ∧ okT (mkRat 11 8) ∧ okT (mkRat 23 16) ∧ textSp (-2, 2) = [91, 45, 50, 32, 50, 93] ∧ okT (-2) ∧ okT 2 := by decide +kernel
end Go.Proofs.YtdhedjbmdnnbkaaGreatDoor
