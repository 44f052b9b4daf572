/- Part X15 of the proof. -/
import Derived.Test.YtdhedjbmdnnbkaaGreatDoorX14
set_option linter.all false
namespace Go.Proofs.YtdhedjbmdnnbkaaGreatDoor
open Go.Abs
set_option maxRecDepth 20000
set_option maxHeartbeats 1000000
theorem pad9_pd {x : Nat} (h : x < 1000000000) : pad9 x = pd 9 x := by
 by_cases h0 : x = 0
 ·subst h0; decide +kernel
 ·rw [pd_dec 9 x (by omega) h]; rfl
theorem txD_dec : ∀ (n m : Nat), m ≤ n → 0 < m → txD (digs MB m).reverse = Lib.decDigits m
 | 0, m, h, h0 => by omega
 | n + 1, m, h, h0 => by
  have hb : MB = 1000000000 := rfl
  rw [digs_pos (by decide) h0, List.reverse_cons]
  by_cases hm : m < MB
  ·rw [Nat.div_eq_of_lt hm, digs_zero, Nat.mod_eq_of_lt hm]; simp [txD]
  ·have hd : 0 < m / MB := Nat.div_pos (by omega) (by decide)
   have hne : (digs MB (m / MB)).reverse ≠ [] := fun e => by
    have := (digs_eq_nil (b := MB) (by decide)).1 (List.reverse_eq_nil_iff.1 e)
    omega
   have hlt : m % MB < 1000000000 := Nat.mod_lt m (by decide)
   rw [txD_snoc hne, txD_dec n (m / MB) (by have := Nat.div_lt_self h0 (by decide : 1 < MB); omega) hd, pad9_pd hlt, ← dec_split 9 (m / MB) (m % MB) hd hlt]
   congr 1
   show m / 1000000000 * 1000000000 + m % 1000000000 = m
   omega
theorem mtx_dec (m : Nat) : mtx m = Lib.decDigits m := by
 unfold mtx
 split
 ·rename_i h; subst h; decide +kernel
 ·exact txD_dec m m (Nat.le_refl _) (by omega)
def ztx (z : Int) : List UInt8 := (if z < 0 then [45] else []) ++ Lib.decDigits z.natAbs
theorem qtx_eq (q : Rat) : qtx q = ztx q.num ++ (if q.den = 1 then [] else 47 :: Lib.decDigits q.den) := by
 unfold qtx ztx
 rw [mtx_dec, mtx_dec]
theorem dec_len_bl (n : Nat) : (Lib.decDigits n).length ≤ bl n + 1 := by
 rw [Lib.decDigits_length]
 have h : n < 10 ^ (bl n + 1) := Nat.lt_of_lt_of_le (lt_bl n) (Nat.le_trans (Nat.pow_le_pow_left (by decide : 2 ≤ 10) _) (Nat.pow_le_pow_right (by decide) (by omega)))
 exact nDig_le (bl n) n h
theorem first_text {c : UInt8} {l : List UInt8} : ∀ w, (Instr.index 9 (.string ⟨(c :: l).toArray⟩) (.int .i64 0)).run Tryz.prog w = .ok (.int .u8 c.toNat) w := fun w => by
 simp [Instr.index, asIntOf, run_underlying us_string, go_sem]
 rfl
theorem tail_text (c : UInt8) (l : List UInt8) : ∀ w, (Instr.sliceAt 9 (.string ⟨(c :: l).toArray⟩) (some (.int .i64 1)) none none).run Tryz.prog w = .ok (.string ⟨l.toArray⟩) w := fun w => by
 have b1 : ∀ (i y : Nat) (c : BoundsCode), i ≤ y → (Instr.sliceBound (.int .i64 (i : Int)) y c).run Tryz.prog w = .ok i w := fun i y c hi => run_bound hi c w
 have e : (⟨(c :: l).toArray⟩ : ByteArray).extract 1 (⟨(c :: l).toArray⟩ : ByteArray).size = ⟨l.toArray⟩ := by
  apply ByteArray.ext; simp [ByteArray.size]
 have hr : (Instr.slice 9 (.string ⟨(c :: l).toArray⟩) (some (.int .i64 ((1 : Nat) : Int))) none none).run Tryz.prog w = .ok (.string ⟨l.toArray⟩) w := by
  have hs : 1 ≤ (⟨(c :: l).toArray⟩ : ByteArray).size := by simp [ByteArray.size]
  have b2 := b1 1 (⟨(c :: l).toArray⟩ : ByteArray).size .sliceB hs
  rw [show ((1 : Nat) : Int) = 1 from rfl] at b2
  simp [Instr.slice, run_underlying us_string, Instr.sliceBounds, b2, Result.andThen, e]
 unfold Instr.sliceAt
 rw [Sem.run_bind, run_underlying us_string]
 exact hr
theorem dig_text (d : Nat) (zl zh : Int) (hd : d < 10) (el : zl = (d : Int)) (eh : zh = (d : Int) + 1) : ∀ w, (Instr.sliceAt 9 (.string ⟨#[48, 49, 50, 51, 52, 53, 54, 55, 56, 57]⟩) (some (.int .i64 zl)) (some (.int .i64 zh)) none).run Tryz.prog w = .ok (.string ⟨[UInt8.ofNat (48 + d)].toArray⟩) w := fun w => by
 rw [cut_text _ d (d + 1) zl zh el (by omega) (by omega) (by exact Nat.le_trans (m := 10) (by omega) (by decide)) w]
 have key : ∀ d, d < 10 → (ByteArray.mk #[48, 49, 50, 51, 52, 53, 54, 55, 56, 57]).extract d (d + 1) = ⟨[UInt8.ofNat (48 + d)].toArray⟩ := by decide
 rw [key d hd]
theorem zd_sm {m : Nat} (h0 : 0 < m) (h : m < 32768) : zd m = [m] := by
 have hb : UB = 32768 := rfl
 unfold zd
 rw [digs_pos (by decide) h0, Nat.mod_eq_of_lt (by omega), Nat.div_eq_of_lt (by omega), digs_zero]; rfl
def ztO (z : Int) (n : Nat) : Nat → AState
 | k => ⟨[(1, .aptr [zZ z] 0 0), (3, tx (pd (4 * k) n)), (4, .arr (iE (zd (n / 10 ^ (4 * k)))))], [], 2, 51⟩
theorem ztO_mk (z : Int) (n : Nat) (k : Nat) : ztO z n k = ⟨[(1, .aptr [zZ z] 0 0), (3, tx (pd (4 * k) n)), (4, .arr (iE (zd (n / 10 ^ (4 * k)))))], [], 2, 51⟩ := rfl
def ztI (z : Int) (r B : Nat) (T : List UInt8) : Nat → AState
 | i => ⟨[(1, .aptr [zZ z] 0 0), (3, tx (pd i r ++ T)), (5, .arr (iE (zd B))), (7, i64 ((r / 10 ^ i : Nat) : Int)), (8, i64 i)], [], 2, 51⟩
theorem ztI_mk (z : Int) (r B : Nat) (T : List UInt8) (i : Nat) : ztI z r B T i = ⟨[(1, .aptr [zZ z] 0 0), (3, tx (pd i r ++ T)), (5, .arr (iE (zd B))), (7, i64 ((r / 10 ^ i : Nat) : Int)), (8, i64 i)], [], 2, 51⟩ := rfl
def ztD (z : Int) : List UInt8 → AState
 | T => ⟨[(1, .aptr [zZ z] 0 0), (3, tx T)], [], 2, 51⟩
theorem ztD_mk (z : Int) (T : List UInt8) : ztD z T = ⟨[(1, .aptr [zZ z] 0 0), (3, tx T)], [], 2, 51⟩ := rfl
theorem fs_ZText (z : Int) (h : bl z.natAbs ≤ 68719476736) : FSpec Tryz.prog 212 [.agg (zZ z)] (tx (ztx z)) := by
 have hcz : Closed (.aptr [zZ z] 0 0) := closed_box (closed_zZ z)
 refine FSpec.enter Tryz.func212 rfl (by kernel_rfl) rfl rfl rfl ?_ rfl ?_
 ·exact closed_cons (closed_zZA z) closed_nil
 refine r_z 2 ?_
 refine AWp.ent (st' := ⟨[(1, .aptr [zZ z] 0 0)], [], 2, 51⟩) ?_ ?_
 ·exact s_e []
 by_cases h0 : z = 0
 ·subst h0
  refine AWp.seq ?_
  refine s_r 3 ?_
  refine a_2 ?_
  refine o_0 (.bin rfl rfl (vT binI_eql ((by decide)))) ?_
  refine AR.nil ?_
  refine AWp.cond rfl (fun h1 => ?_) (fun h1 => ?_)
  ·refine r_z 1 ?_
   refine AWp.ret ?_
   exact Fin.tmpE rfl (by rw [show ztx 0 = [48] by unfold ztx; rw [Int.natAbs_zero, Lib.decDigits_one (by decide)]; rfl]; rfl) (closed_v _)
  ·cases h1
 refine AWp.seq ?_
 refine s_r 3 ?_
 refine a_2 ?_
 refine o_0 (.bin rfl rfl (vF binI_eql ((by unfold sgZ; rw [if_neg h0]; split <;> rfl)))) ?_
 refine AR.nil ?_
 refine AWp.cond rfl (fun h1 => ?_) (fun h1 => ?_)
 ·cases h1
 refine AWp.skip ?_
 refine r_z 1 ?_
 refine r_z 3 ?_
 obtain ⟨n, hn⟩ : ∃ n, n = z.natAbs := ⟨_, rfl⟩
 have hn0 : 0 < n := by omega
 rw [← hn] at h
 have hzd := zd_length n
 have hdl := digs_length (b := UB) (by decide) n
 refine AWp.cut (ztD z) (fun T => ∃ k, T = pd k n ∧ n < 10 ^ k ∧ k ≤ 4 * (bl n + 1)) ?_ ?_
 ·refine AWp.block ?_
  refine AWp.loopS (ztO z n) (fun k => n / 10 ^ (4 * k)) (fun k => k = 0 ∨ 0 < n / 10 ^ (4 * (k - 1))) 0 (.inl rfl) ?_ ?_
  ·simp only [ztO_mk]
   have e : n / 10 ^ (4 * 0) = n := by simp
   rw [e, hn]
   refine SEnt.to [] rfl rfl rfl au_r (fun hs => ?_) (fun hs => ?_)
   ·repeat' (first | exact CvF.nil | refine CvF.cons rfl ?_ ?_)
    all_goals (first | (exact Cv.clo hs hcz) | exact au_c)
   ·repeat' (first | exact CvH.nil | refine CvH.cons rfl rfl rfl rfl ?_ ?_)
    all_goals (first | exact au_e | (refine CvLL.box ?_; repeat' (first | exact CvL.nil | refine CvL.cons ?_ ?_)))
    all_goals (first | (exact Cv.clo hs hcz) | exact au_c)
  rintro k hk
  simp only [ztO_mk]
  obtain ⟨A, hA⟩ : ∃ A, A = n / 10 ^ (4 * k) := ⟨_, rfl⟩
  have hk4 : 4 * k ≤ bl n + 4 := by
   rcases hk with hk | hk
   ·omega
   ·have h1 : 10 ^ (4 * (k - 1)) ≤ n := by
     apply Nat.le_of_not_lt
     intro hlt; rw [Nat.div_eq_of_lt hlt] at hk; omega
    have h2 := lt_bl n
    have h3 : 2 ^ (4 * (k - 1)) ≤ 10 ^ (4 * (k - 1)) := Nat.pow_le_pow_left (by decide) _
    have h4 : 4 * (k - 1) < bl n := (Nat.pow_lt_pow_iff_right (a := 2) (by decide)).1 (Nat.lt_of_le_of_lt (Nat.le_trans h3 h1) h2)
    omega
  rw [← hA]
  have hAb : bl A ≤ 68719476736 := Nat.le_trans (bl_mono (by rw [hA]; exact Nat.div_le_self _ _)) h
  by_cases hA0 : A = 0
  ·have hz : (zd A).length = 0 := by rw [hA0, zd_zero]; rfl
   refine AWp.seq ?_
   refine q_z 3 ?_
   refine AWp.cond rfl (fun h1 => ?_) (fun h1 => ?_)
   ·cases h1
   refine AWp.exit ⟨pd (4 * k) n, ⟨4 * k, rfl, ?_, by omega⟩, ?_⟩
   ·rw [hA0] at hA
    exact (Nat.div_eq_zero_iff.1 hA.symm).resolve_left (by have := Nat.one_le_pow (4 * k) 10 (by decide); omega)
   ·simp only [ztD_mk]
    refine SEnt.to [] rfl rfl rfl au_r (fun hs => ?_) (fun hs => ?_)
    ·repeat' (first | exact CvF.nil | refine CvF.cons rfl ?_ ?_)
     all_goals (first | (exact Cv.clo hs hcz) | exact au_c)
    ·repeat' (first | exact CvH.nil | refine CvH.cons rfl rfl rfl rfl ?_ ?_)
     all_goals (first | exact au_e | (refine CvLL.box ?_; repeat' (first | exact CvL.nil | refine CvL.cons ?_ ?_)))
     all_goals (first | (exact Cv.clo hs hcz) | exact au_c)
  have hz : 0 < (zd A).length := List.length_pos_iff.2 fun e => hA0 (zd_eq_nil.1 e)
  refine AWp.seq ?_
  refine q_z 3 ?_
  refine AWp.cond rfl (fun h1 => ?_) (fun h1 => ?_)
  rotate_left
  ·cases h1
  refine AWp.skip ?_
  refine AWp.block ?_
  have hov := fs_rover A 10000 (by decide) (by omega) (by decide)
  rw [zd_sm (by decide) (by decide : 10000 < 32768)] at hov
  obtain ⟨r, hr⟩ : ∃ r, r = A % 10000 := ⟨_, rfl⟩
  obtain ⟨B, hB⟩ : ∃ B, B = A / 10000 := ⟨_, rfl⟩
  rw [← hr, ← hB] at hov
  have hr4 : r < 10000 := by rw [hr]; exact Nat.mod_lt _ (by decide)
  have hzr : (zd r).length ≤ 4 := by
   rw [zd_length]; exact digs_length_lt (b := UB) (by decide) (k := 4) (Nat.lt_trans hr4 (by decide))
  have hsh := fs_short (zd r) hzr (zd_lt r)
  rw [hv_zd] at hsh
  obtain ⟨T, hT⟩ : ∃ T, T = pd (4 * k) n := ⟨_, rfl⟩
  have hTl : T.length = 4 * k := by rw [hT, pd_length]
  rw [← hT]
  refine s_r 8 ?_
  refine a_2 ?_
  refine o_1 (.callS1 rfl rfl rfl (.keep (.shut rfl (by first | exact nle rfl | (simp; done) | (simp; omega)) (.nil))) rfl (hov)) ?_
  refine a_z ?_
  refine r_c 3 (hsh) ?_
  refine a_z ?_
  refine AWp.seq ?_
  refine r_z 1 ?_
  refine AWp.cutT (ztI z r B T) (fun i => i = 4) ?_ ?_
  ·refine AWp.block ?_
   refine AWp.loopS (ztI z r B T) (fun i => 4 - i) (fun i => i ≤ 4) 0 (by decide) ?_ ?_
   ·simp only [ztI_mk]
    have e : ((r / 10 ^ 0 : Nat) : Int) = r := by simp
    rw [e]
    refine SEnt.to [] rfl rfl rfl au_r (fun hs => ?_) (fun hs => ?_)
    ·repeat' (first | exact CvF.nil | refine CvF.cons rfl ?_ ?_)
     all_goals (first | (exact Cv.clo hs hcz) | exact au_c)
    ·repeat' (first | exact CvH.nil | refine CvH.cons rfl rfl rfl rfl ?_ ?_)
     all_goals (first | exact au_e | (refine CvLL.box ?_; repeat' (first | exact CvL.nil | refine CvL.cons ?_ ?_)))
     all_goals (first | (exact Cv.clo hs hcz) | exact au_c)
   rintro i hi
   simp only [ztI_mk]
   by_cases h4 : i < 4
   ·refine AWp.seq ?_
    refine q_z 2 ?_
    refine AWp.cond rfl (fun h2 => ?_) (fun h2 => ?_)
    rotate_left
    ·cases h2
    refine AWp.skip ?_
    refine AWp.seq ?_
    refine AWp.block ?_
    obtain ⟨c, hc⟩ : ∃ c, c = r / 10 ^ i := ⟨_, rfl⟩
    rw [← hc]
    have hcr : c ≤ r := by rw [hc]; exact Nat.div_le_self _ _
    have hsz : [UInt8.ofNat (48 + c % 10)].length + (pd i r ++ T).length ≤ 9223372036854775807 := by
     rw [List.length_append, pd_length, hTl]; simp only [List.length_cons, List.length_nil]; omega
    refine s_r 9 ?_
    refine a_5 ?_
    refine o_0 (.slice_v rfl rfl rfl rfl (dig_text (c % 10) _ _ (by omega) (by omega) (by omega))) ?_
    refine a_1 ?_
    refine o_0 (.bin rfl rfl (binS_add (l := [UInt8.ofNat (48 + c % 10)]) (m := pd i r ++ T) hsz)) ?_
    refine a_z ?_
    refine AWp.reg (m := 3) rfl ?_
    refine a_z ?_
    refine AWp.reg (m := 3) rfl ?_
    refine a_z ?_
    refine ⟨i + 1, by omega, h4, ?_⟩
    have e1 : pd (i + 1) r ++ T = [UInt8.ofNat (48 + c % 10)] ++ (pd i r ++ T) := by rw [pd_front, ← hc]; rfl
    have e2 : ((r / 10 ^ (i + 1) : Nat) : Int) = (c : Int) / 10 := by rw [Nat.pow_succ, ← Nat.div_div_eq_div_mul, ← hc]; omega
    show SEnt _ ⟨[(1, .aptr [zZ z] 0 0), (3, tx (pd (i + 1) r ++ T)), (5, .arr (iE (zd B))), (7, i64 ((r / 10 ^ (i + 1) : Nat) : Int)), (8, i64 ((i + 1 : Nat) : Int))], [], 2, _⟩
    rw [e1, e2]
    refine SEnt.to [] rfl rfl rfl au_r (fun hs => ?_) (fun hs => ?_)
    ·repeat' (first | exact CvF.nil | refine CvF.cons rfl ?_ ?_)
     all_goals (first | (exact Cv.clo hs hcz) | exact au_c)
    ·repeat' (first | exact CvH.nil | refine CvH.cons rfl rfl rfl rfl ?_ ?_)
     all_goals (first | exact au_e | (refine CvLL.box ?_; repeat' (first | exact CvL.nil | refine CvL.cons ?_ ?_)))
     all_goals (first | (exact Cv.clo hs hcz) | exact au_c)
   ·refine AWp.seq ?_
    refine q_z 2 ?_
    refine AWp.cond rfl (fun h2 => ?_) (fun h2 => ?_)
    ·cases h2
    refine AWp.exit ⟨i, by omega, ?_⟩
    simp only [ztI_mk]
    refine SEnt.to [] rfl rfl rfl au_r (fun hs => ?_) (fun hs => ?_)
    ·repeat' (first | exact CvF.nil | refine CvF.cons rfl ?_ ?_)
     all_goals (first | (exact Cv.clo hs hcz) | exact au_c)
    ·repeat' (first | exact CvH.nil | refine CvH.cons rfl rfl rfl rfl ?_ ?_)
     all_goals (first | exact au_e | (refine CvLL.box ?_; repeat' (first | exact CvL.nil | refine CvL.cons ?_ ?_)))
     all_goals (first | (exact Cv.clo hs hcz) | exact au_c)
  rintro _ rfl
  rw [ztI_mk]
  refine AWp.reg (m := 2) rfl ?_
  refine a_z ?_
  have e0 : n / 10 ^ (4 * (k + 1)) = B := by rw [hB, hA, Nat.div_div_eq_div_mul, show 4 * (k + 1) = 4 * k + 4 by omega, Nat.pow_add]
  refine ⟨k + 1, ?_, .inr ?_, ?_⟩
  ·show n / 10 ^ (4 * (k + 1)) < A
   rw [e0]; omega
  ·show 0 < n / 10 ^ (4 * (k + 1 - 1))
   rw [Nat.add_sub_cancel, ← hA]; omega
  ·have e1 : pd (4 * (k + 1)) n = pd 4 r ++ T := by
    rw [show 4 * (k + 1) = 4 + 4 * k by omega, pd_add, ← hA, ← hT, hr]
    congr 1
    exact (pd_mod 4 A).symm
   show SEnt _ ⟨[(1, .aptr [zZ z] 0 0), (3, tx (pd (4 * (k + 1)) n)), (4, .arr (iE (zd (n / 10 ^ (4 * (k + 1))))))], [], 2, _⟩
   rw [e0, e1]
   refine SEnt.to [] rfl rfl rfl au_r (fun hs => ?_) (fun hs => ?_)
   ·repeat' (first | exact CvF.nil | refine CvF.cons rfl ?_ ?_)
    all_goals (first | (exact Cv.clo hs hcz) | exact au_c)
   ·repeat' (first | exact CvH.nil | refine CvH.cons rfl rfl rfl rfl ?_ ?_)
    all_goals (first | exact au_e | (refine CvLL.box ?_; repeat' (first | exact CvL.nil | refine CvL.cons ?_ ?_)))
    all_goals (first | (exact Cv.clo hs hcz) | exact au_c)
 rintro T ⟨K, hT, hK, hKl⟩
 have hdz : dropZ T = Lib.decDigits n := by rw [hT]; exact dropZ_pd K n hn0 hK
 clear hT hK hKl
 simp only [ztD_mk]
 refine AWp.cut (ztD z) (fun T => T = Lib.decDigits n) ?_ ?_
 ·refine AWp.block ?_
  refine AWp.loopS (ztD z) (fun T => T.length) (fun T => dropZ T = Lib.decDigits n) T hdz ?_ ?_
  ·simp only [ztD_mk]
   refine SEnt.to [] rfl rfl rfl au_r (fun hs => ?_) (fun hs => ?_)
   ·repeat' (first | exact CvF.nil | refine CvF.cons rfl ?_ ?_)
    all_goals (first | (exact Cv.clo hs hcz) | exact au_c)
   ·repeat' (first | exact CvH.nil | refine CvH.cons rfl rfl rfl rfl ?_ ?_)
    all_goals (first | exact au_e | (refine CvLL.box ?_; repeat' (first | exact CvL.nil | refine CvL.cons ?_ ?_)))
    all_goals (first | (exact Cv.clo hs hcz) | exact au_c)
  intro T hT
  simp only [ztD_mk]
  cases T with
  | nil => exact absurd hT.symm (decDigits_ne n)
  | cons c T =>
   rw [dropZ] at hT
   by_cases hc : c = 48
   ·rw [if_pos hc] at hT
    refine AWp.seq ?_
    refine s_r 3 ?_
    refine a_1 ?_
    refine o_0 (.index_s rfl rfl first_text) ?_
    refine o_0 (.bin rfl rfl (vT binI_eql ((by rw [hc]; rfl)))) ?_
    refine AR.nil ?_
    refine AWp.cond rfl (fun h1 => ?_) (fun h1 => ?_)
    rotate_left
    ·cases h1
    refine AWp.skip ?_
    refine AWp.block ?_
    refine AWp.reg (m := 3) rfl ?_
    refine a_1 ?_
    refine o_0 (.slice_v rfl rfl rfl rfl (tail_text c T)) ?_
    refine a_z ?_
    refine ⟨T, by simp, hT, ?_⟩
    show SEnt _ ⟨[(1, .aptr [zZ z] 0 0), (3, tx T)], [], 2, _⟩
    refine SEnt.to [] rfl rfl rfl au_r (fun hs => ?_) (fun hs => ?_)
    ·repeat' (first | exact CvF.nil | refine CvF.cons rfl ?_ ?_)
     all_goals (first | (exact Cv.clo hs hcz) | exact au_c)
    ·repeat' (first | exact CvH.nil | refine CvH.cons rfl rfl rfl rfl ?_ ?_)
     all_goals (first | exact au_e | (refine CvLL.box ?_; repeat' (first | exact CvL.nil | refine CvL.cons ?_ ?_)))
     all_goals (first | (exact Cv.clo hs hcz) | exact au_c)
   ·rw [if_neg hc] at hT
    have hne : (((c.toNat : Nat) : Int) == 48) = false := by
     rw [beq_eq_false_iff_ne]
     intro e
     exact hc (UInt8.toNat_inj.1 (by have : c.toNat = 48 := by omega
                                     exact this))
    refine AWp.seq ?_
    refine s_r 3 ?_
    refine a_1 ?_
    refine o_0 (.index_s rfl rfl first_text) ?_
    refine o_0 (.bin rfl rfl (vF binI_eql (hne))) ?_
    refine AR.nil ?_
    refine AWp.cond rfl (fun h1 => ?_) (fun h1 => ?_)
    ·cases h1
    refine AWp.exit ⟨c :: T, hT, ?_⟩
    show SEnt _ ⟨[(1, .aptr [zZ z] 0 0), (3, tx (c :: T))], [], 2, _⟩
    refine SEnt.to [] rfl rfl rfl au_r (fun hs => ?_) (fun hs => ?_)
    ·repeat' (first | exact CvF.nil | refine CvF.cons rfl ?_ ?_)
     all_goals (first | (exact Cv.clo hs hcz) | exact au_c)
    ·repeat' (first | exact CvH.nil | refine CvH.cons rfl rfl rfl rfl ?_ ?_)
     all_goals (first | exact au_e | (refine CvLL.box ?_; repeat' (first | exact CvL.nil | refine CvL.cons ?_ ?_)))
     all_goals (first | (exact Cv.clo hs hcz) | exact au_c)
 rintro T rfl
 simp only [ztD_mk]
 have hdl2 := dec_len_bl n
 by_cases hneg : z < 0
 ·refine AWp.seq ?_
  refine s_r 3 ?_
  refine a_2 ?_
  refine o_0 (.bin rfl rfl (vT binI_lss ((by unfold sgZ; rw [if_neg h0, if_pos hneg]; rfl)))) ?_
  refine AR.nil ?_
  refine AWp.cond rfl (fun h1 => ?_) (fun h1 => ?_)
  rotate_left
  ·cases h1
  refine s_r 3 ?_
  refine a_1 ?_
  refine o_0 (.bin rfl rfl (binS_add (l := [45]) (by simp; omega))) ?_
  refine a_z ?_
  refine AWp.ret ?_
  exact Fin.tmpE rfl (by unfold ztx; rw [if_pos hneg, hn]) (closed_v _)
 ·refine AWp.seq ?_
  refine s_r 3 ?_
  refine a_2 ?_
  refine o_0 (.bin rfl rfl (vF binI_lss ((by unfold sgZ; rw [if_neg h0, if_neg hneg]; rfl)))) ?_
  refine AR.nil ?_
  refine AWp.cond rfl (fun h1 => ?_) (fun h1 => ?_)
  ·cases h1
  refine AWp.skip ?_
  refine r_z 2 ?_
  refine AWp.ret ?_
  exact Fin.tmpE rfl (by unfold ztx; rw [if_neg hneg, hn]; rfl) (closed_v _)
theorem fs_ends (g : Nat) (op : Rat → Rat → Rat) (a b c d : Rat) (h1 : FSpec Tryz.prog g [.agg (qC a), .agg (qC c)] (.agg (qC (op a c)))) (h2 : FSpec Tryz.prog g [.agg (qC a), .agg (qC d)] (.agg (qC (op a d)))) (h3 : FSpec Tryz.prog g [.agg (qC b), .agg (qC c)] (.agg (qC (op b c)))) (h4 : FSpec Tryz.prog g [.agg (qC b), .agg (qC d)] (.agg (qC (op b d))))
    (hs : smL [op a c, op a d, op b c, op b d]) : FSpec Tryz.prog 276 [.clos g [] [], .agg (spC a b), .agg (spC c d)] (.agg (spC (minL [op a c, op a d, op b c, op b d]) (maxL [op a c, op a d, op b c, op b d]))) := by
 refine FSpec.enter Tryz.func276 rfl (by kernel_rfl) rfl rfl rfl ?_ rfl ?_
 ·exact closed_cons (closed_clos closed_nil closed_nil) (closed_cons (closed_spA a b) (closed_cons (closed_spA c d) closed_nil))
 refine r_z 3 ?_
 refine AWp.seq ?_
 refine AWp.regD hmix (m := 27) rfl ?_
 refine c_s (h1) ?_
 refine c_s (h2) ?_
 refine c_s (h3) ?_
 refine c_s (h4) ?_
 refine a_1 ?_
 refine o_1 (.callS1 rfl rfl rfl (.shut rfl (by first | exact nle rfl | (simp; done) | (simp; omega)) (.nil)) rfl (fs_spanned [op a c, op a d, op b c, op b d] hs (by simp))) ?_
 refine a_1 ?_
 refine AR.nil ⟨by kernel_rfl, ?_⟩
 refine AWp.ret ?_
 refine Fin.cellE rfl rfl rfl tg_65.h ts_65.h (nle rfl) ?_ ?_
 ·rfl
 ·exact closed_spA _ _
theorem fs_SMul (a b c d : Rat) (ha : sm a) (hb : sm b) (hc : sm c) (hd : sm d) (hs : smL [a * c, a * d, b * c, b * d]) : FSpec Tryz.prog 247 [.agg (spC a b), .agg (spC c d)] (.agg (spC (minL [a * c, a * d, b * c, b * d]) (maxL [a * c, a * d, b * c, b * d]))) := by
 refine FSpec.enter Tryz.func247 rfl (by kernel_rfl) rfl rfl rfl ?_ rfl ?_
 ·exact closed_cons (closed_spA a b) (closed_cons (closed_spA c d) closed_nil)
 refine r_z 3 ?_
 refine r_c 4 (fs_ends 22 (fun x y => x * y) a b c d (fs_mul a c (sm2 ha hc)) (fs_mul a d (sm2 ha hd)) (fs_mul b c (sm2 hb hc)) (fs_mul b d (sm2 hb hd)) hs) ?_
 refine a_z ?_
 refine AWp.ret ?_
 refine Fin.cellE rfl rfl rfl tg_65.h ts_65.h (nle rfl) ?_ ?_
 ·rfl
 ·exact closed_spA _ _
theorem qs_int (n : Int) : qs (n : Rat) ≤ max (bl n.natAbs) 1 := by
 have e1 : (n : Rat).num = n := rfl
 have e2 : (n : Rat).den = 1 := rfl
 unfold qs; rw [e1, e2, bl_one]; exact Nat.le_refl _
theorem qs_i64 {n : Int} (h : -9223372036854775808 ≤ n ∧ n ≤ 9223372036854775807) : qs (n : Rat) ≤ 64 := by
 have h1 := qs_int n
 have h2 : bl n.natAbs ≤ 64 := bl_le (Nat.lt_of_le_of_lt (show n.natAbs ≤ 9223372036854775808 by omega) (by decide))
 omega
theorem fs_Of (n d : Int) (hn : -9223372036854775808 ≤ n ∧ n ≤ 9223372036854775807) (hd : -9223372036854775808 ≤ d ∧ d ≤ 9223372036854775807) (h0 : d ≠ 0) : FSpec Tryz.prog 87 [i64 n, i64 d] (.tup [.agg (qC ((n : Rat) / (d : Rat))), i64 0]) := by
 have h1 := qs_i64 hn
 have h2 := qs_i64 hd
 have hd0 : (d : Rat) ≠ 0 := by
  intro h
  have : (d : Rat).num = 0 := by rw [h]; rfl
  exact h0 this
 refine FSpec.enter Tryz.func87 rfl (by kernel_rfl) rfl rfl rfl ?_ rfl ?_
 ·exact closed_cons (closed_v _) (closed_cons (closed_v _) closed_nil)
 refine r_z 2 ?_
 refine r_c 9 (fs_Int n hn) ?_
 refine c_s (fs_Int d hd) ?_
 refine c_s (fs_div (n : Rat) (d : Rat) hd0 (by omega)) ?_
 refine a_z ?_
 refine AWp.ret ?_
 refine Fin.many ⟨_, _, rfl, ⟨_, _, _, _, _, rfl, rfl, rfl, .inl ⟨tg_37.h, _, ts_37.h, nle rfl, rfl⟩⟩, ⟨_, _, rfl, rfl, rfl⟩⟩ (nle rfl) ?_
 exact CvL.cons (Cv.clo shr_nil (closed_qA _)) (CvL.cons (Cv.clo shr_nil (closed_v _)) CvL.nil)
theorem fs_Clone (l : List Rat) (hl : l.length ≤ 1099511627776) : FSpec Tryz.prog 150 [.arr (pE l)] (.arr (pE l)) := by
 cases l with
 | nil =>
  refine FSpec.nil1 fun a c => ?_
  refine FSpec.enter Tryz.func150 rfl (by kernel_rfl) rfl rfl rfl ?_ rfl ?_
  ·exact closed_cons (closed_v _) closed_nil
  refine r_z 1 ?_
  refine AWp.seq ?_
  refine r_z 2 ?_
  refine AWp.cond rfl (fun h => ?_) (fun h => ?_)
  ·refine r_z 1 ?_
   refine AWp.ret ?_
   exact Fin.tmpN rfl
  ·refine AWp.skip ?_
   refine s_r 4 ?_
   refine a_2 ?_
   refine o_2 (.append_l rfl rfl rfl te_25.h rfl rfl rfl rfl rfl (by first | rfl | assumption | (simp; done) | (simp; omega) | omega) (by first | exact dE_one _ | exact iE_one _ | exact pE_one _ | exact cE_one _ | exact rE_one _ | rfl | simp) (by first | rfl | exact dE_one _ | exact iE_one _ | exact pE_one _ | exact cE_one _ | exact rE_one _ | simp) rfl (.vnil) tz_37.h rfl tb_37.h (by first | rfl | assumption | (simp; done) | (simp; omega) | omega) (by first | (simp [maxLen]; done) | (simp [maxLen]; omega))) ?_
   refine a_z ?_
   refine AWp.ret ?_
   exact Fin.tmpS rfl rfl rfl rfl (closed_pE [])
 | cons q l =>
  have hne : pE (q :: l) ≠ [] := by simp [pE]
  simp at hl
  refine FSpec.enter Tryz.func150 rfl (by kernel_rfl) rfl rfl rfl ?_ rfl ?_
  ·exact closed_cons (closed_arr (closed_pE _)) closed_nil
  refine r_z 1 ?_
  refine AWp.seq ?_
  refine s_r 2 ?_
  refine a_1 ?_
  first | refine AR.op0 (.nilq_v rfl rfl te_25.h) rfl rfl ?_ | refine AR.op0 (.nilq_arr rfl (hne) rfl te_25.h) rfl rfl ?_
  refine AR.nil ?_
  refine AWp.cond rfl (fun h => ?_) (fun h => ?_)
  ·cases h
  ·refine AWp.skip ?_
   refine s_r 4 ?_
   refine a_2 ?_
   refine o_2 (.append_l rfl rfl rfl te_25.h rfl rfl rfl rfl rfl (by first | rfl | assumption | (simp; done) | (simp; omega) | omega) (by first | exact dE_one _ | exact iE_one _ | exact pE_one _ | exact cE_one _ | exact rE_one _ | rfl | simp) (by first | rfl | exact dE_one _ | exact iE_one _ | exact pE_one _ | exact cE_one _ | exact rE_one _ | simp) rfl (.arr (pE_len3 _)) tz_37.h rfl tb_37.h (by first | rfl | assumption | (simp; done) | (simp; omega) | omega) (by first | (simp [maxLen]; done) | (simp [maxLen]; omega))) ?_
   refine a_z ?_
   refine AWp.ret ?_
   exact Fin.tmpS rfl rfl rfl (by simp) (closed_pE _)
def trS (l : List Rat) : Nat → AState
 | n => ⟨[(0, .arr (pE l)), (3, i64 n)], [], 1, 23⟩
theorem trS_mk (l : List Rat) (n : Nat) : trS l n = ⟨[(0, .arr (pE l)), (3, i64 n)], [], 1, 23⟩ := rfl
theorem fs_Trim (l : List Rat) (hl : l.length ≤ 1099511627776) : FSpec Tryz.prog 67 [.arr (pE l)] (.arr (pE (trimQ l))) := by
 refine FSpec.enter Tryz.func67 rfl (by kernel_rfl) rfl rfl rfl ?_ rfl ?_
 ·exact closed_cons (closed_arr (closed_pE _)) closed_nil
 refine r_z 1 ?_
 refine r_z 3 ?_
 refine AWp.cut (trS l) (fun n => n ≤ l.length ∧ trimQ l = l.take n) ?_ ?_
 ·refine AWp.block ?_
  refine AWp.loopS (trS l) (fun n => n) (fun n => n ≤ l.length ∧ trimQ l = trimQ (l.take n)) l.length ⟨Nat.le_refl _, by rw [List.take_length]⟩ ?_ ?_
  ·simp only [trS_mk]
   exact s_e []
  rintro n ⟨hn, ht⟩
  rw [trS_mk]
  cases n with
  | zero =>
   refine AWp.seq ?_
   refine s_r 11 ?_
   refine a_3 ?_
   refine AR.opN rfl rfl (gn (by simp)) rfl rfl ?_
   refine AR.opN rfl rfl (gn (by simp)) rfl rfl ?_
   refine AR.opN rfl rfl (gn (by simp)) rfl rfl ?_
   refine AR.opN rfl rfl (gn (by simp)) rfl rfl ?_
   refine AR.opN rfl rfl (gn (by simp)) rfl rfl ?_
   refine AR.opN rfl rfl (gn (by simp)) rfl rfl ?_
   refine AR.opN rfl rfl (gn (by simp)) rfl rfl ?_
   refine o_0 (.pickF rfl (by simp) rfl) ?_
   refine AR.nil ?_
   refine AWp.cond rfl (fun h => ?_) (fun h => ?_)
   ·cases h
   ·refine AWp.exit ⟨0, ⟨Nat.zero_le _, ?_⟩, ?_⟩
    ·rw [ht]; rfl
    ·simp only [trS_mk]
     exact s_e []
  | succ n =>
   obtain ⟨q, hq⟩ : ∃ q, l[n]? = some q := ⟨_, List.getElem?_eq_getElem (by omega)⟩
   have hq' : (pE l)[(((n + 1 : Nat) : Int) - 1).toNat]? = some (qC q) := by
    rw [show (((n + 1 : Nat) : Int) - 1).toNat = n by omega]; exact pE_get hq
   have hs : trimQ (l.take (n + 1)) = if q = 0 then trimQ (l.take n) else l.take (n + 1) := by
    rw [take_snoc hq, trimQ_snoc]
   refine AWp.seq ?_
   refine s_r 11 ?_
   refine a_3 ?_
   refine AR.op0y rfl rfl (gy (by simp <;> omega)) (.move rfl) rfl rfl ?_
   refine AR.op0y rfl rfl (gy (by simp <;> omega)) (.move rfl) rfl rfl ?_
   refine AR.op0y rfl rfl (gy (by simp <;> omega)) (.bin rfl rfl (bI64_sub (by omega))) rfl rfl ?_
   first | refine AR.op0y rfl rfl (gy (by simp <;> omega)) (.index_l rfl rfl (by omega) (by omega) te_25.h) rfl rfl ?_ | refine AR.op0y rfl rfl (gy (by simp <;> omega)) (.index_a rfl rfl (by omega) hq' rfl te_25.h) rfl rfl ?_
   first | refine AR.op0y rfl rfl (gy (by simp <;> omega)) (.load_l rfl rfl hq' tg_37.h ts_37.h (nle rfl)) rfl rfl ?_ | refine AR.op0y rfl rfl (gy (by simp <;> omega)) (.load_a rfl hq' tg_37.h ts_37.h (nle rfl)) rfl rfl ?_
   refine AR.op0y rfl rfl (gy (by simp <;> omega)) (.call rfl rfl rfl (fs_Sign q)) rfl rfl ?_
   refine AR.op0y rfl rfl (gy (by simp <;> omega)) (.bin rfl rfl binI_eql) rfl rfl ?_
   refine o_0 (.pickT rfl (by simp <;> omega) rfl) ?_
   refine AR.nil ?_
   refine AWp.cond rfl (fun h => ?_) (fun h => ?_)
   ·have h0 : q = 0 := by
     have h1 : sgZ q.num = 0 := by simpa using h
     exact sgZ_num_eq.1 h1
    refine AWp.skip ?_
    refine AWp.block ?_
    refine AWp.reg (m := 3) rfl ?_
    refine a_z ?_
    refine ⟨n, Nat.lt_succ_self n, ⟨by omega, ?_⟩, ?_⟩
    ·rw [ht, hs, if_pos h0]
    ·simp only [trS_mk]
     exact s_e []
   ·have h0 : q ≠ 0 := by
     intro e
     have h1 : ¬ sgZ q.num = 0 := by simpa using h
     exact h1 (sgZ_num_eq.2 e)
    refine AWp.exit ⟨n + 1, ⟨hn, ?_⟩, ?_⟩
    ·rw [ht, hs, if_neg h0]
    ·simp only [trS_mk]
     exact s_e []
 rintro n ⟨hn, ht⟩
 rw [trS_mk]
 have hcl := fs_Clone (l.take n) (by simp; omega)
 refine s_r 5 ?_
 refine a_2 ?_
 refine o_0 (.sa_h rfl rfl (h := n) rfl (by simp; omega) te_25.h (pE_len3 _)) ?_
 refine o_0 (.call rfl rfl rfl ((by rw [pE_take]; exact hcl))) ?_
 refine o_0 (.assign rfl) ?_
 refine AR.nil ?_
 refine AWp.ret ?_
 refine Fin.tmpE rfl ?_ ?_
 ·rw [ht]
 ·exact closed_arr (closed_pE _)
theorem fs_Degree (l : List Rat) (hl : l.length ≤ 1099511627776) : FSpec Tryz.prog 16 [.arr (pE l)] (i64 (degP l)) := by
 have := trimQ_len l
 refine FSpec.enter Tryz.func16 rfl (by kernel_rfl) rfl rfl rfl ?_ rfl ?_
 ·exact closed_cons (closed_arr (closed_pE _)) closed_nil
 refine r_z 1 ?_
 refine r_c 5 (fs_Trim l hl) ?_
 refine a_z ?_
 refine AWp.ret ?_
 refine Fin.tmpE rfl ?_ ?_
 ·rfl
 ·exact closed_v _
theorem fs_Lead (l : List Rat) (hl : l.length ≤ 1099511627776) : FSpec Tryz.prog 63 [.arr (pE l)] (.agg (qC (leadP l))) := by
 have hlen := trimQ_len l
 refine FSpec.enter Tryz.func63 rfl (by kernel_rfl) rfl rfl rfl ?_ rfl ?_
 ·exact closed_cons (closed_arr (closed_pE _)) closed_nil
 refine r_z 1 ?_
 refine r_c 3 (fs_Trim l hl) ?_
 refine a_z ?_
 refine AWp.seq ?_
 refine r_z 3 ?_
 refine AWp.cond rfl (fun h => ?_) (fun h => ?_)
 ·have h0 : trimQ l = [] := by
   have h1 : (trimQ l).length = 0 := by simpa using h
   exact List.length_eq_zero_iff.1 h1
  rw [leadP_nil h0]
  refine r_z 2 ?_
  refine AWp.ret ?_
  refine Fin.cell rfl rfl rfl tg_37.h ts_37.h (nle rfl) (Cv.agg ?_)
  rw [qC0]
  exact CvL.cons (Cv.emp _) (CvL.cons (Cv.clo shr_nil (closed_v _)) (CvL.cons (Cv.emp _) CvL.nil))
 ·obtain ⟨n, hn⟩ : ∃ n, (trimQ l).length = n + 1 := ⟨(trimQ l).length - 1, by
   have h1 : ¬ (trimQ l).length = 0 := by simpa using h
   omega⟩
  have hg : (pE (trimQ l))[(((trimQ l).length : Int) - 1).toNat]? = some (qC (leadP l)) := by
   rw [hn, show (((n + 1 : Nat) : Int) - 1).toNat = n by omega]; exact pE_get (leadP_get hn)
  refine AWp.skip ?_
  refine s_r 7 ?_
  refine a_4 ?_
  first | refine AR.op0 (.index_l rfl rfl (by omega) (by omega) te_25.h) rfl rfl ?_ | refine AR.op0 (.index_a rfl rfl (by omega) hg rfl te_25.h) rfl rfl ?_
  first | refine AR.op0 (.load_l rfl rfl hg tg_37.h ts_37.h (nle rfl)) rfl rfl ?_ | refine AR.op0 (.load_a rfl hg tg_37.h ts_37.h (nle rfl)) rfl rfl ?_
  refine a_z ?_
  refine AWp.ret ?_
  refine Fin.cellE rfl rfl rfl tg_37.h ts_37.h (nle rfl) ?_ ?_
  ·rfl
  ·exact closed_qA _
theorem fs_at (l : List Rat) (i : Nat) : FSpec Tryz.prog 124 [.arr (pE l), i64 i] (.agg (qC (coP l i))) := by
 refine FSpec.enter Tryz.func124 rfl (by kernel_rfl) rfl rfl rfl ?_ rfl ?_
 ·exact closed_cons (closed_arr (closed_pE _)) (closed_cons (closed_v _) closed_nil)
 refine r_z 1 ?_
 refine AWp.seq ?_
 refine r_z 4 ?_
 refine AWp.cond rfl (fun h => ?_) (fun h => ?_)
 ·have hlt : i < l.length := by simpa using h
  have hg : (pE l)[((i : Nat) : Int).toNat]? = some (qC (coP l i)) := pE_get (coP_get hlt)
  refine s_r 5 ?_
  refine a_2 ?_
  first | refine AR.op0 (.index_l rfl rfl (by omega) (by omega) te_25.h) rfl rfl ?_ | refine AR.op0 (.index_a rfl rfl (by omega) hg rfl te_25.h) rfl rfl ?_
  first | refine AR.op0 (.load_l rfl rfl hg tg_37.h ts_37.h (nle rfl)) rfl rfl ?_ | refine AR.op0 (.load_a rfl hg tg_37.h ts_37.h (nle rfl)) rfl rfl ?_
  refine a_z ?_
  refine AWp.ret ?_
  refine Fin.cellE rfl rfl rfl tg_37.h ts_37.h (nle rfl) ?_ ?_
  ·rfl
  ·exact closed_qA _
 ·have hge : l.length ≤ i := by simpa using h
  rw [coP_out hge]
  refine AWp.skip ?_
  refine r_z 2 ?_
  refine AWp.ret ?_
  refine Fin.cell rfl rfl rfl tg_37.h ts_37.h (nle rfl) (Cv.agg ?_)
  rw [qC0]
  exact CvL.cons (Cv.emp _) (CvL.cons (Cv.clo shr_nil (closed_v _)) (CvL.cons (Cv.emp _) CvL.nil))
theorem eE_set {n i e : Nat} {f : Nat → Rat} (h : i < n) (he : e = i) : (pE (tabP i f) ++ List.replicate (n - i) zC).set e (qC (f i)) = pE (tabP (i + 1) f) ++ List.replicate (n - (i + 1)) zC := by
 subst he
 obtain ⟨k, rfl⟩ : ∃ k, n = e + 1 + k := ⟨n - (e + 1), by omega⟩
 rw [show e + 1 + k - e = k + 1 by omega, show e + 1 + k - (e + 1) = k by omega, List.replicate_succ, List.set_append_right _ _ (by simp)]
 simp [tabP, List.range_succ, pE]
theorem eE_get {n i e : Nat} {f : Nat → Rat} (h : i < n) (he : e = i) : (pE (tabP i f) ++ List.replicate (n - i) zC)[e]? = some zC := by
 subst he
 rw [List.getElem?_append_right (by simp), List.getElem?_replicate, if_pos (by simp; omega)]
theorem closed_eE (n i : Nat) (f : Nat → Rat) : ∀ e ∈ pE (tabP i f) ++ List.replicate (n - i) zC, ∀ c ∈ e, Closed c := by
 intro e he
 rcases List.mem_append.1 he with he | he
 ·exact closed_pE _ e he
 ·rw [List.eq_of_mem_replicate he]; exact closed_zC
def eachS (n : Nat) (f : Nat → Rat) (g : Nat) (cap : List AV) : Nat → AState
 | i => ⟨[(1, .clos g [] cap), (5, .lsl 1 0 n (some n) 3), (10, i64 n), (11, i64 i)], [(1, some ⟨37, 3, pE (tabP i f) ++ List.replicate (n - i) zC⟩)], 2, 23⟩
theorem eachS_mk (n : Nat) (f : Nat → Rat) (g : Nat) (cap : List AV) (i : Nat) : eachS n f g cap i = ⟨[(1, .clos g [] cap), (5, .lsl 1 0 n (some n) 3), (10, i64 n), (11, i64 i)], [(1, some ⟨37, 3, pE (tabP i f) ++ List.replicate (n - i) zC⟩)], 2, 23⟩ := rfl
theorem fs_each (n : Nat) (f : Nat → Rat) (g : Nat) (cap : List AV) (hn : n ≤ 1099511627776) (hcap : ∀ c ∈ cap, Closed c) (hg : ∀ i, i < n → FSpec Tryz.prog g ((i64 i :: cap).map coe) (.agg (qC (f i)))) : FSpec Tryz.prog 101 [i64 n, .clos g [] cap] (.arr (pE (trimQ (tabP n f)))) := by
 refine FSpec.enter Tryz.func101 rfl (by kernel_rfl) rfl rfl rfl ?_ rfl ?_
 ·exact closed_cons (closed_v _) (closed_cons (closed_clos closed_nil hcap) closed_nil)
 refine r_z 1 ?_
 refine r_z 3 ?_
 refine AWp.seq ?_
 refine r_z 3 ?_
 refine AWp.cutT (fun _ : Unit => eachS n f g cap n) (fun _ => True) ?_ ?_
 ·refine AWp.block ?_
  refine AWp.loopS (eachS n f g cap) (fun i => n - i) (fun i => i ≤ n) 0 (Nat.zero_le _) ?_ ?_
  ·simp only [eachS_mk]
   refine SEnt.to [(1, 5)] rfl rfl rfl au_r (fun hs => ?_) (fun hs => ?_)
   ·repeat' (first | exact CvF.nil | refine CvF.cons rfl ?_ ?_)
    all_goals (first | (exact Cv.clo hs (closed_clos closed_nil hcap)) | exact au_c)
   ·repeat' (first | exact CvH.nil | refine CvH.cons rfl rfl rfl rfl ?_ ?_)
    all_goals (first | (exact CvLL.cloE hs rfl (closed_eE n 0 f)) | exact au_e | (refine CvLL.box ?_; repeat' (first | exact CvL.nil | refine CvL.cons ?_ ?_)))
    all_goals (first | (exact Cv.clo hs (closed_clos closed_nil hcap)) | exact au_c)
  rintro i hi
  rw [eachS_mk]
  refine r_z 1 ?_
  refine AWp.seq ?_
  refine AWp.cond rfl (fun h => ?_) (fun h => ?_)
  ·refine AWp.skip ?_
   have hlt : i < n := by simpa using h
   refine AWp.seq ?_
   refine AWp.block ?_
   refine r_z 2 ?_
   refine AWp.reg (m := 7) rfl ?_
   refine c_s (hg i hlt) ?_
   refine a_1 ?_
   refine o_1n (.store rfl rfl (eE_get hlt (Nat.zero_add i)) rfl rfl rfl ts_37.h (nle rfl)) ?_
   refine AR.nil ?_
   refine AWp.reg (m := 2) rfl ?_
   refine a_z ?_
   refine ⟨i + 1, by omega, hlt, ?_⟩
   simp only [eachS_mk]
   refine SEnt.to [] rfl rfl rfl au_r (fun hs => ?_) (fun hs => ?_)
   ·repeat' (first | exact CvF.nil | refine CvF.cons rfl ?_ ?_)
    all_goals (first | (exact Cv.clo hs (closed_clos closed_nil hcap)) | exact au_c)
   ·repeat' (first | exact CvH.nil | refine CvH.cons rfl rfl rfl rfl ?_ ?_)
    all_goals (first | (exact CvLL.cloE hs (eE_set hlt (Nat.zero_add i)) (closed_eE n (i + 1) f)) | exact au_e | (refine CvLL.box ?_; repeat' (first | exact CvL.nil | refine CvL.cons ?_ ?_)))
    all_goals (first | (exact Cv.clo hs (closed_clos closed_nil hcap)) | exact au_c)
  ·have hge : i = n := by
    have : ¬ i < n := by simpa using h
    omega
   subst hge
   refine AWp.exit ⟨(), trivial, ?_⟩
   simp only [eachS_mk]
   refine SEnt.to [] rfl rfl rfl au_r (fun hs => ?_) (fun hs => ?_)
   ·repeat' (first | exact CvF.nil | refine CvF.cons rfl ?_ ?_)
    all_goals (first | (exact Cv.clo hs (closed_clos closed_nil hcap)) | exact au_c)
   ·repeat' (first | exact CvH.nil | refine CvH.cons rfl rfl rfl rfl ?_ ?_)
    all_goals (first | (exact CvLL.clo hs (closed_eE i i f)) | exact au_e | (refine CvLL.box ?_; repeat' (first | exact CvL.nil | refine CvL.cons ?_ ?_)))
    all_goals (first | (exact Cv.clo hs (closed_clos closed_nil hcap)) | exact au_c)
 rintro _ _
 rw [eachS_mk]
 have hfull : List.take n (List.drop 0 (pE (tabP n f) ++ List.replicate (n - n) zC)) = pE (tabP n f) := by
  rw [Nat.sub_self, List.replicate_zero, List.append_nil, List.drop_zero, List.take_of_length_le (by simp)]
 refine s_r 3 ?_
 refine a_1 ?_
 refine o_1 (.callS1 rfl rfl rfl (.shut rfl (by first | exact nle rfl | (simp; done) | (simp; omega)) (.nil)) rfl ((by rw [hfull]; exact fs_Trim (tabP n f) (by simp; exact hn)))) ?_
 refine a_z ?_
 refine AWp.ret ?_
 refine Fin.tmpE rfl ?_ ?_
 ·rfl
 ·exact closed_arr (closed_pE _)
section
variable {P : Go.Program} {T : Nat} {x y : Operand}
theorem binS_neT {l m : List UInt8} : ∀ w, (do eqGuard .neq T x y (.string ⟨l.toArray⟩) (.string ⟨m.toArray⟩); binOp .neq T (.string ⟨l.toArray⟩) (.string ⟨m.toArray⟩) : Sem Value).run P w = .ok (.bool (!decide (l = m))) w := fun w => by
 rw [binS_neq]
 congr 2
 have e : ∀ l : List UInt8, (⟨l.toArray⟩ : ByteArray).toList = l := by
  intro l
  have := ByteArray.toList_eq (bs := ⟨l.toArray⟩)
  simpa using this
 rw [e, e]
 rw [Bool.eq_iff_iff]; simp
end
def sgnTx (o : Option (List UInt8)) (c : Rat) : Option (List UInt8) :=
 match o with
 | none => if c < 0 then some [45] else none
 | some s => if c < 0 then some (s ++ [32, 45, 32]) else some (s ++ [32, 43, 32])
def wrO (o : Option (List UInt8)) (t : List UInt8) : Option (List UInt8) := some (o.getD [] ++ t)
def sizeTx (o : Option (List UInt8)) (t : List UInt8) : Option (List UInt8) := if t = [49] then o else wrO o (t ++ [32])
def stepTx (tq : Rat → List UInt8) (ti : Nat → List UInt8) (o : Option (List UInt8)) (c : Rat) (n : Nat) : Option (List UInt8) :=
 if n = 0 then wrO (sgnTx o c) (tq (absQ c))
 else if 1 < n then wrO (wrO (sizeTx (sgnTx o c) (tq (absQ c))) [120]) ([94] ++ ti n) else wrO (sizeTx (sgnTx o c) (tq (absQ c))) [120]
def textR (tq : Rat → List UInt8) (ti : Nat → List UInt8) (p : List Rat) : Nat → Option (List UInt8) → Option (List UInt8)
 | 0, o => o
 | n + 1, o => textR tq ti p n (if coP p n = 0 then o else stepTx tq ti o (coP p n) n)
def textG (tq : Rat → List UInt8) (ti : Nat → List UInt8) (p : List Rat) : List UInt8 := (textR tq ti (trimQ p) (trimQ p).length none).getD [48]
def textP (p : List Rat) : List UInt8 := textG textQ dec2 p
def okPT (p : List Rat) : Prop := p.length ≤ 1000 ∧ (trimQ p).length ≤ 99 ∧ (∀ c ∈ trimQ p, okT c)
instance (p : List Rat) : Decidable (okPT p) := inferInstanceAs (Decidable (_ ∧ _ ∧ _))
def pb0 (p : List Rat) : Int → AState
 | n => ⟨[(0, .arr (pE p)), (3, .lptr 1 0 0), (4, i64 n)], [(1, some ⟨182, 2, [bldC 1 2 none]⟩)], 4, 67⟩
theorem pb0_mk (p : List Rat) (n : Int) : pb0 p n = ⟨[(0, .arr (pE p)), (3, .lptr 1 0 0), (4, i64 n)], [(1, some ⟨182, 2, [bldC 1 2 none]⟩)], 4, 67⟩ := rfl
def pb1 (p : List Rat) : Int × List UInt8 → AState
 | (n, s) => ⟨[(0, .arr (pE p)), (3, .lptr 1 0 0), (4, i64 n)], [(1, some ⟨182, 2, [bldC 1 2 (some s)]⟩), (2, some ⟨5, 1, bE s⟩)], 4, 67⟩
theorem pb1_mk (p : List Rat) (n : Int) (s : List UInt8) : pb1 p (n, s) = ⟨[(0, .arr (pE p)), (3, .lptr 1 0 0), (4, i64 n)], [(1, some ⟨182, 2, [bldC 1 2 (some s)]⟩), (2, some ⟨5, 1, bE s⟩)], 4, 67⟩ := rfl
def pbS (p : List Rat) (n : Int) : Option (List UInt8) → AState
 | none => pb0 p n
 | some s => pb1 p (n, s)
def pc0 (p : List Rat) (c : Rat) : Int → AState
 | n => ⟨[(0, .arr (pE p)), (3, .lptr 1 0 0), (4, i64 n), (5, .lptr 3 0 0)], [(1, some ⟨182, 2, [bldC 1 2 none]⟩), (3, some ⟨37, 3, [qC c]⟩)], 4, 67⟩
theorem pc0_mk (p : List Rat) (c : Rat) (n : Int) : pc0 p c n = ⟨[(0, .arr (pE p)), (3, .lptr 1 0 0), (4, i64 n), (5, .lptr 3 0 0)], [(1, some ⟨182, 2, [bldC 1 2 none]⟩), (3, some ⟨37, 3, [qC c]⟩)], 4, 67⟩ := rfl
def pc1 (p : List Rat) (c : Rat) : Int × List UInt8 → AState
 | (n, s) => ⟨[(0, .arr (pE p)), (3, .lptr 1 0 0), (4, i64 n), (5, .lptr 3 0 0)], [(1, some ⟨182, 2, [bldC 1 2 (some s)]⟩), (2, some ⟨5, 1, bE s⟩), (3, some ⟨37, 3, [qC c]⟩)], 4, 67⟩
theorem pc1_mk (p : List Rat) (c : Rat) (n : Int) (s : List UInt8) : pc1 p c (n, s) = ⟨[(0, .arr (pE p)), (3, .lptr 1 0 0), (4, i64 n), (5, .lptr 3 0 0)], [(1, some ⟨182, 2, [bldC 1 2 (some s)]⟩), (2, some ⟨5, 1, bE s⟩), (3, some ⟨37, 3, [qC c]⟩)], 4, 67⟩ := rfl
def pcS (p : List Rat) (c : Rat) (n : Int) : Option (List UInt8) → AState
 | none => pc0 p c n
 | some s => pc1 p c (n, s)
def pd0 (p : List Rat) (t : List UInt8) : Int → AState
 | n => ⟨[(0, .arr (pE p)), (3, .lptr 1 0 0), (4, i64 n), (6, tx t)], [(1, some ⟨182, 2, [bldC 1 2 none]⟩)], 4, 67⟩
theorem pd0_mk (p : List Rat) (t : List UInt8) (n : Int) : pd0 p t n = ⟨[(0, .arr (pE p)), (3, .lptr 1 0 0), (4, i64 n), (6, tx t)], [(1, some ⟨182, 2, [bldC 1 2 none]⟩)], 4, 67⟩ := rfl
def pd1 (p : List Rat) (t : List UInt8) : Int × List UInt8 → AState
 | (n, s) => ⟨[(0, .arr (pE p)), (3, .lptr 1 0 0), (4, i64 n), (6, tx t)], [(1, some ⟨182, 2, [bldC 1 2 (some s)]⟩), (2, some ⟨5, 1, bE s⟩)], 4, 67⟩
theorem pd1_mk (p : List Rat) (t : List UInt8) (n : Int) (s : List UInt8) : pd1 p t (n, s) = ⟨[(0, .arr (pE p)), (3, .lptr 1 0 0), (4, i64 n), (6, tx t)], [(1, some ⟨182, 2, [bldC 1 2 (some s)]⟩), (2, some ⟨5, 1, bE s⟩)], 4, 67⟩ := rfl
def pdS (p : List Rat) (t : List UInt8) (n : Int) : Option (List UInt8) → AState
 | none => pd0 p t n
 | some s => pd1 p t (n, s)
def okOx (o : Option (List UInt8)) (n : Nat) : Prop := ∀ s, o = some s → s ≠ [] ∧ s.length ≤ n
theorem okO_none (n : Nat) : okOx none n := fun s h => by cases h
theorem okO_wr {o : Option (List UInt8)} {n : Nat} {t : List UInt8} (h : okOx o n) (h0 : t ≠ []) : okOx (wrO o t) (n + t.length) := by
 intro s hs
 cases hs
 cases o with
 | none => exact ⟨by simpa using h0, by simp⟩
 | some q => exact ⟨by simp [h0], by have := (h q rfl).2; simp; omega⟩
theorem okO_sign {o : Option (List UInt8)} {n : Nat} (h : okOx o n) (c : Rat) : okOx (sgnTx o c) (n + 3) := by
 intro s hs
 cases o with
 | none =>
  simp only [sgnTx] at hs
  split at hs
  ·cases hs; exact ⟨by simp, by simp⟩
  ·cases hs
 | some q =>
  have := (h q rfl).2
  simp only [sgnTx] at hs
  split at hs <;> cases hs <;> exact ⟨by simp, by simp; omega⟩
theorem okO_mono {o : Option (List UInt8)} {n m : Nat} (h : okOx o n) (hm : n ≤ m) : okOx o m := fun s hs => ⟨(h s hs).1, Nat.le_trans (h s hs).2 hm⟩
theorem textQ_ne (q : Rat) : textQ q ≠ [] := List.length_pos_iff.1 (textQ_len (q := q)).2
theorem sgZ_neg (c : Rat) : sgZ c.num < 0 ↔ c < 0 := by
 rw [← num_neg]
 unfold sgZ
 split
 ·omega
 ·split <;> omega
theorem okT_abs {c : Rat} (h : okT c) : okT (absQ c) := by
 rw [absQ_eq]
 split
 ·obtain ⟨h1, h2⟩ := h
  exact ⟨by rw [Rat.neg_num]; simpa using h1, by rw [Rat.neg_den]; exact h2⟩
 ·exact h
theorem fs_PTextG (tq : Rat → List UInt8) (ti : Nat → List UInt8) (L : Nat) (p : List Rat) (h1 : p.length ≤ 1000) (hL : L ≤ 10000) (h3 : ∀ c ∈ trimQ p, FSpec Tryz.prog 89 [.agg (qC (absQ c))] (tx (tq (absQ c))) ∧ tq (absQ c) ≠ [] ∧ (tq (absQ c)).length ≤ L) (hI : ∀ n, n < (trimQ p).length → FSpec Tryz.prog 147 [i64 n] (tx (ti n)) ∧ (ti n).length ≤ 20) : FSpec Tryz.prog 65 [.arr (pE p)] (tx (textG tq ti p)) := by
 have htr := fs_Trim p (by omega)
 obtain ⟨q, hq⟩ : ∃ q, q = trimQ p := ⟨_, rfl⟩
 have hR : textG tq ti p = (textR tq ti q q.length none).getD [48] := by unfold textG; rw [hq]
 rw [hR]
 have h2 := trimQ_len p
 rw [← hq] at htr h2 h3 hI
 have hall : ∀ k, (q.length - k) * (L + 30) ≤ 10030000 := fun k => Nat.mul_le_mul (show q.length - k ≤ 1000 by omega) (show L + 30 ≤ 10030 by omega)
 refine FSpec.enter Tryz.func65 rfl (by kernel_rfl) rfl rfl rfl ?_ rfl ?_
 ·exact closed_cons (closed_pA p) closed_nil
 refine r_z 1 ?_
 refine r_z 1 ?_
 refine r_c 3 (htr) ?_
 refine a_z ?_
 refine AWp.seq ?_
 refine r_z 4 ?_
 refine AWp.cutT (pbS q (-1)) (fun o => o = textR tq ti q q.length none ∧ okOx o 20000000) ?_ ?_
 ·refine AWp.block ?_
  refine AWp.loopS (fun x : Nat × Option (List UInt8) => pbS q ((x.1 : Int) - 1) x.2) (fun x => x.1) (fun x => x.1 ≤ q.length ∧ textR tq ti q x.1 x.2 = textR tq ti q q.length none ∧ okOx x.2 ((q.length - x.1) * (L + 30))) (q.length, none) ⟨Nat.le_refl _, rfl, okO_none _⟩ ?_ ?_
  ·show SEnt _ (pb0 q ((q.length : Int) - 1))
   rw [pb0_mk]
   exact s_e [(1, 3)]
  rintro ⟨n, o⟩ ⟨hn, hr, ho⟩
  simp only at hn hr ho
  cases n with
  | zero =>
   cases o with
   | none =>
    show AWp _ _ _ _ (pb0 q (((0 : Nat) : Int) - 1))
    rw [pb0_mk]
    refine AWp.seq ?_
    refine r_z 2 ?_
    refine AWp.cond rfl (fun h4 => ?_) (fun h4 => ?_)
    ·exact absurd h4 (by simp)
    ·refine AWp.exit ⟨none, ⟨hr, okO_none _⟩, ?_⟩
     show SEnt _ (pb0 q (-1))
     rw [pb0_mk]
     exact s_e []
   | some s =>
    show AWp _ _ _ _ (pb1 q (((0 : Nat) : Int) - 1, s))
    rw [pb1_mk]
    refine AWp.seq ?_
    refine r_z 2 ?_
    refine AWp.cond rfl (fun h4 => ?_) (fun h4 => ?_)
    ·exact absurd h4 (by simp)
    ·refine AWp.exit ⟨some s, ⟨hr, okO_mono ho (by have := hall 0; omega)⟩, ?_⟩
     show SEnt _ (pb1 q (-1, s))
     rw [pb1_mk]
     exact s_e []
  | succ n =>
   have hcn : ((n + 1 : Nat) : Int) - 1 = (n : Int) := by omega
   rw [hcn]
   rw [textR] at hr
   have hlt : n < q.length := by omega
   obtain ⟨c, hc⟩ : ∃ c, c = coP q n := ⟨_, rfl⟩
   rw [← hc] at hr
   have hg : (pE q)[((n : Nat) : Int).toNat]? = some (qC c) := by rw [Int.toNat_natCast, hc]; exact pE_get (coP_get hlt)
   obtain ⟨fT, htn, htl⟩ := h3 c (by rw [hc]; exact List.mem_of_getElem? (coP_get hlt))
   have hm : (q.length - n) * (L + 30) = (q.length - (n + 1)) * (L + 30) + (L + 30) := by
    rw [show q.length - n = (q.length - (n + 1)) + 1 by omega, Nat.add_mul, Nat.one_mul]
   obtain ⟨B, hB⟩ : ∃ B, B = (q.length - (n + 1)) * (L + 30) := ⟨_, rfl⟩
   have hmx : B ≤ 10030000 := by rw [hB]; exact hall _
   rw [← hB] at ho hm
   obtain ⟨t, ht⟩ : ∃ t, t = tq (absQ c) := ⟨_, rfl⟩
   rw [← ht] at htn htl fT
   obtain ⟨fI, hd2⟩ := hI n hlt
   refine AWp.cut (fun _ : Unit => pbS q n o) (fun _ => True) ?_ ?_
   ·cases o with
    | none =>
     show AWp _ _ _ _ (pb0 q n)
     rw [pb0_mk]
     refine r_z 2 ?_
     refine AWp.cond rfl (fun h4 => ?_) (fun h4 => ?_)
     ·refine AWp.skip ⟨(), trivial, ?_⟩
      show SEnt _ (pb0 q n)
      rw [pb0_mk]
      exact s_e []
     ·exact absurd h4 (by simp)
    | some s =>
     show AWp _ _ _ _ (pb1 q (n, s))
     rw [pb1_mk]
     refine r_z 2 ?_
     refine AWp.cond rfl (fun h4 => ?_) (fun h4 => ?_)
     ·refine AWp.skip ⟨(), trivial, ?_⟩
      show SEnt _ (pb1 q (n, s))
      rw [pb1_mk]
      exact s_e []
     ·exact absurd h4 (by simp)
   rintro _ _
   refine AWp.cut (pbS q n) (fun o' => o' = (if c = 0 then o else stepTx tq ti o c n)) ?_ ?_
   ·refine AWp.block ?_
    refine AWp.cut (fun _ : Unit => pcS q c n o) (fun _ => True) ?_ ?_
    ·cases o with
     | none =>
      show AWp _ _ _ _ (pb0 q n)
      rw [pb0_mk]
      refine AWp.reg (m := 6) rfl ?_
      refine a_2 ?_
      first | refine AR.op0 (.index_l rfl rfl (by omega) (by omega) te_25.h) rfl rfl ?_ | refine AR.op0 (.index_a rfl rfl (by omega) hg rfl te_25.h) rfl rfl ?_
      first | refine AR.op0 (.load_l rfl rfl hg tg_37.h ts_37.h (nle rfl)) rfl rfl ?_ | refine AR.op0 (.load_a rfl hg tg_37.h ts_37.h (nle rfl)) rfl rfl ?_
      refine a_z ?_
      refine ⟨(), trivial, ?_⟩
      show SEnt _ (pc0 q c n)
      rw [pc0_mk]
      refine SEnt.to [(3, 5)] rfl rfl rfl au_r (fun hs => au_f) (fun hs => ?_)
      ·repeat' (first | exact CvH.nil | refine CvH.cons rfl rfl rfl rfl ?_ ?_)
       all_goals (first | (exact CvLL.clo hs (closed_cons (closed_qC c) closed_nil)) | exact au_e)
     | some s =>
      show AWp _ _ _ _ (pb1 q (n, s))
      rw [pb1_mk]
      refine AWp.reg (m := 6) rfl ?_
      refine a_2 ?_
      first | refine AR.op0 (.index_l rfl rfl (by omega) (by omega) te_25.h) rfl rfl ?_ | refine AR.op0 (.index_a rfl rfl (by omega) hg rfl te_25.h) rfl rfl ?_
      first | refine AR.op0 (.load_l rfl rfl hg tg_37.h ts_37.h (nle rfl)) rfl rfl ?_ | refine AR.op0 (.load_a rfl hg tg_37.h ts_37.h (nle rfl)) rfl rfl ?_
      refine a_z ?_
      refine ⟨(), trivial, ?_⟩
      show SEnt _ (pc1 q c (n, s))
      rw [pc1_mk]
      refine SEnt.to [(3, 5)] rfl rfl rfl au_r (fun hs => au_f) (fun hs => ?_)
      ·repeat' (first | exact CvH.nil | refine CvH.cons rfl rfl rfl rfl ?_ ?_)
       all_goals (first | (exact CvLL.clo hs (closed_cons (closed_qC c) closed_nil)) | exact au_e)
    rintro _ _
    refine AWp.cut (fun _ : Unit => pcS q c n o) (fun _ => c ≠ 0) ?_ ?_
    ·cases o with
     | none =>
      show AWp _ _ _ _ (pc0 q c n)
      rw [pc0_mk]
      refine r_c 3 (fs_Sign c) ?_
      refine a_z ?_
      refine AWp.cond rfl (fun h4 => ?_) (fun h4 => ?_)
      ·have h5 : c = 0 := sgZ_num_eq.1 (by simpa using h4)
       refine AWp.exit ⟨none, by rw [if_pos h5], ?_⟩
       show SEnt _ (pb0 q n)
       rw [pb0_mk]
       exact s_e []
      ·have h5 : c ≠ 0 := fun e => by have h6 := sgZ_num_eq.2 e; simp [h6] at h4
       refine AWp.skip ⟨(), h5, ?_⟩
       show SEnt _ (pc0 q c n)
       rw [pc0_mk]
       exact s_e []
     | some s =>
      show AWp _ _ _ _ (pc1 q c (n, s))
      rw [pc1_mk]
      refine r_c 3 (fs_Sign c) ?_
      refine a_z ?_
      refine AWp.cond rfl (fun h4 => ?_) (fun h4 => ?_)
      ·have h5 : c = 0 := sgZ_num_eq.1 (by simpa using h4)
       refine AWp.exit ⟨some s, by rw [if_pos h5], ?_⟩
       show SEnt _ (pb1 q (n, s))
       rw [pb1_mk]
       exact s_e []
      ·have h5 : c ≠ 0 := fun e => by have h6 := sgZ_num_eq.2 e; simp [h6] at h4
       refine AWp.skip ⟨(), h5, ?_⟩
       show SEnt _ (pc1 q c (n, s))
       rw [pc1_mk]
       exact s_e []
    rintro _ hc0
    rw [if_neg hc0]
    have hsg : (sgZ c.num < 0) ↔ c < 0 := sgZ_neg c
    refine AWp.cut (pcS q c n) (fun o' => o' = sgnTx o c) ?_ ?_
    ·refine AWp.block ?_
     cases o with
     | none =>
      show AWp _ _ _ _ (pc0 q c n)
      rw [pc0_mk]
      refine s_r 8 ?_
      refine o_0 (.callR (s := none) (j := 0) (tb := 0) rfl rfl rfl rfl rfl (fun _ h => by cases h) (fs_Len0)) ?_
      refine a_2 ?_
      first | refine AR.op0y rfl rfl (gy (by first | rfl | assumption | exact decide_eq_true (by omega) | (simp; done) | (simp; omega))) (.load_l rfl rfl rfl tg_37.h ts_37.h (nle rfl)) rfl rfl ?_ | refine AR.op0y rfl rfl (gy (by first | rfl | assumption | exact decide_eq_true (by omega) | (simp; done) | (simp; omega))) (.load_a rfl rfl tg_37.h ts_37.h (nle rfl)) rfl rfl ?_
      refine AR.op0y rfl rfl (gy (by first | rfl | assumption | exact decide_eq_true (by omega) | (simp; done) | (simp; omega))) (.call rfl rfl rfl (fs_Sign c)) rfl rfl ?_
      refine AR.op0y rfl rfl (gy (by first | rfl | assumption | exact decide_eq_true (by omega) | (simp; done) | (simp; omega))) (.bin rfl rfl binI_lss) rfl rfl ?_
      refine o_0 (.pickT rfl (by first | rfl | assumption | exact decide_eq_true (by omega) | (simp; done) | (simp; omega)) rfl) ?_
      refine a_z ?_
      refine AWp.cond rfl (fun h4 => ?_) (fun h4 => ?_)
      ·have h5 : c < 0 := hsg.1 (by simpa using h4)
       refine AWp.reg (m := 1) rfl ?_
       refine o_2 (.callB (s := none) (j := 0) rfl rfl rfl rfl rfl rfl (fun _ h => by cases h) (bs_Write0 [45] (by simp) (by simp))) ?_
       refine AR.nil ?_
       refine ⟨some [45], by simp only [sgnTx]; rw [if_pos h5], ?_⟩
       show SEnt _ (pc1 q c (n, [45]))
       rw [pc1_mk]
       refine SEnt.to2 [(2, 100012)] rfl rfl rfl au_r (fun hs => au_f) (fun hs => ?_)
       ·repeat' (first | exact CvH.nil | refine CvH.cons rfl rfl rfl rfl ?_ ?_)
        all_goals (first | (exact CvLL.clo hs (closed_cons (closed_qC c) closed_nil)) | exact au_e)
      ·have h5 : ¬ c < 0 := fun e => by have h6 := hsg.2 e; simp [h6] at h4
       refine s_r 8 ?_
       refine o_0 (.callR (s := none) (j := 0) (tb := 0) rfl rfl rfl rfl rfl (fun _ h => by cases h) (fs_Len0)) ?_
       refine a_2 ?_
       refine AR.opN rfl rfl (gn (by first | rfl | assumption | exact decide_eq_false (by omega) | (simp; done) | (simp; omega))) rfl rfl ?_
       refine AR.opN rfl rfl (gn (by first | rfl | assumption | exact decide_eq_false (by omega) | (simp; done) | (simp; omega))) rfl rfl ?_
       refine AR.opN rfl rfl (gn (by first | rfl | assumption | exact decide_eq_false (by omega) | (simp; done) | (simp; omega))) rfl rfl ?_
       refine o_0 (.pickF rfl (by first | rfl | assumption | exact decide_eq_false (by omega) | (simp; done) | (simp; omega)) rfl) ?_
       refine a_z ?_
       refine AWp.cond rfl (fun h6 => ?_) (fun h6 => ?_)
       ·cases h6
       refine s_r 3 ?_
       refine o_0 (.callR (s := none) (j := 0) (tb := 0) rfl rfl rfl rfl rfl (fun _ h => by cases h) (fs_Len0)) ?_
       refine a_z ?_
       refine AWp.cond rfl (fun h7 => ?_) (fun h7 => ?_)
       ·exact absurd h7 (by simp)
       refine AWp.skip ⟨none, by simp only [sgnTx]; rw [if_neg h5], ?_⟩
       show SEnt _ (pc0 q c n)
       rw [pc0_mk]
       exact s_e []
     | some s =>
      have hsn := (ho s rfl).1
      have hsl := (ho s rfl).2
      have hs0 : s.length ≠ 0 := by simpa using hsn
      show AWp _ _ _ _ (pc1 q c (n, s))
      rw [pc1_mk]
      refine s_r 8 ?_
      refine o_0 (.callR (s := some _) rfl rfl rfl rfl rfl (fun _ h => by cases h; exact rfl) (fs_Len1 s)) ?_
      refine a_2 ?_
      refine AR.opN rfl rfl (gn (by simp; omega)) rfl rfl ?_
      refine AR.opN rfl rfl (gn (by simp; omega)) rfl rfl ?_
      refine AR.opN rfl rfl (gn (by simp; omega)) rfl rfl ?_
      refine o_0 (.pickF rfl (by simp; omega) rfl) ?_
      refine a_z ?_
      refine AWp.cond rfl (fun h4 => ?_) (fun h4 => ?_)
      ·first | (simp at h4; done) | (simp at h4; omega) | (simp at h4; exact absurd h4 hsn)
      refine s_r 8 ?_
      refine o_0 (.callR (s := some _) rfl rfl rfl rfl rfl (fun _ h => by cases h; exact rfl) (fs_Len1 s)) ?_
      refine a_2 ?_
      first | refine AR.op0y rfl rfl (gy (by simp; omega)) (.load_l rfl rfl rfl tg_37.h ts_37.h (nle rfl)) rfl rfl ?_ | refine AR.op0y rfl rfl (gy (by simp; omega)) (.load_a rfl rfl tg_37.h ts_37.h (nle rfl)) rfl rfl ?_
      refine AR.op0y rfl rfl (gy (by simp; omega)) (.call rfl rfl rfl (fs_Sign c)) rfl rfl ?_
      refine AR.op0y rfl rfl (gy (by simp; omega)) (.bin rfl rfl binI_lss) rfl rfl ?_
      refine o_0 (.pickT rfl (by simp; omega) rfl) ?_
      refine a_z ?_
      refine AWp.cond rfl (fun h6 => ?_) (fun h6 => ?_)
      ·have h5 : c < 0 := hsg.1 (by simpa using h6)
       refine AWp.reg (m := 1) rfl ?_
       refine o_3 (.callB (s := some _) rfl rfl rfl rfl rfl rfl (fun _ h => by cases h; exact ⟨rfl, by decide⟩) (bs_Write1 s [32, 45, 32] (by simp; omega))) ?_
       refine AR.nil ?_
       refine ⟨some (s ++ [32, 45, 32]), by simp only [sgnTx]; rw [if_pos h5], ?_⟩
       show SEnt _ (pc1 q c (n, s ++ [32, 45, 32]))
       rw [pc1_mk]
       refine SEnt.to2 [(2, 100020)] rfl rfl rfl au_r (fun hs => au_f) (fun hs => ?_)
       ·repeat' (first | exact CvH.nil | refine CvH.cons rfl rfl rfl rfl ?_ ?_)
        all_goals (first | (exact CvLL.clo hs (closed_cons (closed_qC c) closed_nil)) | exact au_e)
      ·have h5 : ¬ c < 0 := fun e => by have h7 := hsg.2 e; simp [h7] at h6
       refine s_r 3 ?_
       refine o_0 (.callR (s := some _) rfl rfl rfl rfl rfl (fun _ h => by cases h; exact rfl) (fs_Len1 s)) ?_
       refine a_z ?_
       refine AWp.cond rfl (fun h7 => ?_) (fun h7 => ?_)
       ·refine AWp.reg (m := 1) rfl ?_
        refine o_3 (.callB (s := some _) rfl rfl rfl rfl rfl rfl (fun _ h => by cases h; exact ⟨rfl, by decide⟩) (bs_Write1 s [32, 43, 32] (by simp; omega))) ?_
        refine AR.nil ?_
        refine ⟨some (s ++ [32, 43, 32]), by simp only [sgnTx]; rw [if_neg h5], ?_⟩
        show SEnt _ (pc1 q c (n, s ++ [32, 43, 32]))
        rw [pc1_mk]
        refine SEnt.to2 [(2, 100023)] rfl rfl rfl au_r (fun hs => au_f) (fun hs => ?_)
        ·repeat' (first | exact CvH.nil | refine CvH.cons rfl rfl rfl rfl ?_ ?_)
         all_goals (first | (exact CvLL.clo hs (closed_cons (closed_qC c) closed_nil)) | exact au_e)
       ·first | (simp at h7; done) | (simp at h7; omega) | (simp at h7; exact absurd h7 hsn)
    rintro o1 rfl
    have ho1 := okO_sign ho c
    obtain ⟨o1, ho1e⟩ : ∃ o1, o1 = sgnTx o c := ⟨_, rfl⟩
    rw [← ho1e] at ho1 ⊢
    refine AWp.cut (fun _ : Unit => pdS q t n o1) (fun _ => True) ?_ ?_
    ·cases o1 with
     | none =>
      show AWp _ _ _ _ (pc0 q c n)
      rw [pc0_mk]
      refine AWp.reg (m := 4) rfl ?_
      refine c_s (fs_abs c) ?_
      refine c_s (fT) ?_
      refine a_z ?_
      refine ⟨(), trivial, ?_⟩
      show SEnt _ (pd0 q t n)
      rw [pd0_mk]
      exact s_e []
     | some s =>
      show AWp _ _ _ _ (pc1 q c (n, s))
      rw [pc1_mk]
      refine AWp.reg (m := 4) rfl ?_
      refine c_s (fs_abs c) ?_
      refine c_s (fT) ?_
      refine a_z ?_
      refine ⟨(), trivial, ?_⟩
      show SEnt _ (pd1 q t (n, s))
      rw [pd1_mk]
      exact s_e []
    rintro _ _
    refine AWp.cut (fun _ : Unit => pdS q t n o1) (fun _ => n ≠ 0) ?_ ?_
    ·cases o1 with
     | none =>
      show AWp _ _ _ _ (pd0 q t n)
      rw [pd0_mk]
      refine r_z 2 ?_
      refine AWp.cond rfl (fun h4 => ?_) (fun h4 => ?_)
      ·have h5 : n = 0 := by simpa using h4
       subst h5
       refine s_r 2 ?_
       refine a_1 ?_
       refine o_2 (.callB (s := none) (j := 0) rfl rfl rfl rfl rfl rfl (fun _ h => by cases h) (bs_Write0 t htn (by omega))) ?_
       refine AR.nil ?_
       refine AWp.exit ⟨some t, by unfold stepTx; rw [if_pos rfl, ← ho1e, ← ht]; rfl, ?_⟩
       show SEnt _ (pb1 q (((0 : Nat) : Int), t))
       rw [pb1_mk]
       refine SEnt.to2 [(2, 100007)] rfl rfl rfl au_r (fun hs => au_f) (fun hs => au_h)
      ·have h5 : n ≠ 0 := fun e => by simp [e] at h4
       refine AWp.skip ⟨(), h5, ?_⟩
       show SEnt _ (pd0 q t n)
       rw [pd0_mk]
       exact s_e []
     | some s =>
      have hsl := (ho1 s rfl).2
      show AWp _ _ _ _ (pd1 q t (n, s))
      rw [pd1_mk]
      refine r_z 2 ?_
      refine AWp.cond rfl (fun h4 => ?_) (fun h4 => ?_)
      ·have h5 : n = 0 := by simpa using h4
       subst h5
       refine s_r 2 ?_
       refine a_1 ?_
       refine o_3 (.callB (s := some _) rfl rfl rfl rfl rfl rfl (fun _ h => by cases h; exact ⟨rfl, by decide⟩) (bs_Write1 s t (by omega))) ?_
       refine AR.nil ?_
       refine AWp.exit ⟨some (s ++ t), by unfold stepTx; rw [if_pos rfl, ← ho1e, ← ht]; rfl, ?_⟩
       show SEnt _ (pb1 q (((0 : Nat) : Int), s ++ t))
       rw [pb1_mk]
       refine SEnt.to2 [(2, 100007)] rfl rfl rfl au_r (fun hs => au_f) (fun hs => au_h)
      ·have h5 : n ≠ 0 := fun e => by simp [e] at h4
       refine AWp.skip ⟨(), h5, ?_⟩
       show SEnt _ (pd1 q t (n, s))
       rw [pd1_mk]
       exact s_e []
    rintro _ hn0
    refine AWp.cut (pbS q n) (fun o' => o' = sizeTx o1 t) ?_ ?_
    ·cases o1 with
     | none =>
      show AWp _ _ _ _ (pd0 q t n)
      rw [pd0_mk]
      refine s_r 2 ?_
      refine a_1 ?_
      refine o_0 (.bin rfl rfl (binS_neT (m := [49]))) ?_
      refine AR.nil ?_
      refine AWp.cond rfl (fun h4 => ?_) (fun h4 => ?_)
      ·have h5 : ¬ t = [49] := by simpa using h4
       refine AWp.reg (m := 3) rfl ?_
       refine a_1 ?_
       refine o_0 (.bin rfl rfl (binS_add (m := [32]) (by simp; omega))) ?_
       refine o_2 (.callB (s := none) (j := 0) rfl rfl rfl rfl rfl rfl (fun _ h => by cases h) (bs_Write0 (t ++ [32]) (by simp) (by simp; omega))) ?_
       refine AR.nil ?_
       refine ⟨some (t ++ [32]), by unfold sizeTx; rw [if_neg h5]; rfl, ?_⟩
       show SEnt _ (pb1 q (n, t ++ [32]))
       rw [pb1_mk]
       refine SEnt.to2 [(2, 100008)] rfl rfl rfl au_r (fun hs => au_f) (fun hs => au_h)
      ·have h5 : t = [49] := by simpa using h4
       refine AWp.skip ⟨none, by unfold sizeTx; rw [if_pos h5], ?_⟩
       show SEnt _ (pb0 q n)
       rw [pb0_mk]
       exact s_e []
     | some s =>
      have hsl := (ho1 s rfl).2
      show AWp _ _ _ _ (pd1 q t (n, s))
      rw [pd1_mk]
      refine s_r 2 ?_
      refine a_1 ?_
      refine o_0 (.bin rfl rfl (binS_neT (m := [49]))) ?_
      refine AR.nil ?_
      refine AWp.cond rfl (fun h4 => ?_) (fun h4 => ?_)
      ·have h5 : ¬ t = [49] := by simpa using h4
       refine AWp.reg (m := 3) rfl ?_
       refine a_1 ?_
       refine o_0 (.bin rfl rfl (binS_add (m := [32]) (by simp; omega))) ?_
       refine o_3 (.callB (s := some _) rfl rfl rfl rfl rfl rfl (fun _ h => by cases h; exact ⟨rfl, by decide⟩) (bs_Write1 s (t ++ [32]) (by simp; omega))) ?_
       refine AR.nil ?_
       refine ⟨some (s ++ (t ++ [32])), by unfold sizeTx; rw [if_neg h5]; rfl, ?_⟩
       show SEnt _ (pb1 q (n, s ++ (t ++ [32])))
       rw [pb1_mk]
       refine SEnt.to2 [(2, 100008)] rfl rfl rfl au_r (fun hs => au_f) (fun hs => au_h)
      ·have h5 : t = [49] := by simpa using h4
       refine AWp.skip ⟨some s, by unfold sizeTx; rw [if_pos h5], ?_⟩
       show SEnt _ (pb1 q (n, s))
       rw [pb1_mk]
       exact s_e []
    rintro o2 ho2e
    have ho2 : okOx o2 (B + L + 4) := by
     rw [ho2e]; unfold sizeTx
     split
     ·exact okO_mono ho1 (by omega)
     ·exact okO_mono (okO_wr ho1 (t := t ++ [32]) (by simp)) (by simp; omega)
    refine AWp.cut (fun s => pb1 q (n, s)) (fun s => wrO o2 [120] = some s) ?_ ?_
    ·cases o2 with
     | none =>
      show AWp _ _ _ _ (pb0 q n)
      rw [pb0_mk]
      refine AWp.reg (m := 1) rfl ?_
      refine o_2 (.callB (s := none) (j := 0) rfl rfl rfl rfl rfl rfl (fun _ h => by cases h) (bs_Write0 [120] (by simp) (by simp))) ?_
      refine AR.nil ?_
      refine ⟨[120], rfl, ?_⟩
      simp only [pb1_mk]
      refine SEnt.to2 [(2, 100004)] rfl rfl rfl au_r (fun hs => au_f) (fun hs => au_h)
     | some s =>
      have hsl := (ho2 s rfl).2
      show AWp _ _ _ _ (pb1 q (n, s))
      rw [pb1_mk]
      refine AWp.reg (m := 1) rfl ?_
      refine o_3 (.callB (s := some _) rfl rfl rfl rfl rfl rfl (fun _ h => by cases h; exact ⟨rfl, by decide⟩) (bs_Write1 s [120] (by simp; omega))) ?_
      refine AR.nil ?_
      refine ⟨s ++ [120], rfl, ?_⟩
      simp only [pb1_mk]
      refine SEnt.to2 [(2, 100004)] rfl rfl rfl au_r (fun hs => au_f) (fun hs => au_h)
    rintro s hs3
    have ho3 := okO_wr ho2 (t := [120]) (by simp) s hs3
    have hsl : s.length ≤ B + L + 5 := ho3.2
    simp only [pb1_mk]
    refine r_z 2 ?_
    refine AWp.cond rfl (fun h4 => ?_) (fun h4 => ?_)
    ·have h5 : 1 < n := by simp at h4; omega
     refine AWp.reg (m := 4) rfl ?_
     refine c_s (fI) ?_
     refine o_0 (.bin rfl rfl (binS_add (l := [94]) (by simp; omega))) ?_
     refine o_3 (.callB (s := some _) rfl rfl rfl rfl rfl rfl (fun _ h => by cases h; exact ⟨rfl, by decide⟩) (bs_Write1 s ([94] ++ ti n) (by simp; omega))) ?_
     refine AR.nil ?_
     refine ⟨some (s ++ ([94] ++ ti n)), by unfold stepTx; rw [if_neg hn0, if_pos h5, ← ho1e, ← ht, ← ho2e, hs3]; rfl, ?_⟩
     show SEnt _ (pb1 q (n, s ++ ([94] ++ ti n)))
     rw [pb1_mk]
     refine SEnt.to2 [(2, 100009)] rfl rfl rfl au_r (fun hs => au_f) (fun hs => au_h)
    ·have h5 : ¬ 1 < n := by simp at h4; omega
     refine AWp.skip ⟨some s, by unfold stepTx; rw [if_neg hn0, if_neg h5, ← ho1e, ← ht, ← ho2e, hs3], ?_⟩
     show SEnt _ (pb1 q (n, s))
     rw [pb1_mk]
     exact s_e []
   rintro o' ho'
   have hok' : okOx o' (B + (L + 30)) := by
    rw [ho']
    split
    ·exact okO_mono ho (by omega)
    ·have g1 := okO_sign ho c
     unfold stepTx
     rw [← ht]
     have g2 : okOx (sizeTx (sgnTx o c) t) (B + L + 4) := by
      unfold sizeTx
      split
      ·exact okO_mono g1 (by omega)
      ·exact okO_mono (okO_wr g1 (t := t ++ [32]) (by simp)) (by simp; omega)
     have g3 := okO_wr g2 (t := [120]) (by simp)
     split
     ·exact okO_mono (okO_wr g1 htn) (by omega)
     ·split
      ·exact okO_mono (okO_wr g3 (t := [94] ++ ti n) (by simp)) (by simp; omega)
      ·exact okO_mono g3 (by simp; omega)
   rw [← ho'] at hr
   cases o' with
   | none =>
    show AWp _ _ _ _ (pb0 q n)
    rw [pb0_mk]
    refine AWp.reg (m := 3) rfl ?_
    refine a_z ?_
    refine ⟨(n, none), Nat.lt_succ_self n, ⟨by simp only; omega, hr, okO_none _⟩, ?_⟩
    show SEnt _ (pb0 q ((n : Int) - 1))
    rw [pb0_mk]
    exact s_e []
   | some s =>
    show AWp _ _ _ _ (pb1 q (n, s))
    rw [pb1_mk]
    refine AWp.reg (m := 3) rfl ?_
    refine a_z ?_
    refine ⟨(n, some s), Nat.lt_succ_self n, ⟨by simp only; omega, hr, by simp only; rw [hm]; exact hok'⟩, ?_⟩
    show SEnt _ (pb1 q ((n : Int) - 1, s))
    rw [pb1_mk]
    exact s_e []
 rintro o ⟨rfl, ho⟩
 cases ho2 : textR tq ti q q.length none with
 | none =>
  show AWp _ _ _ _ (pb0 q (-1))
  rw [pb0_mk]
  refine AWp.seq ?_
  refine s_r 2 ?_
  refine o_0 (.callR (s := none) (j := 0) (tb := 0) rfl rfl rfl rfl rfl (fun _ h => by cases h) (fs_Len0)) ?_
  refine a_z ?_
  refine AWp.cond rfl (fun h4 => ?_) (fun h4 => ?_)
  ·refine r_z 1 ?_
   refine AWp.ret ?_
   refine Fin.tmpE rfl ?_ ?_
   ·rfl
   ·exact closed_v _
  ·exact absurd h4 (by simp)
 | some s =>
  have hs := ho s ho2
  have hsl : s.length ≠ 0 := by have := hs.1; simpa using this
  have hne := hs.1
  show AWp _ _ _ _ (pb1 q (-1, s))
  rw [pb1_mk]
  refine AWp.seq ?_
  refine s_r 2 ?_
  refine o_0 (.callR (s := some _) rfl rfl rfl rfl rfl (fun _ h => by cases h; exact rfl) (fs_Len1 s)) ?_
  refine a_z ?_
  refine AWp.cond rfl (fun h4 => ?_) (fun h4 => ?_)
  ·exact absurd h4 (by simp; omega)
  ·refine AWp.skip ?_
   refine s_r 2 ?_
   refine o_2 (.callD rfl rfl rfl rfl rfl rfl (by decide) (by first | assumption | simp) (ds_String)) ?_
   refine a_z ?_
   refine AWp.ret ?_
   refine Fin.tmpE rfl ?_ ?_
   ·rfl
   ·exact closed_v _
theorem fs_PText (p : List Rat) (h : okPT p) : FSpec Tryz.prog 65 [.arr (pE p)] (tx (textP p)) := by
 obtain ⟨h1, h2, h3⟩ := h
 exact fs_PTextG textQ dec2 6 p h1 (by decide) (fun c hc => ⟨fs_QText (absQ c) (okT_abs (h3 c hc)), textQ_ne _, textQ_len.1⟩) (fun n hn => ⟨fs_Itoa n (by omega), Nat.le_trans (dec2_len n) (by decide)⟩)
abbrev bP (p : List Rat) : AV := .aptr [[.arr (pE p)]] 0 0
abbrev bQ (q : Rat) : AV := .aptr [qC q] 0 0
theorem closed_bP (p : List Rat) : Closed (bP p) := closed_box (closed_cons (closed_pA p) closed_nil)
theorem closed_bQ (q : Rat) : Closed (bQ q) := closed_box (closed_qC q)
theorem fs_Add1 (p q : List Rat) (i : Nat) (hp : smL p) (hq : smL q) : FSpec Tryz.prog 123 [i64 i, bP p, bP q] (.agg (qC (coP p i + coP q i))) := by
 refine FSpec.enter Tryz.func123 rfl (by kernel_rfl) rfl rfl rfl ?_ rfl ?_
 ·exact closed_cons (closed_v _) (closed_cons (closed_bP p) (closed_cons (closed_bP q) closed_nil))
 refine r_z 1 ?_
 refine AWp.seq ?_
 refine AWp.regD hmix (m := 8) rfl ?_
 refine c_s (fs_at p i) ?_
 refine c_s (fs_at q i) ?_
 refine c_s (fs_add (coP p i) (coP q i) (sm2 (coP_sm hp i) (coP_sm hq i))) ?_
 refine a_1 ?_
 refine AR.nil ⟨by kernel_rfl, ?_⟩
 refine AWp.ret ?_
 refine Fin.cellE rfl rfl rfl tg_37.h ts_37.h (nle rfl) ?_ ?_
 ·rfl
 ·exact closed_qA _
theorem fs_Add (p q : List Rat) (hp : smL p) (hq : smL q) (hp1 : p.length ≤ 1099511627776) (hq1 : q.length ≤ 1099511627776) : FSpec Tryz.prog 42 [.arr (pE p), .arr (pE q)] (.arr (pE (addP p q))) := by
 refine FSpec.enter Tryz.func42 rfl (by kernel_rfl) rfl rfl rfl ?_ rfl ?_
 ·exact closed_cons (closed_pA p) (closed_cons (closed_pA q) closed_nil)
 refine r_z 3 ?_
 refine AWp.ent (st' := ⟨[(2, bP p), (3, bP q)], [], 1, 12⟩) ?_ ?_
 ·exact s_e []
 have hm : (if ((q.length : Nat) : Int) > (p.length : Nat) then ((q.length : Nat) : Int) else (p.length : Nat)) = ((max p.length q.length : Nat) : Int) := by
  rw [Nat.max_def]; split <;> split <;> omega
 have he := fs_each (max p.length q.length) (fun i => coP p i + coP q i) 123 [bP p, bP q] (Nat.max_le.2 ⟨hp1, hq1⟩) (closed_cons (closed_bP p) (closed_cons (closed_bP q) closed_nil)) (fun i _ => fs_Add1 p q i hp hq)
 rw [← hm] at he
 refine r_c 8 (he) ?_
 refine a_z ?_
 refine AWp.ret ?_
 refine Fin.tmpE rfl ?_ ?_
 ·rfl
 ·exact closed_pA _
theorem fs_Scale1 (p : List Rat) (k : Rat) (i : Nat) (hp : smL p) (hk : sm k) (hi : i < p.length) : FSpec Tryz.prog 125 [i64 i, bP p, bQ k] (.agg (qC (coP p i * k))) := by
 have hg : (pE p)[((i : Nat) : Int).toNat]? = some (qC (coP p i)) := pE_get (coP_get hi)
 refine FSpec.enter Tryz.func125 rfl (by kernel_rfl) rfl rfl rfl ?_ rfl ?_
 ·exact closed_cons (closed_v _) (closed_cons (closed_bP p) (closed_cons (closed_bQ k) closed_nil))
 refine r_z 1 ?_
 refine AWp.seq ?_
 refine AWp.regD hmix (m := 7) rfl ?_
 refine a_2 ?_
 first | refine AR.op0 (.index_l rfl rfl (by omega) (by omega) te_25.h) rfl rfl ?_ | refine AR.op0 (.index_a rfl rfl (by omega) hg rfl te_25.h) rfl rfl ?_
 first | refine AR.op0 (.load_l rfl rfl hg tg_37.h ts_37.h (nle rfl)) rfl rfl ?_ | refine AR.op0 (.load_a rfl hg tg_37.h ts_37.h (nle rfl)) rfl rfl ?_
 refine c_s (fs_mul (coP p i) k (sm2 (coP_sm hp i) hk)) ?_
 refine a_1 ?_
 refine AR.nil ⟨by kernel_rfl, ?_⟩
 refine AWp.ret ?_
 refine Fin.cellE rfl rfl rfl tg_37.h ts_37.h (nle rfl) ?_ ?_
 ·rfl
 ·exact closed_qA _
theorem fs_Scale (p : List Rat) (k : Rat) (hp : smL p) (hk : sm k) (hp1 : p.length ≤ 1099511627776) : FSpec Tryz.prog 47 [.arr (pE p), .agg (qC k)] (.arr (pE (scaleP p k))) := by
 have he := fs_each p.length (fun i => coP p i * k) 125 [bP p, bQ k] hp1 (closed_cons (closed_bP p) (closed_cons (closed_bQ k) closed_nil)) (fun i hi => fs_Scale1 p k i hp hk hi)
 refine FSpec.enter Tryz.func47 rfl (by kernel_rfl) rfl rfl rfl ?_ rfl ?_
 ·exact closed_cons (closed_pA p) (closed_cons (closed_qA k) closed_nil)
 refine r_z 3 ?_
 refine AWp.ent (st' := ⟨[(2, bP p), (3, bQ k)], [], 1, 9⟩) ?_ ?_
 ·exact s_e []
 refine r_c 5 (he) ?_
 refine a_z ?_
 refine AWp.ret ?_
 refine Fin.tmpE rfl ?_ ?_
 ·rfl
 ·exact closed_pA _
theorem fs_over2 (a b : Rat) (hb : b ≠ 0) (h : qs a + qs b ≤ 549755813888) : FSpec Tryz.prog 105 [.agg (qC a), .agg (qC b)] (.agg (qC (a / b))) := by
 refine FSpec.enter Tryz.func105 rfl (by kernel_rfl) rfl rfl rfl ?_ rfl ?_
 ·exact closed_cons (closed_qA a) (closed_cons (closed_qA b) closed_nil)
 refine r_z 3 ?_
 refine r_c 9 (fs_div a b hb h) ?_
 refine a_z ?_
 refine r_z 2 ?_
 refine AWp.ret ?_
 refine Fin.cellE rfl rfl rfl tg_37.h ts_37.h (nle rfl) ?_ ?_
 ·rfl
 ·exact closed_qA _
theorem fs_constant (a : Rat) : FSpec Tryz.prog 126 [.agg (qC a)] (.arr (pE (constP a))) := by
 refine FSpec.enter Tryz.func126 rfl (by kernel_rfl) rfl rfl rfl ?_ rfl ?_
 ·exact closed_cons (closed_qA a) closed_nil
 refine r_z 2 ?_
 refine s_r 4 ?_
 refine a_2 ?_
 refine o_1 (.callS1 rfl rfl rfl (.shut rfl (by first | exact nle rfl | (simp; done) | (simp; omega)) (.nil)) rfl ((fs_Trim [a] (by simp)))) ?_
 refine a_z ?_
 refine AWp.ret ?_
 refine Fin.tmpE rfl ?_ ?_
 ·rfl
 ·exact closed_pA _
theorem fs_line (a : Rat) : FSpec Tryz.prog 155 [.agg (qC a)] (.arr (pE [a, 1])) := by
 refine FSpec.enter Tryz.func155 rfl (by kernel_rfl) rfl rfl rfl ?_ rfl ?_
 ·exact closed_cons (closed_qA a) closed_nil
 refine r_z 2 ?_
 refine AWp.seq ?_
 refine AWp.regD hmix (m := 4) rfl ?_
 refine c_s (fs_Int 1 (by decide)) ?_
 refine a_2 ?_
 refine AR.nil ⟨by kernel_rfl, ?_⟩
 refine AWp.ret ?_
 exact Fin.tmpS rfl rfl rfl rfl (closed_pE [a, 1])
theorem fs_x : FSpec Tryz.prog 263 [] (.arr (pE [0, 1])) := by
 refine FSpec.enter Tryz.func263 rfl (by kernel_rfl) rfl rfl rfl ?_ rfl ?_
 ·exact closed_nil
 refine r_z 1 ?_
 refine r_c 3 ((by have := fs_line 0; rw [qC0] at this; exact this)) ?_
 refine a_z ?_
 refine AWp.ret ?_
 refine Fin.tmpE rfl ?_ ?_
 ·rfl
 ·exact closed_pA _
theorem sm_neg1 {a : Rat} (h : sm a) : sm (a * (-1)) := by
 unfold sm at *
 rw [show a * (-1) = -a by rw [Rat.mul_comm, Rat.neg_mul, Rat.one_mul], qs_neg]; exact h
theorem qs_inv (b : Rat) (hb : b ≠ 0) : qs (1 / b) ≤ qs b := by
 rw [div_mkRat 1 b hb]
 have hn : b.num ≠ 0 := fun e => hb (Rat.num_eq_zero.1 e)
 have h1 := qs_num b
 have h2 := qs_den b
 refine qs_mkRat (by have : 0 < b.num.natAbs := by omega
                     show 0 < 1 * b.num.natAbs
                     omega) ?_ ?_
 ·show bl ((1 : Int) * sgn (decide (b.num < 0)) b.den).natAbs ≤ qs b
  rw [Int.one_mul, sgn_natAbs]; exact h2
 ·show bl (1 * b.num.natAbs) ≤ qs b
  rw [Nat.one_mul]; exact h1
theorem smL_scaleN {q : List Rat} (h : smL q) : smL (scaleP q (-1)) := by
 refine smL_trim fun x hx => ?_
 obtain ⟨i, _, rfl⟩ := List.mem_map.1 hx
 exact sm_neg1 (coP_sm h i)
theorem fs_Sub (p q : List Rat) (hp : smL p) (hq : smL q) (hp1 : p.length ≤ 1099511627776) (hq1 : q.length ≤ 1099511627776) : FSpec Tryz.prog 44 [.arr (pE p), .arr (pE q)] (.arr (pE (subP p q))) := by
 have hl := scaleP_len q (-1)
 refine FSpec.enter Tryz.func44 rfl (by kernel_rfl) rfl rfl rfl ?_ rfl ?_
 ·exact closed_cons (closed_pA p) (closed_cons (closed_pA q) closed_nil)
 refine r_z 1 ?_
 refine r_c 6 (fs_Int (-1) (by decide)) ?_
 refine c_s (fs_Scale q (-1) hq (by decide) hq1) ?_
 refine c_s (fs_Add p (scaleP q (-1)) hp (smL_scaleN hq) hp1 (by omega)) ?_
 refine a_z ?_
 refine AWp.ret ?_
 refine Fin.tmpE rfl ?_ ?_
 ·rfl
 ·exact closed_pA _
theorem fs_monic (p : List Rat) (hp : smL p) (hp1 : p.length ≤ 1099511627776) : FSpec Tryz.prog 94 [.arr (pE p)] (.arr (pE (monicP p))) := by
 have hlead := leadP_sm hp
 refine FSpec.enter Tryz.func94 rfl (by kernel_rfl) rfl rfl rfl ?_ rfl ?_
 ·exact closed_cons (closed_pA p) closed_nil
 refine r_z 1 ?_
 refine AWp.seq ?_
 refine r_c 3 (fs_Degree p hp1) ?_
 refine a_z ?_
 refine AWp.cond rfl (fun h => ?_) (fun h => ?_)
 ·have h0 : trimQ p = [] := by
   have h1 : degP p < 0 := by simpa using h
   unfold degP at h1
   exact List.length_eq_zero_iff.1 (by omega)
  refine r_z 1 ?_
  refine AWp.ret ?_
  unfold monicP
  rw [if_pos h0]
  exact Fin.tmpN rfl
 ·have h0 : trimQ p ≠ [] := by
   intro e
   have h1 : ¬ degP p < 0 := by simpa using h
   unfold degP at h1
   rw [e] at h1
   exact h1 (by decide)
  have hne := leadP_ne h0
  have hinv := qs_inv (leadP p) hne
  unfold sm at hlead
  have h1 : qs 1 = 1 := by decide
  unfold monicP
  rw [if_neg h0]
  refine AWp.skip ?_
  refine r_c 7 (fs_Int 1 (by decide)) ?_
  refine c_s (fs_Lead p hp1) ?_
  refine c_s (fs_over2 1 (leadP p) hne (by omega)) ?_
  refine c_s (fs_Scale p (1 / leadP p) hp (by unfold sm; omega) hp1) ?_
  refine a_z ?_
  refine AWp.ret ?_
  refine Fin.tmpE rfl ?_ ?_
  ·rfl
  ·exact closed_pA _
theorem qs_small (i : Nat) (h : i ≤ 1099511627776) : qs (((i : Nat) : Int) : Rat) ≤ 64 := by
 refine Nat.max_le.2 ⟨?_, ?_⟩
 ·show bl ((i : Int)).natAbs ≤ 64
  rw [Int.natAbs_natCast]
  exact bl_le (by omega)
 ·show bl 1 ≤ 64
  decide
theorem fs_Derive1 (p : List Rat) (i : Nat) (hp : smL p) (hi : i + 1 < p.length) (hp1 : p.length ≤ 1099511627776) : FSpec Tryz.prog 102 [i64 i, bP p] (.agg (qC (coP p (i + 1) * ((i + 1 : Nat) : Int)))) := by
 have hg : (pE p)[(((i : Nat) : Int) + 1).toNat]? = some (qC (coP p (i + 1))) := by
  rw [show (((i : Nat) : Int) + 1).toNat = i + 1 by omega]; exact pE_get (coP_get hi)
 have hs := coP_sm hp (i + 1)
 have hq := qs_small (i + 1) (by omega)
 unfold sm at hs
 have hI := fs_Int (((i : Nat) : Int) + 1) (by omega)
 rw [show ((i : Nat) : Int) + 1 = ((i + 1 : Nat) : Int) by omega] at hI
 refine FSpec.enter Tryz.func102 rfl (by kernel_rfl) rfl rfl rfl ?_ rfl ?_
 ·exact closed_cons (closed_v _) (closed_cons (closed_bP p) closed_nil)
 refine r_z 1 ?_
 refine AWp.seq ?_
 refine AWp.regD hmix (m := 10) rfl ?_
 refine a_3 ?_
 first | refine AR.op0 (.index_l rfl rfl (by omega) (by omega) te_25.h) rfl rfl ?_ | refine AR.op0 (.index_a rfl rfl (by omega) hg rfl te_25.h) rfl rfl ?_
 first | refine AR.op0 (.load_l rfl rfl hg tg_37.h ts_37.h (nle rfl)) rfl rfl ?_ | refine AR.op0 (.load_a rfl hg tg_37.h ts_37.h (nle rfl)) rfl rfl ?_
 refine c_s (hI) ?_
 refine c_s (fs_mul (coP p (i + 1)) ((i + 1 : Nat) : Int) (by omega)) ?_
 refine a_1 ?_
 refine AR.nil ⟨by kernel_rfl, ?_⟩
 refine AWp.ret ?_
 refine Fin.cellE rfl rfl rfl tg_37.h ts_37.h (nle rfl) ?_ ?_
 ·rfl
 ·exact closed_qA _
theorem fs_Derive (p : List Rat) (hp : smL p) (hp1 : p.length ≤ 1099511627776) : FSpec Tryz.prog 24 [.arr (pE p)] (.arr (pE (deriveP p))) := by
 have he := fs_each (p.length - 1) (fun i => coP p (i + 1) * ((i + 1 : Nat) : Int)) 102 [bP p] (by omega) (closed_cons (closed_bP p) closed_nil) (fun i hi => fs_Derive1 p i hp (by omega) hp1)
 have hm : (if (0 : Int) > ((p.length : Nat) : Int) - 1 then (0 : Int) else ((p.length : Nat) : Int) - 1) = ((p.length - 1 : Nat) : Int) := by split <;> omega
 rw [← hm] at he
 refine FSpec.enter Tryz.func24 rfl (by kernel_rfl) rfl rfl rfl ?_ rfl ?_
 ·exact closed_cons (closed_pA p) closed_nil
 refine r_z 2 ?_
 refine AWp.ent (st' := ⟨[(1, bP p)], [], 1, 9⟩) ?_ ?_
 ·exact s_e []
 refine r_c 7 (he) ?_
 refine a_z ?_
 refine AWp.ret ?_
 refine Fin.tmpE rfl ?_ ?_
 ·rfl
 ·exact closed_pA _
end Go.Proofs.YtdhedjbmdnnbkaaGreatDoor
