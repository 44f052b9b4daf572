/- Part S17 of the proof. -/
import Derived.Test.YtdhedjbmdnnbkaaGreatDoorS16
set_option linter.all false
namespace Go.Proofs.YtdhedjbmdnnbkaaGreatDoor
open Go.Abs
set_option maxRecDepth 20000
def aheadS (a : Nat) (b : Nat) : Nat → AState
 | i => ⟨[(0, .arr (iE (zd a))), (1, .arr (iE (zd b))), (5, i64 i)], [], 1, 40⟩
theorem aheadS_mk (a : Nat) (b : Nat) (i : Nat) : aheadS a b i = ⟨[(0, .arr (iE (zd a))), (1, .arr (iE (zd b))), (5, i64 i)], [], 1, 40⟩ := rfl
theorem zd_get {n i d : Nat} (h : (digs UB n)[i]? = some d) : (zd n)[(digs UB n).length - 1 - i]? = some d := by
 have hi : i < (digs UB n).length := (List.getElem?_eq_some_iff.1 h).1
 unfold zd
 rw [List.getElem?_reverse (by omega), show (digs UB n).length - 1 - ((digs UB n).length - 1 - i) = i by omega]; exact h
theorem fs_ahead (a b : Nat) (ha : (zd a).length ≤ 281474976710656) (hb : (zd b).length ≤ 281474976710656) : FSpec Tryz.prog 251 [.arr (iE (zd a)), .arr (iE (zd b))] (i64 (cmpZ a b)) := by
 have hza := zd_length a
 have hzb := zd_length b
 refine FSpec.enter Tryz.func251 rfl (by kernel_rfl) rfl rfl rfl ?_ rfl ?_
 ·exact closed_cons (closed_iA _) (closed_cons (closed_iA _) closed_nil)
 refine r_z 1 ?_
 refine AWp.seq ?_
 refine r_z 5 ?_
 refine AWp.cond rfl (fun h => ?_) (fun h => ?_)
 ·have hne : (zd a).length ≠ (zd b).length := by simp at h; omega
  refine AWp.seq ?_
  refine r_z 5 ?_
  refine AWp.cond rfl (fun h1 => ?_) (fun h1 => ?_)
  ·refine r_z 1 ?_
   refine AWp.ret (Fin.tmpE rfl ?_ (closed_v _))
   have hl : (zd a).length < (zd b).length := by simpa using h1
   rw [cmpZ_lt]
   ·rfl
   ·have := lt_of_len (b := UB) (by decide) (show (digs UB a).length < (digs UB b).length by omega); omega
  ·refine AWp.skip ?_
   refine r_z 1 ?_
   refine AWp.ret (Fin.tmpE rfl ?_ (closed_v _))
   have hl : (zd b).length < (zd a).length := by simp at h1; omega
   rw [cmpZ_gt]
   ·rfl
   ·have := lt_of_len (b := UB) (by decide) (show (digs UB b).length < (digs UB a).length by omega); omega
 have heq : (digs UB a).length = (digs UB b).length := by simp at h; omega
 refine AWp.skip ?_
 refine AWp.seq ?_
 refine r_z 1 ?_
 refine AWp.cutT (aheadS a b) (fun _ => a = b) ?_ ?_
 ·refine AWp.block ?_
  refine AWp.loopS (aheadS a b) (fun i => (digs UB a).length - i) (fun i => i ≤ (digs UB a).length ∧ (digs UB a).drop ((digs UB a).length - i) = (digs UB b).drop ((digs UB a).length - i)) 0 ⟨Nat.zero_le _, by rw [Nat.sub_zero, List.drop_length, heq, List.drop_length]⟩ ?_ ?_
  ·simp only [aheadS_mk]
   exact s_e []
  rintro i ⟨hi, hd⟩
  rw [aheadS_mk]
  refine AWp.seq ?_
  refine r_z 4 ?_
  refine AWp.cond rfl (fun h => ?_) (fun h => ?_)
  ·have hlt : i < (digs UB a).length := by simp at h; omega
   obtain ⟨k, hk⟩ : ∃ k, k = (digs UB a).length - 1 - i := ⟨_, rfl⟩
   have hk1 : (digs UB a).length - i = k + 1 := by omega
   rw [hk1] at hd
   obtain ⟨x, hx⟩ : ∃ x, (digs UB a)[k]? = some x := ⟨_, List.getElem?_eq_getElem (by omega)⟩
   obtain ⟨y, hy⟩ : ∃ y, (digs UB b)[k]? = some y := ⟨_, List.getElem?_eq_getElem (by omega)⟩
   have hx' : (iE (zd a))[((i : Nat) : Int).toNat]? = some [i64 x] := by
    have := zd_get hx
    rw [show (digs UB a).length - 1 - k = i by omega] at this
    exact iE_get this
   have hy' : (iE (zd b))[((i : Nat) : Int).toNat]? = some [i64 y] := by
    have := zd_get hy
    rw [show (digs UB b).length - 1 - k = i by omega] at this
    exact iE_get this
   refine AWp.skip ?_
   refine AWp.seq ?_
   refine AWp.block ?_
   refine AWp.seq ?_
   refine AWp.seq ?_
   refine AWp.regD hmix (m := 9) rfl ?_
   refine a_2 ?_
   first | refine AR.op0 (.index_l rfl rfl (by omega) (by omega) te_71.h) rfl rfl ?_ | refine AR.op0 (.index_a rfl rfl (by omega) hx' rfl te_71.h) rfl rfl ?_
   first | refine AR.op0 (.load_l1 rfl rfl hx' tg_3.h rfl) rfl rfl ?_ | refine AR.op0 (.load_a1 rfl hx' tg_3.h rfl) rfl rfl ?_
   refine a_2 ?_
   first | refine AR.op0 (.index_l rfl rfl (by omega) (by omega) te_71.h) rfl rfl ?_ | refine AR.op0 (.index_a rfl rfl (by omega) hy' rfl te_71.h) rfl rfl ?_
   first | refine AR.op0 (.load_l1 rfl rfl hy' tg_3.h rfl) rfl rfl ?_ | refine AR.op0 (.load_a1 rfl hy' tg_3.h rfl) rfl rfl ?_
   refine a_1 ?_
   refine AR.nil ⟨by kernel_rfl, ?_⟩
   refine AWp.cond rfl (fun h1 => ?_) (fun h1 => ?_)
   ·refine r_z 1 ?_
    refine AWp.ret (Fin.tmpE rfl ?_ (closed_v _))
    have hxy : x < y := by simpa using h1
    have := lt_of_top (fun d hd => digs_lt (by decide) a d hd) hx hy hd hxy
    rw [ofD_digs (by decide), ofD_digs (by decide)] at this
    rw [cmpZ_lt (by omega)]; rfl
   refine AWp.skip ?_
   refine AWp.seq ?_
   refine AWp.regD hmix (m := 9) rfl ?_
   refine a_2 ?_
   first | refine AR.op0 (.index_l rfl rfl (by omega) (by omega) te_71.h) rfl rfl ?_ | refine AR.op0 (.index_a rfl rfl (by omega) hx' rfl te_71.h) rfl rfl ?_
   first | refine AR.op0 (.load_l1 rfl rfl hx' tg_3.h rfl) rfl rfl ?_ | refine AR.op0 (.load_a1 rfl hx' tg_3.h rfl) rfl rfl ?_
   refine a_2 ?_
   first | refine AR.op0 (.index_l rfl rfl (by omega) (by omega) te_71.h) rfl rfl ?_ | refine AR.op0 (.index_a rfl rfl (by omega) hy' rfl te_71.h) rfl rfl ?_
   first | refine AR.op0 (.load_l1 rfl rfl hy' tg_3.h rfl) rfl rfl ?_ | refine AR.op0 (.load_a1 rfl hy' tg_3.h rfl) rfl rfl ?_
   refine a_1 ?_
   refine AR.nil ⟨by kernel_rfl, ?_⟩
   refine AWp.cond rfl (fun h2 => ?_) (fun h2 => ?_)
   ·refine r_z 1 ?_
    refine AWp.ret (Fin.tmpE rfl ?_ (closed_v _))
    have hxy : y < x := by simpa using h2
    have := lt_of_top (fun d hd => digs_lt (by decide) b d hd) hy hx hd.symm hxy
    rw [ofD_digs (by decide), ofD_digs (by decide)] at this
    rw [cmpZ_gt (by omega)]; rfl
   have hxy : x = y := by simp at h1 h2; omega
   subst hxy
   refine AWp.skip ?_
   refine AWp.reg (m := 3) rfl ?_
   refine a_z ?_
   refine ⟨i + 1, by omega, ⟨by omega, ?_⟩, ?_⟩
   ·rw [show (digs UB a).length - (i + 1) = k by omega, drop_cons hx, drop_cons hy, hd]
   ·simp only [aheadS_mk]
    exact s_e []
  ·have hge : i = (digs UB a).length := by simp at h; omega
   refine AWp.exit ⟨i, ?_, ?_⟩
   ·subst hge
    rw [Nat.sub_self, List.drop_zero, List.drop_zero] at hd
    rw [← ofD_digs (b := UB) (by decide) a, ← ofD_digs (b := UB) (by decide) b, hd]
   ·simp only [aheadS_mk]
    exact s_e []
 rintro i rfl
 rw [aheadS_mk]
 refine r_z 1 ?_
 refine AWp.ret (Fin.tmpE rfl ?_ (closed_v _))
 rw [cmpZ_eq rfl]; rfl
def bothS (a : Nat) (b : Nat) (k : Int) (N : Nat) : List Nat × Int → AState
 | (s, c) => ⟨[(0, .arr (iE (zd a))), (1, .arr (iE (zd b))), (2, i64 k), (7, i64 N), (8, .lsl 1 0 N (some N) 1), (9, i64 c), (10, i64 s.length)], [(1, some ⟨3, 1, iE (List.replicate (N - s.length) 0 ++ s.reverse)⟩)], 2, 51⟩
theorem bothS_mk (a : Nat) (b : Nat) (k : Int) (N : Nat) (s : List Nat) (c : Int) : bothS a b k N (s, c) = ⟨[(0, .arr (iE (zd a))), (1, .arr (iE (zd b))), (2, i64 k), (7, i64 N), (8, .lsl 1 0 N (some N) 1), (9, i64 c), (10, i64 s.length)], [(1, some ⟨3, 1, iE (List.replicate (N - s.length) 0 ++ s.reverse)⟩)], 2, 51⟩ := rfl
def bothT (a : Nat) (b : Nat) (k : Int) (N : Nat) (s : List Nat) : Int × Int → AState
 | (x, c) => ⟨[(0, .arr (iE (zd a))), (1, .arr (iE (zd b))), (2, i64 k), (7, i64 N), (8, .lsl 1 0 N (some N) 1), (9, i64 c), (10, i64 s.length), (11, i64 x)], [(1, some ⟨3, 1, iE (List.replicate (N - s.length) 0 ++ s.reverse)⟩)], 2, 51⟩
theorem bothT_mk (a : Nat) (b : Nat) (k : Int) (N : Nat) (s : List Nat) (x : Int) (c : Int) : bothT a b k N s (x, c) = ⟨[(0, .arr (iE (zd a))), (1, .arr (iE (zd b))), (2, i64 k), (7, i64 N), (8, .lsl 1 0 N (some N) 1), (9, i64 c), (10, i64 s.length), (11, i64 x)], [(1, some ⟨3, 1, iE (List.replicate (N - s.length) 0 ++ s.reverse)⟩)], 2, 51⟩ := rfl
theorem fs_both (a b : Nat) (k : Int) (r : Nat) (hk : k = 1 ∨ k = -1) (hr : (r : Int) = a + k * b) (ha : (zd a).length ≤ 17592186044416) (hb : (zd b).length ≤ 17592186044416) : FSpec Tryz.prog 250 [.arr (iE (zd a)), .arr (iE (zd b)), i64 k] (.arr (iE (zd r))) := by
 have hza := zd_length a
 have hzb := zd_length b
 obtain ⟨N, hN⟩ : ∃ N, N = max (zd a).length (zd b).length + 1 := ⟨_, rfl⟩
 refine FSpec.enter Tryz.func250 rfl (by kernel_rfl) rfl rfl rfl ?_ rfl ?_
 ·exact closed_cons (closed_iA _) (closed_cons (closed_iA _) (closed_cons (closed_v _) closed_nil))
 refine r_z 1 ?_
 refine r_c 5 (fs_longest (zd a) (zd b)) ?_
 refine a_z ?_
 have hNI : ((max (zd a).length (zd b).length : Nat) : Int) + 1 = (N : Int) := by omega
 refine s_r 3 ?_
 refine a_1 ?_
 refine o_1 (.makeSlice (congrArg (fun z => some (AV.v (.int .i64 z))) hNI) (congrArg (fun z => some (AV.v (.int .i64 z))) hNI) te_71.h tz_3.h rfl tb_3.h (by first | omega | (simp; done) | (simp; omega)) (by first | omega | (simp; done) | (simp; omega)) (by unfold maxLen; first | omega | (simp; done) | (simp; omega))) ?_
 refine a_z ?_
 refine r_z 1 ?_
 refine AWp.seq ?_
 refine r_z 1 ?_
 have hdl := digs_length_lt (b := UB) (by decide) (n := r) (k := N) (by
  have h1 := ofD_lt (b := UB) (digs_lt (by decide) a)
  have h2 := ofD_lt (b := UB) (digs_lt (by decide) b)
  rw [ofD_digs (by decide)] at h1 h2
  have h3 : UB ^ (digs UB a).length ≤ UB ^ (N - 1) := Nat.pow_le_pow_right (by decide) (by omega)
  have h4 : UB ^ (digs UB b).length ≤ UB ^ (N - 1) := Nat.pow_le_pow_right (by decide) (by omega)
  have h5 : UB ^ N = UB ^ (N - 1) * UB := by rw [← Nat.pow_succ]; congr 1; omega
  rw [h5]
  show r < UB ^ (N - 1) * 32768
  rcases hk with rfl | rfl <;> omega)
 have hrN : r < UB ^ N := by
  have h1 := ofD_lt (b := UB) (digs_lt (by decide) r)
  rw [ofD_digs (by decide)] at h1
  exact Nat.lt_of_lt_of_le h1 (Nat.pow_le_pow_right (by decide) hdl)
 refine AWp.cutT (fun s : List Nat => ⟨[(8, .lsl 1 0 N (some N) 1)], [(1, some ⟨3, 1, iE s.reverse⟩)], 2, 51⟩) (fun s => s.length = N ∧ (∀ d ∈ s, d < UB) ∧ ofD UB s = r) ?_ ?_
 ·refine AWp.block ?_
  refine AWp.loopS (bothS a b k N) (fun x => N - x.1.length) (fun x => x.1.length ≤ N ∧ (∀ d ∈ x.1, d < UB) ∧ (x.2 = -1 ∨ x.2 = 0 ∨ x.2 = 1) ∧ ((ofD UB x.1 : Nat) : Int) + ((UB ^ x.1.length : Nat) : Int) * x.2 = (ofD UB ((digs UB a).take x.1.length) : Nat) + k * (ofD UB ((digs UB b).take x.1.length) : Nat)) ([], 0) ⟨by simp, by simp, by simp, by simp [ofD]⟩ ?_ ?_
  ·simp only [bothS_mk]
   exact s_e [(1, 8)]
  rintro ⟨s, c⟩ ⟨hs, hd, hc, hval⟩
  simp only at hs hd hc hval
  simp only [bothS_mk]
  refine AWp.seq ?_
  refine r_z 3 ?_
  refine AWp.cond rfl (fun h => ?_) (fun h => ?_)
  ·have hlt : s.length < N := by simpa using h
   refine AWp.skip ?_
   obtain ⟨x, hx⟩ : ∃ x, x = (digs UB a)[s.length]?.getD 0 := ⟨_, rfl⟩
   obtain ⟨y, hy⟩ : ∃ y, y = (digs UB b)[s.length]?.getD 0 := ⟨_, rfl⟩
   have hx1 : x < 32768 := by
    rw [hx]; cases hh : (digs UB a)[s.length]? with
    | none => decide
    | some d => exact digs_get_lt (by decide) hh
   have hy1 : y < 32768 := by
    rw [hy]; cases hh : (digs UB b)[s.length]? with
    | none => decide
    | some d => exact digs_get_lt (by decide) hh
   have hda := fs_digit (zd a) s.length (by omega)
   have hdb := fs_digit (zd b) s.length (by omega)
   unfold zd at hda hdb
   rw [List.reverse_reverse, ← hx] at hda
   rw [List.reverse_reverse, ← hy] at hdb
   have hky : -32768 < k * y ∧ k * y < 32768 := by rcases hk with rfl | rfl <;> omega
   obtain ⟨X, hX⟩ : ∃ X : Int, X = x + k * y + c := ⟨_, rfl⟩
   have hXr : -32768 ≤ X ∧ X ≤ 65536 := by omega
   refine AWp.seq ?_
   refine AWp.block ?_
   refine r_c 12 (hda) ?_
   refine c_s (hdb) ?_
   refine a_z ?_
   refine r_z 1 ?_
   refine AWp.cut (bothT a b k N s) (fun v => v.1 = (if X < 0 then X + 32768 else X) ∧ v.2 = (if X < 0 then -1 else 0)) ?_ ?_
   ·refine r_z 2 ?_
    refine AWp.cond rfl (fun h1 => ?_) (fun h1 => ?_)
    ·have hX0 : X < 0 := by rw [hX]; simpa using h1
     refine r_z 3 ?_
     refine AWp.reg (m := 1) rfl ?_
     refine a_z ?_
     refine ⟨(X + 32768, -1), ⟨by rw [if_pos hX0], by rw [if_pos hX0]⟩, ?_⟩
     simp only [bothT_mk]
     refine SEnt.to [] rfl rfl rfl ?_ (fun hs => ?_) (fun hs => ?_)
     ·repeat' (first | exact ShrL.nil | refine ShrL.cons rfl rfl rfl rfl (by first | rfl | (simp; done) | (simp [hX] <;> omega)) ?_)
     ·repeat' (first | exact CvF.nil | refine CvF.cons rfl ?_ ?_)
      all_goals (first | exact au_c | (refine Cv.loE hs ?_ (closed_v _); first | rfl | (simp [i64, u64, u32, bln, hX]; done) | (simp [i64, u64, u32, bln, hX] <;> omega)))
     ·repeat' (first | exact CvH.nil | refine CvH.cons rfl rfl rfl rfl ?_ ?_)
      all_goals (first | exact CvLL.bld rfl rfl rfl rfl rfl rfl | exact CvLL.bld0 hs | exact CvLL.clo hs (closed_bE _) | exact CvLL.clo hs (closed_dE _) | (refine CvLL.cloE hs ?_ (closed_dE _); first | (simp [dE_set, dE_append, dE_replicate, hX]; done) | (simp [dE, u32, ofV, hX]; done)) | exact CvLL.clo hs (closed_pE _) | exact CvLL.clo hs (closed_iE _) | (refine CvLL.cloE hs ?_ (closed_iE _); first | (simp [iE_set, iE_append, iE_replicate, hX]; done) | (simp [iE, i64, ofV, hX]; done)) | (refine CvLL.cloE hs ?_ (closed_pE _); first | (simp [pE_set, pE_append, hX]; done) | (simp [pE, ofV, hX]; done)) | (refine CvLL.box ?_; repeat' (first | exact CvL.nil | exact CvL.clo hs (closed_qC _) | refine CvL.cons ?_ ?_)))
      all_goals (first | exact Cv.clo hs (closed_v _) | exact Cv.ptr rfl rfl rfl | exact Cv.sl rfl rfl rfl | exact Cv.slN rfl rfl rfl | exact Cv.clo hs closed_emp | (refine Cv.clo hs ?_; first | assumption | exact closed_arrD _ | exact closed_mag _ | exact closed_v _ | exact closed_emp | exact closed_pA _ | exact closed_iA _ | exact closed_cA _ | exact closed_zZA _ | exact closed_qA _ | exact closed_mA _ | exact closed_spA _ _ | exact closed_clos closed_nil closed_nil | exact closed_bP _ | exact closed_bQ _ | exact closed_bS _ | exact closed_kA _ | exact closed_plA _ _ | exact closed_bPl _ _ | exact closed_bF | exact closed_rA _ | exact closed_rEA _ | (refine closed_clos closed_nil ?_; first | assumption | exact closed_cons (closed_bP _) closed_nil | exact closed_cons (closed_bQ _) closed_nil | exact closed_cons (closed_bPl _ _) closed_nil)) | (refine Cv.boxp hs rfl (dead_of rfl) rfl ?_; first | exact closed_qC _ | exact closed_spC _ _ | exact closed_zZ _ | exact closed_rC _ | (refine closed_cons ?_ closed_nil; first | assumption | exact closed_arrD _ | exact closed_mag _ | exact closed_v _ | exact closed_emp | exact closed_pA _ | exact closed_iA _ | exact closed_cA _ | exact closed_zZA _ | exact closed_qA _ | exact closed_mA _ | exact closed_spA _ _ | exact closed_clos closed_nil closed_nil | exact closed_bP _ | exact closed_bQ _ | exact closed_bS _ | exact closed_kA _ | exact closed_plA _ _ | exact closed_bPl _ _ | exact closed_bF | exact closed_rA _ | exact closed_rEA _ | (refine closed_clos closed_nil ?_; first | assumption | exact closed_cons (closed_bP _) closed_nil | exact closed_cons (closed_bQ _) closed_nil | exact closed_cons (closed_bPl _ _) closed_nil))) | (refine Cv.loE hs ?_ (closed_v _); first | rfl | (simp [i64, u64, u32, bln, hX]; done) | (simp [i64, u64, u32, bln, hX] <;> omega)) | (refine Cv.slE rfl rfl rfl ?_ ?_ ?_ <;> first | rfl | omega | (congr 1; omega) | (simp; done) | (simp <;> omega)) | exact Cv.emp _)
    ·have hX0 : ¬ X < 0 := by rw [hX]; simpa using h1
     refine AWp.skip ⟨(X, 0), ⟨by rw [if_neg hX0], by rw [if_neg hX0]⟩, ?_⟩
     simp only [bothT_mk]
     refine SEnt.to [] rfl rfl rfl ?_ (fun hs => ?_) (fun hs => ?_)
     ·repeat' (first | exact ShrL.nil | refine ShrL.cons rfl rfl rfl rfl (by first | rfl | (simp; done) | (simp [hX] <;> omega)) ?_)
     ·repeat' (first | exact CvF.nil | refine CvF.cons rfl ?_ ?_)
      all_goals (first | exact au_c | (refine Cv.loE hs ?_ (closed_v _); first | rfl | (simp [i64, u64, u32, bln, hX]; done) | (simp [i64, u64, u32, bln, hX] <;> omega)))
     ·repeat' (first | exact CvH.nil | refine CvH.cons rfl rfl rfl rfl ?_ ?_)
      all_goals (first | exact CvLL.bld rfl rfl rfl rfl rfl rfl | exact CvLL.bld0 hs | exact CvLL.clo hs (closed_bE _) | exact CvLL.clo hs (closed_dE _) | (refine CvLL.cloE hs ?_ (closed_dE _); first | (simp [dE_set, dE_append, dE_replicate, hX]; done) | (simp [dE, u32, ofV, hX]; done)) | exact CvLL.clo hs (closed_pE _) | exact CvLL.clo hs (closed_iE _) | (refine CvLL.cloE hs ?_ (closed_iE _); first | (simp [iE_set, iE_append, iE_replicate, hX]; done) | (simp [iE, i64, ofV, hX]; done)) | (refine CvLL.cloE hs ?_ (closed_pE _); first | (simp [pE_set, pE_append, hX]; done) | (simp [pE, ofV, hX]; done)) | (refine CvLL.box ?_; repeat' (first | exact CvL.nil | exact CvL.clo hs (closed_qC _) | refine CvL.cons ?_ ?_)))
      all_goals (first | exact Cv.clo hs (closed_v _) | exact Cv.ptr rfl rfl rfl | exact Cv.sl rfl rfl rfl | exact Cv.slN rfl rfl rfl | exact Cv.clo hs closed_emp | (refine Cv.clo hs ?_; first | assumption | exact closed_arrD _ | exact closed_mag _ | exact closed_v _ | exact closed_emp | exact closed_pA _ | exact closed_iA _ | exact closed_cA _ | exact closed_zZA _ | exact closed_qA _ | exact closed_mA _ | exact closed_spA _ _ | exact closed_clos closed_nil closed_nil | exact closed_bP _ | exact closed_bQ _ | exact closed_bS _ | exact closed_kA _ | exact closed_plA _ _ | exact closed_bPl _ _ | exact closed_bF | exact closed_rA _ | exact closed_rEA _ | (refine closed_clos closed_nil ?_; first | assumption | exact closed_cons (closed_bP _) closed_nil | exact closed_cons (closed_bQ _) closed_nil | exact closed_cons (closed_bPl _ _) closed_nil)) | (refine Cv.boxp hs rfl (dead_of rfl) rfl ?_; first | exact closed_qC _ | exact closed_spC _ _ | exact closed_zZ _ | exact closed_rC _ | (refine closed_cons ?_ closed_nil; first | assumption | exact closed_arrD _ | exact closed_mag _ | exact closed_v _ | exact closed_emp | exact closed_pA _ | exact closed_iA _ | exact closed_cA _ | exact closed_zZA _ | exact closed_qA _ | exact closed_mA _ | exact closed_spA _ _ | exact closed_clos closed_nil closed_nil | exact closed_bP _ | exact closed_bQ _ | exact closed_bS _ | exact closed_kA _ | exact closed_plA _ _ | exact closed_bPl _ _ | exact closed_bF | exact closed_rA _ | exact closed_rEA _ | (refine closed_clos closed_nil ?_; first | assumption | exact closed_cons (closed_bP _) closed_nil | exact closed_cons (closed_bQ _) closed_nil | exact closed_cons (closed_bPl _ _) closed_nil))) | (refine Cv.loE hs ?_ (closed_v _); first | rfl | (simp [i64, u64, u32, bln, hX]; done) | (simp [i64, u64, u32, bln, hX] <;> omega)) | (refine Cv.slE rfl rfl rfl ?_ ?_ ?_ <;> first | rfl | omega | (congr 1; omega) | (simp; done) | (simp <;> omega)) | exact Cv.emp _)
   rintro ⟨X1, c1⟩ ⟨hX1, hc1⟩
   simp only at hX1 hc1
   rw [bothT_mk]
   refine AWp.cut (bothT a b k N s) (fun v => v.1 = X % 32768 ∧ v.2 = X / 32768) ?_ ?_
   ·refine r_z 2 ?_
    refine AWp.cond rfl (fun h1 => ?_) (fun h1 => ?_)
    ·have h2 : 32768 ≤ X1 := by simpa using h1
     have hX1r : X1 ≤ 65536 := by rw [hX1]; split <;> omega
     refine r_z 3 ?_
     refine AWp.reg (m := 1) rfl ?_
     refine a_z ?_
     have hX0 : ¬ X < 0 := by intro h0; rw [if_pos h0] at hX1; omega
     rw [if_neg hX0] at hX1
     refine ⟨(X1 - 32768, 1), ⟨by simp only; omega, by simp only; omega⟩, ?_⟩
     simp only [bothT_mk]
     exact s_e []
    ·have h2 : X1 < 32768 := by simp at h1; omega
     refine AWp.skip ⟨(X1, c1), ⟨by rw [hX1] at h2 ⊢; simp only; split <;> rename_i h3 <;> simp only [h3, if_true, if_false] at h2 <;> omega, by rw [hX1] at h2; rw [hc1]; simp only; split <;> rename_i h3 <;> simp only [h3, if_true, if_false] at h2 <;> omega⟩, ?_⟩
     simp only [bothT_mk]
     exact s_e []
   rintro ⟨X2, c2⟩ ⟨hX2, hc2⟩
   simp only at hX2 hc2
   rw [bothT_mk]
   obtain ⟨d, hdX⟩ : ∃ d : Nat, X2 = d := ⟨X2.toNat, by omega⟩
   have hd1 : d < 32768 := by omega
   subst hdX
   have hlen : (List.replicate (N - s.length) 0 ++ s.reverse).length = N := by simp; omega
   have hrep : List.replicate (N - s.length) 0 = List.replicate (N - (s.length + 1)) 0 ++ [0] := by
    rw [show N - s.length = (N - (s.length + 1)) + 1 by omega, List.replicate_succ']
   have hget : (iE (List.replicate (N - s.length) 0 ++ s.reverse))[0 + ((N : Int) - 1 - s.length).toNat]? = some [i64 0] := by
    rw [show 0 + ((N : Int) - 1 - s.length).toNat = N - (s.length + 1) by omega]
    refine iE_get ?_
    rw [hrep, List.append_assoc]
    exact get_mid _ _ _ _ (by simp)
   have hset : (iE (List.replicate (N - s.length) 0 ++ s.reverse)).set (0 + ((N : Int) - 1 - s.length).toNat) [i64 d] = iE (List.replicate (N - (s ++ [d]).length) 0 ++ (s ++ [d]).reverse) := by
    rw [show 0 + ((N : Int) - 1 - s.length).toNat = N - (s.length + 1) by omega, iE_set, hrep, List.append_assoc]
    simp only [List.singleton_append, List.length_append, List.length_cons, List.length_nil, List.reverse_append, List.reverse_cons, List.reverse_nil, List.nil_append]
    rw [set_mid _ _ _ _ _ (by simp)]
    simp
   refine AWp.reg (m := 8) rfl ?_
   refine a_7 ?_
   refine o_1n (.store rfl rfl hget rfl rfl rfl ts_3.h (nle rfl)) ?_
   refine AR.nil ?_
   refine AWp.reg (m := 3) rfl ?_
   refine a_z ?_
   refine ⟨(s ++ [d], c2), by simp; omega, ⟨by simp; omega, ?_, by simp only; omega, ?_⟩, ?_⟩
   ·intro e he
    rcases List.mem_append.1 he with he | he
    ·exact hd e he
    ·simp at he; subst he; exact hd1
   ·simp only [List.length_append, List.length_cons, List.length_nil, Nat.zero_add]
    rw [ofD_snoc, ofD_takeD_succ, ofD_takeD_succ, ← hx, ← hy, Nat.pow_succ]
    obtain ⟨B, hB⟩ : ∃ B, B = UB ^ s.length := ⟨_, rfl⟩
    rw [← hB] at hval ⊢
    have hXX : X = 32768 * c2 + d := by omega
    have hBX : (B : Int) * X = B * x + k * (B * y) + B * c := by
     rw [hX, Int.mul_add, Int.mul_add, Int.mul_left_comm]
    rw [hXX, Int.mul_add] at hBX
    have e1 : ((B * 32768 : Nat) : Int) * c2 = B * (32768 * c2) := by rw [Int.natCast_mul, Int.mul_assoc]; rfl
    have e2 : k * ((ofD UB ((digs UB b).take s.length) + B * y : Nat) : Int) = k * (ofD UB ((digs UB b).take s.length) : Nat) + k * (B * y) := by
     rw [Int.natCast_add, Int.mul_add, Int.natCast_mul]
    show ((ofD UB s + B * d : Nat) : Int) + ((B * 32768 : Nat) : Int) * c2 = _
    rw [e1, e2, Int.natCast_add, Int.natCast_add, Int.natCast_mul, Int.natCast_mul]
    omega
   ·simp only [bothS_mk]
    refine SEnt.to [] rfl rfl rfl ?_ (fun hs => au_f) (fun hs => ?_)
    ·repeat' (first | exact ShrL.nil | refine ShrL.cons rfl rfl rfl rfl (by first | (exact congrArg List.length hset) | rfl | (simp; done) | (simp <;> omega)) ?_)
    ·repeat' (first | exact CvH.nil | refine CvH.cons rfl rfl rfl rfl ?_ ?_)
     all_goals (first | (exact CvLL.cloE hs hset (closed_iE _)) | exact au_e)
  ·have hge : s.length = N := by simp at h; omega
   refine AWp.exit ⟨s, ⟨hge, hd, ?_⟩, ?_⟩
   ·rw [hge, List.take_of_length_le (by omega), List.take_of_length_le (by omega), ofD_digs (by decide), ofD_digs (by decide), ← hr] at hval
    have hsl := ofD_lt hd
    rw [hge] at hsl
    obtain ⟨B, hB⟩ : ∃ B, B = UB ^ N := ⟨_, rfl⟩
    rw [← hB] at hval hsl hrN
    rcases hc with rfl | rfl | rfl <;> omega
   ·have e : iE (List.replicate (N - s.length) 0 ++ s.reverse) = iE s.reverse := by rw [hge]; simp
    refine SEnt.to [] rfl rfl rfl ?_ (fun hs => au_f) (fun hs => ?_)
    ·repeat' (first | exact ShrL.nil | refine ShrL.cons rfl rfl rfl rfl (by first | (exact congrArg List.length e) | rfl | (simp; done) | (simp <;> omega)) ?_)
    ·repeat' (first | exact CvH.nil | refine CvH.cons rfl rfl rfl rfl ?_ ?_)
     all_goals (first | (exact CvLL.cloE hs e (closed_iE _)) | exact au_e)
 rintro s ⟨hs, hd, hval⟩
 have hd' : ∀ d ∈ s.reverse, d < UB := fun d h => hd d (List.mem_reverse.1 h)
 have hst := fs_strip s.reverse (by simp; omega)
 rw [stripD_eq hd', show hv s.reverse = r by unfold hv; rw [List.reverse_reverse]; assumption] at hst
 have hfull : ((iE s.reverse).drop 0).take N = iE s.reverse := by rw [List.drop_zero, List.take_of_length_le (by simp; omega)]
 refine s_r 3 ?_
 refine a_1 ?_
 refine o_1 (.callS1 rfl rfl rfl (.shut rfl (by first | exact nle rfl | (simp; done) | (simp; omega)) (.nil)) rfl ((by rw [hfull]; exact hst))) ?_
 refine a_z ?_
 refine AWp.ret ?_
 refine Fin.tmpE rfl ?_ ?_
 ·rfl
 ·exact closed_iA _
def zl (z : Int) : Prop := bl z.natAbs ≤ 8796093022208
theorem zl_len {z : Int} (h : zl z) : (zd z.natAbs).length ≤ 17592186044416 := by
 have := digs_length (b := UB) (by decide) z.natAbs
 rw [zd_length]; unfold zl at h; omega
def shortS (l : List Nat) : Nat → AState
 | i => ⟨[(0, .arr (iE l)), (3, i64 (hv (l.take i))), (4, i64 i)], [], 1, 19⟩
theorem shortS_mk (l : List Nat) (i : Nat) : shortS l i = ⟨[(0, .arr (iE l)), (3, i64 (hv (l.take i))), (4, i64 i)], [], 1, 19⟩ := rfl
theorem hv_take_lt {l : List Nat} (hd : ∀ d ∈ l, d < UB) (hl : l.length ≤ 4) (i : Nat) : hv (l.take i) < 1152921504606846976 := by
 have h1 := hv_lt (l := l.take i) fun d h => hd d (List.mem_of_mem_take h)
 have h2 : (l.take i).length ≤ 4 := by rw [List.length_take]; omega
 exact Nat.lt_of_lt_of_le h1 (Nat.pow_le_pow_right (by decide) h2)
theorem fs_short (l : List Nat) (hl : l.length ≤ 4) (hd : ∀ d ∈ l, d < UB) : FSpec Tryz.prog 258 [.arr (iE l)] (i64 (hv l)) := by
 refine FSpec.enter Tryz.func258 rfl (by kernel_rfl) rfl rfl rfl ?_ rfl ?_
 ·exact closed_cons (closed_iA l) closed_nil
 refine r_z 1 ?_
 refine r_z 1 ?_
 refine AWp.seq ?_
 refine r_z 1 ?_
 refine AWp.cutT (shortS l) (fun i => i = l.length) ?_ ?_
 ·refine AWp.block ?_
  refine AWp.loopS (shortS l) (fun i => l.length - i) (fun i => i ≤ l.length) 0 (Nat.zero_le _) ?_ ?_
  ·simp only [shortS_mk]
   exact s_e []
  intro i hi
  rw [shortS_mk]
  refine AWp.seq ?_
  refine r_z 4 ?_
  refine AWp.cond rfl (fun h => ?_) (fun h => ?_)
  ·have hlt : i < l.length := by simpa using h
   obtain ⟨d, hdi⟩ : ∃ d, l[i]? = some d := ⟨_, List.getElem?_eq_getElem hlt⟩
   have hd1 := hd d (List.mem_of_getElem? hdi)
   have hdi' : (iE l)[((i : Nat) : Int).toNat]? = some [i64 d] := iE_get hdi
   have hsn := hv_snoc (l.take i) d
   rw [← take_snoc hdi] at hsn
   have hb := hv_take_lt hd hl (i + 1)
   obtain ⟨V, hV⟩ : ∃ V, V = hv (l.take i) := ⟨_, rfl⟩
   rw [← hV] at hsn ⊢
   have hsn' : hv (l.take (i + 1)) = V * 32768 + d := hsn
   refine AWp.skip ?_
   refine AWp.seq ?_
   refine AWp.block ?_
   refine AWp.reg (m := 8) rfl ?_
   refine a_4 ?_
   first | refine AR.op0 (.index_l rfl rfl (by omega) (by omega) te_71.h) rfl rfl ?_ | refine AR.op0 (.index_a rfl rfl (by omega) hdi' rfl te_71.h) rfl rfl ?_
   first | refine AR.op0 (.load_l1 rfl rfl hdi' tg_3.h rfl) rfl rfl ?_ | refine AR.op0 (.load_a1 rfl hdi' tg_3.h rfl) rfl rfl ?_
   refine a_z ?_
   refine AWp.reg (m := 3) rfl ?_
   refine a_z ?_
   refine ⟨i + 1, by omega, hlt, ?_⟩
   simp only [shortS_mk]
   refine SEnt.to [] rfl rfl rfl ?_ (fun hs => ?_) (fun hs => ?_)
   ·repeat' (first | exact ShrL.nil | refine ShrL.cons rfl rfl rfl rfl (by first | rfl | (simp; done) | (simp [hsn'] <;> omega)) ?_)
   ·repeat' (first | exact CvF.nil | refine CvF.cons rfl ?_ ?_)
    all_goals (first | exact au_c | (refine Cv.loE hs ?_ (closed_v _); first | rfl | (simp [i64, u64, u32, bln, hsn']; done) | (simp [i64, u64, u32, bln, hsn'] <;> omega)))
   ·repeat' (first | exact CvH.nil | refine CvH.cons rfl rfl rfl rfl ?_ ?_)
    all_goals (first | exact CvLL.bld rfl rfl rfl rfl rfl rfl | exact CvLL.bld0 hs | exact CvLL.clo hs (closed_bE _) | exact CvLL.clo hs (closed_dE _) | (refine CvLL.cloE hs ?_ (closed_dE _); first | (simp [dE_set, dE_append, dE_replicate, hsn']; done) | (simp [dE, u32, ofV, hsn']; done)) | exact CvLL.clo hs (closed_pE _) | exact CvLL.clo hs (closed_iE _) | (refine CvLL.cloE hs ?_ (closed_iE _); first | (simp [iE_set, iE_append, iE_replicate, hsn']; done) | (simp [iE, i64, ofV, hsn']; done)) | (refine CvLL.cloE hs ?_ (closed_pE _); first | (simp [pE_set, pE_append, hsn']; done) | (simp [pE, ofV, hsn']; done)) | (refine CvLL.box ?_; repeat' (first | exact CvL.nil | exact CvL.clo hs (closed_qC _) | refine CvL.cons ?_ ?_)))
    all_goals (first | exact Cv.clo hs (closed_v _) | exact Cv.ptr rfl rfl rfl | exact Cv.sl rfl rfl rfl | exact Cv.slN rfl rfl rfl | exact Cv.clo hs closed_emp | (refine Cv.clo hs ?_; first | assumption | exact closed_arrD _ | exact closed_mag _ | exact closed_v _ | exact closed_emp | exact closed_pA _ | exact closed_iA _ | exact closed_cA _ | exact closed_zZA _ | exact closed_qA _ | exact closed_mA _ | exact closed_spA _ _ | exact closed_clos closed_nil closed_nil | exact closed_bP _ | exact closed_bQ _ | exact closed_bS _ | exact closed_kA _ | exact closed_plA _ _ | exact closed_bPl _ _ | exact closed_bF | exact closed_rA _ | exact closed_rEA _ | (refine closed_clos closed_nil ?_; first | assumption | exact closed_cons (closed_bP _) closed_nil | exact closed_cons (closed_bQ _) closed_nil | exact closed_cons (closed_bPl _ _) closed_nil)) | (refine Cv.boxp hs rfl (dead_of rfl) rfl ?_; first | exact closed_qC _ | exact closed_spC _ _ | exact closed_zZ _ | exact closed_rC _ | (refine closed_cons ?_ closed_nil; first | assumption | exact closed_arrD _ | exact closed_mag _ | exact closed_v _ | exact closed_emp | exact closed_pA _ | exact closed_iA _ | exact closed_cA _ | exact closed_zZA _ | exact closed_qA _ | exact closed_mA _ | exact closed_spA _ _ | exact closed_clos closed_nil closed_nil | exact closed_bP _ | exact closed_bQ _ | exact closed_bS _ | exact closed_kA _ | exact closed_plA _ _ | exact closed_bPl _ _ | exact closed_bF | exact closed_rA _ | exact closed_rEA _ | (refine closed_clos closed_nil ?_; first | assumption | exact closed_cons (closed_bP _) closed_nil | exact closed_cons (closed_bQ _) closed_nil | exact closed_cons (closed_bPl _ _) closed_nil))) | (refine Cv.loE hs ?_ (closed_v _); first | rfl | (simp [i64, u64, u32, bln, hsn']; done) | (simp [i64, u64, u32, bln, hsn'] <;> omega)) | (refine Cv.slE rfl rfl rfl ?_ ?_ ?_ <;> first | rfl | omega | (congr 1; omega) | (simp; done) | (simp <;> omega)) | exact Cv.emp _)
  ·have hge : i = l.length := by simp at h; omega
   refine AWp.exit ⟨i, hge, ?_⟩
   exact s_e []
 rintro i rfl
 rw [shortS_mk, List.take_length]
 refine r_z 2 ?_
 refine AWp.ret (Fin.tmpE rfl rfl (closed_v _))
def zintS (s : Int) : Int × List Nat → AState
 | (n, l) => ⟨[(0, i64 n), (2, .lptr 1 0 0), (3, i64 s), (4, .arr (iE l))], [(1, some ⟨73, 2, [[i64 0, .emp]]⟩)], 2, 25⟩
theorem zintS_mk (s : Int) (n : Int) (l : List Nat) : zintS s (n, l) = ⟨[(0, i64 n), (2, .lptr 1 0 0), (3, i64 s), (4, .arr (iE l))], [(1, some ⟨73, 2, [[i64 0, .emp]]⟩)], 2, 25⟩ := rfl
theorem fs_ZInt (n : Int) (h : -9223372036854775808 ≤ n ∧ n ≤ 9223372036854775807) : FSpec Tryz.prog 127 [i64 n] (.agg (zZ n)) := by
 obtain ⟨s, hs⟩ : ∃ s : Int, s = if n < 0 then -1 else 1 := ⟨_, rfl⟩
 have hsz : n ≠ 0 → s = sgZ n := by
  intro h0; rw [hs]; unfold sgZ; rw [if_neg h0]
 refine FSpec.enter Tryz.func127 rfl (by kernel_rfl) rfl rfl rfl ?_ rfl ?_
 ·exact closed_cons (closed_v _) closed_nil
 refine r_z 1 ?_
 refine r_z 1 ?_
 refine AWp.cut (fun _ : Unit => ⟨[(0, i64 n), (2, .lptr 1 0 0), (3, i64 s)], [(1, some ⟨73, 2, [[i64 0, .emp]]⟩)], 2, 25⟩) (fun _ => True) ?_ ?_
 ·refine r_z 2 ?_
  refine AWp.cond rfl (fun h1 => ?_) (fun h1 => ?_)
  ·have hn : n < 0 := by simpa using h1
   rw [hs, if_pos hn]
   refine AWp.reg (m := 1) rfl ?_
   refine a_z ?_
   refine ⟨(), trivial, ?_⟩
   exact s_e []
  ·have hn : ¬ n < 0 := by simpa using h1
   rw [hs, if_neg hn]
   refine AWp.skip ⟨(), trivial, ?_⟩
   exact s_e []
 rintro _ _
 refine r_z 1 ?_
 refine AWp.cut (fun l : List Nat => zintS s (0, l)) (fun l => l.length ≤ 10 ∧ (∀ d ∈ l, d < UB) ∧ hv l = n.natAbs) ?_ ?_
 ·refine AWp.block ?_
  refine AWp.loopS (zintS s) (fun x => x.1.natAbs) (fun x => (-9223372036854775808 ≤ x.1 ∧ x.1 ≤ 9223372036854775807) ∧ (∀ d ∈ x.2, d < UB) ∧ n.natAbs = hv x.2 + UB ^ x.2.length * x.1.natAbs ∧ x.2.length ≤ 5) (n, []) ⟨h, by simp, by simp [hv_nil], by simp⟩ ?_ ?_
  ·simp only [zintS_mk]
   exact s_e [(1, 2)]
  rintro ⟨m, l⟩ ⟨hm, hd, hval, hl6⟩
  simp only at hm hd hval hl6
  rw [zintS_mk]
  refine AWp.seq ?_
  refine r_z 2 ?_
  refine AWp.cond rfl (fun h => ?_) (fun h => ?_)
  ·have hm0 : m ≠ 0 := by simpa using h
   have hl : l.length ≤ 4 := by
    refine Nat.le_of_not_lt fun h5 => ?_
    have h6 : UB ^ 5 ≤ UB ^ l.length := Nat.pow_le_pow_right (by decide) h5
    have h7 : UB ^ l.length * 1 ≤ UB ^ l.length * m.natAbs := Nat.mul_le_mul_left _ (by omega)
    have h8 : UB ^ 5 = 37778931862957161709568 := by decide
    omega
   obtain ⟨d, hdm⟩ : ∃ d, d = m.natAbs % 32768 := ⟨_, rfl⟩
   have hd1 : d < 32768 := by omega
   have hr : (m.tmod 32768).natAbs = d := by rw [Int.natAbs_tmod, hdm]; rfl
   have hq : (m.tdiv 32768).natAbs = m.natAbs / 32768 := by rw [Int.natAbs_tdiv]; rfl
   have hlq : m.natAbs / 32768 < m.natAbs := Nat.div_lt_self (by omega) (by decide)
   have hdm2 := Nat.div_add_mod m.natAbs 32768
   refine AWp.skip ?_
   refine AWp.block ?_
   refine s_r 3 ?_
   refine a_1 ?_
   refine o_0 (.bin rfl rfl (bI64_tmod (by decide))) ?_
   refine a_z ?_
   refine AWp.cut (fun _ : Unit => ⟨[(0, i64 m), (2, .lptr 1 0 0), (3, i64 s), (4, .arr (iE l)), (5, i64 d)], [(1, some ⟨73, 2, [[i64 0, .emp]]⟩)], 2, 25⟩) (fun _ => True) ?_ ?_
   ·refine r_z 2 ?_
    refine AWp.cond rfl (fun h1 => ?_) (fun h1 => ?_)
    ·have hneg : m.tmod 32768 < 0 := by simpa using h1
     refine AWp.reg (m := 3) rfl ?_
     refine a_z ?_
     have e : -m.tmod 32768 = d := by omega
     refine ⟨(), trivial, ?_⟩
     refine SEnt.to [] rfl rfl rfl au_r (fun hs => ?_) (fun hs => ?_)
     ·repeat' (first | exact CvF.nil | refine CvF.cons rfl ?_ ?_)
      all_goals (first | (exact Cv.loE hs (congrArg (fun z => AV.v (.int .i64 z)) e) (closed_v _)) | exact au_c)
     ·repeat' (first | exact CvH.nil | refine CvH.cons rfl rfl rfl rfl ?_ ?_)
      all_goals (first | exact au_e | (refine CvLL.box ?_; repeat' (first | exact CvL.nil | refine CvL.cons ?_ ?_)))
      all_goals (first | (exact Cv.loE hs (congrArg (fun z => AV.v (.int .i64 z)) e) (closed_v _)) | exact au_c)
    ·have hneg : ¬ m.tmod 32768 < 0 := by simpa using h1
     have e : m.tmod 32768 = d := by omega
     refine AWp.skip ⟨(), trivial, ?_⟩
     refine SEnt.to [] rfl rfl rfl au_r (fun hs => ?_) (fun hs => ?_)
     ·repeat' (first | exact CvF.nil | refine CvF.cons rfl ?_ ?_)
      all_goals (first | (exact Cv.loE hs (congrArg (fun z => AV.v (.int .i64 z)) e) (closed_v _)) | exact au_c)
     ·repeat' (first | exact CvH.nil | refine CvH.cons rfl rfl rfl rfl ?_ ?_)
      all_goals (first | exact au_e | (refine CvLL.box ?_; repeat' (first | exact CvL.nil | refine CvL.cons ?_ ?_)))
      all_goals (first | (exact Cv.loE hs (congrArg (fun z => AV.v (.int .i64 z)) e) (closed_v _)) | exact au_c)
   rintro _ _
   refine s_r 5 ?_
   refine a_3 ?_
   refine o_2 (.append_l rfl rfl rfl te_71.h rfl rfl rfl rfl rfl (by first | rfl | assumption | (simp; done) | (simp; omega) | omega) (by first | exact dE_one _ | exact iE_one _ | exact pE_one _ | exact cE_one _ | exact rE_one _ | rfl | simp) (by first | rfl | exact dE_one _ | exact iE_one _ | exact pE_one _ | exact cE_one _ | exact rE_one _ | simp) rfl (.arr (iE_len1 _)) tz_3.h rfl tb_3.h (by first | rfl | assumption | (simp; done) | (simp; omega) | omega) (by first | (simp [maxLen]; done) | (simp [maxLen]; omega))) ?_
   refine a_z ?_
   refine AWp.reg (m := 3) rfl ?_
   refine a_1 ?_
   refine o_0 (.bin rfl rfl (bI64_tdiv (by decide) (by omega))) ?_
   refine a_z ?_
   refine ⟨(m.tdiv 32768, d :: l), by simp only; omega, ⟨by simp only; omega, ?_, ?_, by simp; omega⟩, ?_⟩
   ·intro e he
    rcases List.mem_cons.1 he with rfl | he
    ·exact hd1
    ·exact hd e he
   ·simp only [hv_cons, List.length_cons]
    rw [hval, hq, Nat.pow_succ, Nat.mul_assoc, Nat.add_assoc, ← Nat.mul_add]
    congr 2
    show m.natAbs = d + 32768 * (m.natAbs / 32768)
    omega
   ·simp only [zintS_mk]
    have e : [[i64 d]] ++ iE l = iE (d :: l) := rfl
    refine SEnt.to [] rfl rfl rfl au_r (fun hs => ?_) (fun hs => ?_)
    ·repeat' (first | exact CvF.nil | refine CvF.cons rfl ?_ ?_)
     all_goals (first | (exact Cv.sealE hs rfl (dead_of rfl) e (by simp; omega) (closed_iE _)) | exact au_c)
    ·repeat' (first | exact CvH.nil | refine CvH.cons rfl rfl rfl rfl ?_ ?_)
     all_goals (first | exact au_e | (refine CvLL.box ?_; repeat' (first | exact CvL.nil | refine CvL.cons ?_ ?_)))
     all_goals (first | (exact Cv.sealE hs rfl (dead_of rfl) e (by simp; omega) (closed_iE _)) | exact au_c)
  ·have hm0 : m = 0 := by simpa using h
   subst hm0
   refine AWp.exit ⟨l, ⟨by omega, hd, by simpa using hval.symm⟩, ?_⟩
   simp only [zintS_mk]
   exact s_e []
 rintro l ⟨hl, hd, hval⟩
 rw [zintS_mk]
 refine r_c 4 (fs_with s l n (by omega) hd hval hsz) ?_
 refine a_z ?_
 refine AWp.ret ?_
 refine Fin.cellE rfl rfl rfl tg_73.h ts_73.h (nle rfl) ?_ ?_
 ·rfl
 ·exact closed_zZA _
theorem rev_get {o : List Nat} {j d : Nat} (h : o[j]? = some d) : o.reverse[o.length - 1 - j]? = some d := by
 have hj : j < o.length := (List.getElem?_eq_some_iff.1 h).1
 rw [List.getElem?_reverse (by omega), show o.length - 1 - (o.length - 1 - j) = j by omega]; exact h
theorem rev_set {o : List Nat} {j v : Nat} (hj : j < o.length) : o.reverse.set (o.length - 1 - j) v = (o.set j v).reverse := by
 apply List.ext_getElem?
 intro i
 by_cases hi : i < o.length
 ·rw [List.getElem?_reverse (by simpa using hi), List.getElem?_set, List.getElem?_set, List.length_reverse, List.length_set]
  by_cases h : o.length - 1 - j = i
  ·rw [if_pos h, if_pos (by omega), if_pos (by omega), if_pos (by omega)]
  ·rw [if_neg h, if_neg (by omega), List.getElem?_reverse hi]
 ·rw [List.getElem?_eq_none (by simpa using hi), List.getElem?_eq_none (by simpa using hi)]
def zmS (x : Int) (y : Int) : List Nat × Nat → AState
 | (o, i) => ⟨[(2, .lptr 1 0 0), (3, .lptr 2 0 0), (4, .lptr 3 0 0), (5, .lsl 4 0 ((zd x.natAbs).length + (zd y.natAbs).length) (some ((zd x.natAbs).length + (zd y.natAbs).length)) 1), (6, i64 (((zd x.natAbs).length : Int) - 1 - i))],
  [(1, some ⟨73, 2, [zZ x]⟩), (2, some ⟨73, 2, [zZ y]⟩), (3, some ⟨73, 2, [[i64 0, .emp]]⟩), (4, some ⟨3, 1, iE o.reverse⟩)], 5, 76⟩
theorem zmS_mk (x : Int) (y : Int) (o : List Nat) (i : Nat) : zmS x y (o, i) = ⟨[(2, .lptr 1 0 0), (3, .lptr 2 0 0), (4, .lptr 3 0 0), (5, .lsl 4 0 ((zd x.natAbs).length + (zd y.natAbs).length) (some ((zd x.natAbs).length + (zd y.natAbs).length)) 1), (6, i64 (((zd x.natAbs).length : Int) - 1 - i))],
   [(1, some ⟨73, 2, [zZ x]⟩), (2, some ⟨73, 2, [zZ y]⟩), (3, some ⟨73, 2, [[i64 0, .emp]]⟩), (4, some ⟨3, 1, iE o.reverse⟩)], 5, 76⟩ := rfl
def zmT (x : Int) (y : Int) (i : Nat) : List Nat × Nat × Nat → AState
 | (o, k, c) => ⟨[(2, .lptr 1 0 0), (3, .lptr 2 0 0), (4, .lptr 3 0 0), (5, .lsl 4 0 ((zd x.natAbs).length + (zd y.natAbs).length) (some ((zd x.natAbs).length + (zd y.natAbs).length)) 1), (6, i64 (((zd x.natAbs).length : Int) - 1 - i)), (7, i64 c), (8, i64 (((zd y.natAbs).length : Int) - 1 - k))],
  [(1, some ⟨73, 2, [zZ x]⟩), (2, some ⟨73, 2, [zZ y]⟩), (3, some ⟨73, 2, [[i64 0, .emp]]⟩), (4, some ⟨3, 1, iE o.reverse⟩)], 5, 76⟩
theorem zmT_mk (x : Int) (y : Int) (i : Nat) (o : List Nat) (k : Nat) (c : Nat) : zmT x y i (o, k, c) = ⟨[(2, .lptr 1 0 0), (3, .lptr 2 0 0), (4, .lptr 3 0 0), (5, .lsl 4 0 ((zd x.natAbs).length + (zd y.natAbs).length) (some ((zd x.natAbs).length + (zd y.natAbs).length)) 1), (6, i64 (((zd x.natAbs).length : Int) - 1 - i)), (7, i64 c), (8, i64 (((zd y.natAbs).length : Int) - 1 - k))],
   [(1, some ⟨73, 2, [zZ x]⟩), (2, some ⟨73, 2, [zZ y]⟩), (3, some ⟨73, 2, [[i64 0, .emp]]⟩), (4, some ⟨3, 1, iE o.reverse⟩)], 5, 76⟩ := rfl
structure ZmI (a b : Nat) (x : List Nat × Nat) : Prop where
 len : x.1.length = (digs UB a).length + (digs UB b).length
 le : x.2 ≤ (digs UB a).length
 dig : ∀ d ∈ x.1, d < UB
 val : ofD UB x.1 = ofD UB ((digs UB a).take x.2) * b
 zer : ∀ j, x.2 + (digs UB b).length ≤ j → j < x.1.length → x.1[j]? = some 0
structure ZmJ (a b i v : Nat) (x : List Nat × Nat × Nat) : Prop where
 len : x.1.length = (digs UB a).length + (digs UB b).length
 le : x.2.1 ≤ (digs UB b).length
 dig : ∀ d ∈ x.1, d < UB
 car : x.2.2 < UB
 val : ofD UB x.1 + UB ^ (i + x.2.1) * x.2.2 = ofD UB ((digs UB a).take i) * b + UB ^ i * v * ofD UB ((digs UB b).take x.2.1)
 zer : ∀ j, i + (digs UB b).length ≤ j → j < x.1.length → x.1[j]? = some 0
theorem sgZ_mul (x y : Int) : sgZ (x * y) = sgZ x * sgZ y := by
 rcases sgZ_cases x with ⟨a, b⟩ | ⟨a, b⟩ | ⟨a, b⟩ <;> rcases sgZ_cases y with ⟨c, d⟩ | ⟨c, d⟩ | ⟨c, d⟩ <;> rw [a, c] <;> rcases sgZ_cases (x * y) with ⟨e, f⟩ | ⟨e, f⟩ | ⟨e, f⟩ <;> rw [e] <;> first | rfl | (exfalso; subst_vars; simp at f; done) | (exfalso; have := Int.mul_pos_of_neg_of_neg b d; omega) | (exfalso; have := Int.mul_neg_of_neg_of_pos b d; omega) | (exfalso; have := Int.mul_neg_of_pos_of_neg b d; omega) | (exfalso; have := Int.mul_pos b d; omega)
theorem fs_ZMul (x y : Int) (hx : zl x) (hy : zl y) : FSpec Tryz.prog 166 [.agg (zZ x), .agg (zZ y)] (.agg (zZ (x * y))) := by
 have hlx := zl_len hx
 have hly := zl_len hy
 have hzx := zd_length x.natAbs
 have hzy := zd_length y.natAbs
 obtain ⟨a, ha⟩ : ∃ a, a = x.natAbs := ⟨_, rfl⟩
 obtain ⟨b, hb⟩ : ∃ b, b = y.natAbs := ⟨_, rfl⟩
 have va := ofD_digs (b := UB) (by decide) a
 have vb := ofD_digs (b := UB) (by decide) b
 have hss : -9223372036854775808 ≤ sgZ x * sgZ y ∧ sgZ x * sgZ y ≤ 9223372036854775807 := by
  rcases sgZ_cases x with ⟨h, _⟩ | ⟨h, _⟩ | ⟨h, _⟩ <;> rcases sgZ_cases y with ⟨h', _⟩ | ⟨h', _⟩ | ⟨h', _⟩ <;> rw [h, h'] <;> decide
 refine FSpec.enter Tryz.func166 rfl (by kernel_rfl) rfl rfl rfl ?_ rfl ?_
 ·exact closed_cons (closed_zZA x) (closed_cons (closed_zZA y) closed_nil)
 subst ha hb
 refine r_z 3 ?_
 refine r_z 9 ?_
 refine AWp.seq ?_
 refine r_z 5 ?_
 refine AWp.cutT (zmS x y) (fun v => ZmI x.natAbs y.natAbs v ∧ v.2 = (digs UB x.natAbs).length) ?_ ?_
 ·refine AWp.block ?_
  refine AWp.loopS (zmS x y) (fun v => (digs UB x.natAbs).length - v.2) (ZmI x.natAbs y.natAbs) (List.replicate ((digs UB x.natAbs).length + (digs UB y.natAbs).length) 0, 0) ⟨by simp, by simp, ?_, by simp [ofD_zeros, ofD], ?_⟩ ?_ ?_
  ·intro d hd; simp at hd; rw [hd.2]; decide
  ·intro j _ hj; simp at hj; simp [hj]
  ·simp only [zmS_mk]
   refine SEnt.to [(1, 2), (2, 3), (3, 4), (4, 5)] rfl rfl rfl ?_ (fun hs => ?_) (fun hs => ?_)
   ·repeat' (first | exact ShrL.nil | refine ShrL.cons rfl rfl rfl rfl (by first | rfl | (simp; done) | (simp [hzx, hzy] <;> omega)) ?_)
   ·repeat' (first | exact CvF.nil | refine CvF.cons rfl ?_ ?_)
    all_goals (first | exact au_c | (refine Cv.loE hs ?_ (closed_v _); first | rfl | (simp [i64, u64, u32, bln, hzx, hzy]; done) | (simp [i64, u64, u32, bln, hzx, hzy] <;> omega)))
   ·repeat' (first | exact CvH.nil | refine CvH.cons rfl rfl rfl rfl ?_ ?_)
    all_goals (first | exact CvLL.bld rfl rfl rfl rfl rfl rfl | exact CvLL.bld0 hs | exact CvLL.clo hs (closed_bE _) | exact CvLL.clo hs (closed_dE _) | (refine CvLL.cloE hs ?_ (closed_dE _); first | (simp [dE_set, dE_append, dE_replicate, hzx, hzy]; done) | (simp [dE, u32, ofV, hzx, hzy]; done)) | exact CvLL.clo hs (closed_pE _) | exact CvLL.clo hs (closed_iE _) | (refine CvLL.cloE hs ?_ (closed_iE _); first | (simp [iE_set, iE_append, iE_replicate, hzx, hzy]; done) | (simp [iE, i64, ofV, hzx, hzy]; done)) | (refine CvLL.cloE hs ?_ (closed_pE _); first | (simp [pE_set, pE_append, hzx, hzy]; done) | (simp [pE, ofV, hzx, hzy]; done)) | (refine CvLL.box ?_; repeat' (first | exact CvL.nil | exact CvL.clo hs (closed_qC _) | refine CvL.cons ?_ ?_)))
    all_goals (first | exact Cv.clo hs (closed_v _) | exact Cv.ptr rfl rfl rfl | exact Cv.sl rfl rfl rfl | exact Cv.slN rfl rfl rfl | exact Cv.clo hs closed_emp | (refine Cv.clo hs ?_; first | assumption | exact closed_arrD _ | exact closed_mag _ | exact closed_v _ | exact closed_emp | exact closed_pA _ | exact closed_iA _ | exact closed_cA _ | exact closed_zZA _ | exact closed_qA _ | exact closed_mA _ | exact closed_spA _ _ | exact closed_clos closed_nil closed_nil | exact closed_bP _ | exact closed_bQ _ | exact closed_bS _ | exact closed_kA _ | exact closed_plA _ _ | exact closed_bPl _ _ | exact closed_bF | exact closed_rA _ | exact closed_rEA _ | (refine closed_clos closed_nil ?_; first | assumption | exact closed_cons (closed_bP _) closed_nil | exact closed_cons (closed_bQ _) closed_nil | exact closed_cons (closed_bPl _ _) closed_nil)) | (refine Cv.boxp hs rfl (dead_of rfl) rfl ?_; first | exact closed_qC _ | exact closed_spC _ _ | exact closed_zZ _ | exact closed_rC _ | (refine closed_cons ?_ closed_nil; first | assumption | exact closed_arrD _ | exact closed_mag _ | exact closed_v _ | exact closed_emp | exact closed_pA _ | exact closed_iA _ | exact closed_cA _ | exact closed_zZA _ | exact closed_qA _ | exact closed_mA _ | exact closed_spA _ _ | exact closed_clos closed_nil closed_nil | exact closed_bP _ | exact closed_bQ _ | exact closed_bS _ | exact closed_kA _ | exact closed_plA _ _ | exact closed_bPl _ _ | exact closed_bF | exact closed_rA _ | exact closed_rEA _ | (refine closed_clos closed_nil ?_; first | assumption | exact closed_cons (closed_bP _) closed_nil | exact closed_cons (closed_bQ _) closed_nil | exact closed_cons (closed_bPl _ _) closed_nil))) | (refine Cv.loE hs ?_ (closed_v _); first | rfl | (simp [i64, u64, u32, bln, hzx, hzy]; done) | (simp [i64, u64, u32, bln, hzx, hzy] <;> omega)) | (refine Cv.slE rfl rfl rfl ?_ ?_ ?_ <;> first | rfl | omega | (congr 1; omega) | (simp; done) | (simp <;> omega)) | exact Cv.emp _)
  rintro ⟨o, i⟩ ⟨hlen, hle, hdig, hval, hzer⟩
  simp only at hlen hle hdig hval hzer
  rw [zmS_mk]
  refine AWp.seq ?_
  refine r_z 2 ?_
  refine AWp.cond rfl (fun h => ?_) (fun h => ?_)
  ·have hlt : i < (digs UB x.natAbs).length := by have := of_decide_eq_true h; omega
   obtain ⟨u, hu⟩ : ∃ u, (digs UB x.natAbs)[i]? = some u := ⟨_, List.getElem?_eq_getElem hlt⟩
   have hu1 : u < 32768 := digs_get_lt (by decide) hu
   have hu' : (iE (zd x.natAbs))[(((zd x.natAbs).length : Int) - 1 - i).toNat]? = some [i64 u] := by
    rw [show (((zd x.natAbs).length : Int) - 1 - i).toNat = (digs UB x.natAbs).length - 1 - i by omega]; exact iE_get (zd_get hu)
   refine AWp.skip ?_
   refine AWp.seq ?_
   refine AWp.block ?_
   refine r_z 1 ?_
   refine AWp.seq ?_
   refine r_z 5 ?_
   refine AWp.cutT (zmT x y i) (fun v => ZmJ x.natAbs y.natAbs i u v ∧ v.2.1 = (digs UB y.natAbs).length) ?_ ?_
   ·refine AWp.block ?_
    refine AWp.loopS (zmT x y i) (fun v => (digs UB y.natAbs).length - v.2.1) (ZmJ x.natAbs y.natAbs i u) (o, 0, 0) ⟨hlen, by simp, hdig, (show 0 < UB by decide), by simp [hval, ofD], hzer⟩ ?_ ?_
    ·simp only [zmT_mk]
     exact s_e []
    rintro ⟨q, k, c⟩ ⟨jlen, jle, jdig, jcar, jval, jzer⟩
    simp only at jlen jle jdig jcar jval jzer
    rw [zmT_mk]
    refine AWp.seq ?_
    refine r_z 2 ?_
    refine AWp.cond rfl (fun h => ?_) (fun h => ?_)
    ·have hltk : k < (digs UB y.natAbs).length := by have := of_decide_eq_true h; omega
     obtain ⟨v, hv⟩ : ∃ v, (digs UB y.natAbs)[k]? = some v := ⟨_, List.getElem?_eq_getElem hltk⟩
     have hv1 : v < 32768 := digs_get_lt (by decide) hv
     have hv' : (iE (zd y.natAbs))[(((zd y.natAbs).length : Int) - 1 - k).toNat]? = some [i64 v] := by
      rw [show (((zd y.natAbs).length : Int) - 1 - k).toNat = (digs UB y.natAbs).length - 1 - k by omega]; exact iE_get (zd_get hv)
     obtain ⟨d, hd⟩ : ∃ d, q[i + k]? = some d := ⟨_, List.getElem?_eq_getElem (by omega)⟩
     have hd1 : d < 32768 := jdig d (List.mem_of_getElem? hd)
     have hc1 : c < 32768 := jcar
     have hidx : (((zd x.natAbs).length : Int) - 1 - i + (((zd y.natAbs).length : Int) - 1 - k) + 1).toNat = q.length - 1 - (i + k) := by omega
     have hg : (iE q.reverse)[0 + (((zd x.natAbs).length : Int) - 1 - i + (((zd y.natAbs).length : Int) - 1 - k) + 1).toNat]? = some [i64 d] := by rw [hidx, Nat.zero_add]; exact iE_get (rev_get hd)
     have hset : ∀ w : Nat, (iE q.reverse).set (0 + (((zd x.natAbs).length : Int) - 1 - i + (((zd y.natAbs).length : Int) - 1 - k) + 1).toNat) [i64 w] = iE (q.set (i + k) w).reverse := by intro w; rw [hidx, Nat.zero_add, iE_set, rev_set (by omega)]
     have hxy0 : u * v ≤ 32767 * 32767 := Nat.mul_le_mul (by omega) (by omega)
     have hxyi : (u : Int) * v = ((u * v : Nat) : Int) := by push_cast; rfl
     refine AWp.skip ?_
     have hxyn : 0 ≤ (u : Int) * v := Int.mul_nonneg (by omega) (by omega)
     refine AWp.seq ?_
     refine AWp.block ?_
     refine AWp.seq ?_
     refine AWp.regD hmix (m := 22) rfl ?_
     refine a_5 ?_
     first | refine AR.op0 (.index_l rfl rfl (by omega) (by omega) te_71.h) rfl rfl ?_ | refine AR.op0 (.index_a rfl rfl (by omega) hg rfl te_71.h) rfl rfl ?_
     first | refine AR.op0 (.load_l1 rfl rfl hg tg_3.h rfl) rfl rfl ?_ | refine AR.op0 (.load_a1 rfl hg tg_3.h rfl) rfl rfl ?_
     refine a_3 ?_
     first | refine AR.op0 (.index_l rfl rfl (by omega) (by omega) te_71.h) rfl rfl ?_ | refine AR.op0 (.index_a rfl rfl (by omega) hu' rfl te_71.h) rfl rfl ?_
     first | refine AR.op0 (.load_l1 rfl rfl hu' tg_3.h rfl) rfl rfl ?_ | refine AR.op0 (.load_a1 rfl hu' tg_3.h rfl) rfl rfl ?_
     refine a_3 ?_
     first | refine AR.op0 (.index_l rfl rfl (by omega) (by omega) te_71.h) rfl rfl ?_ | refine AR.op0 (.index_a rfl rfl (by omega) hv' rfl te_71.h) rfl rfl ?_
     first | refine AR.op0 (.load_l1 rfl rfl hv' tg_3.h rfl) rfl rfl ?_ | refine AR.op0 (.load_a1 rfl hv' tg_3.h rfl) rfl rfl ?_
     refine a_5 ?_
     refine AR.nil ⟨by kernel_rfl, ?_⟩
     refine s_r 9 ?_
     refine a_8 ?_
     refine o_1n (.store rfl rfl hg rfl rfl rfl ts_3.h (nle rfl)) ?_
     refine AR.nil ?_
     refine AWp.reg (m := 3) rfl ?_
     refine a_z ?_
     refine AWp.reg (m := 3) rfl ?_
     refine a_z ?_
     have hm : ((d : Int) + (u : Int) * v + c) % 32768 = (((d + u * v + c) % 32768 : Nat) : Int) := by rw [hxyi]; omega
     have hq : ((d : Int) + (u : Int) * v + c) / 32768 = (((d + u * v + c) / 32768 : Nat) : Int) := by rw [hxyi]; omega
     refine ⟨(q.set (i + k) ((d + u * v + c) % 32768), k + 1, (d + u * v + c) / 32768), by simp; omega, ⟨by simp [jlen], by simp; omega, mem_set jdig (Nat.mod_lt _ (by decide)), ?_, ?_, ?_⟩, ?_⟩
     ·show _ < 32768; simp only; omega
     ·simp only
      have e1 := ofD_set UB ((d + u * v + c) % 32768) hd
      have e2 := Nat.mod_add_div (d + u * v + c) 32768
      have e3 : UB ^ (i + k) * ((d + u * v + c) % 32768) + UB ^ (i + (k + 1)) * ((d + u * v + c) / 32768) = UB ^ (i + k) * d + UB ^ (i + k) * (u * v) + UB ^ (i + k) * c := by
       rw [← Nat.add_assoc i k 1, Nat.pow_succ, Nat.mul_assoc, ← Nat.mul_add, show UB * ((d + u * v + c) / 32768) = 32768 * ((d + u * v + c) / 32768) from rfl, e2, Nat.mul_add, Nat.mul_add]
      have e4 : UB ^ i * u * ofD UB ((digs UB y.natAbs).take (k + 1)) = UB ^ i * u * ofD UB ((digs UB y.natAbs).take k) + UB ^ (i + k) * (u * v) := by
       rw [ofD_take_succ _ hv, Nat.mul_add]
       congr 1
       rw [Nat.pow_add]
       simp only [Nat.mul_assoc, Nat.mul_left_comm, Nat.mul_comm]
      rw [e4]
      omega
     ·intro j hj hj2
      rw [List.getElem?_set_ne (by omega)]
      exact jzer j hj (by simpa using hj2)
     ·simp only [zmT_mk]
      have hset2 := hset ((d + u * v + c) % 32768)
      rw [← hm] at hset2
      refine SEnt.to [] rfl rfl rfl ?_ (fun hs => ?_) (fun hs => ?_)
      ·repeat' (first | exact ShrL.nil | refine ShrL.cons rfl rfl rfl rfl (by first | (exact congrArg List.length hset2) | rfl | (simp; done) | (simp <;> omega)) ?_)
      ·repeat' (first | exact CvF.nil | refine CvF.cons rfl ?_ ?_)
       all_goals (first | (exact Cv.loE hs (congrArg (fun z => AV.v (.int .i64 z)) hq) (closed_v _)) | exact au_c)
      ·repeat' (first | exact CvH.nil | refine CvH.cons rfl rfl rfl rfl ?_ ?_)
       all_goals (first | (exact CvLL.cloE hs hset2 (closed_iE _)) | exact au_e | (refine CvLL.box ?_; repeat' (first | exact CvL.nil | refine CvL.cons ?_ ?_)))
       all_goals (first | (exact Cv.loE hs (congrArg (fun z => AV.v (.int .i64 z)) hq) (closed_v _)) | exact au_c)
    ·have hk : k = (digs UB y.natAbs).length := by have := of_decide_eq_false h; omega
     refine AWp.exit ⟨(q, k, c), ⟨⟨jlen, jle, jdig, jcar, jval, jzer⟩, hk⟩, ?_⟩
     simp only [zmT_mk]
     exact s_e []
   rintro ⟨q, k, c⟩ ⟨⟨jlen, jle, jdig, jcar, jval, jzer⟩, hk⟩
   simp only at jlen jle jdig jcar jval jzer hk
   subst hk
   have hc1 : c < 32768 := jcar
   have hz := jzer (i + (digs UB y.natAbs).length) (Nat.le_refl _) (by omega)
   have hidx : (((zd x.natAbs).length : Int) - 1 - i).toNat = q.length - 1 - (i + (digs UB y.natAbs).length) := by omega
   have hg : (iE q.reverse)[0 + (((zd x.natAbs).length : Int) - 1 - i).toNat]? = some [i64 0] := by rw [hidx, Nat.zero_add]; exact iE_get (rev_get hz)
   have hset : (iE q.reverse).set (0 + (((zd x.natAbs).length : Int) - 1 - i).toNat) [i64 c] = iE (q.set (i + (digs UB y.natAbs).length) c).reverse := by rw [hidx, Nat.zero_add, iE_set, rev_set (by omega)]
   rw [List.take_length, vb] at jval
   rw [zmT_mk]
   refine AWp.reg (m := 5) rfl ?_
   refine a_4 ?_
   refine o_1n (.store rfl rfl hg rfl rfl rfl ts_3.h (nle rfl)) ?_
   refine AR.nil ?_
   refine AWp.reg (m := 3) rfl ?_
   refine a_z ?_
   refine ⟨(q.set (i + (digs UB y.natAbs).length) c, i + 1), by simp; omega, ⟨by simp [jlen], by simp; omega, mem_set jdig jcar, ?_, ?_⟩, ?_⟩
   ·simp only
    have e1 := ofD_set UB c hz
    rw [ofD_take_succ _ hu, Nat.add_mul, ← jval]
    omega
   ·intro j hj hj2
    rw [List.getElem?_set_ne (by simp only at hj; omega)]
    exact jzer j (by simp only at hj; omega) (by simpa using hj2)
   ·simp only [zmS_mk]
    refine SEnt.to [] rfl rfl rfl ?_ (fun hs => au_f) (fun hs => ?_)
    ·repeat' (first | exact ShrL.nil | refine ShrL.cons rfl rfl rfl rfl (by first | (exact congrArg List.length hset) | rfl | (simp; done) | (simp <;> omega)) ?_)
    ·repeat' (first | exact CvH.nil | refine CvH.cons rfl rfl rfl rfl ?_ ?_)
     all_goals (first | (refine CvLL.cloE hs hset (closed_iE _)) | exact au_e)
  ·have hi : i = (digs UB x.natAbs).length := by have := of_decide_eq_false h; omega
   refine AWp.exit ⟨(o, i), ⟨⟨hlen, hle, hdig, hval, hzer⟩, hi⟩, ?_⟩
   simp only [zmS_mk]
   exact s_e []
 rintro ⟨o, i⟩ ⟨⟨hlen, hle, hdig, hval, hzer⟩, hi⟩
 simp only at hlen hle hdig hval hzer hi
 subst hi
 rw [List.take_length, va] at hval
 rw [zmS_mk]
 have hol : o.length = (zd x.natAbs).length + (zd y.natAbs).length := by omega
 have hw := fs_with (sgZ x * sgZ y) o.reverse (x * y) (by simp; omega) (fun d h => hdig d (List.mem_reverse.1 h)) (by unfold hv; rw [List.reverse_reverse, hval, Int.natAbs_mul]) (fun _ => (sgZ_mul x y).symm)
 have hfull : ((iE o.reverse).drop 0).take ((zd x.natAbs).length + (zd y.natAbs).length) = iE o.reverse := by rw [List.drop_zero, List.take_of_length_le (by simp; omega)]
 refine s_r 8 ?_
 refine a_4 ?_
 refine o_0 (.bin rfl rfl (bI64_mul hss)) ?_
 refine a_1 ?_
 refine o_1 (.callS1 rfl rfl rfl (.keep (.shut rfl (by first | exact nle rfl | (simp; done) | (simp; omega)) (.nil))) rfl ((by rw [hfull]; exact hw))) ?_
 refine a_z ?_
 refine AWp.ret ?_
 refine Fin.cellE rfl rfl rfl tg_73.h ts_73.h (nle rfl) ?_ ?_
 ·rfl
 ·exact closed_zZA _
theorem digs_getD {b : Nat} (hb : 1 < b) : ∀ (j n : Nat), (digs b n)[j]?.getD 0 = n / b ^ j % b := by
 intro j
 induction j with
 | zero =>
  intro n
  rcases Nat.eq_zero_or_pos n with rfl | hn
  ·rw [digs_zero]; simp
  ·rw [digs_pos hb hn]; simp
 | succ j ih =>
  intro n
  rcases Nat.eq_zero_or_pos n with rfl | hn
  ·rw [digs_zero]; simp
  ·rw [digs_pos hb hn, List.getElem?_cons_succ, ih, Nat.div_div_eq_div_mul, Nat.pow_succ, Nat.mul_comm b]
def frontS (n : Nat) (long : Nat) (k : Nat) : Nat → AState
 | i => ⟨[(0, .arr (iE (zd n))), (1, i64 long), (2, i64 k), (7, i64 (n / UB ^ (long - i) : Nat)), (8, i64 i)], [], 1, 24⟩
theorem frontS_mk (n : Nat) (long : Nat) (k : Nat) (i : Nat) : frontS n long k i = ⟨[(0, .arr (iE (zd n))), (1, i64 long), (2, i64 k), (7, i64 (n / UB ^ (long - i) : Nat)), (8, i64 i)], [], 1, 24⟩ := rfl
theorem fs_front (n long k : Nat) (hk : k ≤ 4) (hkl : k ≤ long) (hn : n < UB ^ long) (hl : (zd n).length ≤ 281474976710656) (hlo : long ≤ 281474976710656) : FSpec Tryz.prog 287 [.arr (iE (zd n)), i64 long, i64 k] (i64 (n / UB ^ (long - k) : Nat)) := by
 have bound : ∀ i, i ≤ k → n / UB ^ (long - i) < 1152921504606846976 := by
  intro i hi
  have h1 : n / UB ^ (long - i) < UB ^ i := by
   rw [Nat.div_lt_iff_lt_mul (Nat.pow_pos (by decide)), ← Nat.pow_add, show i + (long - i) = long by omega]; exact hn
  exact Nat.lt_of_lt_of_le h1 (Nat.pow_le_pow_right (n := 32768) (j := 4) (by decide) (by omega))
 refine FSpec.enter Tryz.func287 rfl (by kernel_rfl) rfl rfl rfl ?_ rfl ?_
 ·exact closed_cons (closed_iA _) (closed_cons (closed_v _) (closed_cons (closed_v _) closed_nil))
 refine r_z 1 ?_
 refine r_z 1 ?_
 refine AWp.seq ?_
 refine r_z 1 ?_
 refine AWp.cutT (frontS n long k) (fun i => i = k) ?_ ?_
 ·refine AWp.block ?_
  refine AWp.loopS (frontS n long k) (fun i => k - i) (fun i => i ≤ k) 0 (Nat.zero_le _) ?_ ?_
  ·simp only [frontS_mk]
   have e : AV.v (.int .i64 0) = i64 (n / UB ^ (long - 0) : Nat) := by rw [Nat.sub_zero, Nat.div_eq_of_lt hn]; rfl
   refine SEnt.to [] rfl rfl rfl au_r (fun hs => ?_) (fun hs => ?_)
   ·repeat' (first | exact CvF.nil | refine CvF.cons rfl ?_ ?_)
    all_goals (first | (exact Cv.loE hs e (closed_v _)) | exact au_c)
   ·repeat' (first | exact CvH.nil | refine CvH.cons rfl rfl rfl rfl ?_ ?_)
    all_goals (first | exact au_e | (refine CvLL.box ?_; repeat' (first | exact CvL.nil | refine CvL.cons ?_ ?_)))
    all_goals (first | (exact Cv.loE hs e (closed_v _)) | exact au_c)
  intro i hi
  rw [frontS_mk]
  refine AWp.seq ?_
  refine r_z 3 ?_
  refine AWp.cond rfl (fun h => ?_) (fun h => ?_)
  ·have hlt : i < k := by simpa using h
   have hd := fs_digit (zd n) (long - 1 - i) hl
   unfold zd at hd
   rw [List.reverse_reverse, digs_getD (by decide), show ((long - 1 - i : Nat) : Int) = (long : Int) - 1 - i by omega] at hd
   have e1 := Nat.div_add_mod (n / UB ^ (long - 1 - i)) UB
   rw [Nat.div_div_eq_div_mul, ← Nat.pow_succ, show (long - 1 - i).succ = long - i by omega] at e1
   have hb := bound (i + 1) hlt
   rw [show long - (i + 1) = long - 1 - i by omega] at hb
   have hlt2 : n / UB ^ (long - 1 - i) % UB < 32768 := Nat.mod_lt _ (by decide)
   obtain ⟨V, hV⟩ : ∃ V, V = n / UB ^ (long - i) := ⟨_, rfl⟩
   obtain ⟨D, hD⟩ : ∃ D, D = n / UB ^ (long - 1 - i) % UB := ⟨_, rfl⟩
   have hVb : V < 1152921504606846976 := by rw [hV]; exact bound i hi
   rw [← hV, ← hD] at e1
   rw [← hD] at hd hlt2
   rw [← hV]
   have e3 : 32768 * V + D = n / UB ^ (long - 1 - i) := e1
   have e2 : (V : Int) * 32768 + D = ((n / UB ^ (long - (i + 1)) : Nat) : Int) := by
    rw [show long - (i + 1) = long - 1 - i by omega, ← e3]; omega
   have hbb : V * 32768 + D < 1152921504606846976 := by omega
   refine AWp.skip ?_
   refine AWp.seq ?_
   refine AWp.block ?_
   refine AWp.reg (m := 10) rfl ?_
   refine c_s (hd) ?_
   refine a_z ?_
   refine AWp.reg (m := 3) rfl ?_
   refine a_z ?_
   refine ⟨i + 1, by omega, hlt, ?_⟩
   simp only [frontS_mk]
   refine SEnt.to [] rfl rfl rfl au_r (fun hs => ?_) (fun hs => ?_)
   ·repeat' (first | exact CvF.nil | refine CvF.cons rfl ?_ ?_)
    all_goals (first | (exact Cv.loE hs (congrArg (fun z => AV.v (.int .i64 z)) e2) (closed_v _)) | exact au_c)
   ·repeat' (first | exact CvH.nil | refine CvH.cons rfl rfl rfl rfl ?_ ?_)
    all_goals (first | exact au_e | (refine CvLL.box ?_; repeat' (first | exact CvL.nil | refine CvL.cons ?_ ?_)))
    all_goals (first | (exact Cv.loE hs (congrArg (fun z => AV.v (.int .i64 z)) e2) (closed_v _)) | exact au_c)
  ·have hge : i = k := by simp at h; omega
   refine AWp.exit ⟨i, hge, ?_⟩
   simp only [frontS_mk]
   exact s_e []
 rintro i rfl
 rw [frontS_mk]
 refine r_z 2 ?_
 refine AWp.ret (Fin.tmpE rfl rfl (closed_v _))
def shareS (D : Nat) : Nat × Nat → AState
 | (R, k) => ⟨[(0, .arr (iE (zd R))), (1, .arr (iE (zd D))), (6, i64 k)], [], 1, 57⟩
theorem shareS_mk (D : Nat) (R : Nat) (k : Nat) : shareS D (R, k) = ⟨[(0, .arr (iE (zd R))), (1, .arr (iE (zd D))), (6, i64 k)], [], 1, 57⟩ := rfl
theorem est_le {R D e : Nat} (he : 0 < e) : R / e / (D / e + 1) * D ≤ R := by
 have h1 : R / e / (D / e + 1) * (D / e + 1) ≤ R / e := Nat.div_mul_le_self _ _
 have h2 : R / e * e ≤ R := Nat.div_mul_le_self _ _
 have h3 : D < (D / e + 1) * e := by
  have := Nat.lt_mul_div_succ D he
  rw [Nat.mul_comm]; exact this
 have h4 : R / e / (D / e + 1) * D ≤ R / e / (D / e + 1) * ((D / e + 1) * e) := Nat.mul_le_mul_left _ (Nat.le_of_lt h3)
 have h5 : R / e / (D / e + 1) * ((D / e + 1) * e) ≤ R / e * e := by
  rw [← Nat.mul_assoc]; exact Nat.mul_le_mul_right _ h1
 omega
theorem zZ_pos {D : Nat} (h : 0 < D) : zZ (D : Int) = [i64 1, .arr (iE (zd D))] := by
 unfold zZ sgZ
 rw [if_neg (by omega), if_neg (by omega), Int.natAbs_natCast]
theorem fs_share (R D : Nat) (hD : 0 < D) (hR : R < UB * D) (hb : bl D ≤ 4398046511104) : FSpec Tryz.prog 273 [.arr (iE (zd R)), .arr (iE (zd D))] (.tup [i64 (R / D : Nat), .arr (iE (zd (R % D)))]) := by
 have hzR := zd_length R
 have hzD := zd_length D
 have hlD := digs_length (b := UB) (by decide) D
 have hlR := digs_length (b := UB) (by decide) R
 have hbR : bl R ≤ bl D + 16 := by
  have h1 := bl_mono (Nat.le_of_lt hR)
  have h2 := bl_mul UB D
  have h3 : bl UB = 16 := by decide
  omega
 obtain ⟨n, hn⟩ : ∃ n, n = (zd D).length := ⟨_, rfl⟩
 have hn1 : 1 ≤ n := by
  have : zd D ≠ [] := fun h => by have := zd_eq_nil.1 h; omega
  have := List.length_pos_iff.2 this; omega
 have hDn : D < UB ^ n := by
  have := hv_lt (zd_lt D)
  rwa [hv_zd, ← hn] at this
 have hRn : R < UB ^ (n + 1) := by
  rw [Nat.pow_succ, Nat.mul_comm]
  exact Nat.lt_of_lt_of_le hR (Nat.mul_le_mul_left _ (Nat.le_of_lt hDn))
 have hRk : ∀ k, k * D ≤ R → k < UB := by
  intro k hk
  refine Nat.lt_of_not_le fun h => ?_
  have := Nat.mul_le_mul_right D h
  omega
 refine FSpec.enter Tryz.func273 rfl (by kernel_rfl) rfl rfl rfl ?_ rfl ?_
 ·exact closed_cons (closed_iA _) (closed_cons (closed_iA _) closed_nil)
 refine r_z 2 ?_
 refine r_z 1 ?_
 refine r_z 3 ?_
 refine AWp.cut (fun k : Nat => shareS D (R, k)) (fun k => k * D ≤ R) ?_ ?_
 ·refine r_z 4 ?_
  refine AWp.cond rfl (fun h => ?_) (fun h => ?_)
  ·have hge : (zd D).length ≤ (zd R).length := by simpa using h
   refine r_z 2 ?_
   refine AWp.cond rfl (fun h1 => ?_) (fun h1 => ?_)
   ·have h3 : n ≤ 3 := by rw [hn]; have := of_decide_eq_true h1; omega
    have f1 := fs_front R (n + 1) (n + 1) (by omega) (Nat.le_refl _) hRn (by omega) (by omega)
    have f2 := fs_front D n n (by omega) (Nat.le_refl _) hDn (by omega) (by omega)
    rw [Nat.sub_self, Nat.pow_zero, Nat.div_one] at f1 f2
    rw [hn] at f1 f2
    have hq : (R : Int) / D = (R / D : Nat) := (Int.natCast_ediv _ _).symm
    have hR60 : R < 1152921504606846976 := Nat.lt_of_lt_of_le hRn (Nat.pow_le_pow_right (n := 32768) (j := 4) (by decide) (by omega))
    refine AWp.reg (m := 12) rfl ?_
    refine c_s (f1) ?_
    refine c_s (f2) ?_
    refine a_z ?_
    refine ⟨R / D, Nat.div_mul_le_self _ _, ?_⟩
    simp only [shareS_mk]
    refine SEnt.to [] rfl rfl rfl au_r (fun hs => ?_) (fun hs => ?_)
    ·repeat' (first | exact CvF.nil | refine CvF.cons rfl ?_ ?_)
     all_goals (first | (exact Cv.loE hs (congrArg (fun z => AV.v (.int .i64 z)) hq) (closed_v _)) | exact au_c)
    ·repeat' (first | exact CvH.nil | refine CvH.cons rfl rfl rfl rfl ?_ ?_)
     all_goals (first | exact au_e | (refine CvLL.box ?_; repeat' (first | exact CvL.nil | refine CvL.cons ?_ ?_)))
     all_goals (first | (exact Cv.loE hs (congrArg (fun z => AV.v (.int .i64 z)) hq) (closed_v _)) | exact au_c)
   ·have h3 : 3 < n := by rw [hn]; have := of_decide_eq_false h1; omega
    have f1 := fs_front R (n + 1) 4 (by omega) (by omega) hRn (by omega) (by omega)
    have f2 := fs_front D n 3 (by omega) (by omega) hDn (by omega) (by omega)
    rw [show n + 1 - 4 = n - 3 by omega] at f1
    obtain ⟨e, he⟩ : ∃ e, e = UB ^ (n - 3) := ⟨_, rfl⟩
    have hep : 0 < e := by rw [he]; exact Nat.pow_pos (by decide)
    rw [← he] at f1 f2
    have hR4 : R / e < 1152921504606846976 := by
     rw [Nat.div_lt_iff_lt_mul hep, he]
     have h4 : UB ^ 4 = 1152921504606846976 := by decide
     have : UB ^ (n + 1) = 1152921504606846976 * UB ^ (n - 3) := by
      rw [show n + 1 = 4 + (n - 3) by omega, Nat.pow_add, h4]
     omega
    have hD3 : D / e < 35184372088832 := by
     rw [Nat.div_lt_iff_lt_mul hep, he]
     have h4 : UB ^ 3 = 35184372088832 := by decide
     have : UB ^ n = 35184372088832 * UB ^ (n - 3) := by
      rw [← h4, ← Nat.pow_add]; congr 1; omega
     omega
    rw [hn] at f1 f2
    have hq : ((R / e : Nat) : Int) / (((D / e : Nat) : Int) + 1) = (R / e / (D / e + 1) : Nat) := by
     rw [show (((D / e : Nat) : Int) + 1) = ((D / e + 1 : Nat) : Int) by omega]; exact (Int.natCast_ediv _ _).symm
    have hle := est_le (R := R) (D := D) hep
    obtain ⟨A, hA⟩ : ∃ A, A = R / e := ⟨_, rfl⟩
    obtain ⟨B, hB⟩ : ∃ B, B = D / e := ⟨_, rfl⟩
    rw [← hA] at f1 hR4 hq hle
    rw [← hB] at f2 hD3 hq hle
    refine AWp.reg (m := 10) rfl ?_
    refine c_s (f1) ?_
    refine c_s (f2) ?_
    refine a_z ?_
    refine ⟨A / (B + 1), hle, ?_⟩
    simp only [shareS_mk]
    refine SEnt.to [] rfl rfl rfl au_r (fun hs => ?_) (fun hs => ?_)
    ·repeat' (first | exact CvF.nil | refine CvF.cons rfl ?_ ?_)
     all_goals (first | (exact Cv.loE hs (congrArg (fun z => AV.v (.int .i64 z)) hq) (closed_v _)) | exact au_c)
    ·repeat' (first | exact CvH.nil | refine CvH.cons rfl rfl rfl rfl ?_ ?_)
     all_goals (first | exact au_e | (refine CvLL.box ?_; repeat' (first | exact CvL.nil | refine CvL.cons ?_ ?_)))
     all_goals (first | (exact Cv.loE hs (congrArg (fun z => AV.v (.int .i64 z)) hq) (closed_v _)) | exact au_c)
  ·refine AWp.skip ⟨0, by simp, ?_⟩
   simp only [shareS_mk]
   exact s_e []
 rintro k hk
 have hkU := hRk k hk
 have hkU' : k < 32768 := hkU
 rw [shareS_mk]
 refine AWp.cut (fun _ : Unit => shareS D (R - k * D, k)) (fun _ => True) ?_ ?_
 ·refine r_z 2 ?_
  refine AWp.cond rfl (fun h1 => ?_) (fun h1 => ?_)
  ·have hzk : zl (k : Int) := by
    unfold zl; rw [Int.natAbs_natCast]
    have := bl_le (n := k) (k := 15) (by omega); omega
   have hzD : zl (D : Int) := by unfold zl; rw [Int.natAbs_natCast]; omega
   have hm := fs_ZMul (k : Int) (D : Int) hzk hzD
   rw [zZ_pos hD] at hm
   have hkD : ((k : Int) * (D : Int)).natAbs = k * D := by rw [← Int.natCast_mul, Int.natAbs_natCast]
   have hbk : bl (k * D) ≤ bl D + 16 := by
    have := bl_mono hk; omega
   have hlk := digs_length (b := UB) (by decide) (k * D)
   have hbo := fs_both R (k * D) (-1) (R - k * D) (.inr rfl) (by omega) (by omega) (by rw [zd_length]; omega)
   rw [← hkD] at hbo
   rw [hkD] at hbo
   refine AWp.reg (m := 9) rfl ?_
   refine c_s (fs_ZInt k (by omega)) ?_
   refine c_s (hm) ?_
   first | refine AR.op0 (.field rfl tf_73_1.h tga_73_1.h (nle rfl)) rfl rfl ?_ | refine AR.op0 (.field1 rfl tf_73_1.h tga_73_1.h rfl) rfl rfl ?_
   refine o_0 (.call rfl rfl rfl ((by rw [hkD]; exact hbo))) ?_
   refine o_0 (.assign rfl) ?_
   refine AR.nil ?_
   refine ⟨(), trivial, ?_⟩
   simp only [shareS_mk]
   exact s_e []
  ·have hk0 : k = 0 := by simp at h1; omega
   subst hk0
   refine AWp.skip ⟨(), trivial, ?_⟩
   simp only [shareS_mk, Nat.zero_mul, Nat.sub_zero]
   exact s_e []
 rintro _ _
 rw [shareS_mk]
 refine AWp.cut (shareS D) (fun v => v.1 = R % D ∧ v.2 = R / D) ?_ ?_
 ·refine AWp.block ?_
  refine AWp.loopS (shareS D) (fun v => v.1) (fun v => v.1 + v.2 * D = R ∧ v.1 ≤ R) (R - k * D, k) ⟨by simp only; omega, by simp only; omega⟩ ?_ ?_
  ·simp only [shareS_mk]
   exact s_e []
  rintro ⟨R', k'⟩ ⟨hv, hle⟩
  simp only at hv hle
  have hbR' : bl R' ≤ bl D + 16 := by have := bl_mono hle; omega
  have hlR' := digs_length (b := UB) (by decide) R'
  have hzR' := zd_length R'
  have hk' := hRk k' (by omega)
  have hk'' : k' < 32768 := hk'
  rw [shareS_mk]
  refine AWp.seq ?_
  refine r_c 4 (fs_ahead R' D (by omega) (by omega)) ?_
  refine a_z ?_
  refine AWp.cond rfl (fun h => ?_) (fun h => ?_)
  ·have hge : D ≤ R' := by
    have := of_decide_eq_true h
    unfold cmpZ at this; split at this <;> omega
   refine AWp.skip ?_
   refine AWp.block ?_
   refine r_c 4 (fs_both R' D (-1) (R' - D) (.inr rfl) (by omega) (by omega) (by omega)) ?_
   refine a_z ?_
   refine AWp.reg (m := 3) rfl ?_
   refine a_z ?_
   refine ⟨(R' - D, k' + 1), by simp only; omega, ⟨by simp only; rw [Nat.add_mul]; omega, by simp only; omega⟩, ?_⟩
   simp only [shareS_mk]
   exact s_e []
  ·have hlt : R' < D := by
    have := of_decide_eq_false h
    unfold cmpZ at this; split at this
    ·omega
    ·split at this <;> omega
   refine AWp.exit ⟨(R', k'), ⟨?_, ?_⟩, ?_⟩
   ·simp only; rw [← hv, Nat.add_mul_mod_self_right, Nat.mod_eq_of_lt hlt]
   ·simp only; rw [← hv, Nat.add_mul_div_right _ _ hD, Nat.div_eq_of_lt hlt, Nat.zero_add]
   ·simp only [shareS_mk]
    exact s_e []
 rintro ⟨R', k'⟩ ⟨h1, h2⟩
 simp only at h1 h2
 subst h1 h2
 rw [shareS_mk]
 refine r_z 4 ?_
 refine AWp.ret ?_
 refine Fin.many ⟨_, _, rfl, rfl, ⟨_, _, rfl, rfl, rfl⟩⟩ (nle rfl) ?_
 exact CvL.cons (Cv.clo shr_nil (closed_v _)) (CvL.cons (Cv.clo shr_nil (closed_iA _)) CvL.nil)
end Go.Proofs.YtdhedjbmdnnbkaaGreatDoor
