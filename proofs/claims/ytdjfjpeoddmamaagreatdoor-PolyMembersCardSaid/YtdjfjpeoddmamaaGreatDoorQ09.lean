/- Part Q09 of the proof. -/
import Derived.Test.YtdjfjpeoddmamaaGreatDoorQ08
set_option linter.all false
namespace Go.Proofs.YtdjfjpeoddmamaaGreatDoor
open Go.Abs
set_option maxRecDepth 20000
def smallS (n : Nat) : Nat → AState
 | 0 => ⟨[(0, u64 n), (2, .lptr 1 0 0), (3, .emp)], [(1, some ⟨31, 1, [[.emp]]⟩)], 2, 16⟩
 | k + 1 => ⟨[(0, u64 (restD n (k + 1))), (2, .lptr 1 0 0), (3, .lsl 2 0 (k + 1) none 1)], [(1, some ⟨31, 1, [[.emp]]⟩), (2, some ⟨236, 1, dE (preD n (k + 1))⟩)], 3, 16⟩
theorem smallS_zero (n : Nat) : smallS n 0 = ⟨[(0, u64 n), (2, .lptr 1 0 0), (3, .emp)], [(1, some ⟨31, 1, [[.emp]]⟩)], 2, 16⟩ := rfl
theorem smallS_succ (n k : Nat) : smallS n (k + 1) = ⟨[(0, u64 (restD n (k + 1))), (2, .lptr 1 0 0), (3, .lsl 2 0 (k + 1) none 1)], [(1, some ⟨31, 1, [[.emp]]⟩), (2, some ⟨236, 1, dE (preD n (k + 1))⟩)], 3, 16⟩ := rfl
theorem fs_small (n : Nat) (h : n < 18446744073709551616) : FSpec Tryz.prog 180 [u64 n] (.agg [mag n]) := by
 have hlen : (digs MB n).length ≤ 3 := digs_length_lt (by decide) (Nat.lt_of_lt_of_le h (by decide))
 refine FSpec.enter Tryz.func180 rfl (by kernel_rfl) rfl rfl rfl ?_ rfl ?_
 ·exact closed_cons (closed_v _) closed_nil
 refine r_z 1 ?_
 refine r_z 1 ?_
 refine AWp.cut (smallS n) (fun k => k = (digs MB n).length) ?_ ?_
 ·refine AWp.block ?_
  refine AWp.loopS (smallS n) (fun k => (digs MB n).length - k) (fun k => k ≤ (digs MB n).length) 0 (Nat.zero_le _) ?_ ?_
  ·rw [smallS_zero]
   exact s_e []
  rintro k hk
  have hle := restD_le hk
  have hz := restD_eq hk
  have hpl := preD_length hk
  cases k with
  | zero =>
   rw [restD_zero] at hz
   refine AWp.seq ?_
   refine r_z 2 ?_
   refine AWp.cond rfl (fun h => ?_) (fun h => ?_)
   ·refine AWp.skip ?_
    have h0 : 0 < n := by simpa using h
    have hl1 : 0 < (digs MB n).length := by omega
    obtain ⟨hq, ht⟩ := restD_step hl1
    rw [restD_zero] at hq ht
    refine AWp.seq ?_
    refine AWp.block ?_
    refine AWp.reg (m := 7) rfl ?_
    refine a_z ?_
    refine AWp.reg (m := 3) rfl ?_
    refine a_z ?_
    refine ⟨1, by omega, hl1, ?_⟩
    rw [smallS_succ]
    refine SEnt.to [(2, 3)] rfl rfl rfl ?_ (fun hs => ?_) (fun hs => ?_)
    ·repeat' (first | exact ShrL.nil | refine ShrL.cons rfl rfl rfl rfl (by first | rfl | (simp; done) | (simp [hq, ht, preD_zero] <;> omega)) ?_)
    ·repeat' (first | exact CvF.nil | refine CvF.cons rfl ?_ ?_)
     all_goals (first | exact au_c | (refine Cv.loE hs ?_ (closed_v _); first | rfl | (simp [i64, u64, u32, bln, hq, ht, preD_zero]; done) | (simp [i64, u64, u32, bln, hq, ht, preD_zero] <;> omega)))
    ·repeat' (first | exact CvH.nil | refine CvH.cons rfl rfl rfl rfl ?_ ?_)
     all_goals (first | exact CvLL.bld rfl rfl rfl rfl rfl rfl | exact CvLL.bld0 hs | exact CvLL.clo hs (closed_bE _) | exact CvLL.clo hs (closed_dE _) | (refine CvLL.cloE hs ?_ (closed_dE _); first | (simp [dE_set, dE_append, dE_replicate, hq, ht, preD_zero]; done) | (simp [dE, u32, ofV, hq, ht, preD_zero]; done)) | exact CvLL.clo hs (closed_pE _) | exact CvLL.clo hs (closed_iE _) | (refine CvLL.cloE hs ?_ (closed_iE _); first | (simp [iE_set, iE_append, iE_replicate, hq, ht, preD_zero]; done) | (simp [iE, i64, ofV, hq, ht, preD_zero]; done)) | (refine CvLL.cloE hs ?_ (closed_pE _); first | (simp [pE_set, pE_append, hq, ht, preD_zero]; done) | (simp [pE, ofV, hq, ht, preD_zero]; done)) | (refine CvLL.box ?_; repeat' (first | exact CvL.nil | exact CvL.clo hs (closed_qC _) | refine CvL.cons ?_ ?_)))
     all_goals (first | exact Cv.clo hs (closed_v _) | exact Cv.ptr rfl rfl rfl | exact Cv.sl rfl rfl rfl | exact Cv.slN rfl rfl rfl | exact Cv.clo hs closed_emp | (refine Cv.clo hs ?_; first | assumption | exact closed_arrD _ | exact closed_mag _ | exact closed_v _ | exact closed_emp | exact closed_pA _ | exact closed_iA _ | exact closed_cA _ | exact closed_zZA _ | exact closed_qA _ | exact closed_mA _ | exact closed_spA _ _ | exact closed_clos closed_nil closed_nil | exact closed_bP _ | exact closed_bQ _ | exact closed_bS _ | exact closed_kA _ | exact closed_plA _ _ | exact closed_bPl _ _ | exact closed_bF | exact closed_rA _ | exact closed_rEA _ | (refine closed_clos closed_nil ?_; first | assumption | exact closed_cons (closed_bP _) closed_nil | exact closed_cons (closed_bQ _) closed_nil | exact closed_cons (closed_bPl _ _) closed_nil)) | (refine Cv.boxp hs rfl (dead_of rfl) rfl ?_; first | exact closed_qC _ | exact closed_spC _ _ | exact closed_zZ _ | exact closed_rC _ | (refine closed_cons ?_ closed_nil; first | assumption | exact closed_arrD _ | exact closed_mag _ | exact closed_v _ | exact closed_emp | exact closed_pA _ | exact closed_iA _ | exact closed_cA _ | exact closed_zZA _ | exact closed_qA _ | exact closed_mA _ | exact closed_spA _ _ | exact closed_clos closed_nil closed_nil | exact closed_bP _ | exact closed_bQ _ | exact closed_bS _ | exact closed_kA _ | exact closed_plA _ _ | exact closed_bPl _ _ | exact closed_bF | exact closed_rA _ | exact closed_rEA _ | (refine closed_clos closed_nil ?_; first | assumption | exact closed_cons (closed_bP _) closed_nil | exact closed_cons (closed_bQ _) closed_nil | exact closed_cons (closed_bPl _ _) closed_nil))) | (refine Cv.loE hs ?_ (closed_v _); first | rfl | (simp [i64, u64, u32, bln, hq, ht, preD_zero]; done) | (simp [i64, u64, u32, bln, hq, ht, preD_zero] <;> omega)) | (refine Cv.slE rfl rfl rfl ?_ ?_ ?_ <;> first | rfl | omega | (congr 1; omega) | (simp; done) | (simp <;> omega)) | exact Cv.emp _)
   ·refine AWp.exit ⟨0, ?_, ?_⟩
    ·have : ¬ 0 < n := by simpa using h
     omega
    ·rw [smallS_zero]
     exact s_e []
  | succ k =>
   rw [smallS_succ]
   refine AWp.seq ?_
   refine r_z 2 ?_
   refine AWp.cond rfl (fun h => ?_) (fun h => ?_)
   ·refine AWp.skip ?_
    have h0 : 0 < restD n (k + 1) := by simpa using h
    have hl1 : k + 1 < (digs MB n).length := by omega
    obtain ⟨hq, ht⟩ := restD_step hl1
    refine AWp.seq ?_
    refine AWp.block ?_
    refine AWp.reg (m := 7) rfl ?_
    refine a_z ?_
    refine AWp.reg (m := 3) rfl ?_
    refine a_z ?_
    refine ⟨k + 1 + 1, by omega, hl1, ?_⟩
    rw [smallS_succ]
    refine SEnt.to [(2, 3)] rfl rfl rfl ?_ (fun hs => ?_) (fun hs => ?_)
    ·repeat' (first | exact ShrL.nil | refine ShrL.cons rfl rfl rfl rfl (by first | rfl | (simp; done) | (simp [hq, ht, hpl] <;> omega)) ?_)
    ·repeat' (first | exact CvF.nil | refine CvF.cons rfl ?_ ?_)
     all_goals (first | exact au_c | (refine Cv.loE hs ?_ (closed_v _); first | rfl | (simp [i64, u64, u32, bln, hq, ht, hpl]; done) | (simp [i64, u64, u32, bln, hq, ht, hpl] <;> omega)))
    ·repeat' (first | exact CvH.nil | refine CvH.cons rfl rfl rfl rfl ?_ ?_)
     all_goals (first | exact CvLL.bld rfl rfl rfl rfl rfl rfl | exact CvLL.bld0 hs | exact CvLL.clo hs (closed_bE _) | exact CvLL.clo hs (closed_dE _) | (refine CvLL.cloE hs ?_ (closed_dE _); first | (simp [dE_set, dE_append, dE_replicate, hq, ht, hpl]; done) | (simp [dE, u32, ofV, hq, ht, hpl]; done)) | exact CvLL.clo hs (closed_pE _) | exact CvLL.clo hs (closed_iE _) | (refine CvLL.cloE hs ?_ (closed_iE _); first | (simp [iE_set, iE_append, iE_replicate, hq, ht, hpl]; done) | (simp [iE, i64, ofV, hq, ht, hpl]; done)) | (refine CvLL.cloE hs ?_ (closed_pE _); first | (simp [pE_set, pE_append, hq, ht, hpl]; done) | (simp [pE, ofV, hq, ht, hpl]; done)) | (refine CvLL.box ?_; repeat' (first | exact CvL.nil | exact CvL.clo hs (closed_qC _) | refine CvL.cons ?_ ?_)))
     all_goals (first | exact Cv.clo hs (closed_v _) | exact Cv.ptr rfl rfl rfl | exact Cv.sl rfl rfl rfl | exact Cv.slN rfl rfl rfl | exact Cv.clo hs closed_emp | (refine Cv.clo hs ?_; first | assumption | exact closed_arrD _ | exact closed_mag _ | exact closed_v _ | exact closed_emp | exact closed_pA _ | exact closed_iA _ | exact closed_cA _ | exact closed_zZA _ | exact closed_qA _ | exact closed_mA _ | exact closed_spA _ _ | exact closed_clos closed_nil closed_nil | exact closed_bP _ | exact closed_bQ _ | exact closed_bS _ | exact closed_kA _ | exact closed_plA _ _ | exact closed_bPl _ _ | exact closed_bF | exact closed_rA _ | exact closed_rEA _ | (refine closed_clos closed_nil ?_; first | assumption | exact closed_cons (closed_bP _) closed_nil | exact closed_cons (closed_bQ _) closed_nil | exact closed_cons (closed_bPl _ _) closed_nil)) | (refine Cv.boxp hs rfl (dead_of rfl) rfl ?_; first | exact closed_qC _ | exact closed_spC _ _ | exact closed_zZ _ | exact closed_rC _ | (refine closed_cons ?_ closed_nil; first | assumption | exact closed_arrD _ | exact closed_mag _ | exact closed_v _ | exact closed_emp | exact closed_pA _ | exact closed_iA _ | exact closed_cA _ | exact closed_zZA _ | exact closed_qA _ | exact closed_mA _ | exact closed_spA _ _ | exact closed_clos closed_nil closed_nil | exact closed_bP _ | exact closed_bQ _ | exact closed_bS _ | exact closed_kA _ | exact closed_plA _ _ | exact closed_bPl _ _ | exact closed_bF | exact closed_rA _ | exact closed_rEA _ | (refine closed_clos closed_nil ?_; first | assumption | exact closed_cons (closed_bP _) closed_nil | exact closed_cons (closed_bQ _) closed_nil | exact closed_cons (closed_bPl _ _) closed_nil))) | (refine Cv.loE hs ?_ (closed_v _); first | rfl | (simp [i64, u64, u32, bln, hq, ht, hpl]; done) | (simp [i64, u64, u32, bln, hq, ht, hpl] <;> omega)) | (refine Cv.slE rfl rfl rfl ?_ ?_ ?_ <;> first | rfl | omega | (congr 1; omega) | (simp; done) | (simp <;> omega)) | exact Cv.emp _)
   ·refine AWp.exit ⟨k + 1, ?_, ?_⟩
    ·have : ¬ 0 < restD n (k + 1) := by simpa using h
     omega
    ·rw [smallS_succ]
     exact s_e []
 ·rintro k rfl
  cases hk : (digs MB n).length with
  | zero =>
   rw [smallS_zero]
   refine r_z 3 ?_
   refine AWp.ret ?_
   refine Fin.cell rfl rfl rfl tg_31.h ts_31.h (nle rfl) (Cv.agg (CvL.cons (Cv.emp _ ?_) CvL.nil))
   unfold mag
   rw [List.length_eq_zero_iff] at hk
   rw [hk]; rfl
  | succ k =>
   rw [smallS_succ]
   refine r_z 3 ?_
   refine AWp.ret ?_
   refine Fin.cell rfl rfl rfl tg_31.h ts_31.h (nle rfl) (Cv.agg (CvL.cons (Cv.shut shr_nil rfl (fun _ _ h => by cases h) ?_ ?_) CvL.nil))
   ·simp [preD_length (Nat.le_of_eq hk.symm)]
   ·refine CvLL.cloE shr_nil ?_ (closed_dE _)
    have h1 : (preD n (k + 1)).length = k + 1 := preD_length (Nat.le_of_eq hk.symm)
    have h2 := preD_end n
    rw [hk] at h2
    simp only [List.drop_zero, dE_take]
    rw [List.take_of_length_le (Nat.le_of_eq h1), h2]
def plusS (p : Nat) (q : Nat) : List Nat × Nat → AState
 | (s, c) => ⟨[(26, i64 s.length), (25, i64 (digs MB p).length), (24, mag p), (2, .lptr 1 0 0), (3, .lptr 2 0 0), (4, .lptr 3 0 0), (5, .lsl 4 0 ((digs MB p).length + 1) (some ((digs MB p).length + 1)) 1), (6, u32 c)],
  [(1, some ⟨31, 1, [[mag p]]⟩), (2, some ⟨31, 1, [[mag q]]⟩), (3, some ⟨31, 1, [[.emp]]⟩), (4, some ⟨236, 1, dE (s ++ List.replicate ((digs MB p).length + 1 - s.length) 0)⟩)], 5, 63⟩
theorem plusS_mk (p : Nat) (q : Nat) (s : List Nat) (c : Nat) : plusS p q (s, c) = ⟨[(26, i64 s.length), (25, i64 (digs MB p).length), (24, mag p), (2, .lptr 1 0 0), (3, .lptr 2 0 0), (4, .lptr 3 0 0), (5, .lsl 4 0 ((digs MB p).length + 1) (some ((digs MB p).length + 1)) 1), (6, u32 c)],
   [(1, some ⟨31, 1, [[mag p]]⟩), (2, some ⟨31, 1, [[mag q]]⟩), (3, some ⟨31, 1, [[.emp]]⟩), (4, some ⟨236, 1, dE (s ++ List.replicate ((digs MB p).length + 1 - s.length) 0)⟩)], 5, 63⟩ := rfl
structure PlusI (p q : Nat) (a : List Nat × Nat) : Prop where
 le : a.1.length ≤ (digs MB p).length
 dig : ∀ d ∈ a.1, d < MB
 car : a.2 ≤ 1
 val : ofD MB a.1 + MB ^ a.1.length * a.2 = ofD MB ((digs MB p).take a.1.length) + ofD MB ((digs MB q).take a.1.length)
theorem fs_plus (a b : Nat) (h : bl a + bl b ≤ 17592186044416) : FSpec Tryz.prog 181 [.agg [mag a], .agg [mag b]] (.agg [mag (a + b)]) := by
 have hla := digs_length (b := MB) (by decide) a
 have hlb := digs_length (b := MB) (by decide) b
 refine FSpec.enter Tryz.func181 rfl (by kernel_rfl) rfl rfl rfl ?_ rfl ?_
 ·exact closed_cons (closed_agg (closed_cons (closed_mag a) closed_nil)) (closed_cons (closed_agg (closed_cons (closed_mag b) closed_nil)) closed_nil)
 refine r_z 3 ?_
 refine AWp.seq ?_
 refine r_z 7 ?_
 refine AWp.cutT (fun x : Nat × Nat => ⟨[(2, .lptr 1 0 0), (3, .lptr 2 0 0), (4, .lptr 3 0 0)], [(1, some ⟨31, 1, [[mag x.1]]⟩), (2, some ⟨31, 1, [[mag x.2]]⟩), (3, some ⟨31, 1, [[.emp]]⟩)], 4, 63⟩)
  (fun x => x.1 + x.2 = a + b ∧ (digs MB x.2).length ≤ (digs MB x.1).length ∧ (digs MB x.1).length ≤ 17592186044416) ?_ ?_
 ·refine AWp.cond rfl (fun h => ?_) (fun h => ?_)
  ·refine AWp.reg (m := 4) rfl ?_
   refine a_z ?_
   refine ⟨(b, a), ⟨by simp; omega, ?_, by simp; omega⟩, ?_⟩
   ·simp at h; simp; omega
   ·exact s_e []
  ·refine AWp.skip ⟨(a, b), ⟨rfl, ?_, by simp; omega⟩, ?_⟩
   ·simp at h; simpa using h
   ·exact s_e []
 rintro ⟨p, q⟩ ⟨hpq, hqp, hp⟩
 simp only at hpq hqp hp ⊢
 refine r_z 6 ?_
 refine r_z 1 ?_
 refine AWp.seq ?_
 refine r_z 4 ?_
 refine AWp.cutT (plusS p q) (fun x => PlusI p q x ∧ x.1.length = (digs MB p).length) ?_ ?_
 ·refine AWp.block ?_
  refine AWp.loopS (plusS p q) (fun x => (digs MB p).length - x.1.length) (PlusI p q) ([], 0) ⟨by simp, by simp, by simp, by simp [ofD]⟩ ?_ ?_
  ·rw [plusS_mk]
   exact s_e [(4, 5)]
  rintro ⟨s, c⟩ ⟨hle, hdig, hcar, hval⟩
  simp only at hle hdig hcar hval
  rw [plusS_mk]
  refine r_z 1 ?_
  refine AWp.seq ?_
  refine AWp.cond rfl (fun h => ?_) (fun h => ?_)
  ·refine AWp.skip ?_
   have hlt : s.length < (digs MB p).length := by simpa using h
   obtain ⟨x, hx⟩ : ∃ x, (digs MB p)[s.length]? = some x := ⟨_, List.getElem?_eq_getElem hlt⟩
   have hx1 : x < 1000000000 := digs_get_lt (by decide) hx
   have hx' : (dE (digs MB p))[((s.length : Nat) : Int).toNat]? = some [u32 x] := dE_get hx
   refine AWp.seq ?_
   refine AWp.block ?_
   refine s_r 5 ?_
   refine a_1 ?_
   first | refine AR.op0 (.index_l rfl rfl (by omega) (by omega) te_29.h) rfl rfl ?_ | refine AR.op0 (.index_a rfl rfl (by omega) hx' rfl te_29.h) rfl rfl ?_
   first | refine AR.op0 (.load_l1 rfl rfl hx' tg_236.h rfl) rfl rfl ?_ | refine AR.op0 (.load_a1 rfl hx' tg_236.h rfl) rfl rfl ?_
   refine a_z ?_
   refine r_z 4 ?_
   refine AWp.seq ?_
   refine r_z 5 ?_
   have hq0 : ∀ y, ((digs MB q)[s.length]?.getD 0 = y) → y < 1000000000 := by
    rintro y rfl
    cases hy : (digs MB q)[s.length]? with
    | none => decide
    | some y => exact digs_get_lt (by decide) hy
   refine AWp.cutT (fun v : Nat => ⟨[(26, i64 s.length), (25, i64 (digs MB p).length), (24, mag p), (2, .lptr 1 0 0), (3, .lptr 2 0 0), (4, .lptr 3 0 0), (5, .lsl 4 0 ((digs MB p).length + 1) (some ((digs MB p).length + 1)) 1), (7, i64 s.length), (8, u32 v)],
    [(1, some ⟨31, 1, [[mag p]]⟩), (2, some ⟨31, 1, [[mag q]]⟩), (3, some ⟨31, 1, [[.emp]]⟩), (4, some ⟨236, 1, dE (s ++ List.replicate ((digs MB p).length + 1 - s.length) 0)⟩)], 5, 63⟩)
    (fun v => v = x + c + (digs MB q)[s.length]?.getD 0) ?_ ?_
   ·refine AWp.cond rfl (fun h => ?_) (fun h => ?_)
    ·have hlt2 : s.length < (digs MB q).length := by simpa using h
     obtain ⟨y, hy⟩ : ∃ y, (digs MB q)[s.length]? = some y := ⟨_, List.getElem?_eq_getElem hlt2⟩
     have hy1 : y < 1000000000 := digs_get_lt (by decide) hy
     have hy' : (dE (digs MB q))[((s.length : Nat) : Int).toNat]? = some [u32 y] := dE_get hy
     refine AWp.reg (m := 8) rfl ?_
     refine a_4 ?_
     first | refine AR.op0 (.index_l rfl rfl (by omega) (by omega) te_29.h) rfl rfl ?_ | refine AR.op0 (.index_a rfl rfl (by omega) hy' rfl te_29.h) rfl rfl ?_
     first | refine AR.op0 (.load_l1 rfl rfl hy' tg_236.h rfl) rfl rfl ?_ | refine AR.op0 (.load_a1 rfl hy' tg_236.h rfl) rfl rfl ?_
     refine a_z ?_
     refine ⟨x + c + y, by rw [hy]; rfl, ?_⟩
     exact s_e []
    ·have hlt2 : ¬ s.length < (digs MB q).length := by simpa using h
     refine AWp.skip ⟨x + c, by rw [List.getElem?_eq_none (by omega)]; rfl, ?_⟩
     exact s_e []
   rintro v hv
   obtain ⟨y, hy⟩ : ∃ y, y = (digs MB q)[s.length]?.getD 0 := ⟨_, rfl⟩
   have hy1 := hq0 y hy.symm
   rw [← hy] at hv
   refine r_z 1 ?_
   refine AWp.seq ?_
   refine r_z 2 ?_
   have hg : (dE (s ++ List.replicate ((digs MB p).length + 1 - s.length) 0))[0 + ((s.length : Nat) : Int).toNat]? = some [u32 0] := by
    rw [Nat.zero_add, Int.toNat_natCast]
    exact dE_get (by rw [show (digs MB p).length + 1 - s.length = ((digs MB p).length - s.length) + 1 by omega]; exact get_snoc _ _ _ rfl)
   have hset : ∀ w : Nat, (dE (s ++ List.replicate ((digs MB p).length + 1 - s.length) 0)).set (0 + ((s.length : Nat) : Int).toNat) [u32 w] = dE ((s ++ [w]) ++ List.replicate ((digs MB p).length + 1 - (s ++ [w]).length) 0) := by
    intro w
    rw [Nat.zero_add, Int.toNat_natCast, dE_set, show (digs MB p).length + 1 - s.length = ((digs MB p).length - s.length) + 1 by omega, set_snoc _ _ _ _ rfl, show (digs MB p).length + 1 - (s ++ [w]).length = (digs MB p).length - s.length by simp]
   have hnext : ∀ w c', w + 1000000000 * c' = x + c + y → w < 1000000000 → c' ≤ 1 → PlusI p q (s ++ [w], c') := by
    intro w c' hw hwb hc'
    refine ⟨by simp; omega, ?_, hc', ?_⟩
    ·intro d hd
     rcases List.mem_append.1 hd with hd | hd
     ·exact hdig d hd
     ·simp at hd; subst hd; exact hwb
    ·simp only [List.length_append, List.length_singleton]
     rw [ofD_snoc, ofD_take_succ _ hx, ofD_takeD_succ, ← hy, Nat.pow_succ]
     have e : MB ^ s.length * w + MB ^ s.length * MB * c' = MB ^ s.length * (w + MB * c') := by rw [Nat.mul_add, Nat.mul_assoc]
     have e2 : MB ^ s.length * (x + c + y) = MB ^ s.length * x + MB ^ s.length * c + MB ^ s.length * y := by rw [Nat.mul_add, Nat.mul_add]
     rw [hw, e2] at e
     omega
   refine AWp.cond rfl (fun h => ?_) (fun h => ?_)
   ·have hb : 1000000000 ≤ v := by have := of_decide_eq_true h; omega
    have hv1 : ((v : Int) - 1000000000) = ((v - 1000000000 : Nat) : Int) := by omega
    refine AWp.reg (m := 4) rfl ?_
    refine a_z ?_
    refine AWp.reg (m := 5) rfl ?_
    refine a_4 ?_
    refine o_1n (.store rfl rfl hg rfl rfl rfl ts_236.h (nle rfl)) ?_
    refine AR.nil ?_
    refine AWp.reg (m := 2) rfl ?_
    refine a_z ?_
    refine ⟨(s ++ [v - 1000000000], 1), by simp; omega, hnext _ _ (by omega) (by omega) (Nat.le_refl _), ?_⟩
    rw [plusS_mk]
    refine SEnt.to [] rfl rfl rfl au_r (fun hs => au_f) (fun hs => ?_)
    ·repeat' (first | exact CvH.nil | refine CvH.cons rfl rfl rfl rfl ?_ ?_)
     all_goals (first | (refine CvLL.cloE hs ?_ (closed_dE _); rw [hv1]; exact hset _) | exact au_e)
   ·have hb : v < 1000000000 := by have := of_decide_eq_false h; omega
    refine AWp.skip ?_
    refine AWp.reg (m := 5) rfl ?_
    refine a_4 ?_
    refine o_1n (.store rfl rfl hg rfl rfl rfl ts_236.h (nle rfl)) ?_
    refine AR.nil ?_
    refine AWp.reg (m := 2) rfl ?_
    refine a_z ?_
    refine ⟨(s ++ [v], 0), by simp; omega, hnext _ _ (by omega) hb (by omega), ?_⟩
    rw [plusS_mk]
    refine SEnt.to [] rfl rfl rfl au_r (fun hs => au_f) (fun hs => ?_)
    ·repeat' (first | exact CvH.nil | refine CvH.cons rfl rfl rfl rfl ?_ ?_)
     all_goals (first | (refine CvLL.cloE hs ?_ (closed_dE _); exact hset _) | exact au_e)
  ·refine AWp.exit ⟨(s, c), ⟨⟨hle, hdig, hcar, hval⟩, ?_⟩, ?_⟩
   ·simp at h; simp; omega
   ·rw [plusS_mk]
    exact s_e []
 rintro ⟨s, c⟩ ⟨⟨hle, hdig, hcar, hval⟩, hlen⟩
 simp only at hle hdig hcar hval hlen
 have hg : (dE (s ++ List.replicate ((digs MB p).length + 1 - s.length) 0))[0 + (((digs MB p).length : Nat) : Int).toNat]? = some [u32 0] := by
  rw [Nat.zero_add, Int.toNat_natCast, ← hlen]
  exact dE_get (by rw [show s.length + 1 - s.length = 0 + 1 by omega]; exact get_snoc _ _ _ rfl)
 have hset : (dE (s ++ List.replicate ((digs MB p).length + 1 - s.length) 0)).set (0 + (((digs MB p).length : Nat) : Int).toNat) [u32 c] = dE (s ++ [c]) := by
  rw [Nat.zero_add, Int.toNat_natCast, ← hlen, dE_set, show s.length + 1 - s.length = 0 + 1 by omega, set_snoc _ _ _ _ rfl]; simp
 have hres : trimD (s ++ [c]) = digs MB (a + b) := by
  rw [trimD_eq (b := MB) (by decide), ofD_snoc, hval, ofD_take_end _ (by omega), ofD_take_end _ (by omega), ofD_digs (by decide), ofD_digs (by decide), hpq]
  intro d hd
  rcases List.mem_append.1 hd with hd | hd
  ·exact hdig d hd
  ·simp at hd; subst hd; show d < 1000000000; omega
 rw [plusS_mk]
 refine s_r 7 ?_
 refine a_6 ?_
 refine o_1n (.store rfl rfl hg rfl rfl rfl ts_236.h (nle rfl)) ?_
 refine AR.nil ?_
 refine AWp.ent (st' := ⟨[(4, .lptr 3 0 0), (5, .arr (dE (s ++ [c])))], [(3, some ⟨31, 1, [[.emp]]⟩)], 4, 63⟩) ?_ ?_
 ·refine SEnt.to [] rfl rfl rfl au_r (fun hs => ?_) (fun hs => ?_)
  ·repeat' (first | exact CvF.nil | refine CvF.cons rfl ?_ ?_)
   all_goals (first | (exact Cv.sealE hs rfl (dead_of rfl) hset (by simp [hlen]) (closed_dE _)) | exact au_c)
  ·repeat' (first | exact CvH.nil | refine CvH.cons rfl rfl rfl rfl ?_ ?_)
   all_goals (first | exact au_e | (refine CvLL.box ?_; repeat' (first | exact CvL.nil | refine CvL.cons ?_ ?_)))
   all_goals (first | (exact Cv.sealE hs rfl (dead_of rfl) hset (by simp [hlen]) (closed_dE _)) | exact au_c)
 refine s_r 3 ?_
 refine o_0 (.move rfl) ?_
 refine o_0 (.call rfl rfl rfl (fs_trimmed _ (by simp; omega))) ?_
 refine a_z ?_
 refine AWp.ret ?_
 refine Fin.cellE rfl rfl rfl tg_31.h ts_31.h (nle rfl) ?_ (closed_agg (closed_cons (closed_mag _) closed_nil))
 rw [hres]; rfl
def agS (a : Nat) (b : Nat) : Nat → AState
 | k => ⟨[(2, .lptr 1 0 0), (3, .lptr 2 0 0), (6, i64 ((k : Int) - 1))], [(1, some ⟨31, 1, [[mag a]]⟩), (2, some ⟨31, 1, [[mag b]]⟩)], 3, 40⟩
theorem agS_mk (a : Nat) (b : Nat) (k : Nat) : agS a b k = ⟨[(2, .lptr 1 0 0), (3, .lptr 2 0 0), (6, i64 ((k : Int) - 1))], [(1, some ⟨31, 1, [[mag a]]⟩), (2, some ⟨31, 1, [[mag b]]⟩)], 3, 40⟩ := rfl
theorem fs_against (a b : Nat) (h : bl a + bl b ≤ 17592186044416) : FSpec Tryz.prog 104 [.agg [mag a], .agg [mag b]] (i64 (cmpZ a b)) := by
 have hla := digs_length (b := MB) (by decide) a
 have hlb := digs_length (b := MB) (by decide) b
 refine FSpec.enter Tryz.func104 rfl (by kernel_rfl) rfl rfl rfl ?_ rfl ?_
 ·exact closed_cons (closed_agg (closed_cons (closed_mag a) closed_nil)) (closed_cons (closed_agg (closed_cons (closed_mag b) closed_nil)) closed_nil)
 refine r_z 3 ?_
 refine AWp.seq ?_
 refine r_c 8 (fs_Compare_i _ _) ?_
 refine a_z ?_
 refine r_z 2 ?_
 refine AWp.cond rfl (fun h => ?_) (fun h => ?_)
 ·have hne : cmpZ (digs MB a).length (digs MB b).length ≠ 0 := by simpa using h
  refine r_z 2 ?_
  refine AWp.ret (Fin.tmpE rfl ?_ (closed_v _))
  unfold i64
  congr 2
  rw [cmpZ_ne] at hne
  rcases Nat.lt_or_ge (digs MB a).length (digs MB b).length with hl | hl
  ·have := lt_of_len (by decide) hl
   rw [cmpZ_lt (by omega), cmpZ_lt (by omega)]
  ·have := lt_of_len (m := b) (n := a) (b := MB) (by decide) (by omega)
   rw [cmpZ_gt (by omega), cmpZ_gt (by omega)]
 have heq : (digs MB a).length = (digs MB b).length := by
  have h0 : ¬ cmpZ (digs MB a).length (digs MB b).length ≠ 0 := by simpa using h
  rw [cmpZ_ne] at h0; omega
 refine AWp.skip ?_
 refine AWp.seq ?_
 refine r_z 5 ?_
 refine AWp.cutT (agS a b) (fun k => k = 0 ∧ a = b) ?_ ?_
 ·refine AWp.block ?_
  refine AWp.loopS (agS a b) (fun k => k) (fun k => k ≤ (digs MB a).length ∧ (digs MB a).drop k = (digs MB b).drop k) (digs MB a).length ⟨Nat.le_refl _, by rw [List.drop_length, heq, List.drop_length]⟩ ?_ ?_
  ·rw [agS_mk]
   exact s_e []
  rintro k ⟨hk, hd⟩
  rw [agS_mk]
  refine AWp.seq ?_
  refine r_z 2 ?_
  refine AWp.cond rfl (fun h => ?_) (fun h => ?_)
  ·have hk0 : 0 < k := by have := of_decide_eq_true h; omega
   obtain ⟨x, hx⟩ : ∃ x, (digs MB a)[k - 1]? = some x := ⟨_, List.getElem?_eq_getElem (by omega)⟩
   obtain ⟨y, hy⟩ : ∃ y, (digs MB b)[k - 1]? = some y := ⟨_, List.getElem?_eq_getElem (by omega)⟩
   have hx' : (dE (digs MB a))[((k : Int) - 1).toNat]? = some [u32 x] := by rw [show ((k : Int) - 1).toNat = k - 1 by omega]; exact dE_get hx
   have hy' : (dE (digs MB b))[((k : Int) - 1).toNat]? = some [u32 y] := by rw [show ((k : Int) - 1).toNat = k - 1 by omega]; exact dE_get hy
   rw [show k = (k - 1) + 1 by omega] at hd
   refine AWp.skip ?_
   refine AWp.seq ?_
   refine AWp.block ?_
   refine AWp.seq ?_
   refine AWp.regD hmix (m := 12) rfl ?_
   refine a_3 ?_
   first | refine AR.op0 (.index_l rfl rfl (by omega) (by omega) te_29.h) rfl rfl ?_ | refine AR.op0 (.index_a rfl rfl (by omega) hx' rfl te_29.h) rfl rfl ?_
   first | refine AR.op0 (.load_l1 rfl rfl hx' tg_236.h rfl) rfl rfl ?_ | refine AR.op0 (.load_a1 rfl hx' tg_236.h rfl) rfl rfl ?_
   refine a_3 ?_
   first | refine AR.op0 (.index_l rfl rfl (by omega) (by omega) te_29.h) rfl rfl ?_ | refine AR.op0 (.index_a rfl rfl (by omega) hy' rfl te_29.h) rfl rfl ?_
   first | refine AR.op0 (.load_l1 rfl rfl hy' tg_236.h rfl) rfl rfl ?_ | refine AR.op0 (.load_a1 rfl hy' tg_236.h rfl) rfl rfl ?_
   refine c_s (fs_Compare_u x y) ?_
   refine a_1 ?_
   refine AR.nil ⟨by kernel_rfl, ?_⟩
   refine r_z 2 ?_
   refine AWp.cond rfl (fun h2 => ?_) (fun h2 => ?_)
   ·have hne : cmpZ x y ≠ 0 := by simpa using h2
    refine r_z 2 ?_
    refine AWp.ret (Fin.tmpE rfl ?_ (closed_v _))
    unfold i64
    congr 2
    rw [cmpZ_ne] at hne
    rcases Nat.lt_or_ge x y with hl | hl
    ·have := lt_of_top (b := MB) (digs_lt (by decide) a) hx hy hd hl
     rw [ofD_digs (by decide), ofD_digs (by decide)] at this
     rw [cmpZ_lt (by omega), cmpZ_lt (by omega)]
    ·have := lt_of_top (b := MB) (digs_lt (by decide) b) hy hx hd.symm (by omega)
     rw [ofD_digs (by decide), ofD_digs (by decide)] at this
     rw [cmpZ_gt (by omega), cmpZ_gt (by omega)]
   ·have hxy : x = y := by
     have h0 : ¬ cmpZ x y ≠ 0 := by simpa using h2
     rw [cmpZ_ne] at h0; omega
    refine AWp.skip ?_
    refine AWp.reg (m := 3) rfl ?_
    refine a_z ?_
    refine ⟨k - 1, by omega, ⟨by omega, ?_⟩, ?_⟩
    ·rw [drop_cons hx, drop_cons hy, hd, hxy]
    ·rw [agS_mk]
     exact s_e []
  ·have hk0 : k = 0 := by have := of_decide_eq_false h; omega
   subst hk0
   refine AWp.exit ⟨0, ⟨rfl, ?_⟩, ?_⟩
   ·have := congrArg (ofD MB) hd
    rwa [List.drop_zero, List.drop_zero, ofD_digs (by decide), ofD_digs (by decide)] at this
   ·rw [agS_mk]
    exact s_e []
 rintro k ⟨rfl, hab⟩
 rw [agS_mk]
 refine r_z 1 ?_
 refine AWp.ret (Fin.tmpE rfl ?_ (closed_v _))
 subst hab
 rw [cmpZ_eq rfl]; rfl
def leS (a : Nat) (b : Nat) : List Nat × Nat → AState
 | (s, c) => ⟨[(19, i64 s.length), (18, i64 (digs MB a).length), (2, .lptr 1 0 0), (3, .lptr 2 0 0), (4, .lptr 3 0 0), (5, .lsl 4 0 (digs MB a).length (some (digs MB a).length) 1), (6, u32 c)],
  [(1, some ⟨31, 1, [[mag a]]⟩), (2, some ⟨31, 1, [[mag b]]⟩), (3, some ⟨31, 1, [[.emp]]⟩), (4, some ⟨236, 1, dE (s ++ (digs MB a).drop s.length)⟩)], 5, 61⟩
theorem leS_mk (a : Nat) (b : Nat) (s : List Nat) (c : Nat) : leS a b (s, c) = ⟨[(19, i64 s.length), (18, i64 (digs MB a).length), (2, .lptr 1 0 0), (3, .lptr 2 0 0), (4, .lptr 3 0 0), (5, .lsl 4 0 (digs MB a).length (some (digs MB a).length) 1), (6, u32 c)],
   [(1, some ⟨31, 1, [[mag a]]⟩), (2, some ⟨31, 1, [[mag b]]⟩), (3, some ⟨31, 1, [[.emp]]⟩), (4, some ⟨236, 1, dE (s ++ (digs MB a).drop s.length)⟩)], 5, 61⟩ := rfl
def leT (n : Nat) : List Nat × Unit → AState
 | (o, u) => ⟨[(4, .lptr 3 0 0), (5, .lsl 4 0 n (some n) 1)],
  [(3, some ⟨31, 1, [[.emp]]⟩), (4, some ⟨236, 1, dE o⟩)], 5, 61⟩
theorem leT_mk (n : Nat) (o : List Nat) (u : Unit) : leT n (o, u) = ⟨[(4, .lptr 3 0 0), (5, .lsl 4 0 n (some n) 1)],
   [(3, some ⟨31, 1, [[.emp]]⟩), (4, some ⟨236, 1, dE o⟩)], 5, 61⟩ := rfl
structure LessI (a b : Nat) (x : List Nat × Nat) : Prop where
 le : x.1.length ≤ (digs MB a).length
 dig : ∀ d ∈ x.1, d < MB
 car : x.2 ≤ 1
 val : ofD MB x.1 + ofD MB ((digs MB b).take x.1.length) = ofD MB ((digs MB a).take x.1.length) + MB ^ x.1.length * x.2
theorem fs_less (a b : Nat) (h : bl a ≤ 17592186044416) (hba : b ≤ a) : FSpec Tryz.prog 179 [.agg [mag a], .agg [mag b]] (.agg [mag (a - b)]) := by
 have hla := digs_length (b := MB) (by decide) a
 have hlen := len_mono (b := MB) (by decide) hba
 have va := ofD_digs (b := MB) (by decide) a
 have vb := ofD_digs (b := MB) (by decide) b
 refine FSpec.enter Tryz.func179 rfl (by kernel_rfl) rfl rfl rfl ?_ rfl ?_
 ·exact closed_cons (closed_agg (closed_cons (closed_mag a) closed_nil)) (closed_cons (closed_agg (closed_cons (closed_mag b) closed_nil)) closed_nil)
 refine r_z 3 ?_
 refine r_z 5 ?_
 refine s_r 4 ?_
 refine a_3 ?_
 refine o_1 (.copy rfl rfl rfl te_29.h rfl rfl rfl (by first | (simp; done) | (simp; omega)) (by first | exact dE_one _ | exact iE_one _ | exact pE_one _ | exact cE_one _ | exact rE_one _ | rfl | simp) rfl (.arr (dE_len1 _))) ?_
 refine AR.nil ?_
 have hcp : setAt (List.replicate (digs MB a).length [ofV (Value.int IntKind.u32 0)]) 0 (List.take (Nat.min (dE (digs MB a)).length (digs MB a).length) (dE (digs MB a))) = dE ([] ++ (digs MB a).drop 0) := by
  rw [setAt_all]
  ·rw [List.take_of_length_le (by simp)]; rfl
  ·simp
 refine r_z 1 ?_
 refine AWp.seq ?_
 refine r_z 3 ?_
 refine AWp.cutT (leT (digs MB a).length) (fun x => (∀ d ∈ x.1, d < MB) ∧ x.1.length = (digs MB a).length ∧ ofD MB x.1 = a - b) ?_ ?_
 ·refine AWp.block ?_
  refine AWp.loopS (leS a b) (fun x => (digs MB a).length - x.1.length) (LessI a b) ([], 0) ⟨by simp, by simp, by simp, by simp [ofD]⟩ ?_ ?_
  ·rw [leS_mk]
   refine SEnt.to [(4, 5)] rfl rfl rfl ?_ (fun hs => au_f) (fun hs => ?_)
   ·repeat' (first | exact ShrL.nil | refine ShrL.cons rfl rfl rfl rfl (by first | (exact (congrArg List.length hcp).trans (by simp)) | rfl | (simp; done) | (simp <;> omega)) ?_)
   ·repeat' (first | exact CvH.nil | refine CvH.cons rfl rfl rfl rfl ?_ ?_)
    all_goals (first | (exact CvLL.cloE hs hcp (closed_dE _)) | exact au_e)
  rintro ⟨s, c⟩ ⟨hle, hdig, hcar, hval⟩
  simp only at hle hdig hcar hval
  rw [leS_mk]
  refine r_z 1 ?_
  refine AWp.seq ?_
  refine AWp.cond rfl (fun h => ?_) (fun h => ?_)
  ·have hlt : s.length < (digs MB a).length := by have := of_decide_eq_true h; omega
   obtain ⟨x, hx⟩ : ∃ x, (digs MB a)[s.length]? = some x := ⟨_, List.getElem?_eq_getElem hlt⟩
   have hx1 : x < 1000000000 := digs_get_lt (by decide) hx
   have hdx := drop_cons hx
   refine AWp.skip ?_
   refine AWp.seq ?_
   refine AWp.block ?_
   refine r_z 2 ?_
   refine r_z 2 ?_
   refine AWp.seq ?_
   refine r_z 5 ?_
   refine AWp.cutT (fun v : Nat => ⟨[(19, i64 s.length), (18, i64 (digs MB a).length), (2, .lptr 1 0 0), (3, .lptr 2 0 0), (4, .lptr 3 0 0), (5, .lsl 4 0 (digs MB a).length (some (digs MB a).length) 1), (6, u32 c), (7, i64 s.length), (8, u32 v)],
    [(1, some ⟨31, 1, [[mag a]]⟩), (2, some ⟨31, 1, [[mag b]]⟩), (3, some ⟨31, 1, [[.emp]]⟩), (4, some ⟨236, 1, dE (s ++ (digs MB a).drop s.length)⟩)], 5, 61⟩)
    (fun v => v = c + (digs MB b)[s.length]?.getD 0 ∧ v ≤ 1000000000) ?_ ?_
   ·refine AWp.cond rfl (fun h => ?_) (fun h => ?_)
    ·have hlt2 : s.length < (digs MB b).length := by have := of_decide_eq_true h; omega
     obtain ⟨y, hy⟩ : ∃ y, (digs MB b)[s.length]? = some y := ⟨_, List.getElem?_eq_getElem hlt2⟩
     have hy1 : y < 1000000000 := digs_get_lt (by decide) hy
     have hy' : (dE (digs MB b))[((s.length : Nat) : Int).toNat]? = some [u32 y] := dE_get hy
     refine AWp.reg (m := 8) rfl ?_
     refine a_4 ?_
     first | refine AR.op0 (.index_l rfl rfl (by omega) (by omega) te_29.h) rfl rfl ?_ | refine AR.op0 (.index_a rfl rfl (by omega) hy' rfl te_29.h) rfl rfl ?_
     first | refine AR.op0 (.load_l1 rfl rfl hy' tg_236.h rfl) rfl rfl ?_ | refine AR.op0 (.load_a1 rfl hy' tg_236.h rfl) rfl rfl ?_
     refine a_z ?_
     refine ⟨c + y, ⟨by rw [hy]; rfl, by omega⟩, ?_⟩
     exact s_e []
    ·have hlt2 : ¬ s.length < (digs MB b).length := by have := of_decide_eq_false h; omega
     refine r_z 2 ?_
     refine AWp.cond rfl (fun h => ?_) (fun h => ?_)
     ·have hc0 : c = 0 := by simpa using h
      refine AWp.exit ⟨(s ++ (digs MB a).drop s.length, ()), ⟨?_, by simp; omega, ?_⟩, ?_⟩
      ·intro d hd
       rcases List.mem_append.1 hd with hd | hd
       ·exact hdig d hd
       ·exact digs_lt (by decide) a d (List.mem_of_mem_drop hd)
      ·have := ofD_take_drop MB s.length (digs MB a) (by omega)
       rw [va] at this
       rw [ofD_take_end _ (by omega), vb, hc0] at hval
       simp only [ofD_append]
       omega
      ·rw [leT_mk]
       exact s_e []
     ·refine AWp.skip ⟨c, ⟨by rw [List.getElem?_eq_none (by omega)]; rfl, by omega⟩, ?_⟩
      exact s_e []
   rintro v ⟨hv, hv1⟩
   obtain ⟨y, hy⟩ : ∃ y, y = (digs MB b)[s.length]?.getD 0 := ⟨_, rfl⟩
   rw [← hy] at hv
   have hg : (dE (s ++ (digs MB a).drop s.length))[0 + ((s.length : Nat) : Int).toNat]? = some [u32 x] := by
    rw [Nat.zero_add, Int.toNat_natCast, hdx]
    exact dE_get (get_mid _ _ _ _ rfl)
   have hset : ∀ w : Nat, (dE (s ++ (digs MB a).drop s.length)).set (0 + ((s.length : Nat) : Int).toNat) [u32 w] = dE ((s ++ [w]) ++ (digs MB a).drop (s ++ [w]).length) := by
    intro w
    rw [Nat.zero_add, Int.toNat_natCast, dE_set, hdx, set_mid _ _ _ _ _ rfl]; simp
   have hnext : ∀ w c', w + v = x + 1000000000 * c' → w < 1000000000 → c' ≤ 1 → LessI a b (s ++ [w], c') := by
    intro w c' hw hwb hc'
    refine ⟨by simp; omega, ?_, hc', ?_⟩
    ·intro d hd
     rcases List.mem_append.1 hd with hd | hd
     ·exact hdig d hd
     ·simp at hd; subst hd; exact hwb
    ·simp only [List.length_append, List.length_singleton]
     rw [ofD_snoc, ofD_take_succ _ hx, ofD_takeD_succ, ← hy, Nat.pow_succ]
     have e : MB ^ s.length * (w + v) = MB ^ s.length * (x + MB * c') := by rw [hw]
     rw [hv, Nat.mul_add, Nat.mul_add, Nat.mul_add, ← Nat.mul_assoc] at e
     omega
   refine r_z 1 ?_
   refine AWp.seq ?_
   refine s_r 6 ?_
   refine a_2 ?_
   first | refine AR.op0 (.index_l rfl rfl (by omega) (by omega) te_29.h) rfl rfl ?_ | refine AR.op0 (.index_a rfl rfl (by omega) hg rfl te_29.h) rfl rfl ?_
   first | refine AR.op0 (.load_l1 rfl rfl hg tg_236.h rfl) rfl rfl ?_ | refine AR.op0 (.load_a1 rfl hg tg_236.h rfl) rfl rfl ?_
   refine a_z ?_
   refine AWp.cond rfl (fun h => ?_) (fun h => ?_)
   ·have hb : x < v := by have := of_decide_eq_true h; omega
    have hv2 : ((x : Int) + 1000000000 - v) = ((x + 1000000000 - v : Nat) : Int) := by omega
    have hv3 : ((x : Int) + 1000000000) = ((x + 1000000000 : Nat) : Int) := by omega
    refine AWp.reg (m := 10) rfl ?_
    refine a_5 ?_
    first | refine AR.op0 (.load_l1 rfl rfl hg tg_236.h rfl) rfl rfl ?_ | refine AR.op0 (.load_a1 rfl hg tg_236.h rfl) rfl rfl ?_
    refine a_2 ?_
    refine o_1n (.store rfl rfl hg rfl rfl rfl ts_236.h (nle rfl)) ?_
    refine a_z ?_
    refine AWp.ent (st' := ⟨[(19, i64 s.length), (18, i64 (digs MB a).length), (2, .lptr 1 0 0), (3, .lptr 2 0 0), (4, .lptr 3 0 0), (5, .lsl 4 0 (digs MB a).length (some (digs MB a).length) 1), (6, u32 1), (7, i64 s.length), (8, u32 v)],
     [(1, some ⟨31, 1, [[mag a]]⟩), (2, some ⟨31, 1, [[mag b]]⟩), (3, some ⟨31, 1, [[.emp]]⟩), (4, some ⟨236, 1, dE (s ++ (x + 1000000000) :: (digs MB a).drop (s.length + 1))⟩)], 5, 61⟩) ?_ ?_
    ·refine SEnt.to [] rfl rfl rfl au_r (fun hs => au_f) (fun hs => ?_)
     ·repeat' (first | exact CvH.nil | refine CvH.cons rfl rfl rfl rfl ?_ ?_)
      all_goals (first | (refine CvLL.cloE hs ?_ (closed_dE _); rw [hv3]; exact (hset _).trans (by simp)) | exact au_e)
    have hg2 : (dE (s ++ (x + 1000000000) :: (digs MB a).drop (s.length + 1)))[0 + ((s.length : Nat) : Int).toNat]? = some [u32 (x + 1000000000)] := by
     rw [Nat.zero_add, Int.toNat_natCast]
     exact dE_get (get_mid _ _ _ _ rfl)
    have hset2 : ∀ w : Nat, (dE (s ++ (x + 1000000000) :: (digs MB a).drop (s.length + 1))).set (0 + ((s.length : Nat) : Int).toNat) [u32 w] = dE ((s ++ [w]) ++ (digs MB a).drop (s ++ [w]).length) := by
     intro w
     rw [Nat.zero_add, Int.toNat_natCast, dE_set, set_mid _ _ _ _ _ rfl]; simp
    have hv2 : (((x + 1000000000 : Nat) : Int) - v) = ((x + 1000000000 - v : Nat) : Int) := by omega
    refine AWp.reg (m := 8) rfl ?_
    refine a_2 ?_
    first | refine AR.op0 (.index_l rfl rfl (by omega) (by omega) te_29.h) rfl rfl ?_ | refine AR.op0 (.index_a rfl rfl (by omega) hg2 rfl te_29.h) rfl rfl ?_
    first | refine AR.op0 (.load_l1 rfl rfl hg2 tg_236.h rfl) rfl rfl ?_ | refine AR.op0 (.load_a1 rfl hg2 tg_236.h rfl) rfl rfl ?_
    refine a_3 ?_
    refine o_1n (.store rfl rfl hg2 rfl rfl rfl ts_236.h (nle rfl)) ?_
    refine AR.nil ?_
    refine AWp.reg (m := 2) rfl ?_
    refine a_z ?_
    refine ⟨(s ++ [x + 1000000000 - v], 1), by simp; omega, hnext _ _ (by omega) (by omega) (by omega), ?_⟩
    rw [leS_mk]
    refine SEnt.to [] rfl rfl rfl au_r (fun hs => au_f) (fun hs => ?_)
    ·repeat' (first | exact CvH.nil | refine CvH.cons rfl rfl rfl rfl ?_ ?_)
     all_goals (first | (refine CvLL.cloE hs ?_ (closed_dE _); rw [hv2]; exact hset2 _) | exact au_e)
   ·have hb : v ≤ x := by have := of_decide_eq_false h; omega
    have hv1 : ((x : Int) - v) = ((x - v : Nat) : Int) := by omega
    refine AWp.skip ?_
    refine AWp.reg (m := 8) rfl ?_
    refine a_2 ?_
    first | refine AR.op0 (.index_l rfl rfl (by omega) (by omega) te_29.h) rfl rfl ?_ | refine AR.op0 (.index_a rfl rfl (by omega) hg rfl te_29.h) rfl rfl ?_
    first | refine AR.op0 (.load_l1 rfl rfl hg tg_236.h rfl) rfl rfl ?_ | refine AR.op0 (.load_a1 rfl hg tg_236.h rfl) rfl rfl ?_
    refine a_3 ?_
    refine o_1n (.store rfl rfl hg rfl rfl rfl ts_236.h (nle rfl)) ?_
    refine AR.nil ?_
    refine AWp.reg (m := 2) rfl ?_
    refine a_z ?_
    refine ⟨(s ++ [x - v], 0), by simp; omega, hnext _ _ (by omega) (by omega) (by omega), ?_⟩
    rw [leS_mk]
    refine SEnt.to [] rfl rfl rfl au_r (fun hs => au_f) (fun hs => ?_)
    ·repeat' (first | exact CvH.nil | refine CvH.cons rfl rfl rfl rfl ?_ ?_)
     all_goals (first | (refine CvLL.cloE hs ?_ (closed_dE _); rw [hv1]; exact hset _) | exact au_e)
  ·have hl : s.length = (digs MB a).length := by have := of_decide_eq_false h; omega
   refine AWp.exit ⟨(s, ()), ⟨hdig, hl, ?_⟩, ?_⟩
   ·have h1 := ofD_lt hdig
    rw [hl, ofD_take_end _ hlen, ofD_take_end _ (Nat.le_refl _), va, vb] at hval
    rw [hl] at h1
    have h2 : c = 0 := by
     rcases Nat.eq_zero_or_pos c with h | h
     ·exact h
     ·have : MB ^ (digs MB a).length * 1 ≤ MB ^ (digs MB a).length * c := Nat.mul_le_mul_left _ h
      omega
    subst h2
    simp at hval ⊢
    omega
   ·rw [leT_mk]
    refine SEnt.to [] rfl rfl rfl ?_ (fun hs => ?_) (fun hs => ?_)
    ·repeat' (first | exact ShrL.nil | refine ShrL.cons rfl rfl rfl rfl (by first | rfl | (simp; done) | (simp [hl] <;> omega)) ?_)
    ·repeat' (first | exact CvF.nil | refine CvF.cons rfl ?_ ?_)
     all_goals (first | exact au_c | (refine Cv.loE hs ?_ (closed_v _); first | rfl | (simp [i64, u64, u32, bln, hl]; done) | (simp [i64, u64, u32, bln, hl] <;> omega)))
    ·repeat' (first | exact CvH.nil | refine CvH.cons rfl rfl rfl rfl ?_ ?_)
     all_goals (first | exact CvLL.bld rfl rfl rfl rfl rfl rfl | exact CvLL.bld0 hs | exact CvLL.clo hs (closed_bE _) | exact CvLL.clo hs (closed_dE _) | (refine CvLL.cloE hs ?_ (closed_dE _); first | (simp [dE_set, dE_append, dE_replicate, hl]; done) | (simp [dE, u32, ofV, hl]; done)) | exact CvLL.clo hs (closed_pE _) | exact CvLL.clo hs (closed_iE _) | (refine CvLL.cloE hs ?_ (closed_iE _); first | (simp [iE_set, iE_append, iE_replicate, hl]; done) | (simp [iE, i64, ofV, hl]; done)) | (refine CvLL.cloE hs ?_ (closed_pE _); first | (simp [pE_set, pE_append, hl]; done) | (simp [pE, ofV, hl]; done)) | (refine CvLL.box ?_; repeat' (first | exact CvL.nil | exact CvL.clo hs (closed_qC _) | refine CvL.cons ?_ ?_)))
     all_goals (first | exact Cv.clo hs (closed_v _) | exact Cv.ptr rfl rfl rfl | exact Cv.sl rfl rfl rfl | exact Cv.slN rfl rfl rfl | exact Cv.clo hs closed_emp | (refine Cv.clo hs ?_; first | assumption | exact closed_arrD _ | exact closed_mag _ | exact closed_v _ | exact closed_emp | exact closed_pA _ | exact closed_iA _ | exact closed_cA _ | exact closed_zZA _ | exact closed_qA _ | exact closed_mA _ | exact closed_spA _ _ | exact closed_clos closed_nil closed_nil | exact closed_bP _ | exact closed_bQ _ | exact closed_bS _ | exact closed_kA _ | exact closed_plA _ _ | exact closed_bPl _ _ | exact closed_bF | exact closed_rA _ | exact closed_rEA _ | (refine closed_clos closed_nil ?_; first | assumption | exact closed_cons (closed_bP _) closed_nil | exact closed_cons (closed_bQ _) closed_nil | exact closed_cons (closed_bPl _ _) closed_nil)) | (refine Cv.boxp hs rfl (dead_of rfl) rfl ?_; first | exact closed_qC _ | exact closed_spC _ _ | exact closed_zZ _ | exact closed_rC _ | (refine closed_cons ?_ closed_nil; first | assumption | exact closed_arrD _ | exact closed_mag _ | exact closed_v _ | exact closed_emp | exact closed_pA _ | exact closed_iA _ | exact closed_cA _ | exact closed_zZA _ | exact closed_qA _ | exact closed_mA _ | exact closed_spA _ _ | exact closed_clos closed_nil closed_nil | exact closed_bP _ | exact closed_bQ _ | exact closed_bS _ | exact closed_kA _ | exact closed_plA _ _ | exact closed_bPl _ _ | exact closed_bF | exact closed_rA _ | exact closed_rEA _ | (refine closed_clos closed_nil ?_; first | assumption | exact closed_cons (closed_bP _) closed_nil | exact closed_cons (closed_bQ _) closed_nil | exact closed_cons (closed_bPl _ _) closed_nil))) | (refine Cv.loE hs ?_ (closed_v _); first | rfl | (simp [i64, u64, u32, bln, hl]; done) | (simp [i64, u64, u32, bln, hl] <;> omega)) | (refine Cv.slE rfl rfl rfl ?_ ?_ ?_ <;> first | rfl | omega | (congr 1; omega) | (simp; done) | (simp <;> omega)) | exact Cv.emp _)
 rintro ⟨o, u⟩ ⟨hd, hl, hv⟩
 rw [leT_mk]
 refine AWp.ent (st' := ⟨[(4, .lptr 3 0 0), (5, .arr (dE o))], [(3, some ⟨31, 1, [[.emp]]⟩)], 4, 61⟩) ?_ ?_
 ·refine SEnt.to [] rfl rfl rfl au_r (fun hs => ?_) (fun hs => ?_)
  ·repeat' (first | exact CvF.nil | refine CvF.cons rfl ?_ ?_)
   all_goals (first | (exact Cv.sealE hs rfl (dead_of rfl) rfl (by simp [hl]) (closed_dE _)) | exact au_c)
  ·repeat' (first | exact CvH.nil | refine CvH.cons rfl rfl rfl rfl ?_ ?_)
   all_goals (first | exact au_e | (refine CvLL.box ?_; repeat' (first | exact CvL.nil | refine CvL.cons ?_ ?_)))
   all_goals (first | (exact Cv.sealE hs rfl (dead_of rfl) rfl (by simp [hl]) (closed_dE _)) | exact au_c)
 simp only at hl hv
 refine s_r 3 ?_
 refine o_0 (.move rfl) ?_
 refine o_0 (.call rfl rfl rfl (fs_trimmed _ (by omega))) ?_
 refine o_1n (.store rfl rfl rfl rfl rfl rfl ts_31.h (nle rfl)) ?_
 refine AR.nil ?_
 refine AWp.ret ?_
 refine Fin.cellE rfl rfl rfl tg_31.h ts_31.h (nle rfl) ?_ (closed_agg (closed_cons (closed_mag _) closed_nil))
 rw [trimD_eq (b := MB) (by decide) hd, hv]; rfl
def tiS (a : Nat) (b : Nat) : List Nat × Nat → AState
 | (o, i) => ⟨[(22, i64 i), (21, i64 (digs MB a).length), (20, mag a), (3, .lptr 2 0 0), (4, .lptr 3 0 0), (5, .lsl 4 0 ((digs MB a).length + (digs MB b).length) (some ((digs MB a).length + (digs MB b).length)) 1)],
  [(2, some ⟨31, 1, [[mag b]]⟩), (3, some ⟨31, 1, [[.emp]]⟩), (4, some ⟨236, 1, dE o⟩)], 5, 73⟩
theorem tiS_mk (a : Nat) (b : Nat) (o : List Nat) (i : Nat) : tiS a b (o, i) = ⟨[(22, i64 i), (21, i64 (digs MB a).length), (20, mag a), (3, .lptr 2 0 0), (4, .lptr 3 0 0), (5, .lsl 4 0 ((digs MB a).length + (digs MB b).length) (some ((digs MB a).length + (digs MB b).length)) 1)],
   [(2, some ⟨31, 1, [[mag b]]⟩), (3, some ⟨31, 1, [[.emp]]⟩), (4, some ⟨236, 1, dE o⟩)], 5, 73⟩ := rfl
def tiT (a : Nat) (b : Nat) (i : Nat) (x : Nat) : List Nat × Nat × Nat → AState
 | (o, k, c) => ⟨[(22, i64 i), (21, i64 (digs MB a).length), (20, mag a), (3, .lptr 2 0 0), (4, .lptr 3 0 0), (5, .lsl 4 0 ((digs MB a).length + (digs MB b).length) (some ((digs MB a).length + (digs MB b).length)) 1), (6, i64 i), (7, u32 x), (8, u64 c), (30, i64 k), (29, i64 (digs MB b).length), (28, mag b)],
  [(2, some ⟨31, 1, [[mag b]]⟩), (3, some ⟨31, 1, [[.emp]]⟩), (4, some ⟨236, 1, dE o⟩)], 5, 73⟩
theorem tiT_mk (a : Nat) (b : Nat) (i : Nat) (x : Nat) (o : List Nat) (k : Nat) (c : Nat) : tiT a b i x (o, k, c) = ⟨[(22, i64 i), (21, i64 (digs MB a).length), (20, mag a), (3, .lptr 2 0 0), (4, .lptr 3 0 0), (5, .lsl 4 0 ((digs MB a).length + (digs MB b).length) (some ((digs MB a).length + (digs MB b).length)) 1), (6, i64 i), (7, u32 x), (8, u64 c), (30, i64 k), (29, i64 (digs MB b).length), (28, mag b)],
   [(2, some ⟨31, 1, [[mag b]]⟩), (3, some ⟨31, 1, [[.emp]]⟩), (4, some ⟨236, 1, dE o⟩)], 5, 73⟩ := rfl
structure TimesI (a b : Nat) (x : List Nat × Nat) : Prop where
 len : x.1.length = (digs MB a).length + (digs MB b).length
 le : x.2 ≤ (digs MB a).length
 dig : ∀ d ∈ x.1, d < MB
 val : ofD MB x.1 = ofD MB ((digs MB a).take x.2) * b
 zer : ∀ j, x.2 + (digs MB b).length ≤ j → j < x.1.length → x.1[j]? = some 0
structure TimesJ (a b i v : Nat) (x : List Nat × Nat × Nat) : Prop where
 len : x.1.length = (digs MB a).length + (digs MB b).length
 le : x.2.1 ≤ (digs MB b).length
 dig : ∀ d ∈ x.1, d < MB
 car : x.2.2 < MB
 val : ofD MB x.1 + MB ^ (i + x.2.1) * x.2.2 = ofD MB ((digs MB a).take i) * b + MB ^ i * v * ofD MB ((digs MB b).take x.2.1)
 zer : ∀ j, i + (digs MB b).length ≤ j → j < x.1.length → x.1[j]? = some 0
theorem fs_times (a b : Nat) (h : bl a + bl b ≤ 17592186044416) : FSpec Tryz.prog 93 [.agg [mag a], .agg [mag b]] (.agg [mag (a * b)]) := by
 have hla := digs_length (b := MB) (by decide) a
 have hlb := digs_length (b := MB) (by decide) b
 have va := ofD_digs (b := MB) (by decide) a
 have vb := ofD_digs (b := MB) (by decide) b
 refine FSpec.enter Tryz.func93 rfl (by kernel_rfl) rfl rfl rfl ?_ rfl ?_
 ·exact closed_cons (closed_agg (closed_cons (closed_mag a) closed_nil)) (closed_cons (closed_agg (closed_cons (closed_mag b) closed_nil)) closed_nil)
 refine r_z 3 ?_
 refine r_z 9 ?_
 refine AWp.seq ?_
 refine r_z 4 ?_
 refine AWp.cutT (tiS a b) (fun x => TimesI a b x ∧ x.2 = (digs MB a).length) ?_ ?_
 ·refine AWp.block ?_
  refine AWp.loopS (tiS a b) (fun x => (digs MB a).length - x.2) (TimesI a b) (List.replicate ((digs MB a).length + (digs MB b).length) 0, 0) ⟨by simp, by simp, ?_, by simp [ofD_zeros, ofD], ?_⟩ ?_ ?_
  ·intro d hd; simp at hd; rw [hd.2]; decide
  ·intro j _ hj; simp at hj; simp [hj]
  ·rw [tiS_mk]
   exact s_e [(4, 5)]
  rintro ⟨o, i⟩ ⟨hlen, hle, hdig, hval, hzer⟩
  simp only at hlen hle hdig hval hzer
  rw [tiS_mk]
  refine r_z 1 ?_
  refine AWp.seq ?_
  refine AWp.cond rfl (fun h => ?_) (fun h => ?_)
  ·have hlt : i < (digs MB a).length := by have := of_decide_eq_true h; omega
   obtain ⟨x, hx⟩ : ∃ x, (digs MB a)[i]? = some x := ⟨_, List.getElem?_eq_getElem hlt⟩
   have hx1 : x < 1000000000 := digs_get_lt (by decide) hx
   have hx' : (dE (digs MB a))[((i : Nat) : Int).toNat]? = some [u32 x] := dE_get hx
   refine AWp.skip ?_
   refine AWp.seq ?_
   refine AWp.block ?_
   refine s_r 5 ?_
   refine a_1 ?_
   first | refine AR.op0 (.index_l rfl rfl (by omega) (by omega) te_29.h) rfl rfl ?_ | refine AR.op0 (.index_a rfl rfl (by omega) hx' rfl te_29.h) rfl rfl ?_
   first | refine AR.op0 (.load_l1 rfl rfl hx' tg_236.h rfl) rfl rfl ?_ | refine AR.op0 (.load_a1 rfl hx' tg_236.h rfl) rfl rfl ?_
   refine a_z ?_
   refine r_z 1 ?_
   refine AWp.seq ?_
   refine r_z 4 ?_
   refine AWp.cutT (tiT a b i x) (fun y => TimesJ a b i x y ∧ y.2.1 = (digs MB b).length) ?_ ?_
   ·refine AWp.block ?_
    refine AWp.loopS (tiT a b i x) (fun y => (digs MB b).length - y.2.1) (TimesJ a b i x) (o, 0, 0) ⟨hlen, by simp, hdig, (show 0 < MB by decide), by simp [hval, ofD], hzer⟩ ?_ ?_
    ·rw [tiT_mk]
     exact s_e []
    rintro ⟨q, k, c⟩ ⟨jlen, jle, jdig, jcar, jval, jzer⟩
    simp only at jlen jle jdig jcar jval jzer
    rw [tiT_mk]
    refine r_z 1 ?_
    refine AWp.seq ?_
    refine AWp.cond rfl (fun h => ?_) (fun h => ?_)
    ·have hltk : k < (digs MB b).length := by have := of_decide_eq_true h; omega
     obtain ⟨y, hy⟩ : ∃ y, (digs MB b)[k]? = some y := ⟨_, List.getElem?_eq_getElem hltk⟩
     have hy1 : y < 1000000000 := digs_get_lt (by decide) hy
     have hy' : (dE (digs MB b))[((k : Nat) : Int).toNat]? = some [u32 y] := dE_get hy
     obtain ⟨d, hd⟩ : ∃ d, q[i + k]? = some d := ⟨_, List.getElem?_eq_getElem (by omega)⟩
     have hd1 : d < 1000000000 := jdig d (List.mem_of_getElem? hd)
     have hc1 : c < 1000000000 := jcar
     have hg : (dE q)[0 + (((i : Int) + k)).toNat]? = some [u32 d] := by rw [show 0 + ((i : Int) + k).toNat = i + k by omega]; exact dE_get hd
     have hset : ∀ w : Nat, (dE q).set (0 + (((i : Int) + k)).toNat) [u32 w] = dE (q.set (i + k) w) := by intro w; rw [show 0 + ((i : Int) + k).toNat = i + k by omega, dE_set]
     have hxy0 : x * y ≤ 999999999 * 999999999 := Nat.mul_le_mul (by omega) (by omega)
     have hxyn : 0 ≤ (x : Int) * y := Int.mul_nonneg (by omega) (by omega)
     have hxyi : (x : Int) * y = ((x * y : Nat) : Int) := by push_cast; rfl
     refine AWp.skip ?_
     refine AWp.seq ?_
     refine AWp.block ?_
     refine s_r 5 ?_
     refine a_1 ?_
     first | refine AR.op0 (.index_l rfl rfl (by omega) (by omega) te_29.h) rfl rfl ?_ | refine AR.op0 (.index_a rfl rfl (by omega) hy' rfl te_29.h) rfl rfl ?_
     first | refine AR.op0 (.load_l1 rfl rfl hy' tg_236.h rfl) rfl rfl ?_ | refine AR.op0 (.load_a1 rfl hy' tg_236.h rfl) rfl rfl ?_
     refine a_z ?_
     refine s_r 16 ?_
     refine a_8 ?_
     refine a_2 ?_
     first | refine AR.op0 (.index_l rfl rfl (by omega) (by omega) te_29.h) rfl rfl ?_ | refine AR.op0 (.index_a rfl rfl (by omega) hg rfl te_29.h) rfl rfl ?_
     first | refine AR.op0 (.load_l1 rfl rfl hg tg_236.h rfl) rfl rfl ?_ | refine AR.op0 (.load_a1 rfl hg tg_236.h rfl) rfl rfl ?_
     refine a_z ?_
     refine AWp.reg (m := 12) rfl ?_
     refine a_8 ?_
     refine a_2 ?_
     refine o_1n (.store rfl rfl hg rfl rfl rfl ts_236.h (nle rfl)) ?_
     refine a_z ?_
     refine AWp.reg (m := 2) rfl ?_
     refine a_z ?_
     have hm : ((c : Int) + ((x : Int) * y + d)) % 1000000000 = (((c + (x * y + d)) % 1000000000 : Nat) : Int) := by rw [hxyi]; omega
     have hq : ((c : Int) + ((x : Int) * y + d)) / 1000000000 = (((c + (x * y + d)) / 1000000000 : Nat) : Int) := by rw [hxyi]; omega
     refine ⟨(q.set (i + k) ((c + (x * y + d)) % 1000000000), k + 1, (c + (x * y + d)) / 1000000000), by simp; omega, ⟨by simp [jlen], by simp; omega, mem_set jdig (Nat.mod_lt _ (by decide)), ?_, ?_, ?_⟩, ?_⟩
     ·show _ < 1000000000; simp only; omega
     ·simp only
      have e1 := ofD_set MB ((c + (x * y + d)) % 1000000000) hd
      have e2 := Nat.mod_add_div (c + (x * y + d)) 1000000000
      have e3 : MB ^ (i + k) * ((c + (x * y + d)) % 1000000000) + MB ^ (i + (k + 1)) * ((c + (x * y + d)) / 1000000000) = MB ^ (i + k) * c + (MB ^ (i + k) * (x * y) + MB ^ (i + k) * d) := by
       rw [← Nat.add_assoc i k 1, Nat.pow_succ, Nat.mul_assoc, ← Nat.mul_add, show MB * ((c + (x * y + d)) / 1000000000) = 1000000000 * ((c + (x * y + d)) / 1000000000) from rfl, e2, Nat.mul_add, Nat.mul_add]
      have e4 : MB ^ i * x * ofD MB ((digs MB b).take (k + 1)) = MB ^ i * x * ofD MB ((digs MB b).take k) + MB ^ (i + k) * (x * y) := by
       rw [ofD_take_succ _ hy, Nat.mul_add]
       congr 1
       rw [Nat.pow_add]
       simp only [Nat.mul_assoc, Nat.mul_left_comm, Nat.mul_comm]
      rw [e4]
      omega
     ·intro j hj hj2
      rw [List.getElem?_set_ne (by omega)]
      exact jzer j hj (by simpa using hj2)
     ·rw [tiT_mk]
      refine SEnt.to [] rfl rfl rfl au_r (fun hs => ?_) (fun hs => ?_)
      ·repeat' (first | exact CvF.nil | refine CvF.cons rfl ?_ ?_)
       all_goals (first | (exact Cv.loE hs (congrArg (fun z => AV.v (.int .u64 z)) hq) (closed_v _)) | exact au_c)
      ·repeat' (first | exact CvH.nil | refine CvH.cons rfl rfl rfl rfl ?_ ?_)
       all_goals (first | (refine CvLL.cloE hs ?_ (closed_dE _); rw [hm]; exact hset _) | exact au_e | (refine CvLL.box ?_; repeat' (first | exact CvL.nil | refine CvL.cons ?_ ?_)))
       all_goals (first | (exact Cv.loE hs (congrArg (fun z => AV.v (.int .u64 z)) hq) (closed_v _)) | exact au_c)
    ·have hk : k = (digs MB b).length := by have := of_decide_eq_false h; omega
     refine AWp.exit ⟨(q, k, c), ⟨⟨jlen, jle, jdig, jcar, jval, jzer⟩, hk⟩, ?_⟩
     rw [tiT_mk]
     exact s_e []
   rintro ⟨q, k, c⟩ ⟨⟨jlen, jle, jdig, jcar, jval, jzer⟩, hk⟩
   simp only at jlen jle jdig jcar jval jzer hk
   subst hk
   have hc1 : c < 1000000000 := jcar
   have hz := jzer (i + (digs MB b).length) (Nat.le_refl _) (by omega)
   have hg : (dE q)[0 + (((i : Int) + (digs MB b).length)).toNat]? = some [u32 0] := by rw [show 0 + ((i : Int) + (digs MB b).length).toNat = i + (digs MB b).length by omega]; exact dE_get hz
   have hset : (dE q).set (0 + (((i : Int) + (digs MB b).length)).toNat) [u32 c] = dE (q.set (i + (digs MB b).length) c) := by rw [show 0 + ((i : Int) + (digs MB b).length).toNat = i + (digs MB b).length by omega, dE_set]
   rw [List.take_length, vb] at jval
   rw [tiT_mk]
   refine AWp.reg (m := 10) rfl ?_
   refine a_8 ?_
   refine a_1 ?_
   refine o_1n (.store rfl rfl hg rfl rfl rfl ts_236.h (nle rfl)) ?_
   refine AR.nil ?_
   refine AWp.reg (m := 2) rfl ?_
   refine a_z ?_
   refine ⟨(q.set (i + (digs MB b).length) c, i + 1), by simp; omega, ⟨by simp [jlen], by simp; omega, mem_set jdig jcar, ?_, ?_⟩, ?_⟩
   ·simp only
    have e1 := ofD_set MB c hz
    rw [ofD_take_succ _ hx, Nat.add_mul, ← jval]
    omega
   ·intro j hj hj2
    rw [List.getElem?_set_ne (by simp only at hj; omega)]
    exact jzer j (by simp only at hj; omega) (by simpa using hj2)
   ·rw [tiS_mk]
    refine SEnt.to [] rfl rfl rfl au_r (fun hs => au_f) (fun hs => ?_)
    ·repeat' (first | exact CvH.nil | refine CvH.cons rfl rfl rfl rfl ?_ ?_)
     all_goals (first | (refine CvLL.cloE hs hset (closed_dE _)) | exact au_e)
  ·have hi : i = (digs MB a).length := by have := of_decide_eq_false h; omega
   refine AWp.exit ⟨(o, i), ⟨⟨hlen, hle, hdig, hval, hzer⟩, hi⟩, ?_⟩
   rw [tiS_mk]
   exact s_e []
 rintro ⟨o, i⟩ ⟨⟨hlen, hle, hdig, hval, hzer⟩, hi⟩
 simp only at hlen hle hdig hval hzer hi
 subst hi
 rw [List.take_length, va] at hval
 rw [tiS_mk]
 refine AWp.ent (st' := ⟨[(4, .lptr 3 0 0), (5, .arr (dE o))], [(3, some ⟨31, 1, [[.emp]]⟩)], 4, 73⟩) ?_ ?_
 ·refine SEnt.to [] rfl rfl rfl au_r (fun hs => ?_) (fun hs => ?_)
  ·repeat' (first | exact CvF.nil | refine CvF.cons rfl ?_ ?_)
   all_goals (first | (exact Cv.sealE hs rfl (dead_of rfl) rfl (by simp [hlen]) (closed_dE _)) | exact au_c)
  ·repeat' (first | exact CvH.nil | refine CvH.cons rfl rfl rfl rfl ?_ ?_)
   all_goals (first | exact au_e | (refine CvLL.box ?_; repeat' (first | exact CvL.nil | refine CvL.cons ?_ ?_)))
   all_goals (first | (exact Cv.sealE hs rfl (dead_of rfl) rfl (by simp [hlen]) (closed_dE _)) | exact au_c)
 refine s_r 3 ?_
 refine o_0 (.move rfl) ?_
 refine o_0 (.call rfl rfl rfl (fs_trimmed _ (by omega))) ?_
 refine o_1n (.store rfl rfl rfl rfl rfl rfl ts_31.h (nle rfl)) ?_
 refine AR.nil ?_
 refine AWp.ret ?_
 refine Fin.cellE rfl rfl rfl tg_31.h ts_31.h (nle rfl) ?_ (closed_agg (closed_cons (closed_mag _) closed_nil))
 rw [trimD_eq (b := MB) (by decide) hdig, hval]; rfl
def siS (a : Nat) (d : Nat) : Nat × List Nat × Nat → AState
 | (k, t, r) => ⟨[(8, i64 ((k : Int) - 1)), (1, u32 d), (2, .lptr 1 0 0), (4, .lptr 2 0 0), (5, .lptr 3 0 0), (6, .lsl 4 0 (digs MB a).length (some (digs MB a).length) 1), (7, u64 r)],
  [(1, some ⟨31, 1, [[mag a]]⟩), (2, some ⟨31, 1, [[.emp]]⟩), (3, some ⟨31, 1, [[.emp]]⟩), (4, some ⟨236, 1, dE (List.replicate k 0 ++ t)⟩)], 5, 46⟩
theorem siS_mk (a : Nat) (d : Nat) (k : Nat) (t : List Nat) (r : Nat) : siS a d (k, t, r) = ⟨[(8, i64 ((k : Int) - 1)), (1, u32 d), (2, .lptr 1 0 0), (4, .lptr 2 0 0), (5, .lptr 3 0 0), (6, .lsl 4 0 (digs MB a).length (some (digs MB a).length) 1), (7, u64 r)],
   [(1, some ⟨31, 1, [[mag a]]⟩), (2, some ⟨31, 1, [[.emp]]⟩), (3, some ⟨31, 1, [[.emp]]⟩), (4, some ⟨236, 1, dE (List.replicate k 0 ++ t)⟩)], 5, 46⟩ := rfl
structure SimI (a d : Nat) (x : Nat × List Nat × Nat) : Prop where
 len : x.1 + x.2.1.length = (digs MB a).length
 dig : ∀ y ∈ x.2.1, y < MB
 rest : x.2.2 < d
 val : ofD MB ((digs MB a).drop x.1) = d * ofD MB x.2.1 + x.2.2
theorem fs_simple (a d : Nat) (h : bl a ≤ 17592186044416) (hd0 : 0 < d) (hd : d < 4294967296) : FSpec Tryz.prog 244 [.agg [mag a], u32 d] (.tup [.agg [mag (a / d)], .agg [mag (a % d)]]) := by
 have hla := digs_length (b := MB) (by decide) a
 have va := ofD_digs (b := MB) (by decide) a
 refine FSpec.enter Tryz.func244 rfl (by kernel_rfl) rfl rfl rfl ?_ rfl ?_
 ·exact closed_cons (closed_agg (closed_cons (closed_mag a) closed_nil)) (closed_cons (closed_v _) closed_nil)
 refine r_z 3 ?_
 refine r_z 5 ?_
 refine r_z 1 ?_
 refine AWp.seq ?_
 refine r_z 5 ?_
 refine AWp.cutT (siS a d) (fun x => SimI a d x ∧ x.1 = 0) ?_ ?_
 ·refine AWp.block ?_
  refine AWp.loopS (siS a d) (fun x => x.1) (SimI a d) ((digs MB a).length, [], 0) ⟨by simp, by simp, hd0, by simp [ofD]⟩ ?_ ?_
  ·rw [siS_mk]
   exact s_e [(4, 6)]
  rintro ⟨k, t, r⟩ ⟨hlen, hdig, hrest, hval⟩
  simp only at hlen hdig hrest hval
  rw [siS_mk]
  refine AWp.seq ?_
  refine r_z 2 ?_
  refine AWp.cond rfl (fun h => ?_) (fun h => ?_)
  ·have hk0 : 0 < k := by have := of_decide_eq_true h; omega
   obtain ⟨x, hx⟩ : ∃ x, (digs MB a)[k - 1]? = some x := ⟨_, List.getElem?_eq_getElem (by omega)⟩
   have hx1 : x < 1000000000 := digs_get_lt (by decide) hx
   have hx' : (dE (digs MB a))[((k : Int) - 1).toNat]? = some [u32 x] := by rw [show ((k : Int) - 1).toNat = k - 1 by omega]; exact dE_get hx
   have hrep : List.replicate k 0 ++ t = List.replicate (k - 1) 0 ++ 0 :: t := by
    conv => lhs; rw [show k = (k - 1) + 1 by omega, List.replicate_succ']
    simp
   have hg : (dE (List.replicate k 0 ++ t))[0 + ((k : Int) - 1).toNat]? = some [u32 0] := by
    rw [show 0 + ((k : Int) - 1).toNat = k - 1 by omega, hrep]; exact dE_get (get_mid _ _ _ _ (by simp))
   have hset : ∀ w : Nat, (dE (List.replicate k 0 ++ t)).set (0 + ((k : Int) - 1).toNat) [u32 w] = dE (List.replicate (k - 1) 0 ++ (w :: t)) := by
    intro w
    rw [show 0 + ((k : Int) - 1).toNat = k - 1 by omega, dE_set, hrep, set_mid _ _ _ _ _ (by simp)]; simp
   have hq : (r * 1000000000 + x) / d < 1000000000 := by
    rw [Nat.div_lt_iff_lt_mul hd0]
    have : (r + 1) * 1000000000 ≤ d * 1000000000 := Nat.mul_le_mul_right _ hrest
    rw [Nat.mul_comm 1000000000 d]; omega
   have hA : (r : Int) * 1000000000 + x = ((r * 1000000000 + x : Nat) : Int) := by omega
   have hqi : ((r : Int) * 1000000000 + x) / d = (((r * 1000000000 + x) / d : Nat) : Int) := by rw [hA]; exact (Int.natCast_ediv _ _).symm
   have hri : ((r : Int) * 1000000000 + x) % d = (((r * 1000000000 + x) % d : Nat) : Int) := by rw [hA]; exact (Int.natCast_emod _ _).symm
   have hmod := Nat.mod_lt (r * 1000000000 + x) hd0
   have e := Nat.div_add_mod (r * 1000000000 + x) d
   obtain ⟨Q, hQ⟩ : ∃ Q, Q = (r * 1000000000 + x) / d := ⟨_, rfl⟩
   obtain ⟨R, hR⟩ : ∃ R, R = (r * 1000000000 + x) % d := ⟨_, rfl⟩
   rw [← hQ] at hq hqi
   rw [← hR] at hmod hri
   rw [← hQ, ← hR] at e
   refine AWp.skip ?_
   refine AWp.seq ?_
   refine AWp.block ?_
   refine s_r 10 ?_
   refine a_5 ?_
   first | refine AR.op0 (.index_l rfl rfl (by omega) (by omega) te_29.h) rfl rfl ?_ | refine AR.op0 (.index_a rfl rfl (by omega) hx' rfl te_29.h) rfl rfl ?_
   first | refine AR.op0 (.load_l1 rfl rfl hx' tg_236.h rfl) rfl rfl ?_ | refine AR.op0 (.load_a1 rfl hx' tg_236.h rfl) rfl rfl ?_
   refine a_z ?_
   refine AWp.regD hmix (m := 14) rfl ?_
   refine a_5 ?_
   refine o_0 (.bin rfl rfl (bU64_quo (by omega))) ?_
   refine o_0 (.conv rfl (cU32 (by rw [hqi]; omega) tu_235.h tu_236.h)) ?_
   refine a_5 ?_
   refine o_1n (.store rfl rfl hg rfl rfl rfl ts_236.h (nle rfl)) ?_
   refine a_1 ?_
   refine AR.nil ⟨by kernel_rfl, ?_⟩
   refine AWp.reg (m := 3) rfl ?_
   refine a_z ?_
   refine ⟨(k - 1, Q :: t, R), by simp; omega, ⟨by simp; omega, ?_, hmod, ?_⟩, ?_⟩
   ·intro y hy
    rcases List.mem_cons.1 hy with rfl | hy
    ·exact hq
    ·exact hdig y hy
   ·simp only
    rw [ofD_drop MB hx, show k - 1 + 1 = k by omega, hval, ofD]
    have e2 : d * (Q + MB * ofD MB t) = d * Q + MB * (d * ofD MB t) := by rw [Nat.mul_add, Nat.mul_left_comm]
    have e3 : MB * (d * ofD MB t + r) = MB * (d * ofD MB t) + 1000000000 * r := Nat.mul_add _ _ _
    omega
   ·rw [siS_mk]
    refine SEnt.to [] rfl rfl rfl au_r (fun hs => ?_) (fun hs => ?_)
    ·repeat' (first | exact CvF.nil | refine CvF.cons rfl ?_ ?_)
     all_goals (first | (exact Cv.loE hs (congrArg (fun z => AV.v (.int .u64 z)) hri) (closed_v _)) | exact au_c)
    ·repeat' (first | exact CvH.nil | refine CvH.cons rfl rfl rfl rfl ?_ ?_)
     all_goals (first | (refine CvLL.cloE hs ?_ (closed_dE _); rw [hqi]; exact hset _) | exact au_e | (refine CvLL.box ?_; repeat' (first | exact CvL.nil | refine CvL.cons ?_ ?_)))
     all_goals (first | (exact Cv.loE hs (congrArg (fun z => AV.v (.int .u64 z)) hri) (closed_v _)) | exact au_c)
  ·have hk0 : k = 0 := by have := of_decide_eq_false h; omega
   refine AWp.exit ⟨(k, t, r), ⟨⟨hlen, hdig, hrest, hval⟩, hk0⟩, ?_⟩
   rw [siS_mk]
   exact s_e []
 rintro ⟨k, t, r⟩ ⟨⟨hlen, hdig, hrest, hval⟩, hk⟩
 simp only at hlen hdig hrest hval hk
 subst hk
 rw [List.drop_zero, va] at hval
 have hq : a / d = ofD MB t := by rw [hval, Nat.mul_add_div hd0, Nat.div_eq_of_lt hrest]; omega
 have hr : a % d = r := by rw [hval, Nat.mul_add_mod]; exact Nat.mod_eq_of_lt hrest
 rw [siS_mk]
 refine AWp.ent (st' := ⟨[(4, .lptr 1 0 0), (5, .lptr 2 0 0), (6, .arr (dE t)), (7, u64 r)], [(1, some ⟨31, 1, [[.emp]]⟩), (2, some ⟨31, 1, [[.emp]]⟩)], 3, 46⟩) ?_ ?_
 ·refine SEnt.to [(1, 4), (2, 5)] rfl rfl rfl au_r (fun hs => ?_) (fun hs => ?_)
  ·repeat' (first | exact CvF.nil | refine CvF.cons rfl ?_ ?_)
   all_goals (first | (exact Cv.sealE hs rfl (dead_of rfl) rfl (by simp; omega) (closed_dE _)) | exact au_c)
  ·repeat' (first | exact CvH.nil | refine CvH.cons rfl rfl rfl rfl ?_ ?_)
   all_goals (first | exact au_e | (refine CvLL.box ?_; repeat' (first | exact CvL.nil | refine CvL.cons ?_ ?_)))
   all_goals (first | (exact Cv.sealE hs rfl (dead_of rfl) rfl (by simp; omega) (closed_dE _)) | exact au_c)
 refine s_r 6 ?_
 refine o_0 (.move rfl) ?_
 refine o_0 (.call rfl rfl rfl (fs_trimmed _ (by omega))) ?_
 refine o_0 (.move rfl) ?_
 refine o_0 (.call rfl rfl rfl (fs_small r (by omega))) ?_
 refine o_1n (.store rfl rfl rfl rfl rfl rfl ts_31.h (nle rfl)) ?_
 refine o_1n (.store rfl rfl rfl rfl rfl rfl ts_31.h (nle rfl)) ?_
 refine AR.nil ?_
 refine AWp.ret ?_
 rw [hq, hr]
 refine Fin.many ⟨_, _, rfl, ⟨_, _, _, _, _, rfl, rfl, rfl, .inl ⟨tg_31.h, _, ts_31.h, nle rfl, rfl⟩⟩, _, _, rfl, ⟨_, _, _, _, _, rfl, rfl, rfl, .inl ⟨tg_31.h, _, ts_31.h, nle rfl, rfl⟩⟩, rfl⟩ (nle rfl) ?_
 refine CvL.cons (Cv.loE shr_nil ?_ (closed_agg (closed_cons (closed_arrD (trimD t)) closed_nil))) (CvL.cons (Cv.clo shr_nil (closed_agg (closed_cons (closed_mag r) closed_nil))) CvL.nil)
 rw [trimD_eq (b := MB) (by decide) hdig]; rfl
end Go.Proofs.YtdjfjpeoddmamaaGreatDoor
namespace Go.Abs
def padD (b : Nat) : Nat → Nat → List Nat
 | 0, _ => []
 | n + 1, m => m % b :: padD b n (m / b)
@[simp] theorem padD_length (b : Nat) : ∀ n m, (padD b n m).length = n
 | 0, _ => rfl
 | n + 1, m => by simp [padD, padD_length b n]
theorem padD_lt {b : Nat} (hb : 0 < b) : ∀ n m, ∀ d ∈ padD b n m, d < b
 | 0, _, d, h => by cases h
 | n + 1, m, d, h => by
  rcases List.mem_cons.1 h with rfl | h
  ·exact Nat.mod_lt _ hb
  ·exact padD_lt hb n _ d h
theorem ofD_padD {b : Nat} (hb : 0 < b) : ∀ {n m : Nat}, m < b ^ n → ofD b (padD b n m) = m
 | 0, m, h => by simp at h; subst h; rfl
 | n + 1, m, h => by
  rw [padD, ofD, ofD_padD hb (by rw [Nat.div_lt_iff_lt_mul hb, ← Nat.pow_succ]; exact h)]
  exact Nat.mod_add_div m b
theorem padD_ofD {b : Nat} : ∀ {l : List Nat}, (∀ d ∈ l, d < b) → padD b l.length (ofD b l) = l
 | [], _ => rfl
 | d :: l, h => by
  have hd := h d (List.mem_cons_self ..)
  have h1 : ofD b (d :: l) % b = d := by rw [ofD, Nat.add_mul_mod_self_left]; exact Nat.mod_eq_of_lt hd
  have h2 : ofD b (d :: l) / b = ofD b l := by rw [ofD, Nat.add_mul_div_left _ _ (by omega), Nat.div_eq_of_lt hd]; omega
  rw [List.length_cons, padD, h1, h2, padD_ofD fun x hx => h x (List.mem_cons_of_mem _ hx)]
theorem eq_padD {b n m : Nat} {l : List Nat} (h : ∀ d ∈ l, d < b) (hl : l.length = n) (hv : ofD b l = m) : l = padD b n m := by
 subst hl hv; exact (padD_ofD h).symm
theorem scale_top {v : Nat} (h1 : 1 ≤ v) (h2 : v < 1000000000) : 500000000 ≤ v * (1000000000 / (v + 1)) ∧ (v + 1) * (1000000000 / (v + 1)) ≤ 1000000000 ∧ 1 ≤ 1000000000 / (v + 1) := by
 have hq1 : (v + 1) * (1000000000 / (v + 1)) ≤ 1000000000 := Nat.mul_div_le _ _
 have hq2 : 1000000000 < (v + 1) * (1000000000 / (v + 1)) + (v + 1) := Nat.lt_mul_div_succ _ (by omega)
 have hq3 : 1 ≤ 1000000000 / (v + 1) := by rw [Nat.le_div_iff_mul_le (by omega)]; omega
 refine ⟨?_, hq1, hq3⟩
 obtain ⟨q, hq⟩ : ∃ q, q = 1000000000 / (v + 1) := ⟨_, rfl⟩
 rw [← hq] at hq1 hq2 hq3 ⊢
 rw [Nat.add_mul, Nat.one_mul] at hq1 hq2
 by_cases c1 : 500000000 ≤ v
 ·have := Nat.mul_le_mul_left v hq3; omega
 by_cases c2 : 250000000 ≤ v
 ·have : 2 ≤ q := by
   rw [hq, Nat.le_div_iff_mul_le (by omega)]; omega
  have := Nat.mul_le_mul_left v this; omega
 by_cases c3 : 166666666 ≤ v
 ·have : 4 ≤ q := by
   rw [hq, Nat.le_div_iff_mul_le (by omega)]; omega
  have := Nat.mul_le_mul_left v this; omega
 by_cases c4 : v = 1
 ·subst c4; omega
 ·have : q ≤ 333333333 := by
   rw [hq]
   have : 1000000000 / (v + 1) ≤ 1000000000 / 3 := Nat.div_le_div_left (by omega) (by omega)
   omega
  omega
theorem guess_ok {b n p w u v lo lw : Nat} (hb : 0 < b) (hp : p = lo + b ^ n * u) (hlo : lo < b ^ n) (hw : w = lw + b ^ n * v) (hlw : lw < b ^ n) (hv : b ≤ 2 * v) (hvb : v < b) (hq : p < w * b) :
    p / w ≤ min (u / v) (b - 1) ∧ min (u / v) (b - 1) ≤ p / w + 2 := by
 have hvp : 0 < v := by omega
 have hbn : 0 < b ^ n := Nat.pow_pos hb
 have hwp : 0 < w := by rw [hw]; have := Nat.mul_pos hbn hvp; omega
 have q1 : w * (p / w) ≤ p := Nat.mul_div_le _ _
 have q2 : p < w * (p / w) + w := Nat.lt_mul_div_succ _ hwp
 have q3 : p / w < b := by rw [Nat.div_lt_iff_lt_mul hwp, Nat.mul_comm]; exact hq
 obtain ⟨q, hqe⟩ : ∃ q, q = p / w := ⟨_, rfl⟩
 rw [← hqe] at q1 q2 q3 ⊢
 have g1 : v * (u / v) ≤ u := Nat.mul_div_le _ _
 obtain ⟨g, hge⟩ : ∃ g, g = u / v := ⟨_, rfl⟩
 rw [← hge] at g1
 constructor
 ·refine Nat.le_min.2 ⟨?_, by omega⟩
  rw [← hge, hge, Nat.le_div_iff_mul_le hvp]
  -- q v ≤ u, for q v b^n ≤ q w ≤ p < (u + 1) b^n
  have h1 : b ^ n * (q * v) ≤ w * q := by rw [hw, Nat.add_mul]; rw [Nat.mul_assoc, Nat.mul_comm v q]; omega
  have h2 : b ^ n * (q * v) < b ^ n * (u + 1) := by rw [Nat.mul_add]; omega
  have := Nat.lt_of_mul_lt_mul_left h2
  omega
 ·rw [← hge]
  -- if min g (b - 1) ≥ q + 3 then (q + 3) v ≤ u and so p ≥ b^n (q + 3) v, but p < w (q + 1)
  refine Nat.le_of_not_lt fun hlt => ?_
  have hg3 : q + 3 ≤ g := by have := Nat.min_le_left g (b - 1); omega
  have hb3 : q + 3 ≤ b - 1 := by have := Nat.min_le_right g (b - 1); omega
  have h1 : v * (q + 3) ≤ u := Nat.le_trans (Nat.mul_le_mul_left _ hg3) g1
  have h2 : b ^ n * (v * (q + 3)) ≤ p := by rw [hp]; have := Nat.mul_le_mul_left (b ^ n) h1; omega
  have h3 : w * (q + 1) < b ^ n * ((v + 1) * (q + 1)) + 1 := by
   have : w ≤ b ^ n * (v + 1) := by rw [hw, Nat.mul_add]; omega
   have := Nat.mul_le_mul_right (q + 1) this
   rw [Nat.mul_assoc] at this
   omega
  have h4 : p < w * (q + 1) := by rw [Nat.mul_add]; omega
  have h5 : b ^ n * (v * (q + 3)) < b ^ n * ((v + 1) * (q + 1)) := by omega
  have h6 := Nat.lt_of_mul_lt_mul_left h5
  rw [Nat.mul_add, Nat.add_mul, Nat.mul_add] at h6
  omega
end Go.Abs
