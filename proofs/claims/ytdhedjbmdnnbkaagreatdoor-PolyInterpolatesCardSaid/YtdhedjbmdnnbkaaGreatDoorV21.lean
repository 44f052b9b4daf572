/- For every input the law PolyInterpolates returns true, and each argument reads behind the call as it read before; the listed variables start as the program's text lays them (tied). -/
import Derived.Test.YtdhedjbmdnnbkaaGreatDoorV20
import Derived.ProofKit
import Derived.OpenShut
import Derived.Carry
import Derived.Deep.Slices
import Derived.Deep.Strs
import Derived.Test.YtdhedjbmdnnbkaaGreatDoorRows
import Derived.JoinedOf
import Derived.SevenTiedAt
import Derived.Lib.LaidTab
import Derived.Test.YtdhedjbmdnnbkaaGreatDoorTie
import Derived.Test.YtdhedjbmdnnbkaaGreatDoorCards
import Derived.LaidMore
import Derived.Stop.Joined
import Derived.MakeChecks
set_option linter.all false
namespace Go.Proofs.YtdhedjbmdnnbkaaGreatDoor
open Go.Abs
set_option maxRecDepth 20000
set_option maxHeartbeats 1000000
def plO (p v W : List Rat) (E : Int) : Nat × Bool → AState
 | (i, d) => ⟨[(12, i64 i), (11, i64 (if d then 7 else 0)), (6, .arr (rE (rP p))), (8, .arr (rE (rP v))), (9, .arr (pE W)), (10, i64 E)], [], 1, 107⟩
theorem vd_ (p v W : List Rat) (E : Int) (i : Nat) (d : Bool) : plO p v W E (i, d) = ⟨[(12, i64 i), (11, i64 (if d then 7 else 0)), (6, .arr (rE (rP p))), (8, .arr (rE (rP v))), (9, .arr (pE W)), (10, i64 E)], [], 1, 107⟩ := rfl
def plI (p v W : List Rat) (E : Int) (i : Nat) : Nat × Bool → AState
 | (j, d) => ⟨[(13, i64 j), (12, i64 i), (11, i64 (if d then 7 else 0)), (6, .arr (rE (rP p))), (8, .arr (rE (rP v))), (9, .arr (pE W)), (10, i64 E)], [], 1, 107⟩
theorem zk_ (p v W : List Rat) (E : Int) (i : Nat) (j : Nat) (d : Bool) : plI p v W E i (j, d) = ⟨[(13, i64 j), (12, i64 i), (11, i64 (if d then 7 else 0)), (6, .arr (rE (rP p))), (8, .arr (rE (rP v))), (9, .arr (pE W)), (10, i64 E)], [], 1, 107⟩ := rfl
theorem twice_of {p : List Rat} {a b : Nat} (ha : a < p.length) (hb : b < a) (e : coP p a = coP p b) : ej_ [] p = true := by
 cases h : ej_ [] p with
 | true => rfl
 | false =>
  have hn := (gb_ [] p (by simp)).1 h
  exact absurd e (to_ (by simpa using hn) a b ha (by omega) (by omega))
theorem not_twice {p : List Rat} (h : ∀ a b, a < p.length → b < a → coP p a ≠ coP p b) : ej_ [] p = false := by
 refine (gb_ [] p (by simp)).2 ?_
 rw [List.nil_append]
 refine List.pairwise_iff_getElem.2 fun i j hi hj hij e => ?_
 have h1 := bg_ hi
 have h2 := bg_ hj
 rw [List.getElem?_eq_getElem hi] at h1
 rw [List.getElem?_eq_getElem hj] at h2
 exact h j i hj hij (by rw [← Option.some.inj h1, ← Option.some.inj h2, e])
theorem lc_ (xr vr : List NRow) (hx : okR xr) (hv : okR vr) : FSpec Tryz.prog 12 [.arr (nR xr), .arr (nR vr)] (.v (.bool true)) := by
 have hnx : (nR xr).length = xr.length := by simp [nR]
 have hnv : (nR vr).length = vr.length := by simp [nR]
 have cP := ao_ (db_ xr)
 have cQ := ao_ (db_ vr)
 refine FSpec.enter Tryz.func12 rfl (by kernel_rfl) rfl rfl rfl ?_ rfl ?_
 ·exact aa_ cP (aa_ cQ ab_)
 refine r_z 1 ?_
 refine AWp.cut (fun _ : Unit => ⟨[(0, .arr (nR xr)), (1, .arr (nR vr))], [], 1, 107⟩) (fun _ => (xr.length ≤ 9 ∨ 41 < xr.length ∧ xr.length ≤ 60) ∧ vr.length ≤ 60) ?_ ?_
 ·by_cases c1 : xr.length > 9
  ·by_cases c2 : xr.length ≤ 41
   ·refine q_z 18 ?_
    refine AWp.cond rfl (fun h => ?_) (fun h => ?_)
    ·refine r_c 2 (gl_) ?_
     refine a_z ?_
     refine AWp.ret ?_
     exact Fin.tmpE rfl rfl (ac_ _)
    ·cases h
   by_cases c3 : xr.length > 60
   ·refine q_z 18 ?_
    refine AWp.cond rfl (fun h => ?_) (fun h => ?_)
    ·refine r_c 2 (gl_) ?_
     refine a_z ?_
     refine AWp.ret ?_
     exact Fin.tmpE rfl rfl (ac_ _)
    ·cases h
   by_cases c4 : vr.length > 60
   ·refine q_z 18 ?_
    refine AWp.cond rfl (fun h => ?_) (fun h => ?_)
    ·refine r_c 2 (gl_) ?_
     refine a_z ?_
     refine AWp.ret ?_
     exact Fin.tmpE rfl rfl (ac_ _)
    ·cases h
   refine q_z 18 ?_
   refine AWp.cond rfl (fun h => ?_) (fun h => ?_)
   ·cases h
   refine AWp.skip ⟨(), ⟨by omega, by omega⟩, ?_⟩
   exact s_e []
  by_cases c4 : vr.length > 60
  ·refine q_z 18 ?_
   refine AWp.cond rfl (fun h => ?_) (fun h => ?_)
   ·refine r_c 2 (gl_) ?_
    refine a_z ?_
    refine AWp.ret ?_
    exact Fin.tmpE rfl rfl (ac_ _)
   ·cases h
  refine q_z 18 ?_
  refine AWp.cond rfl (fun h => ?_) (fun h => ?_)
  ·cases h
  refine AWp.skip ⟨(), ⟨by omega, by omega⟩, ?_⟩
  exact s_e []
 rintro _ ⟨lx, lv⟩
 have bx := fs_List xr (by omega) hx
 have bv := fs_List vr (by omega) hv
 have sx : bdL (nL xr) 256 := nL_qs hx
 have sv : bdL (nL vr) 256 := nL_qs hv
 have lx' : (nL xr).length = xr.length := by simp [nL]
 have lv' : (nL vr).length = vr.length := by simp [nL]
 obtain ⟨p, hpe⟩ : ∃ p, p = nL xr := ⟨_, rfl⟩
 obtain ⟨v, hve⟩ : ∃ v, v = nL vr := ⟨_, rfl⟩
 rw [← hpe] at bx sx lx'
 rw [← hve] at bv sv lv'
 have bx' : FSpec Tryz.prog 80 [.arr (nR xr)] (.tup [.arr (pE p), .arr (rE (rP p))]) := bx
 have bv' : FSpec Tryz.prog 80 [.arr (nR vr)] (.tup [.arr (pE v), .arr (rE (rP v))]) := bv
 have hrl : (rP p).length = p.length := cy_ p
 have smp : smL p := mi_ sx (by decide)
 have hpe0 : (pE []).length = 0 := rfl
 refine r_c 7 (bx') ?_
 refine a_z ?_
 refine r_c 7 (bv') ?_
 refine a_z ?_
 by_cases hl : p.length = v.length
 rotate_left
 ·-- the lists are not as long as each other
  have hI := fs_IntLen p v (by omega) hl
  refine r_c 8 (hI) ?_
  refine a_z ?_
  refine r_z 1 ?_
  refine AWp.seq ?_
  refine s_r 5 ?_
  refine a_4 ?_
  refine o_0 (.bin rfl rfl (vT fj_ ((bne_iff_ne.2 (by omega))))) ?_
  refine AR.nil ?_
  refine AWp.cond rfl (fun h => ?_) (fun h => ?_)
  rotate_left
  ·cases h
  refine AWp.reg (m := 1) rfl ?_
  refine a_z ?_
  refine AWp.seq ?_
  refine r_z 1 ?_
  refine AWp.cutT (fun _ : Unit => ⟨[(11, i64 2), (9, .arr (pE [])), (10, i64 2)], [], 1, 107⟩) (fun _ => True) ?_ ?_
  ·refine AWp.block ?_
   refine AWp.loopS (fun _ : Unit => ⟨[(12, i64 ((0 : Nat) : Int)), (6, .arr (rE (rP p))), (11, i64 2), (9, .arr (pE [])), (10, i64 2)], [], 1, 107⟩) (fun _ => 0) (fun _ => True) () trivial ?_ ?_
   ·exact s_e []
   rintro _ _
   by_cases h0 : 0 < p.length
   ·refine AWp.seq ?_
    refine q_z 8 ?_
    refine AWp.cond rfl (fun h => ?_) (fun h => ?_)
    ·cases h
    refine AWp.exit ⟨(), trivial, ?_⟩
    exact s_e []
   ·refine AWp.seq ?_
    refine q_z 8 ?_
    refine AWp.cond rfl (fun h => ?_) (fun h => ?_)
    ·cases h
    refine AWp.exit ⟨(), trivial, ?_⟩
    exact s_e []
  rintro _ _
  refine AWp.seq ?_
  refine r_z 2 ?_
  refine AWp.cond rfl (fun h => ?_) (fun h => ?_)
  rotate_left
  ·cases h
  refine r_c 12 (gl_) ?_
  refine a_z ?_
  refine AWp.ret ?_
  exact Fin.tmpE rfl rfl (ac_ _)
 by_cases h41 : p.length > 41
 ·-- too many places
  have hI := fs_IntMany p v hl h41
  refine r_c 8 (hI) ?_
  refine a_z ?_
  refine r_z 1 ?_
  refine AWp.seq ?_
  refine s_r 5 ?_
  refine a_4 ?_
  refine o_0 (.bin rfl rfl (vF fj_ ((by rw [hnx, hnv, ← lx', ← lv', hl]; exact bne_self_eq_false _)))) ?_
  refine AR.nil ?_
  refine AWp.cond rfl (fun h => ?_) (fun h => ?_)
  ·cases h
  refine q_z 3 ?_
  refine AWp.cond rfl (fun h => ?_) (fun h => ?_)
  rotate_left
  ·cases h
  refine AWp.reg (m := 1) rfl ?_
  refine a_z ?_
  refine AWp.seq ?_
  refine r_z 1 ?_
  refine AWp.cutT (fun _ : Unit => ⟨[(11, i64 5), (9, .arr (pE [])), (10, i64 5)], [], 1, 107⟩) (fun _ => True) ?_ ?_
  ·refine AWp.block ?_
   refine AWp.loopS (fun _ : Unit => ⟨[(12, i64 ((0 : Nat) : Int)), (6, .arr (rE (rP p))), (11, i64 5), (9, .arr (pE [])), (10, i64 5)], [], 1, 107⟩) (fun _ => 0) (fun _ => True) () trivial ?_ ?_
   ·exact s_e []
   rintro _ _
   refine AWp.seq ?_
   refine q_z 8 ?_
   refine AWp.cond rfl (fun h => ?_) (fun h => ?_)
   ·cases h
   refine AWp.exit ⟨(), trivial, ?_⟩
   exact s_e []
  rintro _ _
  refine AWp.seq ?_
  refine r_z 2 ?_
  refine AWp.cond rfl (fun h => ?_) (fun h => ?_)
  rotate_left
  ·cases h
  refine r_c 12 (gl_) ?_
  refine a_z ?_
  refine AWp.ret ?_
  exact Fin.tmpE rfl rfl (ac_ _)
 have h9 : p.length ≤ 9 := by omega
 obtain ⟨E, W, hI, hT, hF⟩ : ∃ (E : Int) (W : List Rat), FSpec Tryz.prog 81 [.arr (pE p), .arr (pE v)] (.tup [.arr (pE W), i64 E]) ∧ (ej_ [] p = true → E = 7 ∧ W = []) ∧ (ej_ [] p = false → E = 0 ∧ W = lagS p v p.length) := by
  cases ht : ej_ [] p with
  | true => exact ⟨7, [], xz_ p v hl (by omega) smp ht, fun _ => ⟨rfl, rfl⟩, fun h => by cases h⟩
  | false =>
   have hn : p.Nodup := by simpa using (gb_ [] p (by simp)).1 ht
   exact ⟨0, _, qt_ p v _ hl (by omega) smp ht (int_lag hn hl sx sv h9), (fun h => by cases h), fun _ => ⟨rfl, rfl⟩⟩
 refine r_c 8 (hI) ?_
 refine a_z ?_
 refine r_z 1 ?_
 refine AWp.seq ?_
 refine s_r 5 ?_
 refine a_4 ?_
 refine o_0 (.bin rfl rfl (vF fj_ ((by rw [hnx, hnv, ← lx', ← lv', hl]; exact bne_self_eq_false _)))) ?_
 refine AR.nil ?_
 refine AWp.cond rfl (fun h => ?_) (fun h => ?_)
 ·cases h
 refine q_z 3 ?_
 refine AWp.cond rfl (fun h => ?_) (fun h => ?_)
 ·cases h
 refine AWp.skip ?_
 refine AWp.seq ?_
 refine r_z 1 ?_
 refine AWp.cutT (fun d : Bool => ⟨[(11, i64 (if d then 7 else 0)), (6, .arr (rE (rP p))), (8, .arr (rE (rP v))), (9, .arr (pE W)), (10, i64 E)], [], 1, 107⟩) (fun d => ej_ [] p = d) ?_ ?_
 ·refine AWp.block ?_
  refine AWp.loopS (plO p v W E) (fun s => p.length - s.1) (fun s => s.1 ≤ p.length ∧ (s.2 = true → ej_ [] p = true) ∧ (s.2 = false → ∀ a b, a < s.1 → b < a → coP p a ≠ coP p b)) (0, false) ⟨Nat.zero_le _, (fun h => by cases h), fun _ a b h => by omega⟩ ?_ ?_
  ·simp only [vd_]
   exact s_e []
  rintro ⟨i, d⟩ ⟨hi, hd1, hd2⟩
  simp only at hi hd1 hd2
  simp only [vd_]
  cases d with
  | true =>
   by_cases hlt : i < p.length
   ·refine AWp.seq ?_
    refine q_z 8 ?_
    refine AWp.cond rfl (fun h => ?_) (fun h => ?_)
    ·cases h
    refine AWp.exit ⟨true, hd1 rfl, ?_⟩
    exact s_e []
   ·refine AWp.seq ?_
    refine q_z 8 ?_
    refine AWp.cond rfl (fun h => ?_) (fun h => ?_)
    ·cases h
    refine AWp.exit ⟨true, hd1 rfl, ?_⟩
    exact s_e []
  | false =>
   have hd2' := hd2 rfl
   by_cases hlt : i < p.length
   rotate_left
   ·have hge : i = p.length := by omega
    refine AWp.seq ?_
    refine q_z 8 ?_
    refine AWp.cond rfl (fun h => ?_) (fun h => ?_)
    ·cases h
    refine AWp.exit ⟨false, not_twice (fun a b ha hb => hd2' a b (by omega) hb), ?_⟩
    exact s_e []
   have g1 : (rE (rP p))[((i : Nat) : Int).toNat]? = some (rC (rq (coP p i))) := ht_ (show (rP p)[i]? = some (rq (coP p i)) by rw [rP, List.getElem?_map, bg_ hlt]; rfl)
   have hci := bd_co' sx (by decide) i
   refine AWp.seq ?_
   refine q_z 8 ?_
   refine AWp.cond rfl (fun h => ?_) (fun h => ?_)
   rotate_left
   ·cases h
   refine AWp.skip ?_
   refine AWp.seq ?_
   refine AWp.block ?_
   refine r_z 1 ?_
   refine AWp.cutB (fun d : Bool => plO p v W E (i, d)) (fun d => (d = true → ej_ [] p = true) ∧ (d = false → ∀ b, b < i → coP p i ≠ coP p b)) ?_ ?_
   ·refine AWp.block ?_
    refine AWp.loopS (plI p v W E i) (fun s => i - s.1) (fun s => s.1 ≤ i ∧ (s.2 = true → ej_ [] p = true) ∧ (s.2 = false → ∀ b, b < s.1 → coP p i ≠ coP p b)) (0, false) ⟨Nat.zero_le _, (fun h => by cases h), fun _ b h => by omega⟩ ?_ ?_
    ·simp only [zk_]
     exact s_e []
    rintro ⟨j, d⟩ ⟨hj, hj1, hj2⟩
    simp only at hj hj1 hj2
    simp only [zk_]
    by_cases hjt : j < i
    ·have g2 : (rE (rP p))[((j : Nat) : Int).toNat]? = some (rC (rq (coP p j))) := ht_ (show (rP p)[j]? = some (rq (coP p j)) by rw [rP, List.getElem?_map, bg_ (by omega)]; rfl)
     have hcj := bd_co' sx (by decide) j
     have fc := fs_rCmp (rq (coP p i)) (rq (coP p j)) (ez_ _) (ez_ _) (by show qs (coP p i) + qs (coP p j) ≤ _; omega)
     refine AWp.seq ?_
     refine q_z 3 ?_
     refine AWp.cond rfl (fun h => ?_) (fun h => ?_)
     rotate_left
     ·cases h
     refine AWp.skip ?_
     refine AWp.seq ?_
     refine AWp.block ?_
     by_cases he : coP p i = coP p j
     ·refine AWp.seq ?_
      refine AWp.regD hmix (m := 10) rfl ?_
      refine a_2 ?_
      first | refine AR.op0 (.index_l rfl rfl (by omega) (by omega) te_26.h) rfl rfl ?_ | refine AR.op0 (.index_a rfl rfl (by omega) g1 rfl te_26.h) rfl rfl ?_
      first | refine AR.op0 (.load_l rfl rfl g1 tg_75.h ts_75.h (nle rfl)) rfl rfl ?_ | refine AR.op0 (.load_a rfl g1 tg_75.h ts_75.h (nle rfl)) rfl rfl ?_
      refine a_2 ?_
      first | refine AR.op0 (.index_l rfl rfl (by omega) (by omega) te_26.h) rfl rfl ?_ | refine AR.op0 (.index_a rfl rfl (by omega) g2 rfl te_26.h) rfl rfl ?_
      first | refine AR.op0 (.load_l rfl rfl g2 tg_75.h ts_75.h (nle rfl)) rfl rfl ?_ | refine AR.op0 (.load_a rfl g2 tg_75.h ts_75.h (nle rfl)) rfl rfl ?_
      refine c_s (fc) ?_
      refine o_0 (.bin rfl rfl (vT bo_ ((by rw [cmpQ_eq]; exact decide_eq_true he)))) ?_
      refine AR.nil ⟨by kernel_rfl, ?_⟩
      refine AWp.cond rfl (fun h => ?_) (fun h => ?_)
      rotate_left
      ·cases h
      refine AWp.reg (m := 1) rfl ?_
      refine a_z ?_
      refine AWp.reg (m := 3) rfl ?_
      refine a_z ?_
      refine ⟨(j + 1, true), by simp only; omega, ⟨hjt, fun _ => twice_of hlt hjt he, fun h => by cases h⟩, ?_⟩
      simp only [zk_]
      exact s_e []
     ·refine AWp.seq ?_
      refine AWp.regD hmix (m := 10) rfl ?_
      refine a_2 ?_
      first | refine AR.op0 (.index_l rfl rfl (by omega) (by omega) te_26.h) rfl rfl ?_ | refine AR.op0 (.index_a rfl rfl (by omega) g1 rfl te_26.h) rfl rfl ?_
      first | refine AR.op0 (.load_l rfl rfl g1 tg_75.h ts_75.h (nle rfl)) rfl rfl ?_ | refine AR.op0 (.load_a rfl g1 tg_75.h ts_75.h (nle rfl)) rfl rfl ?_
      refine a_2 ?_
      first | refine AR.op0 (.index_l rfl rfl (by omega) (by omega) te_26.h) rfl rfl ?_ | refine AR.op0 (.index_a rfl rfl (by omega) g2 rfl te_26.h) rfl rfl ?_
      first | refine AR.op0 (.load_l rfl rfl g2 tg_75.h ts_75.h (nle rfl)) rfl rfl ?_ | refine AR.op0 (.load_a rfl g2 tg_75.h ts_75.h (nle rfl)) rfl rfl ?_
      refine c_s (fc) ?_
      refine o_0 (.bin rfl rfl (vF bo_ ((by rw [cmpQ_eq]; exact decide_eq_false he)))) ?_
      refine AR.nil ⟨by kernel_rfl, ?_⟩
      refine AWp.cond rfl (fun h => ?_) (fun h => ?_)
      ·cases h
      refine AWp.skip ?_
      refine AWp.reg (m := 3) rfl ?_
      refine a_z ?_
      refine ⟨(j + 1, d), by simp only; omega, ⟨hjt, hj1, fun h b hb => ?_⟩, ?_⟩
      ·by_cases hbj : b = j
       ·rw [hbj]; exact he
       ·exact hj2 h b (by simp only at hb; omega)
      ·simp only [zk_]
       exact s_e []
    ·have hge : j = i := by omega
     refine AWp.seq ?_
     refine q_z 3 ?_
     refine AWp.cond rfl (fun h => ?_) (fun h => ?_)
     ·cases h
     refine AWp.exit ⟨d, ⟨hj1, fun h b hb => hj2 h b (by omega)⟩, ?_⟩
     simp only [vd_]
     exact s_e []
   rintro d ⟨e1, e2⟩
   simp only [vd_]
   refine AWp.reg (m := 3) rfl ?_
   refine a_z ?_
   refine ⟨(i + 1, d), by simp only; omega, ⟨hlt, e1, fun h a b ha hb => ?_⟩, ?_⟩
   ·by_cases hai : a = i
    ·rw [hai]; exact e2 h b (by omega)
    ·exact hd2' a b (by simp only at ha; omega) hb
   ·simp only [vd_]
    exact s_e []
 rintro d hd
 cases d with
 | true =>
  obtain ⟨rfl, rfl⟩ := hT hd
  refine AWp.seq ?_
  refine r_z 2 ?_
  refine AWp.cond rfl (fun h => ?_) (fun h => ?_)
  rotate_left
  ·cases h
  refine r_c 12 (gl_) ?_
  refine a_z ?_
  refine AWp.ret ?_
  exact Fin.tmpE rfl rfl (ac_ _)
 | false =>
  obtain ⟨rfl, rfl⟩ := hF hd
  have hn : p.Nodup := by simpa using (gb_ [] p (by simp)).1 hd
  have rI := po_ p v hl h9 sx sv (to_ hn)
  have sI := fs_SameP (lagS p v p.length) (rP (lagS p v p.length)) (nd_ _) (by rw [vR_rP]; exact ui_ p v _) (hq_ (xp_ sx sv h9 _) (by omega)) (by rw [cy_]; have := nu_ p v p.length (Nat.le_refl _); omega)
  refine AWp.seq ?_
  refine r_z 2 ?_
  refine AWp.cond rfl (fun h => ?_) (fun h => ?_)
  ·cases h
  refine AWp.skip ?_
  refine r_c 13 (rI) ?_
  refine c_s (sI) ?_
  refine c_s (gl_) ?_
  refine a_z ?_
  refine AWp.ret ?_
  exact Fin.tmpE rfl rfl (ac_ _)
end Go.Proofs.YtdhedjbmdnnbkaaGreatDoor
namespace Go.Proofs.YtdhedjbmdnnbkaaGreatDoor
open Go.Abs Go.Deep Go.RowKit
set_option maxRecDepth 20000
theorem ess_of {M : Nat → Prop} {β : Nat → Option (Nat × Nat)} {w : World} {b s off : Nat} {f : Nat → List AV} : ∀ (n j : Nat), (∀ i, i < j + n → (f i).length = s ∧ RVcs M β w b (f i) (off + i * s)) → RVess M β w b s ((List.range' j n).map f) (off + j * s)
 | 0, _, _ => trivial
 | n + 1, j, h => by
  rw [List.range'_succ, List.map_cons]
  refine ⟨(h j (by omega)).1, (h j (by omega)).2, ?_⟩
  have := ess_of (M := M) (β := β) (w := w) (b := b) (s := s) (off := off) n (j + 1) (fun i hi => h i (by omega))
  rwa [Nat.add_mul, Nat.one_mul, ← Nat.add_assoc] at this
theorem us_ {w : World} {b o : Nat} {v : Value} (h : w.cell? ⟨b, o, none⟩ = some v) : ∃ N, ap_ w b = some N := by
 unfold World.cell? at h
 unfold ap_
 split at h
 ·rename_i c _ _ e; rw [show w.heap[b]? = _ from e]; exact ⟨c.size, rfl⟩
 ·cases h
theorem tyS : (Tryz.prog).underlying 22 = some (.slice 82) := by kernel_rfl
theorem tyN : ∃ f0 f1 f2, (Tryz.prog).underlying 82 = some (.struct #[f0, f1, f2]) ∧ f0.type = 2 ∧ f0.offset = 0 ∧ f1.type = 2 ∧ f1.offset = 1 ∧ f2.type = 5 ∧ f2.offset = 2 :=
 ⟨{ name := "N", type := 2, offset := 0, embedded := false, tag := "", pkgPath := "", byteOffset := 0 }, { name := "D", type := 2, offset := 1, embedded := false, tag := "", pkgPath := "", byteOffset := 8 }, { name := "Pow", type := 5, offset := 2, embedded := false, tag := "", pkgPath := "", byteOffset := 16 }, by kernel_rfl, rfl, rfl, rfl, rfl, rfl, rfl⟩
theorem tyc82 : (Tryz.prog).cellsOf 82 = 3 := by kernel_rfl
theorem tyc2 : (Tryz.prog).cellsOf 2 = 1 := by kernel_rfl
theorem tyc5 : (Tryz.prog).cellsOf 5 = 1 := by kernel_rfl
theorem tyu2 : (Tryz.prog).underlying 2 = some (.int .i64) := by kernel_rfl
theorem tyu5 : (Tryz.prog).underlying 5 = some (.int .u8) := by kernel_rfl
theorem num_of {H : Type} {enc : TypeId × Value → H} {W : World} {base n : Nat} {spare : Nat → Bool} {held : Bool} {cs : List Value} {x : DataW H × List MemPlace} (h : DataW.trod enc Tryz.prog W base spare held n 82 cs = some x) :
    ∃ r : NRow, i64r r.1 ∧ i64r r.2.1 ∧ r.2.2 ≤ 255 ∧ cs = [.int .i64 r.1, .int .i64 r.2.1, .int .u8 r.2.2] := by
 obtain ⟨f0, f1, f2, hu, h1, h2, h3, h4, h5, h6⟩ := tyN
 obtain ⟨y0, y1, y2, m, _, hl, g0, g1, g2⟩ := trod_struct3 hu h
 rw [h1, h2, tyc2] at g0
 rw [h3, h4, tyc2] at g1
 rw [h5, h6, tyc5] at g2
 rw [tyc82] at hl
 obtain ⟨n0, e0, _, w0⟩ := DataW.trod_int tyu2 g0
 obtain ⟨n1, e1, _, w1⟩ := DataW.trod_int tyu2 g1
 obtain ⟨n2, e2, _, w2⟩ := DataW.trod_int tyu5 g2
 match cs, hl with
 | [c0, c1, c2], _ =>
  simp at e0 e1 e2
  subst e0; subst e1; subst e2
  have b2 := bounds_u8 w2
  refine ⟨(n0, n1, n2.toNat), bounds_i64 w0, bounds_i64 w1, ?_, ?_⟩
  ·show n2.toNat ≤ 255; omega
  ·show _ = [_, _, Value.int .u8 ((n2.toNat : Nat) : Int)]
   rw [Int.toNat_of_nonneg b2.1]
theorem rows_of {H : Type} {enc : TypeId × Value → H} {W : World} {a : Option Addr} {len cap : Nat} {d : DataW H} {ps : List MemPlace} (h : DataW.Trod enc Tryz.prog W 0 (fun _ => true) true 22 (.slice a len cap) d ps) :
    ∃ l : List NRow, okR l ∧ RV (fun _ => False) (fun _ => none) W (.arr (nR l)) (.slice a len cap) := by
 obtain ⟨fuel, hf⟩ := h
 rcases open_slice tyS hf with ⟨hcs, _⟩ | ⟨x, len', cap', m, n, D, Pl, hcs, _, hl, hm, hmm, _, hx⟩
 ·simp [Value.cells] at hcs
  obtain ⟨rfl, rfl, rfl⟩ := hcs
  exact ⟨[], (fun r hr => by cases hr), none, 0, rfl, Nat.le_refl _, by decide, .inl rfl⟩
 ·simp [Value.cells] at hcs
  obtain ⟨rfl, rfl, rfl⟩ := hcs
  simp only [if_true] at hmm
  have hmc : m = cap := hmm
  rw [hmc] at hx
  rw [tyc82] at hx
  have hx' : ∀ i, i < len → ∃ r : NRow, (i64r r.1 ∧ i64r r.2.1 ∧ r.2.2 ≤ 255) ∧ W.cells? 0 (x.add (i * 3)) 3 = some [.int .i64 r.1, .int .i64 r.2.1, .int .u8 r.2.2] := fun i hi => by
   obtain ⟨cs', g1, g2⟩ := hx i (by omega)
   obtain ⟨r, r1, r2, r3, e⟩ := num_of g2
   exact ⟨r, ⟨r1, r2, r3⟩, by rw [g1, e]⟩
  obtain ⟨R, hR⟩ := choose_lt (α := NRow) hx'
  refine ⟨(List.range len).map R, ?_, some x, cap, by simp [nR], by simpa [nR] using hl, hm, ?_⟩
  ·intro r hr
   obtain ⟨i, hi, rfl⟩ := List.mem_map.1 hr
   exact (hR i (List.mem_range.1 hi)).1
  ·by_cases h0 : len = 0
   ·subst h0; exact .inl rfl
   ·right
    have c : ∀ i, i < len → ∀ j (v : Value), [.int .i64 (R i).1, .int .i64 (R i).2.1, .int .u8 (R i).2.2][j]? = some v → W.cell? (x.add (i * 3 + j)) = some v := fun i hi j v hv => by
     have hj : j < 3 := by
      have := (List.getElem?_eq_some_iff.1 hv).1
      simpa using this
     have := (World.cells?_some (hR i hi).2).2.2 j hj
     rw [hv, Go.Deep.add_add] at this
     exact this
    have c0 := c 0 (by omega) 0 _ rfl
    obtain ⟨b, off, spot⟩ := x
    have hspot : spot = none := by simpa [Addr.add] using World.cell?_spot c0
    subst hspot
    have hadd : ∀ k, Addr.add ⟨b, off, none⟩ k = ⟨b, off + k, none⟩ := fun k => by
     unfold Addr.add
     by_cases hk : k = 0
     ·simp [hk]
     ·simp [hk]
    refine ⟨b, off, 3, rfl, us_ (by rw [hadd] at c0; exact c0), (fun h => h), ?_⟩
    have := ess_of (M := fun _ => False) (β := fun _ => none) (w := W) (b := b) (s := 3) (off := off) (f := fun i => nuC (R i).1 (R i).2.1 (R i).2.2) len 0 (fun i hi => ⟨rfl, ?_⟩)
    ·rw [Nat.zero_mul, Nat.add_zero, ← List.range_eq_range'] at this
     rw [nR, List.map_map]
     exact this
    ·have hi' : i < len := by omega
     refine ⟨⟨_, ?_, rfl⟩, ⟨_, ?_, rfl⟩, ⟨_, ?_, rfl⟩, trivial⟩
     ·have := c i hi' 0 _ rfl; rw [hadd] at this; exact this
     ·have := c i hi' 1 _ rfl; rw [hadd] at this; rw [Nat.add_assoc]; exact this
     ·have := c i hi' 2 _ rfl; rw [hadd] at this; rw [Nat.add_assoc, Nat.add_assoc]; exact this
end Go.Proofs.YtdhedjbmdnnbkaaGreatDoor
namespace Go.Proofs.YtdhedjbmdnnbkaaGreatDoor
open Go
def mkF (P : Program) (fn : Func) (c : OpenClaim) : Bool := (P.make == some c.make) && (c.kinds == (if c.domain.isEmpty then [] else fn.params.toList.map fun t => match P.underlying t with | some (.int k) => some k | _ => none)) && (c.pinned == c.pinnedBy)
section
variable {P : Program} {f : FuncId} {fn : Func} {s : ChangeSpec} {c : OpenClaim}
theorem joined_of (h1 : c.wf (OpenSpec.ofChange s) = true) (h2 : laidOutB P = true) (h3 : mapsRowed P = true)
    (h4 : fn.params.all (P.readableRec ·) = true) (h5 : namedTie P c.named s.vars = true)
    (h6 : ((c.stops == []) && (P.stops == []) && (c.knobs == []) && (P.stopKnobs == [])) = true)
    (h7 : (c.inPlace == P.inPlace f) = true) (h8 : (c.unfollowed == P.unfollowed f) = true) (h9 : (c.recurses == P.recurses f) = true) (h10 : (c.named == P.varsNamed f) = true)
    (h11 : ((c.maps == (fn.params.toList ++ s.plain.varTypes P).any (P.mapsRec ·)) && (c.ifaces == (fn.params.toList ++ s.plain.varTypes P).any (P.ifacesRec ·)) && (c.mapsOut == P.mapsAmong fn.resultTypes.toList)) = true)
    (h12 : ((c.loops == (fn.params.toList ++ s.plain.varTypes P).any (P.loopsFrom ·)) && (c.wideKeys == (fn.params.toList ++ s.plain.varTypes P ++ fn.resultTypes.toList).any (P.wideKeysFrom ·))) = true)
    (h13 : (s.vars.all (P.varReadable ·) && fn.resultTypes.all (fun t => P.readableRec t && decide (t < P.types.size)) && (c.ifacesOut == fn.resultTypes.toList.any (P.ifacesRec ·)) && (c.loopsOut == fn.resultTypes.toList.any (P.loopsFrom ·)) && (c.plainKeys == P.plainKeys) && c.shortTexts.isNone) = true)
    (h14 : P.stopsHeard = true) (h15 : P.mayEnter = true) (h16 : (c.lifted == P.liftsFinal) = true)
    (h17 : mkF P fn c = true)
    (h18 : ((c.veiled == (fn.params.toList ++ s.plain.varTypes P ++ fn.resultTypes.toList).any (P.veiledRec ·)) && c.veiledFits P fn.params.toList (fn.params.toList ++ s.plain.varTypes P ++ fn.resultTypes.toList)) = true) :
    joinedFacts P f fn s c = true := by
 unfold mkF at h17
 simp only [Bool.and_eq_true] at h6 h11 h12 h13 h17 h18
 simp only [joinedFacts, Bool.and_eq_true]
 and_intros
 all_goals first | assumption | exact h6.1.1.1 | exact h6.1.1.2 | exact h6.1.2 | exact h6.2 | exact h11.1.1 | exact h11.1.2 | exact h11.2 | exact h12.1 | exact h12.2 | exact h13.1.1.1.1.1 | exact h13.1.1.1.1.2 | exact h13.1.1.1.2 | exact h13.1.1.2 | exact h13.1.2 | exact h13.2 | exact h17.1.1 | exact h17.1.2 | exact h17.2 | exact h18.1 | exact h18.2
end
theorem all_lo : laidOutB Tryz.prog = true := by kernel_rfl
theorem all_mr : mapsRowed Tryz.prog = true := by kernel_rfl
theorem all_sh : Tryz.prog.stopsHeard = true := by kernel_rfl
theorem all_me : Tryz.prog.mayEnter = true := by kernel_rfl
theorem all_lk : false = Tryz.prog.looks [] := by kernel_rfl
theorem all_mi : Tryz.prog.mainIs = some (true, ("3282ea10664338544b9e7d29bc655aa318bb5383d19a7a3f41182a047c2a096f" : String).toList) := by kernel_rfl
theorem all_lf : Tryz.prog.liftsFinal = Rows.polyThroughRow.lifted := by kernel_rfl
theorem kg_ : Rows.polyInterpolatesRow.wf (OpenSpec.ofChange Rows.polyInterpolatesSpec) = true := by kernel_rfl
theorem km_ : Tryz.f12.params.all (Tryz.prog.readableRec ·) = true := by kernel_rfl
theorem ko_ : namedTie Tryz.prog Rows.polyInterpolatesRow.named Rows.polyInterpolatesSpec.vars = true := by kernel_rfl
theorem kl_ : ((Rows.polyInterpolatesRow.stops == []) && (Tryz.prog.stops == []) && (Rows.polyInterpolatesRow.knobs == []) && (Tryz.prog.stopKnobs == [])) = true := by kernel_rfl
theorem ku_ : (Rows.polyInterpolatesRow.inPlace == Tryz.prog.inPlace 12) = true := by kernel_rfl
theorem kk_ : (Rows.polyInterpolatesRow.unfollowed == Tryz.prog.unfollowed 12) = true := by kernel_rfl
theorem kn_ : (Rows.polyInterpolatesRow.recurses == Tryz.prog.recurses 12) = true := by kernel_rfl
theorem ki_ : (Rows.polyInterpolatesRow.named == Tryz.prog.varsNamed 12) = true := by kernel_rfl
theorem kp_ : ((Rows.polyInterpolatesRow.maps == (Tryz.f12.params.toList ++ Rows.polyInterpolatesSpec.plain.varTypes Tryz.prog).any (Tryz.prog.mapsRec ·)) && (Rows.polyInterpolatesRow.ifaces == (Tryz.f12.params.toList ++ Rows.polyInterpolatesSpec.plain.varTypes Tryz.prog).any (Tryz.prog.ifacesRec ·)) && (Rows.polyInterpolatesRow.mapsOut == Tryz.prog.mapsAmong Tryz.f12.resultTypes.toList)) = true := by kernel_rfl
theorem kr_ : ((Rows.polyInterpolatesRow.loops == (Tryz.f12.params.toList ++ Rows.polyInterpolatesSpec.plain.varTypes Tryz.prog).any (Tryz.prog.loopsFrom ·)) && (Rows.polyInterpolatesRow.wideKeys == (Tryz.f12.params.toList ++ Rows.polyInterpolatesSpec.plain.varTypes Tryz.prog ++ Tryz.f12.resultTypes.toList).any (Tryz.prog.wideKeysFrom ·))) = true := by kernel_rfl
theorem kh_ : (Rows.polyInterpolatesSpec.vars.all (Tryz.prog.varReadable ·) && Tryz.f12.resultTypes.all (fun t => Tryz.prog.readableRec t && decide (t < Tryz.prog.types.size)) && (Rows.polyInterpolatesRow.ifacesOut == Tryz.f12.resultTypes.toList.any (Tryz.prog.ifacesRec ·)) && (Rows.polyInterpolatesRow.loopsOut == Tryz.f12.resultTypes.toList.any (Tryz.prog.loopsFrom ·)) && (Rows.polyInterpolatesRow.plainKeys == Tryz.prog.plainKeys) && Rows.polyInterpolatesRow.shortTexts.isNone) = true := by kernel_rfl
theorem kj_ : ((Rows.polyInterpolatesRow.veiled == (Tryz.f12.params.toList ++ Rows.polyInterpolatesSpec.plain.varTypes Tryz.prog ++ Tryz.f12.resultTypes.toList).any (Tryz.prog.veiledRec ·)) && Rows.polyInterpolatesRow.veiledFits Tryz.prog Tryz.f12.params.toList (Tryz.f12.params.toList ++ Rows.polyInterpolatesSpec.plain.varTypes Tryz.prog ++ Tryz.f12.resultTypes.toList)) = true := by kernel_rfl
theorem ke_ : Rows.polyInterpolatesRow.wfByText (OpenSpec.ofChange Rows.polyInterpolatesSpec) = true := by kernel_rfl
theorem kv_ : false = Rows.polyInterpolatesRow.goesBy Tryz.prog := by kernel_rfl
theorem polyInterpolates_fn : Tryz.prog.funcNamed Rows.polyInterpolatesRow.func = some 12 := by kernel_rfl
theorem kt_ : decide (Tryz.f12.isInstance Tryz.prog Rows.polyInterpolatesRow.origin Rows.polyInterpolatesRow.targs) = true := by kernel_rfl
theorem kf_ : (Tryz.f12.params.toList.all fun u => !Tryz.prog.wantsStandIn u) = true := by kernel_rfl
theorem kq_ : mkF Tryz.prog Tryz.f12 Rows.polyInterpolatesRow = true := by kernel_rfl
theorem ks_ : (Rows.polyInterpolatesRow.lifted == Tryz.prog.liftsFinal) = true := by rw [all_lf]; kernel_rfl
theorem hf_ : joinedFacts Tryz.prog 12 Tryz.f12 Rows.polyInterpolatesSpec Rows.polyInterpolatesRow = true :=
 joined_of kg_ all_lo all_mr km_ ko_ kl_ ku_ kk_ kn_ ki_ kp_ kr_ kh_ all_sh all_me ks_ kq_ kj_
theorem ii_ : Tryz.f12.isWrapper Tryz.prog Rows.polyInterpolatesRow.wrapper Rows.polyInterpolatesRow.mainSum := by
 unfold Func.isWrapper; first | (rw [if_pos (by decide +kernel)]; kernel_rfl) | (rw [if_neg (by decide +kernel)]; exact ⟨rfl, rfl⟩)
end Go.Proofs.YtdhedjbmdnnbkaaGreatDoor
namespace Go.Proofs.YtdhedjbmdnnbkaaGreatDoor
open Go.Abs Go.RowKit
theorem tab_of {n1 n2 : String} {a b : DataW Unit} {W : World} (h : laidMet Tryz.prog [(n1, a), (n2, b), ("internal/strconv.uint64pow10", Lib.tabData .u64 Lib.pow10Tab)] W) : TabW W := by
 obtain ⟨ps, ⟨g1, t1, c1, u1, p1, q1, _, _, _, _, ⟨g2, t2, c2, u2, p2, q2, _, _, _, _, ⟨g, t, cs, fuel, p, q, hg, ht, hv, hd, _, _⟩, _⟩, _⟩, _, _⟩ := h
 obtain rfl := Option.some.inj (tab_glob.symm.trans hg)
 have hT : ((Tryz.prog).globals[GT]?).map (·.type) = some 298 := by kernel_rfl
 have hu : (Tryz.prog).underlying 298 = some (.array 20 207) := by kernel_rfl
 have he : (Tryz.prog).underlying 207 = some (.int .u64) := by kernel_rfl
 have hce : (Tryz.prog).cellsOf 207 = 1 := by kernel_rfl
 have hct : (Tryz.prog).cellsOf 298 = 20 := by kernel_rfl
 obtain rfl := Option.some.inj (hT.symm.trans ht)
 have hc := Lib.cells_of_tab (zs := Lib.pow10Tab) hu he hce hct hd
 unfold World.var? at hv
 rw [tab_glob] at hv
 have hv' : (match W.heap[GT]? with | some (.cells cs _ _) => some cs | _ => none) = some cs := hv
 cases hh : W.heap[GT]? with
 | none => rw [hh] at hv'; cases hv'
 | some o =>
  rw [hh] at hv'
  cases o with
  | cells a b c =>
   obtain rfl : a = cs := Option.some.inj hv'
   refine ⟨b, c, ?_⟩
   rw [hh]
   have : a = tabA := by
    unfold tabA
    rw [← hc]
   rw [this]
  | _ => cases hv'
end Go.Proofs.YtdhedjbmdnnbkaaGreatDoor
namespace Go.Proofs.YtdhedjbmdnnbkaaGreatDoor
open Go.Abs Go.ChangeAt Go.ChangeShapes Go.RowKit Go.WideShapes
theorem own : ownKnob Tryz.prog.godebug = none := by kernel_rfl
theorem und4 : Tryz.prog.underlying 4 = some .bool := by kernel_rfl
abbrev laid3 : List (String × DataW Unit) := Rows.polyInterpolatesRow.laid
theorem door_met (os : Os) (args : Array Value) : laidMetH Tryz.prog laid3 ((World.doorLaid Tryz.prog 24 os).forCall (fun _ _ => 0) ⟨#[], args, []⟩).memory :=
 laidMetH_of_parts3 (fuel := 8) (laidMet_of_run' 8 (by kernel_rfl) (by kernel_rfl)) (by kernel_rfl) (by kernel_rfl)
set_option maxRecDepth 100000 in
theorem he_ (os : Os) (started : os.Started) (H : Type) (enc : TypeId × Value → H) :
    ReturnsInHanded {} Tryz.checked os 12 .any (fun w args => (Rows.polyInterpolatesSpec.pre enc Tryz.prog Tryz.f12 [] false w args ∧ laidMetH Tryz.prog laid3 w) ∧ sizedMet enc Tryz.prog Tryz.f12 (OpenSpec.ofChange Rows.polyInterpolatesSpec) false w args)
     (Rows.polyInterpolatesSpec.post enc Tryz.prog Tryz.f12 false true false false) := by
 refine returnsInHanded_of_change_and (C := Tryz.checked) (X := fun w _ => laidMetH Tryz.prog laid3 w) (fun _ _ _ hh h => h.of_heap hh) own started (by kernel_rfl) Tryz.func12
  (ChangeSpec.witness_shaped (enc := enc) (C := Tryz.checked) (os := os) (X := fun w _ => laidMetH Tryz.prog laid3 w) false (World.doorLaid Tryz.prog 24 os) #[.slice none 0 0, .slice none 0 0] 8 rfl (World.shaped_of_RefB (by kernel_rfl) (by kernel_rfl)) (by kernel_rfl) (by kernel_rfl) (by kernel_rfl) (door_met os _)) ?_
 intro W base args ds gs before hval0 hW _ _ hX _
 have hval : ∀ (j : Nat) t v, Tryz.f12.params[j]? = some t → args[j]? = some v → Value.okWide Tryz.prog W .any base t v := hval0
 have hW' := hW
 obtain ⟨p, q, hA0, hV, rfl, hfz, hnd⟩ := hW
 have hA : DataW.TrodAll enc Tryz.prog W 0 (fun _ => true) true Tryz.f12.params.toList args.toList ds p := hA0
 rw [Tryz.params12] at hA hval
 obtain ⟨v0, vs0, d0, ds0, p0, q0, hargs, rfl, rfl, h0, r0⟩ := trodAll_cons hA
 obtain ⟨v1, vs1, d1, ds1, p1, q1, rfl, rfl, rfl, h1, r1⟩ := trodAll_cons r0
 obtain ⟨rfl, rfl, rfl⟩ := trodAll_nil r1
 obtain rfl : args = #[v0, v1] := by cases args; simp_all
 obtain ⟨rfl, rfl⟩ := trodVars_none hV
 obtain ⟨a0, len0, cap0, rfl⟩ := okWide_slice tyS (hval 0 22 v0 rfl rfl)
 obtain ⟨a1, len1, cap1, rfl⟩ := okWide_slice tyS (hval 1 22 v1 rfl rfl)
 have lt0 : ∀ x ∈ p0, x.block < W.heap.size := by obtain ⟨m, hm⟩ := h0; exact DataW.trod_lt m _ _ _ hm
 have lt1 : ∀ x ∈ p1, x.block < W.heap.size := by obtain ⟨m, hm⟩ := h1; exact DataW.trod_lt m _ _ _ hm
 obtain ⟨l0, o0, g0⟩ := rows_of h0
 obtain ⟨l1, o1, g1⟩ := rows_of h1
 clear hA0 hval0
 refine ((lc_ l0 l1 o0 o1).calls (fun _ => False) W [.slice a0 len0 cap0, .slice a1 len1 cap1] ⟨fun _ h => h.elim, fun h => h, tab_of (by rw [MakeChecks.laidMetH_plain _ _ _ (by kernel_rfl)] at hX; exact hX)⟩ ⟨_, _, rfl, g0, ⟨_, _, rfl, g1, rfl⟩⟩).mono fun e W' ⟨y, he, hy, bel⟩ => ?_
 have hy' : y = .bool true := hy
 subst he; subst hy'
 exact ⟨_, rfl, _, _, _, [], _, [], hW', trodAll_mk1 (shut_bool und4 _), (trodAll_cons_mk (Below.trod all_lo (by kernel_rfl) (of_decide_eq_true (by kernel_rfl)) h0 bel lt0) (trodAll_cons_mk (Below.trod all_lo (by kernel_rfl) (of_decide_eq_true (by kernel_rfl)) h1 bel lt1) trodAll_mk0)), rfl, bel.frame _, fun h => by cases h⟩
theorem jr_ : Rows.PolyInterpolatesSaid :=
 OpenClaim.holds_of_wide 12 Tryz.f12 rfl rfl rfl rfl rfl rfl rfl ⟨rfl, rfl, rfl, rfl, rfl⟩ rfl rfl rfl rfl rfl polyInterpolates_fn Tryz.func12 hf_
  (of_decide_eq_true kt_) ii_
  (fun os started H enc _ => he_ os started H enc)
theorem polyInterpolates_card : Rows.PolyInterpolatesCardSaid :=
 Claim7.holds_tied_plain_at .later [] [.data, .data, .data] true (true, "3282ea10664338544b9e7d29bc655aa318bb5383d19a7a3f41182a047c2a096f") false
  jr_ (fun _ h => by cases h) ke_ (fun _ h => by cases h) polyInterpolates_row_tie rfl ⟨rfl, rfl⟩ all_mi rfl
  (fun f fn hf hfn => by
   obtain rfl : f = 12 := Option.some.inj (polyInterpolates_fn.symm.trans hf) |>.symm
   obtain rfl : fn = Tryz.f12 := (Option.some.inj (Tryz.func12.symm.trans hfn)).symm
   exact ⟨all_lk, fun j t ht => by
    have hm : t ∈ Tryz.f12.params.toList := by simpa using Array.mem_of_getElem? ht
    exact (show Tryz.prog.wantsStandIn t = false by simpa using List.all_eq_true.1 kf_ t hm)⟩)
  kv_
#print axioms polyInterpolates_card
end Go.Proofs.YtdhedjbmdnnbkaaGreatDoor
