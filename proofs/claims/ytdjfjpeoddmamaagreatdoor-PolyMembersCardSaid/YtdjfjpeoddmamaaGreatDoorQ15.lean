/- Part Q15 of the proof. -/
import Derived.Test.YtdjfjpeoddmamaaGreatDoorQ14
set_option linter.all false
namespace Go.Proofs.YtdjfjpeoddmamaaGreatDoor
open Go.Abs
set_option maxRecDepth 20000
set_option maxHeartbeats 1000000
def firstM (t : Nat → Option Bool) : Nat → Nat → Option Nat
 | 0, _ => none
 | f + 1, k => match t k with
  | some true => some k
  | some false => firstM t f (k + 1)
  | none => none
theorem firstM_spec {t : Nat → Option Bool} : ∀ {f k0 k : Nat}, firstM t f k0 = some k → t k = some true ∧ k0 ≤ k ∧ ∀ j, k0 ≤ j → j < k → t j = some false
 | 0, _, _, h => by cases h
 | f + 1, k0, k, h => by
  rw [firstM] at h
  split at h
  ·cases h; exact ⟨by assumption, Nat.le_refl _, fun j h1 h2 => by omega⟩
  ·obtain ⟨h1, h2, h3⟩ := firstM_spec h
   refine ⟨h1, by omega, fun j hj1 hj2 => ?_⟩
   by_cases e : j = k0
   ·rw [e]; assumption
   ·exact h3 j (by omega) hj2
  ·cases h
def aloneT (c : Cnt) (i : Int) (s : Sp) : Option Bool := if okBe c s.1 ∧ okUp c s.2 ∧ okNext c s ∧ -4611686018427387904 ≤ i ∧ i ≤ 4611686018427387904 then some (decide (belowV c s.1 = i ∧ uptoV c s.2 = i + 1)) else none
def alS (c : Cnt) (i : Int) : Nat → AState
 | k => ⟨[(1, bPl c i), (2, .lptr 1 0 0), (3, .lptr 2 0 0), (6, .clos 304 [] [bPl c i])], [(1, some ⟨37, 6, [zC ++ zC]⟩), (2, some ⟨37, 6, [zC ++ zC]⟩)], 3, 37⟩
theorem alS_mk (c : Cnt) (i : Int) (k : Nat) : alS c i k = ⟨[(1, bPl c i), (2, .lptr 1 0 0), (3, .lptr 2 0 0), (6, .clos 304 [] [bPl c i])], [(1, some ⟨37, 6, [zC ++ zC]⟩), (2, some ⟨37, 6, [zC ++ zC]⟩)], 3, 37⟩ := rfl
def alX (s : Sp) : Unit → AState
 | u => ⟨[(2, .lptr 1 0 0), (3, .lptr 2 0 0)], [(1, some ⟨37, 6, [zC ++ zC]⟩), (2, some ⟨37, 6, [spC s.1 s.2]⟩)], 3, 37⟩
theorem alX_mk (s : Sp) (u : Unit) : alX s u = ⟨[(2, .lptr 1 0 0), (3, .lptr 2 0 0)], [(1, some ⟨37, 6, [zC ++ zC]⟩), (2, some ⟨37, 6, [spC s.1 s.2]⟩)], 3, 37⟩ := rfl
theorem fs_alone (f g : Nat) (c : Cnt) (i : Int) (s0 : Sp) (kk : Nat) (h : spanM f c i 0 = some s0) (hk : firstM (fun k => aloneT c i (closV c i s0 k)) g 0 = some kk) : FSpec Tryz.prog 327 [plA c i] (.agg (spC (closV c i s0 kk).1 (closV c i s0 kk).2)) := by
 obtain ⟨h1, _, h2⟩ := firstM_spec hk
 have hok : ∀ k, k ≤ kk → okBe c (closV c i s0 k).1 ∧ okUp c (closV c i s0 k).2 ∧ okNext c (closV c i s0 k) ∧ -4611686018427387904 ≤ i ∧ i ≤ 4611686018427387904 := fun k hk => by
  have : ∃ b, aloneT c i (closV c i s0 k) = some b := by
   by_cases e : k = kk
   ·rw [e]; exact ⟨_, h1⟩
   ·exact ⟨_, h2 k (Nat.zero_le _) (by omega)⟩
  obtain ⟨b, hb⟩ := this
  unfold aloneT at hb
  split at hb
  ·assumption
  ·cases hb
 have hgs := gs_closer f c i s0 kk h (fun k hk => (hok k (by omega)).2.2.1)
 refine FSpec.enter Tryz.func327 rfl (by kernel_rfl) rfl rfl rfl ?_ rfl ?_
 ·exact closed_cons (closed_plA c i) closed_nil
 refine r_z 2 ?_
 refine r_z 1 ?_
 refine AWp.ent (st' := ⟨[(1, bPl c i), (2, .lptr 1 0 0), (3, .lptr 2 0 0)], [(1, some ⟨37, 6, [zC ++ zC]⟩), (2, some ⟨37, 6, [zC ++ zC]⟩)], 3, 37⟩) ?_ ?_
 ·refine SEnt.to [(1, 2), (2, 3)] rfl rfl rfl au_r (fun hs => ?_) (fun hs => ?_)
  ·repeat' (first | exact CvF.nil | refine CvF.cons rfl ?_ ?_)
   all_goals (first | (exact Cv.boxp hs rfl (dead_of rfl) rfl (closed_cons (closed_plA c i) closed_nil)) | exact au_c)
  ·repeat' (first | exact CvH.nil | refine CvH.cons rfl rfl rfl rfl ?_ ?_)
   all_goals (first | exact au_e | (refine CvLL.box ?_; repeat' (first | exact CvL.nil | refine CvL.cons ?_ ?_)))
   all_goals (first | (exact Cv.boxp hs rfl (dead_of rfl) rfl (closed_cons (closed_plA c i) closed_nil)) | exact au_c)
 refine AWp.seq ?_
 refine r_c 2 (fs_closer c i) ?_
 refine AR.nil ?_
 refine AWp.cutT (alX (closV c i s0 kk)) (fun _ => True) ?_ ?_
 ·refine AWp.block ?_
  refine AWp.rangeFuncB (α := Nat) (γ := Unit) kk (alS c i) (fun k => k) (fun k => k ≤ kk) (alX (closV c i s0 kk)) (fun e _ => e = .exit 0) 0 rfl hgs rfl rfl ?_ (fun _ => ⟨rfl, rfl⟩) (fun _ => rfl) (Nat.zero_le _) rfl (fun _ h => h) ?_ ?_ ?_ ?_ ?_
  ·intro k xs hT; cases hT; rfl
  ·rw [alS_mk]
   refine SEntT.to [] rfl rfl rfl au_r (fun hs => ?_) (fun hs => ?_)
   ·repeat' (first | exact CvF.nil | refine CvF.cons rfl ?_ ?_)
    all_goals (first | (exact Cv.clo hs (closed_bPl c i)) | exact au_c)
   ·repeat' (first | exact CvH.nil | refine CvH.cons rfl rfl rfl rfl ?_ ?_)
    all_goals (first | exact au_e | (refine CvLL.box ?_; repeat' (first | exact CvL.nil | refine CvL.cons ?_ ?_)))
    all_goals (first | (exact Cv.clo hs (closed_bPl c i)) | exact au_c)
  ·exact closed_cons (closed_bPl c i) closed_nil
  ·intro l k xs hk hT
   cases hT
   have hx := hok k hk
   obtain ⟨s, hsd⟩ : ∃ s, s = closV c i s0 k := ⟨_, rfl⟩
   rw [← hsd] at hx ⊢
   obtain ⟨x1, x2, x3, x4, x5⟩ := hx
   show AWp _ _ _ _ ⟨[(7, .agg (spC s.1 s.2)), (1, bPl c i), (2, .lptr 1 0 0), (3, .lptr 2 0 0), (6, .clos 304 [] [bPl c i]), (1001, bPl c i), (1002, .lptr 1 0 0), (1003, .lptr 2 0 0), (1006, .clos 304 [] [bPl c i])], [(1, some ⟨37, 6, [zC ++ zC]⟩), (2, some ⟨37, 6, [zC ++ zC]⟩)], 3, 37⟩
   refine AWp.reg (m := 2) rfl ?_
   refine a_z ?_
   refine AWp.block ?_
   by_cases hb : belowV c s.1 = i
   ·refine AWp.seq ?_
    refine AWp.regD hmix (m := 27) rfl ?_
    refine c_s (fs_below c s.1 x1) ?_
    refine a_6 ?_
    first | refine AR.op0y rfl rfl (gy (by simp [hb])) (.load_l1 rfl rfl rfl tg_271.h rfl) rfl rfl ?_ | refine AR.op0y rfl rfl (gy (by simp [hb])) (.load_a1 rfl rfl tg_271.h rfl) rfl rfl ?_
    refine AR.op0y rfl rfl (gy (by simp [hb])) (.nilCheck rfl rfl) rfl rfl ?_
    first | refine AR.op0y rfl rfl (gy (by simp [hb])) (.fieldAddr_l rfl tf_277_0.h (by decide)) rfl rfl ?_ | refine AR.op0y rfl rfl (gy (by simp [hb])) (.fieldAddr_a rfl tf_277_0.h (by decide)) rfl rfl ?_
    first | refine AR.op0y rfl rfl (gy (by simp [hb])) (.load_l1 rfl rfl rfl tg_199.h rfl) rfl rfl ?_ | refine AR.op0y rfl rfl (gy (by simp [hb])) (.load_a1 rfl rfl tg_199.h rfl) rfl rfl ?_
    first | refine AR.op0y rfl rfl (gy (by simp [hb])) (.fieldAddr_l rfl tf_37_1.h (by decide)) rfl rfl ?_ | refine AR.op0y rfl rfl (gy (by simp [hb])) (.fieldAddr_a rfl tf_37_1.h (by decide)) rfl rfl ?_
    first | refine AR.op0y rfl rfl (gy (by simp [hb])) (.load_l rfl rfl rfl tg_35.h ts_35.h (nle rfl)) rfl rfl ?_ | refine AR.op0y rfl rfl (gy (by simp [hb])) (.load_a rfl rfl tg_35.h ts_35.h (nle rfl)) rfl rfl ?_
    refine AR.op0y rfl rfl (gy (by simp [hb])) (.call rfl rfl rfl (fs_upto c s.2 x2)) rfl rfl ?_
    first | refine AR.op0y rfl rfl (gy (by simp [hb])) (.load_l1 rfl rfl rfl tg_271.h rfl) rfl rfl ?_ | refine AR.op0y rfl rfl (gy (by simp [hb])) (.load_a1 rfl rfl tg_271.h rfl) rfl rfl ?_
    refine AR.op0y rfl rfl (gy (by simp [hb])) (.nilCheck rfl rfl) rfl rfl ?_
    first | refine AR.op0y rfl rfl (gy (by simp [hb])) (.fieldAddr_l rfl tf_277_1.h (by decide)) rfl rfl ?_ | refine AR.op0y rfl rfl (gy (by simp [hb])) (.fieldAddr_a rfl tf_277_1.h (by decide)) rfl rfl ?_
    first | refine AR.op0y rfl rfl (gy (by simp [hb])) (.load_l1 rfl rfl rfl tg_3.h rfl) rfl rfl ?_ | refine AR.op0y rfl rfl (gy (by simp [hb])) (.load_a1 rfl rfl tg_3.h rfl) rfl rfl ?_
    refine AR.op0y rfl rfl (gy (by simp [hb])) (.bin rfl rfl (bI64_add (by omega))) rfl rfl ?_
    refine AR.op0y rfl rfl (gy (by simp [hb])) (.bin rfl rfl binI_eql) rfl rfl ?_
    refine o_0 (.pickT rfl (by simp [hb]) rfl) ?_
    refine AR.nil ⟨by kernel_rfl, ?_⟩
    refine AWp.cond rfl (fun h5 => ?_) (fun h5 => ?_)
    ·have h6 : uptoV c s.2 = i + 1 := by simpa using h5
     have he : k = kk := by
      refine Nat.le_antisymm hk (Nat.le_of_not_lt fun hlt => ?_)
      have h7 := h2 k (Nat.zero_le _) hlt
      rw [← hsd] at h7
      unfold aloneT at h7
      rw [if_pos ⟨x1, x2, x3, x4, x5⟩] at h7
      simp [hb, h6] at h7
     subst he
     refine r_z 2 ?_
     refine AWp.exit ?_
     refine ⟨rfl, (), rfl, ?_⟩
     rw [← hsd]
     show SEntT _ ⟨[(1002, .lptr 1 0 0), (1003, .lptr 2 0 0)], [(1, some ⟨37, 6, [zC ++ zC]⟩), (2, some ⟨37, 6, [spC s.1 s.2]⟩)], 3, 37⟩
     refine SEntT.to [] rfl rfl rfl au_r (fun hs => au_f) (fun hs => au_h)
    ·have h6 : ¬ uptoV c s.2 = i + 1 := by simpa using h5
     have he : k < kk := by
      refine Nat.lt_of_le_of_ne hk fun e => ?_
      subst e
      rw [← hsd] at h1
      unfold aloneT at h1
      rw [if_pos ⟨x1, x2, x3, x4, x5⟩] at h1
      simp [h6] at h1
     refine AWp.skip ?_
     refine ⟨k + 1, ⟨he, rfl⟩, ?_⟩
     show SEntT _ ⟨[(1001, bPl c i), (1002, .lptr 1 0 0), (1003, .lptr 2 0 0), (1006, .clos 304 [] [bPl c i])], [(1, some ⟨37, 6, [zC ++ zC]⟩), (2, some ⟨37, 6, [zC ++ zC]⟩)], 3, 37⟩
     refine SEntT.to [] rfl rfl rfl au_r (fun hs => au_f) (fun hs => au_h)
   ·refine AWp.seq ?_
    refine AWp.regD hmix (m := 27) rfl ?_
    refine c_s (fs_below c s.1 x1) ?_
    refine a_6 ?_
    refine AR.opN rfl rfl (gn (by simp [hb])) rfl rfl ?_
    refine AR.opN rfl rfl (gn (by simp [hb])) rfl rfl ?_
    refine AR.opN rfl rfl (gn (by simp [hb])) rfl rfl ?_
    refine AR.opN rfl rfl (gn (by simp [hb])) rfl rfl ?_
    refine AR.opN rfl rfl (gn (by simp [hb])) rfl rfl ?_
    refine AR.opN rfl rfl (gn (by simp [hb])) rfl rfl ?_
    refine AR.opN rfl rfl (gn (by simp [hb])) rfl rfl ?_
    refine AR.opN rfl rfl (gn (by simp [hb])) rfl rfl ?_
    refine AR.opN rfl rfl (gn (by simp [hb])) rfl rfl ?_
    refine AR.opN rfl rfl (gn (by simp [hb])) rfl rfl ?_
    refine AR.opN rfl rfl (gn (by simp [hb])) rfl rfl ?_
    refine AR.opN rfl rfl (gn (by simp [hb])) rfl rfl ?_
    refine AR.opN rfl rfl (gn (by simp [hb])) rfl rfl ?_
    refine o_0 (.pickF rfl (by simp [hb]) rfl) ?_
    refine AR.nil ⟨by kernel_rfl, ?_⟩
    refine AWp.cond rfl (fun h5 => ?_) (fun h5 => ?_)
    ·cases h5
    ·have he : k < kk := by
      refine Nat.lt_of_le_of_ne hk fun e => ?_
      subst e
      rw [← hsd] at h1
      unfold aloneT at h1
      rw [if_pos ⟨x1, x2, x3, x4, x5⟩] at h1
      simp [hb] at h1
     refine AWp.skip ?_
     refine ⟨k + 1, ⟨he, rfl⟩, ?_⟩
     show SEntT _ ⟨[(1001, bPl c i), (1002, .lptr 1 0 0), (1003, .lptr 2 0 0), (1006, .clos 304 [] [bPl c i])], [(1, some ⟨37, 6, [zC ++ zC]⟩), (2, some ⟨37, 6, [zC ++ zC]⟩)], 3, 37⟩
     refine SEntT.to [] rfl rfl rfl au_r (fun hs => au_f) (fun hs => au_h)
  ·intro k hk hT; cases hT
  ·rintro e u rfl
   exact ⟨u, trivial, SEnt.refl _⟩
 rintro u _
 rw [alX_mk]
 refine r_z 2 ?_
 refine AWp.ret ?_
 refine Fin.cellE rfl rfl rfl tg_37.h ts_37.h (nle rfl) ?_ ?_
 ·rfl
 ·exact closed_spA _ _
def aloneM (f g : Nat) (c : Cnt) (i : Int) : Option Sp := (spanM f c i 0).bind fun s0 => (firstM (fun k => aloneT c i (closV c i s0 k)) g 0).map (closV c i s0)
theorem fs_aloneM (f g : Nat) (c : Cnt) (i : Int) (s : Sp) (h : aloneM f g c i = some s) : FSpec Tryz.prog 327 [plA c i] (.agg (spC s.1 s.2)) := by
 obtain ⟨s0, h1, h2⟩ := Option.bind_eq_some_iff.1 h
 obtain ⟨k, h3, rfl⟩ := Option.map_eq_some_iff.1 h2
 exact fs_alone f g c i s0 k h1 h3
def sharesM (f g : Nat) (c : Cnt) (i : Int) (q : List Rat) : Option Bool :=
 if c.p.length ≤ 274877906944 ∧ q.length ≤ 274877906944 then (gcdM f c.p q).bind fun d =>
  if d.length ≤ 274877906944 then
   if degP d < 1 then some false
   else (countsM f d).bind fun c2 => (aloneM f g c i).bind fun s => if okUp c2 s.2 ∧ okBe c2 s.1 then some (decide (belowV c2 s.1 < uptoV c2 s.2)) else none
  else none
 else none
theorem fs_shares (f g : Nat) (c : Cnt) (i : Int) (q : List Rat) (r : Bool) (h : sharesM f g c i q = some r) (hf : f ≤ 1000000) : FSpec Tryz.prog 310 [plA c i, .arr (pE q)] (bln r) := by
 unfold sharesM at h
 split at h
 case isFalse => cases h
 case isTrue hl =>
 obtain ⟨d, hd, h2⟩ := Option.bind_eq_some_iff.1 h
 split at h2
 case isFalse => cases h2
 case isTrue hdl =>
 refine FSpec.enter Tryz.func310 rfl (by kernel_rfl) rfl rfl rfl ?_ rfl ?_
 ·exact closed_cons (closed_plA c i) (closed_cons (closed_pA q) closed_nil)
 refine r_z 1 ?_
 refine r_c 10 (fs_Gcd f c.p q d hd hl.1 hl.2) ?_
 refine a_z ?_
 refine AWp.seq ?_
 refine r_c 3 (fs_Degree d (by omega)) ?_
 refine a_z ?_
 refine AWp.cond rfl (fun h3 => ?_) (fun h3 => ?_)
 ·have h4 : degP d < 1 := by simpa using h3
  rw [if_pos h4] at h2
  cases h2
  refine r_z 1 ?_
  refine AWp.ret ?_
  refine Fin.tmpE rfl ?_ ?_
  ·rfl
  ·exact closed_v _
 ·have h4 : ¬ degP d < 1 := by simpa using h3
  rw [if_neg h4] at h2
  obtain ⟨c2, hc2, h5⟩ := Option.bind_eq_some_iff.1 h2
  obtain ⟨s, hs, h6⟩ := Option.bind_eq_some_iff.1 h5
  split at h6
  case isFalse => cases h6
  case isTrue hk =>
  cases h6
  refine AWp.skip ?_
  refine r_c 7 (fs_counts f d c2 hc2 hf) ?_
  refine c_s (fs_aloneM f g c i s hs) ?_
  refine a_z ?_
  refine AWp.seq ?_
  refine AWp.regD hmix (m := 10) rfl ?_
  refine c_s (fs_upto c2 s.2 hk.1) ?_
  refine c_s (fs_below c2 s.1 hk.2) ?_
  refine a_2 ?_
  refine AR.nil ⟨by kernel_rfl, ?_⟩
  refine AWp.ret ?_
  refine Fin.tmpE rfl ?_ ?_
  ·rfl
  ·exact closed_v _
def signT (c : Cnt) (i : Int) (c2 : Cnt) (s : Sp) : Option Bool := if okUp c2 s.2 ∧ okBe c2 s.1 ∧ okNext c s then some (decide (uptoV c2 s.2 = belowV c2 s.1)) else none
def signM (f g : Nat) (c : Cnt) (i : Int) (q : List Rat) : Option Int :=
 if q.length ≤ 274877906944 then
  if degP q < 0 then some 0
  else (sharesM f g c i q).bind fun b => if b then some 0 else (countsM f q).bind fun c2 => (spanM f c i 0).bind fun s0 =>
   (firstM (fun k => signT c i c2 (closV c i s0 k)) g 0).bind fun k => if okEval q (closV c i s0 k).2 then some (sgZ (evalP q (closV c i s0 k).2).num) else none
 else none
def pgS (c : Cnt) (i : Int) (q : List Rat) (c2 : Cnt) : Nat → AState
 | k => ⟨[(0, plA c i), (3, bP q), (4, .lptr 1 0 0), (5, .aptr [[kA c2]] 0 0), (18, .clos 304 [] [bPl c i])], [(1, some ⟨3, 1, [[i64 0]]⟩)], 2, 34⟩
theorem pgS_mk (c : Cnt) (i : Int) (q : List Rat) (c2 : Cnt) (k : Nat) : pgS c i q c2 k = ⟨[(0, plA c i), (3, bP q), (4, .lptr 1 0 0), (5, .aptr [[kA c2]] 0 0), (18, .clos 304 [] [bPl c i])], [(1, some ⟨3, 1, [[i64 0]]⟩)], 2, 34⟩ := rfl
def pgX (r : Int) : Unit → AState
 | u => ⟨[(4, .lptr 1 0 0)], [(1, some ⟨3, 1, [[i64 r]]⟩)], 2, 34⟩
theorem closed_bkA (c : Cnt) : Closed (.aptr [[kA c]] 0 0) := closed_box (closed_cons (closed_kA c) closed_nil)
theorem fs_sign (f g : Nat) (c : Cnt) (i : Int) (q : List Rat) (r : Int) (h : signM f g c i q = some r) (hf : f ≤ 1000000) : FSpec Tryz.prog 283 [plA c i, .arr (pE q)] (i64 r) := by
 unfold signM at h
 split at h
 case isFalse => cases h
 case isTrue hl =>
 refine FSpec.enter Tryz.func283 rfl (by kernel_rfl) rfl rfl rfl ?_ rfl ?_
 ·exact closed_cons (closed_plA c i) (closed_cons (closed_pA q) closed_nil)
 refine r_z 2 ?_
 refine AWp.ent (st' := ⟨[(0, plA c i), (3, bP q), (4, .lptr 1 0 0)], [(1, some ⟨3, 1, [[i64 0]]⟩)], 2, 34⟩) ?_ ?_
 ·refine SEnt.to [(1, 4)] rfl rfl rfl au_r (fun hs => au_f) (fun hs => ?_)
  ·repeat' (first | exact CvH.nil | refine CvH.cons rfl rfl rfl rfl ?_ ?_)
   all_goals (first | (exact CvLL.box (CvL.cons (Cv.clo hs (closed_v _)) CvL.nil)) | exact au_e)
 by_cases hd : degP q < 0
 ·rw [if_pos hd] at h
  cases h
  refine AWp.seq ?_
  refine r_c 8 (fs_Degree q (by omega)) ?_
  refine a_2 ?_
  refine AR.opN rfl rfl (gn (by simp [hd])) rfl rfl ?_
  refine AR.opN rfl rfl (gn (by simp [hd])) rfl rfl ?_
  refine AR.opN rfl rfl (gn (by simp [hd])) rfl rfl ?_
  refine o_0 (.pickT rfl (by simp [hd]) rfl) ?_
  refine AR.nil ?_
  refine AWp.cond rfl (fun h1 => ?_) (fun h1 => ?_)
  ·refine r_z 1 ?_
   refine AWp.ret ?_
   exact Fin.cell1E rfl rfl rfl tg_3.h rfl rfl (closed_v _)
  ·cases h1
 rw [if_neg hd] at h
 obtain ⟨b, hb, h2⟩ := Option.bind_eq_some_iff.1 h
 refine AWp.seq ?_
 refine r_c 8 (fs_Degree q (by omega)) ?_
 refine a_2 ?_
 refine AR.op0y rfl rfl (gy (by simp [hd])) (.move rfl) rfl rfl ?_
 first | refine AR.op0y rfl rfl (gy (by simp [hd])) (.load_l1 rfl rfl rfl tg_55.h rfl) rfl rfl ?_ | refine AR.op0y rfl rfl (gy (by simp [hd])) (.load_a1 rfl rfl tg_55.h rfl) rfl rfl ?_
 refine AR.op0y rfl rfl (gy (by simp [hd])) (.call rfl rfl rfl (fs_shares f g c i q b hb hf)) rfl rfl ?_
 refine o_0 (.pickF rfl (by simp [hd]) rfl) ?_
 refine AR.nil ?_
 refine AWp.cond rfl (fun h1 => ?_) (fun h1 => ?_)
 ·have hb1 : b = true := h1
  subst hb1
  rw [if_pos rfl] at h2
  cases h2
  refine r_z 1 ?_
  refine AWp.ret ?_
  exact Fin.cell1E rfl rfl rfl tg_3.h rfl rfl (closed_v _)
 have hb1 : b = false := h1
 subst hb1
 rw [if_neg (show ¬ false = true by decide)] at h2
 obtain ⟨c2, hc2, h3⟩ := Option.bind_eq_some_iff.1 h2
 obtain ⟨s0, hs0, h4⟩ := Option.bind_eq_some_iff.1 h3
 obtain ⟨kk, hkk, h5⟩ := Option.bind_eq_some_iff.1 h4
 split at h5
 case isFalse => cases h5
 case isTrue hev =>
 cases h5
 obtain ⟨t1, _, t2⟩ := firstM_spec hkk
 have hok : ∀ k, k ≤ kk → okUp c2 (closV c i s0 k).2 ∧ okBe c2 (closV c i s0 k).1 ∧ okNext c (closV c i s0 k) := fun k hk => by
  have : ∃ b, signT c i c2 (closV c i s0 k) = some b := by
   by_cases e : k = kk
   ·rw [e]; exact ⟨_, t1⟩
   ·exact ⟨_, t2 k (Nat.zero_le _) (by omega)⟩
  obtain ⟨b, hb⟩ := this
  unfold signT at hb
  split at hb
  ·assumption
  ·cases hb
 have hgs := gs_closer f c i s0 kk hs0 (fun k hk => (hok k (by omega)).2.2)
 obtain ⟨r, hr⟩ : ∃ r, r = sgZ (evalP q (closV c i s0 kk).2).num := ⟨_, rfl⟩
 rw [← hr]
 refine AWp.skip ?_
 refine r_c 4 (fs_counts f q c2 hc2 hf) ?_
 refine a_z ?_
 refine AWp.ent (st' := ⟨[(0, plA c i), (3, bP q), (4, .lptr 1 0 0), (5, .aptr [[kA c2]] 0 0)], [(1, some ⟨3, 1, [[i64 0]]⟩)], 2, 34⟩) ?_ ?_
 ·refine SEnt.to [] rfl rfl rfl au_r (fun hs => ?_) (fun hs => ?_)
  ·repeat' (first | exact CvF.nil | refine CvF.cons rfl ?_ ?_)
   all_goals (first | (exact Cv.boxp hs rfl (dead_of rfl) rfl (closed_cons (closed_kA c2) closed_nil)) | exact au_c)
  ·repeat' (first | exact CvH.nil | refine CvH.cons rfl rfl rfl rfl ?_ ?_)
   all_goals (first | (exact CvLL.box (CvL.cons (Cv.clo hs (closed_v _)) CvL.nil)) | exact au_e | (refine CvLL.box ?_; repeat' (first | exact CvL.nil | refine CvL.cons ?_ ?_)))
   all_goals (first | (exact Cv.boxp hs rfl (dead_of rfl) rfl (closed_cons (closed_kA c2) closed_nil)) | exact au_c)
 refine AWp.seq ?_
 refine r_c 2 (fs_closer c i) ?_
 refine AR.nil ?_
 refine AWp.cutT (pgX r) (fun _ => False) ?_ (fun _ h => h.elim)
 refine AWp.block ?_
 refine AWp.rangeFuncB (α := Nat) (γ := Unit) kk (pgS c i q c2) (fun k => k) (fun k => k ≤ kk) (pgX r) (fun e _ => e = .ret) 0 rfl hgs rfl rfl ?_ (fun _ => ⟨rfl, rfl⟩) (fun _ => rfl) (Nat.zero_le _) rfl (fun _ h => h) ?_ ?_ ?_ ?_ ?_
 ·intro k xs hT; cases hT; rfl
 ·rw [pgS_mk]
  refine SEntT.to [] rfl rfl rfl au_r (fun hs => ?_) (fun hs => ?_)
  ·repeat' (first | exact CvF.nil | refine CvF.cons rfl ?_ ?_)
   all_goals (first | (exact Cv.clo hs (closed_bkA c2)) | exact au_c)
  ·repeat' (first | exact CvH.nil | refine CvH.cons rfl rfl rfl rfl ?_ ?_)
   all_goals (first | (exact CvLL.box (CvL.cons (Cv.clo hs (closed_v _)) CvL.nil)) | exact au_e | (refine CvLL.box ?_; repeat' (first | exact CvL.nil | refine CvL.cons ?_ ?_)))
   all_goals (first | (exact Cv.clo hs (closed_bkA c2)) | exact au_c)
 ·exact closed_cons (closed_bPl c i) closed_nil
 ·intro l k xs hk hT
  cases hT
  have hx := hok k hk
  obtain ⟨s, hsd⟩ : ∃ s, s = closV c i s0 k := ⟨_, rfl⟩
  rw [← hsd] at hx ⊢
  obtain ⟨x1, x2, x3⟩ := hx
  show AWp _ _ _ _ ⟨[(19, .agg (spC s.1 s.2)), (0, plA c i), (3, bP q), (4, .lptr 1 0 0), (5, .aptr [[kA c2]] 0 0), (18, .clos 304 [] [bPl c i]), (1000, plA c i), (1003, bP q), (1004, .lptr 1 0 0), (1005, .aptr [[kA c2]] 0 0), (1018, .clos 304 [] [bPl c i])], [(1, some ⟨3, 1, [[i64 0]]⟩)], 2, 34⟩
  refine AWp.reg (m := 2) rfl ?_
  refine a_z ?_
  refine AWp.block ?_
  refine AWp.seq ?_
  refine AWp.regD hmix (m := 9) rfl ?_
  refine c_s (fs_upto c2 s.2 x1) ?_
  refine c_s (fs_below c2 s.1 x2) ?_
  refine a_1 ?_
  refine AR.nil ⟨by kernel_rfl, ?_⟩
  refine AWp.cond rfl (fun h6 => ?_) (fun h6 => ?_)
  ·have h7 : uptoV c2 s.2 = belowV c2 s.1 := by simpa using h6
   have he : k = kk := by
    refine Nat.le_antisymm hk (Nat.le_of_not_lt fun hlt => ?_)
    have h8 := t2 k (Nat.zero_le _) hlt
    rw [← hsd] at h8
    unfold signT at h8
    rw [if_pos ⟨x1, x2, x3⟩] at h8
    simp [h7] at h8
   subst he
   rw [← hsd] at hev hr
   refine r_c 6 (fs_Eval q s.2 hev) ?_
   refine c_s (fs_Sign (evalP q s.2)) ?_
   refine a_z ?_
   refine AWp.ret ?_
   refine ⟨rfl, (), rfl, ?_⟩
   rw [hr]
   show SEntT _ ⟨[(1004, .lptr 1 0 0)], [(1, some ⟨3, 1, [[i64 (sgZ (evalP q s.2).num)]]⟩)], 2, 34⟩
   refine SEntT.to [] rfl rfl rfl au_r (fun hs => au_f) (fun hs => ?_)
   ·repeat' (first | exact CvH.nil | refine CvH.cons rfl rfl rfl rfl ?_ ?_)
    all_goals (first | (exact CvLL.box (CvL.cons (Cv.clo hs (closed_v _)) CvL.nil)) | exact au_e)
  ·have h7 : ¬ uptoV c2 s.2 = belowV c2 s.1 := by simpa using h6
   have he : k < kk := by
    refine Nat.lt_of_le_of_ne hk fun e => ?_
    subst e
    rw [← hsd] at t1
    unfold signT at t1
    rw [if_pos ⟨x1, x2, x3⟩] at t1
    simp [h7] at t1
   refine AWp.skip ?_
   refine ⟨k + 1, ⟨he, rfl⟩, ?_⟩
   show SEntT _ ⟨[(1000, plA c i), (1003, bP q), (1004, .lptr 1 0 0), (1005, .aptr [[kA c2]] 0 0), (1018, .clos 304 [] [bPl c i])], [(1, some ⟨3, 1, [[i64 0]]⟩)], 2, 34⟩
   refine SEntT.to [] rfl rfl rfl au_r (fun hs => ?_) (fun hs => ?_)
   ·repeat' (first | exact CvF.nil | refine CvF.cons rfl ?_ ?_)
    all_goals (first | (exact Cv.clo hs (closed_bkA c2)) | exact au_c)
   ·repeat' (first | exact CvH.nil | refine CvH.cons rfl rfl rfl rfl ?_ ?_)
    all_goals (first | (exact CvLL.box (CvL.cons (Cv.clo hs (closed_v _)) CvL.nil)) | exact au_e | (refine CvLL.box ?_; repeat' (first | exact CvL.nil | refine CvL.cons ?_ ?_)))
    all_goals (first | (exact Cv.clo hs (closed_bkA c2)) | exact au_c)
 ·intro k hk hT; cases hT
 ·rintro e u rfl
  exact Fin.cell1E rfl rfl rfl tg_3.h rfl rfl (closed_v _)
def valT (c : Cnt) (q : List Rat) (step : Rat) (s : Sp) : Option Bool := if okOver q s ∧ smS (overP q s) ∧ sm ((overP q s).2 - (overP q s).1) ∧ sm step ∧ okNext c s then some (decide (cmpQ ((overP q s).2 - (overP q s).1) step < 0)) else none
def valR (f g : Nat) (c : Cnt) (i : Int) (q : List Rat) (k : Int) (v : Sp) : Option Sp :=
 if sm (downQ v.2 (wi k 256)) ∧ smS v ∧ sm (fineQ (wi k 256)) ∧ smL q ∧ q.length ≤ 274877906944 then
  if cmpQ (downQ v.2 (wi k 256)) v.1 < 0 then some (downQ v.2 (wi k 256), downQ v.2 (wi k 256) + fineQ (wi k 256))
  else (signM f g c i (subP q (constP (downQ v.2 (wi k 256))))).bind fun sg =>
   some (if sg = 0 then (downQ v.2 (wi k 256), downQ v.2 (wi k 256)) else if sg = 1 then (downQ v.2 (wi k 256), downQ v.2 (wi k 256) + fineQ (wi k 256)) else (downQ v.2 (wi k 256) - fineQ (wi k 256), downQ v.2 (wi k 256)))
 else none
def valueM (f g : Nat) (c : Cnt) (i : Int) (q : List Rat) (k : Int) : Option Sp :=
 (spanM f c i 0).bind fun s0 => (firstM (fun j => valT c q (fineQ (wi k 256)) (closV c i s0 j)) g 0).bind fun j => valR f g c i q k (overP q (closV c i s0 j))
abbrev bI (k : Int) : AV := .aptr [[i64 k]] 0 0
theorem closed_bI (k : Int) : Closed (bI k) := closed_box (closed_cons (closed_v _) closed_nil)
def vaS (c : Cnt) (i : Int) (q : List Rat) (k : Int) (step : Rat) : Nat → AState
 | j => ⟨[(3, bPl c i), (4, bP q), (5, bI k), (6, .lptr 1 0 0), (7, bQ step), (14, .clos 304 [] [bPl c i])], [(1, some ⟨37, 6, [zC ++ zC]⟩)], 2, 61⟩
theorem vaS_mk (c : Cnt) (i : Int) (q : List Rat) (k : Int) (step : Rat) (j : Nat) : vaS c i q k step j = ⟨[(3, bPl c i), (4, bP q), (5, bI k), (6, .lptr 1 0 0), (7, bQ step), (14, .clos 304 [] [bPl c i])], [(1, some ⟨37, 6, [zC ++ zC]⟩)], 2, 61⟩ := rfl
def vaX (r : Sp) : Unit → AState
 | u => ⟨[(6, .lptr 1 0 0)], [(1, some ⟨37, 6, [spC r.1 r.2]⟩)], 2, 61⟩
theorem fs_value (f g : Nat) (c : Cnt) (i : Int) (q : List Rat) (k : Int) (r : Sp) (h : valueM f g c i q k = some r) (hf : f ≤ 1000000) : FSpec Tryz.prog 232 [plA c i, .arr (pE q), i64 k] (.agg (spC r.1 r.2)) := by
 unfold valueM at h
 obtain ⟨s0, hs0, h2⟩ := Option.bind_eq_some_iff.1 h
 obtain ⟨kk, hkk, hR⟩ := Option.bind_eq_some_iff.1 h2
 obtain ⟨t1, _, t2⟩ := firstM_spec hkk
 obtain ⟨step, hst⟩ : ∃ step, step = fineQ (wi k 256) := ⟨_, rfl⟩
 rw [← hst] at t1 t2
 have hok : ∀ j, j ≤ kk → okOver q (closV c i s0 j) ∧ smS (overP q (closV c i s0 j)) ∧ sm ((overP q (closV c i s0 j)).2 - (overP q (closV c i s0 j)).1) ∧ sm step ∧ okNext c (closV c i s0 j) := fun j hj => by
  have : ∃ b, valT c q step (closV c i s0 j) = some b := by
   by_cases e : j = kk
   ·rw [e]; exact ⟨_, t1⟩
   ·exact ⟨_, t2 j (Nat.zero_le _) (by omega)⟩
  obtain ⟨b, hb⟩ := this
  unfold valT at hb
  split at hb
  ·assumption
  ·cases hb
 have hgs := gs_closer f c i s0 kk hs0 (fun j hj => (hok j (by omega)).2.2.2.2)
 have hfi := fs_Fine k
 rw [← hst] at hfi
 refine FSpec.enter Tryz.func232 rfl (by kernel_rfl) rfl rfl rfl ?_ rfl ?_
 ·exact closed_cons (closed_plA c i) (closed_cons (closed_pA q) (closed_cons (closed_v _) closed_nil))
 refine r_z 4 ?_
 refine r_c 4 (hfi) ?_
 refine a_z ?_
 refine AWp.ent (st' := ⟨[(3, bPl c i), (4, bP q), (5, bI k), (6, .lptr 1 0 0), (7, bQ step)], [(1, some ⟨37, 6, [zC ++ zC]⟩)], 2, 61⟩) ?_ ?_
 ·refine SEnt.to [(1, 6)] rfl rfl rfl au_r (fun hs => ?_) (fun hs => ?_)
  ·repeat' (first | exact CvF.nil | refine CvF.cons rfl ?_ ?_)
   all_goals (first | (exact Cv.boxp hs rfl (dead_of rfl) rfl (closed_cons (closed_plA c i) closed_nil)) | exact au_c)
  ·repeat' (first | exact CvH.nil | refine CvH.cons rfl rfl rfl rfl ?_ ?_)
   all_goals (first | exact au_e | (refine CvLL.box ?_; repeat' (first | exact CvL.nil | refine CvL.cons ?_ ?_)))
   all_goals (first | (exact Cv.boxp hs rfl (dead_of rfl) rfl (closed_cons (closed_plA c i) closed_nil)) | exact au_c)
 refine AWp.seq ?_
 refine r_c 2 (fs_closer c i) ?_
 refine AR.nil ?_
 refine AWp.cutT (vaX r) (fun _ => False) ?_ (fun _ h => h.elim)
 refine AWp.block ?_
 refine AWp.rangeFuncB (α := Nat) (γ := Unit) kk (vaS c i q k step) (fun j => j) (fun j => j ≤ kk) (vaX r) (fun e _ => e = .ret) 0 rfl hgs rfl rfl ?_ (fun _ => ⟨rfl, rfl⟩) (fun _ => rfl) (Nat.zero_le _) rfl (fun _ h => h) ?_ ?_ ?_ ?_ ?_
 ·intro j xs hT; cases hT; rfl
 ·rw [vaS_mk]
  refine SEntT.to [] rfl rfl rfl au_r (fun hs => ?_) (fun hs => ?_)
  ·repeat' (first | exact CvF.nil | refine CvF.cons rfl ?_ ?_)
   all_goals (first | (exact Cv.clo hs (closed_bI k)) | exact au_c)
  ·repeat' (first | exact CvH.nil | refine CvH.cons rfl rfl rfl rfl ?_ ?_)
   all_goals (first | exact au_e | (refine CvLL.box ?_; repeat' (first | exact CvL.nil | refine CvL.cons ?_ ?_)))
   all_goals (first | (exact Cv.clo hs (closed_bI k)) | exact au_c)
 ·exact closed_cons (closed_bPl c i) closed_nil
 ·intro l j xs hj hT
  cases hT
  have hx := hok j hj
  obtain ⟨s, hsd⟩ : ∃ s, s = closV c i s0 j := ⟨_, rfl⟩
  rw [← hsd] at hx ⊢
  obtain ⟨x1, x2, x3, x4, x5⟩ := hx
  obtain ⟨v, hv⟩ : ∃ v, v = overP q s := ⟨_, rfl⟩
  have hov := fs_Over q s x1
  rw [← hv] at hov x2 x3
  show AWp _ _ _ _ ⟨[(15, .agg (spC s.1 s.2)), (3, bPl c i), (4, bP q), (5, bI k), (6, .lptr 1 0 0), (7, bQ step), (14, .clos 304 [] [bPl c i]), (1003, bPl c i), (1004, bP q), (1005, bI k), (1006, .lptr 1 0 0), (1007, bQ step), (1014, .clos 304 [] [bPl c i])], [(1, some ⟨37, 6, [zC ++ zC]⟩)], 2, 61⟩
  refine AWp.reg (m := 2) rfl ?_
  refine a_z ?_
  refine AWp.block ?_
  refine r_c 5 (hov) ?_
  refine a_z ?_
  refine AWp.seq ?_
  refine AWp.seq ?_
  refine AWp.regD hmix (m := 5) rfl ?_
  refine c_s (fs_SWidth v.1 v.2 x2.1 x2.2) ?_
  refine c_s (fs_cmp (v.2 - v.1) step x3 x4) ?_
  refine a_1 ?_
  refine AR.nil ⟨by kernel_rfl, ?_⟩
  refine AWp.cond rfl (fun h6 => ?_) (fun h6 => ?_)
  ·have h7 : ¬ cmpQ (v.2 - v.1) step < 0 := by
    have : 0 ≤ cmpQ (v.2 - v.1) step := by simpa using h6
    omega
   have he : j < kk := by
    refine Nat.lt_of_le_of_ne hj fun e => ?_
    subst e
    rw [← hsd] at t1
    unfold valT at t1
    rw [← hv] at t1
    rw [if_pos ⟨x1, x2, x3, x4, x5⟩] at t1
    simp [h7] at t1
   refine AWp.exit ?_
   refine ⟨j + 1, ⟨he, rfl⟩, ?_⟩
   show SEntT _ ⟨[(1003, bPl c i), (1004, bP q), (1005, bI k), (1006, .lptr 1 0 0), (1007, bQ step), (1014, .clos 304 [] [bPl c i])], [(1, some ⟨37, 6, [zC ++ zC]⟩)], 2, 61⟩
   refine SEntT.to [] rfl rfl rfl au_r (fun hs => ?_) (fun hs => ?_)
   ·repeat' (first | exact CvF.nil | refine CvF.cons rfl ?_ ?_)
    all_goals (first | (exact Cv.clo hs (closed_bI k)) | exact au_c)
   ·repeat' (first | exact CvH.nil | refine CvH.cons rfl rfl rfl rfl ?_ ?_)
    all_goals (first | exact au_e | (refine CvLL.box ?_; repeat' (first | exact CvL.nil | refine CvL.cons ?_ ?_)))
    all_goals (first | (exact Cv.clo hs (closed_bI k)) | exact au_c)
  ·have h7 : cmpQ (v.2 - v.1) step < 0 := by
    have : ¬ 0 ≤ cmpQ (v.2 - v.1) step := by simpa using h6
    omega
   have he : j = kk := by
    refine Nat.le_antisymm hj (Nat.le_of_not_lt fun hlt => ?_)
    have h8 := t2 j (Nat.zero_le _) hlt
    rw [← hsd] at h8
    unfold valT at h8
    rw [← hv] at h8
    rw [if_pos ⟨x1, x2, x3, x4, x5⟩] at h8
    simp [h7] at h8
   subst he
   rw [← hsd, ← hv] at hR
   unfold valR at hR
   rw [← hst] at hR
   obtain ⟨m, hm⟩ : ∃ m, m = downQ v.2 (wi k 256) := ⟨_, rfl⟩
   rw [← hm] at hR
   split at hR
   case isFalse => cases hR
   case isTrue hz =>
   obtain ⟨z1, z2, z3, z4, z5⟩ := hz
   have hdn := fs_Down v.2 k x2.2
   rw [← hm] at hdn
   refine AWp.skip ?_
   refine r_c 6 (hdn) ?_
   refine a_z ?_
   refine AWp.seq ?_
   refine r_c 5 (fs_cmp m v.1 z1 z2.1) ?_
   refine a_z ?_
   refine AWp.cond rfl (fun h8 => ?_) (fun h8 => ?_)
   ·have h9 : cmpQ m v.1 < 0 := by simpa using h8
    rw [if_pos h9] at hR
    cases hR
    refine AWp.seq ?_
    refine AWp.regD hmix (m := 6) rfl ?_
    refine c_s (fs_add m step (sm2 z1 z3)) ?_
    refine a_2 ?_
    refine AR.nil ⟨by kernel_rfl, ?_⟩
    refine AWp.ret ?_
    refine ⟨rfl, (), rfl, ?_⟩
    show SEntT _ ⟨[(1006, .lptr 1 0 0)], [(1, some ⟨37, 6, [spC (m, m + step).1 (m, m + step).2]⟩)], 2, 61⟩
    refine SEntT.to [] rfl rfl rfl au_r (fun hs => ?_) (fun hs => ?_)
    ·repeat' (first | exact CvF.nil | refine CvF.cons rfl ?_ ?_)
     all_goals (first | (exact Cv.clo hs (closed_bI k)) | exact au_c)
    ·repeat' (first | exact CvH.nil | refine CvH.cons rfl rfl rfl rfl ?_ ?_)
     all_goals (first | exact au_e | (refine CvLL.box ?_; repeat' (first | exact CvL.nil | refine CvL.cons ?_ ?_)))
     all_goals (first | (exact Cv.clo hs (closed_bI k)) | exact au_c)
   ·have h9 : ¬ cmpQ m v.1 < 0 := by simpa using h8
    rw [if_neg h9] at hR
    obtain ⟨sg, hsg, hR2⟩ := Option.bind_eq_some_iff.1 hR
    cases hR2
    have hcl := constP_len m
    have hsmc : smL (constP m) := smL_trim fun x hx => by rw [List.mem_singleton.1 hx]; exact z1
    refine AWp.skip ?_
    refine AWp.seq ?_
    refine AWp.seq ?_
    refine AWp.regD hmix (m := 6) rfl ?_
    refine c_s (fs_constant m) ?_
    refine c_s (fs_Sub q (constP m) z4 hsmc (by omega) (by omega)) ?_
    refine c_s (fs_sign f g c i (subP q (constP m)) sg hsg hf) ?_
    refine AR.nil ⟨by kernel_rfl, ?_⟩
    refine AWp.block ?_
    refine r_z 2 ?_
    refine AWp.cond rfl (fun h10 => ?_) (fun h10 => ?_)
    ·have h11 : sg = 0 := by simpa using h10
     refine r_c 3 (fs_At m) ?_
     refine a_z ?_
     refine AWp.ret ?_
     refine ⟨rfl, (), rfl, ?_⟩
     rw [if_pos h11]
     show SEntT _ ⟨[(1006, .lptr 1 0 0)], [(1, some ⟨37, 6, [spC (m, m).1 (m, m).2]⟩)], 2, 61⟩
     refine SEntT.to [] rfl rfl rfl au_r (fun hs => ?_) (fun hs => ?_)
     ·repeat' (first | exact CvF.nil | refine CvF.cons rfl ?_ ?_)
      all_goals (first | (exact Cv.clo hs (closed_bI k)) | exact au_c)
     ·repeat' (first | exact CvH.nil | refine CvH.cons rfl rfl rfl rfl ?_ ?_)
      all_goals (first | exact au_e | (refine CvLL.box ?_; repeat' (first | exact CvL.nil | refine CvL.cons ?_ ?_)))
      all_goals (first | (exact Cv.clo hs (closed_bI k)) | exact au_c)
    ·have h11 : ¬ sg = 0 := by simpa using h10
     refine r_z 2 ?_
     refine AWp.cond rfl (fun h12 => ?_) (fun h12 => ?_)
     ·have h13 : sg = 1 := by simpa using h12
      refine AWp.seq ?_
      refine AWp.regD hmix (m := 6) rfl ?_
      refine c_s (fs_add m step (sm2 z1 z3)) ?_
      refine a_2 ?_
      refine AR.nil ⟨by kernel_rfl, ?_⟩
      refine AWp.ret ?_
      refine ⟨rfl, (), rfl, ?_⟩
      rw [if_neg h11, if_pos h13]
      show SEntT _ ⟨[(1006, .lptr 1 0 0)], [(1, some ⟨37, 6, [spC (m, m + step).1 (m, m + step).2]⟩)], 2, 61⟩
      refine SEntT.to [] rfl rfl rfl au_r (fun hs => ?_) (fun hs => ?_)
      ·repeat' (first | exact CvF.nil | refine CvF.cons rfl ?_ ?_)
       all_goals (first | (exact Cv.clo hs (closed_bI k)) | exact au_c)
      ·repeat' (first | exact CvH.nil | refine CvH.cons rfl rfl rfl rfl ?_ ?_)
       all_goals (first | exact au_e | (refine CvLL.box ?_; repeat' (first | exact CvL.nil | refine CvL.cons ?_ ?_)))
       all_goals (first | (exact Cv.clo hs (closed_bI k)) | exact au_c)
     ·have h13 : ¬ sg = 1 := by simpa using h12
      refine AWp.skip ?_
      refine AWp.seq ?_
      refine AWp.regD hmix (m := 6) rfl ?_
      refine c_s (fs_sub m step (sm2 z1 z3)) ?_
      refine a_3 ?_
      refine AR.nil ⟨by kernel_rfl, ?_⟩
      refine AWp.ret ?_
      refine ⟨rfl, (), rfl, ?_⟩
      rw [if_neg h11, if_neg h13]
      show SEntT _ ⟨[(1006, .lptr 1 0 0)], [(1, some ⟨37, 6, [spC (m - step, m).1 (m - step, m).2]⟩)], 2, 61⟩
      refine SEntT.to [] rfl rfl rfl au_r (fun hs => ?_) (fun hs => ?_)
      ·repeat' (first | exact CvF.nil | refine CvF.cons rfl ?_ ?_)
       all_goals (first | (exact Cv.clo hs (closed_bI k)) | exact au_c)
      ·repeat' (first | exact CvH.nil | refine CvH.cons rfl rfl rfl rfl ?_ ?_)
       all_goals (first | exact au_e | (refine CvLL.box ?_; repeat' (first | exact CvL.nil | refine CvL.cons ?_ ?_)))
       all_goals (first | (exact Cv.clo hs (closed_bI k)) | exact au_c)
 ·intro j hj hT; cases hT
 ·rintro e u rfl
  exact Fin.cell rfl rfl rfl tg_37.h ts_37.h (nle rfl) (Cv.clo shr_nil (closed_spA _ _))
def hullS (a b : Sp) : Sp := (minL [a.1, b.1], maxL [a.2, b.2])
def qSpan (a : Rat) (k : Int) : Sp := (downQ a (wi k 256), upQ a (wi k 256))
def rlM (f g : Nat) (c : Cnt) (p : List Rat) (k : Int) (up : Int) : Nat → Int → Sp → Option Sp
 | 0, _, _ => none
 | n + 1, i, o => if i < up then (valueM f g c i p k).bind fun v => if smS o ∧ smS v then rlM f g c p k up n (i + 1) (hullS o v) else none else some o
def okRange (p : List Rat) (s : Sp) (k : Int) : Prop := smS s ∧ okEval p s.1 ∧ okEval p s.2 ∧ smL p ∧ p.length ≤ 274877906944 ∧ cmpQ s.1 s.2 ≤ 0 ∧ degP p ≤ 40 ∧ smS (qSpan (evalP p s.1) k) ∧ smS (qSpan (evalP p s.2) k)
instance (p : List Rat) (s : Sp) (k : Int) : Decidable (okRange p s k) := inferInstanceAs (Decidable (_ ∧ _ ∧ _ ∧ _ ∧ _ ∧ _ ∧ _ ∧ _ ∧ _))
def rangeM (f g : Nat) (p : List Rat) (s : Sp) (k : Int) : Option Sp :=
 if okRange p s k then
  if degP (deriveP p) < 0 then some (hullS (qSpan (evalP p s.1) k) (qSpan (evalP p s.2) k))
  else (countsM f (deriveP p)).bind fun c => if okBe c s.1 ∧ okUp c s.2 then rlM f g c p k (uptoV c s.2) g (belowV c s.1) (hullS (qSpan (evalP p s.1) k) (qSpan (evalP p s.2) k)) else none
 else none
def rgS (p : List Rat) (s : Sp) (k : Int) (c : Cnt) : Int × Sp → AState
 | (i, o) => ⟨[(0, .arr (pE p)), (2, i64 k), (4, bS s), (6, .lptr 1 0 0), (8, .lptr 2 0 0), (10, kA c), (11, i64 i)], [(1, some ⟨37, 6, [zC ++ zC]⟩), (2, some ⟨37, 6, [spC o.1 o.2]⟩)], 3, 66⟩
theorem rgS_mk (p : List Rat) (s : Sp) (k : Int) (c : Cnt) (i : Int) (o : Sp) : rgS p s k c (i, o) = ⟨[(0, .arr (pE p)), (2, i64 k), (4, bS s), (6, .lptr 1 0 0), (8, .lptr 2 0 0), (10, kA c), (11, i64 i)], [(1, some ⟨37, 6, [zC ++ zC]⟩), (2, some ⟨37, 6, [spC o.1 o.2]⟩)], 3, 66⟩ := rfl
theorem fs_Range (f g : Nat) (p : List Rat) (s : Sp) (k : Int) (r : Sp) (h : rangeM f g p s k = some r) (hf : f ≤ 1000000) : FSpec Tryz.prog 156 [.arr (pE p), .agg (spC s.1 s.2), i64 k] (.tup [.agg (spC r.1 r.2), i64 0]) := by
 unfold rangeM at h
 split at h
 case isFalse => cases h
 case isTrue hk =>
 obtain ⟨k1, k2, k3, k4, k5, k6, k7, k8, k9⟩ := hk
 have hdl := deriveP_len p
 obtain ⟨o0, ho⟩ : ∃ o, o = hullS (qSpan (evalP p s.1) k) (qSpan (evalP p s.2) k) := ⟨_, rfl⟩
 have hhu := fs_SHull (qSpan (evalP p s.1) k).1 (qSpan (evalP p s.1) k).2 (qSpan (evalP p s.2) k).1 (qSpan (evalP p s.2) k).2 k8.1 k8.2 k9.1 k9.2
 rw [← ho] at h
 have hhu' : FSpec Tryz.prog 231 [.agg (spC (qSpan (evalP p s.1) k).1 (qSpan (evalP p s.1) k).2), .agg (spC (qSpan (evalP p s.2) k).1 (qSpan (evalP p s.2) k).2)] (.agg (spC o0.1 o0.2)) := by rw [ho]; exact hhu
 refine FSpec.enter Tryz.func156 rfl (by kernel_rfl) rfl rfl rfl ?_ rfl ?_
 ·exact closed_cons (closed_pA p) (closed_cons (closed_spA _ _) (closed_cons (closed_v _) closed_nil))
 refine r_z 3 ?_
 refine AWp.cut (fun _ : Unit => ⟨[(0, .arr (pE p)), (2, i64 k), (4, bS s), (6, .lptr 1 0 0)], [(1, some ⟨37, 6, [zC ++ zC]⟩)], 2, 66⟩) (fun _ => True) ?_ ?_
 ·refine AWp.block ?_
  refine r_c 4 (fs_SValid s.1 s.2 k1.1 k1.2) ?_
  refine a_z ?_
  refine AWp.cond rfl (fun h1 => ?_) (fun h1 => ?_)
  ·exact absurd h1 (by simp [k6])
  refine r_c 4 (fs_Degree p (by omega)) ?_
  refine a_z ?_
  refine AWp.cond rfl (fun h2 => ?_) (fun h2 => ?_)
  ·exact absurd h2 (by simp; omega)
  refine AWp.skip ⟨(), trivial, ?_⟩
  exact s_e [(1, 6)]
 rintro _ _
 refine AWp.seq ?_
 refine AWp.regD hmix (m := 15) rfl ?_
 refine c_s (fs_Eval p s.1 k2) ?_
 refine c_s (fs_QSpan (evalP p s.1) k (evalP_sm k2)) ?_
 refine c_s (fs_Eval p s.2 k3) ?_
 refine c_s (fs_QSpan (evalP p s.2) k (evalP_sm k3)) ?_
 refine c_s (hhu') ?_
 refine a_2 ?_
 refine AR.nil ⟨by kernel_rfl, ?_⟩
 refine AWp.seq ?_
 refine r_c 3 (fs_Derive p k4 (by omega)) ?_
 refine a_z ?_
 refine r_c 3 (fs_Degree (deriveP p) (by omega)) ?_
 refine a_z ?_
 refine AWp.cutT (fun _ : Unit => ⟨[(6, .lptr 1 0 0), (8, .lptr 2 0 0)], [(1, some ⟨37, 6, [zC ++ zC]⟩), (2, some ⟨37, 6, [spC r.1 r.2]⟩)], 3, 66⟩) (fun _ => True) ?_ ?_
 ·refine AWp.cond rfl (fun h3 => ?_) (fun h3 => ?_)
  ·have h4 : ¬ degP (deriveP p) < 0 := by
    have : 0 ≤ degP (deriveP p) := by simpa using h3
    omega
   rw [if_neg h4] at h
   obtain ⟨c, hc, h5⟩ := Option.bind_eq_some_iff.1 h
   split at h5
   case isFalse => cases h5
   case isTrue hb =>
   refine r_c 3 (fs_counts f (deriveP p) c hc hf) ?_
   refine a_z ?_
   refine r_c 5 (fs_below c s.1 hb.1) ?_
   refine a_z ?_
   have hub := uptoV_bd (x := s.2) hb.2.1
   have hbb := belowV_bd (x := s.1) hb.1.1.1
   refine AWp.block ?_
   refine AWp.loopS (fun x : Nat × Int × Sp => rgS p s k c x.2) (fun x => x.1) (fun x => rlM f g c p k (uptoV c s.2) x.1 x.2.1 x.2.2 = some r ∧ -4611686018427387904 ≤ x.2.1) (g, belowV c s.1, o0) ⟨h5, by simp only; omega⟩ ?_ ?_
   ·simp only [rgS_mk]
    exact s_e [(2, 8)]
   rintro ⟨n, i, o⟩ ⟨hrl, hil⟩
   simp only at hrl hil
   simp only [rgS_mk]
   cases n with
   | zero => cases hrl
   | succ n =>
    rw [rlM] at hrl
    refine AWp.seq ?_
    refine r_c 6 (fs_upto c s.2 hb.2) ?_
    refine a_z ?_
    refine AWp.cond rfl (fun h6 => ?_) (fun h6 => ?_)
    ·have h7 : i < uptoV c s.2 := by simpa using h6
     rw [if_pos h7] at hrl
     obtain ⟨v, hv, h8⟩ := Option.bind_eq_some_iff.1 hrl
     split at h8
     case isFalse => cases h8
     case isTrue hsm =>
     have hhv : FSpec Tryz.prog 231 [.agg (spC o.1 o.2), .agg (spC v.1 v.2)] (.agg (spC (hullS o v).1 (hullS o v).2)) := fs_SHull o.1 o.2 v.1 v.2 hsm.1.1 hsm.1.2 hsm.2.1 hsm.2.2
     refine AWp.skip ?_
     refine AWp.seq ?_
     refine AWp.block ?_
     refine r_z 5 ?_
     refine AWp.ent (st' := ⟨[(0, .arr (pE p)), (2, i64 k), (4, bS s), (6, .lptr 1 0 0), (8, .lptr 2 0 0), (10, kA c), (11, i64 i), (12, plA c i)], [(1, some ⟨37, 6, [zC ++ zC]⟩), (2, some ⟨37, 6, [spC o.1 o.2]⟩)], 3, 66⟩) ?_ ?_
     ·refine SEnt.to [] rfl rfl rfl au_r (fun hs => ?_) (fun hs => ?_)
      ·repeat' (first | exact CvF.nil | refine CvF.cons rfl ?_ ?_)
       all_goals (first | (exact Cv.boxp hs rfl (dead_of rfl) rfl (closed_cons (closed_kA c) (closed_cons (closed_v _) closed_nil))) | exact au_c)
      ·repeat' (first | exact CvH.nil | refine CvH.cons rfl rfl rfl rfl ?_ ?_)
       all_goals (first | exact au_e | (refine CvLL.box ?_; repeat' (first | exact CvL.nil | refine CvL.cons ?_ ?_)))
       all_goals (first | (exact Cv.boxp hs rfl (dead_of rfl) rfl (closed_cons (closed_kA c) (closed_cons (closed_v _) closed_nil))) | exact au_c)
     refine AWp.regD hmix (m := 7) rfl ?_
     refine c_s (fs_value f g c i p k v hv hf) ?_
     refine c_s (hhv) ?_
     refine a_1 ?_
     refine AR.nil ⟨by kernel_rfl, ?_⟩
     refine AWp.reg (m := 3) rfl ?_
     refine a_z ?_
     refine ⟨(n, i + 1, hullS o v), Nat.lt_succ_self n, ⟨h8, by simp only; omega⟩, ?_⟩
     simp only [rgS_mk]
     exact s_e []
    ·have h7 : ¬ i < uptoV c s.2 := by simpa using h6
     rw [if_neg h7] at hrl
     cases hrl
     refine AWp.exit ⟨(), trivial, ?_⟩
     exact s_e []
  ·have h4 : degP (deriveP p) < 0 := by
    have : ¬ 0 ≤ degP (deriveP p) := by simpa using h3
    omega
   rw [if_pos h4] at h
   cases h
   refine AWp.skip ⟨(), trivial, ?_⟩
   exact s_e [(2, 8)]
 rintro _ _
 refine r_z 3 ?_
 refine AWp.ret ?_
 refine Fin.many ⟨_, _, rfl, ⟨_, _, _, _, _, rfl, rfl, rfl, .inl ⟨tg_37.h, _, ts_37.h, nle rfl, rfl⟩⟩, ⟨_, _, rfl, rfl, rfl⟩⟩ (nle rfl) ?_
 exact CvL.cons (Cv.clo shr_nil (closed_spA _ _)) (CvL.cons (Cv.clo shr_nil (closed_v _)) CvL.nil)
theorem fs_Divide (p q : List Rat) (h : okDiv p q) (h0 : trimQ q ≠ []) : FSpec Tryz.prog 154 [.arr (pE p), .arr (pE q)] (.tup [.arr (pE (divP p q).1), .arr (pE (divP p q).2), i64 0]) := by
 have hl := h.2.2
 refine FSpec.enter Tryz.func154 rfl (by kernel_rfl) rfl rfl rfl ?_ rfl ?_
 ·exact closed_cons (closed_pA p) (closed_cons (closed_pA q) closed_nil)
 refine r_z 3 ?_
 refine AWp.seq ?_
 refine r_c 3 (fs_Degree q (by omega)) ?_
 refine a_z ?_
 refine AWp.cond rfl (fun h1 => ?_) (fun h1 => ?_)
 ·exact absurd (degP_neg.1 (by simpa using h1)) h0
 refine AWp.skip ?_
 refine r_c 8 (fs_divide p q (mxL p) (mxL q) (bdL_mx p) (bdL_mx q) (mxL_pos p) (mxL_pos q) h.1 h0 h.2.1 h.2.2) ?_
 refine a_z ?_
 refine r_z 5 ?_
 refine AWp.ret ?_
 refine Fin.many ⟨_, _, rfl, rfl, ⟨_, _, rfl, rfl, ⟨_, _, rfl, rfl, rfl⟩⟩⟩ (nle rfl) ?_
 exact CvL.cons (Cv.clo shr_nil (closed_pA _)) (CvL.cons (Cv.clo shr_nil (closed_pA _)) (CvL.cons (Cv.clo shr_nil (closed_v _)) CvL.nil))

end Go.Proofs.YtdjfjpeoddmamaaGreatDoor
namespace Go.Abs
def inK (a v : Rat) (out zeros : List Rat) : Rat := (v - evalP out a) / evalP zeros a
def okIn (a v : Rat) (out zeros : List Rat) : Prop := sm a ∧ sm v ∧ okEval out a ∧ okEval zeros a ∧ evalP zeros a ≠ 0 ∧ sm (inK a v out zeros) ∧ smL out ∧ smL zeros ∧ smL (scaleP zeros (inK a v out zeros)) ∧ okMul zeros [-a, 1] ∧ out.length ≤ 274877906944
instance (a v : Rat) (out zeros : List Rat) : Decidable (okIn a v out zeros) := inferInstanceAs (Decidable (_ ∧ _ ∧ _ ∧ _ ∧ _ ∧ _ ∧ _ ∧ _ ∧ _ ∧ _ ∧ _))
end Go.Abs
namespace Go.Proofs.YtdjfjpeoddmamaaGreatDoor
open Go.Abs
set_option maxRecDepth 20000
set_option maxHeartbeats 1000000

def zE (l : List Int) : List (List AV) := l.map fun n => [i64 n]
theorem closed_zE (l : List Int) : ∀ e ∈ zE l, ∀ c ∈ e, Closed c := by
 intro e he c hc
 obtain ⟨n, _, rfl⟩ := List.mem_map.1 he
 rw [List.mem_singleton.1 hc]; exact closed_v _
def zR (l : List Int) : List Rat := l.map fun (n : Int) => (n : Rat)
def itS (l : List Int) : List Rat → Nat → AState
 | [], i => ⟨[(0, .arr (zE l)), (3, .emp), (4, i64 i)], [], 1, 20⟩
 | q :: Q, i => ⟨[(0, .arr (zE l)), (3, .lsl 1 0 (Q.length + 1) none 3), (4, i64 i)], [(1, some ⟨35, 3, pE (q :: Q)⟩)], 2, 20⟩
theorem itS_nil (l : List Int) (i : Nat) : itS l [] i = ⟨[(0, .arr (zE l)), (3, .emp), (4, i64 i)], [], 1, 20⟩ := rfl
theorem itS_cons (l : List Int) (q : Rat) (Q : List Rat) (i : Nat) : itS l (q :: Q) i = ⟨[(0, .arr (zE l)), (3, .lsl 1 0 (Q.length + 1) none 3), (4, i64 i)], [(1, some ⟨35, 3, pE (q :: Q)⟩)], 2, 20⟩ := rfl
theorem fs_ints (l : List Int) (hl : l.length ≤ 1099511627776) (hb : ∀ n ∈ l, -9223372036854775808 ≤ n ∧ n ≤ 9223372036854775807) : FSpec Tryz.prog 153 [.arr (zE l)] (.arr (pE (zR l))) := by
 refine FSpec.enter Tryz.func153 rfl (by kernel_rfl) rfl rfl rfl ?_ rfl ?_
 ·exact closed_cons (closed_arr (closed_zE l)) closed_nil
 refine r_z 1 ?_
 refine r_z 1 ?_
 refine AWp.seq ?_
 refine r_z 1 ?_
 refine AWp.cutT (fun _ : Unit => itS l (zR l) l.length) (fun _ => True) ?_ ?_
 ·refine AWp.block ?_
  refine AWp.loopS (fun i : Nat => itS l (zR (l.take i)) i) (fun i => l.length - i) (fun i => i ≤ l.length) 0 (Nat.zero_le _) ?_ ?_
  ·show SEnt _ (itS l [] 0)
   rw [itS_nil]
   refine SEnt.to [] rfl rfl rfl au_r (fun hs => ?_) (fun hs => ?_)
   ·repeat' (first | exact CvF.nil | refine CvF.cons rfl ?_ ?_)
    all_goals (first | (exact Cv.clo hs (closed_arr (closed_zE l))) | exact au_c)
   ·repeat' (first | exact CvH.nil | refine CvH.cons rfl rfl rfl rfl ?_ ?_)
    all_goals (first | exact au_e | (refine CvLL.box ?_; repeat' (first | exact CvL.nil | refine CvL.cons ?_ ?_)))
    all_goals (first | (exact Cv.clo hs (closed_arr (closed_zE l))) | exact au_c)
  rintro i hi
  have hlen : (zE l).length = l.length := by simp [zE]
  by_cases hlt : i < l.length
  ·obtain ⟨n, hn⟩ : ∃ n, l[i]? = some n := ⟨_, List.getElem?_eq_getElem hlt⟩
   have hgt : (zE l)[((i : Nat) : Int).toNat]? = some [i64 n] := by
    show (zE l)[i]? = _
    simp [zE, hn]
   have hnb := hb n (List.mem_of_getElem? hn)
   have htk : zR (l.take (i + 1)) = zR (l.take i) ++ [(n : Rat)] := by rw [take_snoc hn]; simp [zR]
   have hQl : (zR (l.take i)).length = i := by simp [zR]; omega
   cases hQ : zR (l.take i) with
   | nil =>
    simp only [itS_nil]
    refine AWp.seq ?_
    refine r_z 4 ?_
    refine AWp.cond rfl (fun h => ?_) (fun h => ?_)
    rotate_left
    ·exact absurd h (by simp [zE]; omega)
    refine AWp.skip ?_
    refine AWp.seq ?_
    refine AWp.block ?_
    refine AWp.reg (m := 9) rfl ?_
    refine a_3 ?_
    first | refine AR.op0 (.index_l rfl rfl (by omega) (by omega) te_268.h) rfl rfl ?_ | refine AR.op0 (.index_a rfl rfl (by omega) hgt rfl te_268.h) rfl rfl ?_
    first | refine AR.op0 (.load_l1 rfl rfl hgt tg_2.h rfl) rfl rfl ?_ | refine AR.op0 (.load_a1 rfl hgt tg_2.h rfl) rfl rfl ?_
    refine c_s (fs_Int n hnb) ?_
    refine a_z ?_
    refine AWp.reg (m := 3) rfl ?_
    refine a_z ?_
    refine ⟨i + 1, by omega, hlt, ?_⟩
    simp only [htk, hQ, List.nil_append, itS_cons]
    refine SEnt.to [(1, 3)] rfl rfl rfl au_r (fun hs => ?_) (fun hs => ?_)
    ·repeat' (first | exact CvF.nil | refine CvF.cons rfl ?_ ?_)
     all_goals (first | (exact Cv.clo hs (closed_arr (closed_zE l))) | exact au_c)
    ·repeat' (first | exact CvH.nil | refine CvH.cons rfl rfl rfl rfl ?_ ?_)
     all_goals (first | (exact CvLL.clo hs (closed_pE [(n : Rat)])) | exact au_e | (refine CvLL.box ?_; repeat' (first | exact CvL.nil | refine CvL.cons ?_ ?_)))
     all_goals (first | (exact Cv.clo hs (closed_arr (closed_zE l))) | exact au_c)
   | cons q Q =>
    rw [hQ] at hQl
    simp at hQl
    simp only [itS_cons]
    refine AWp.seq ?_
    refine r_z 4 ?_
    refine AWp.cond rfl (fun h => ?_) (fun h => ?_)
    rotate_left
    ·exact absurd h (by simp [zE]; omega)
    refine AWp.skip ?_
    refine AWp.seq ?_
    refine AWp.block ?_
    refine AWp.reg (m := 9) rfl ?_
    refine a_3 ?_
    first | refine AR.op0 (.index_l rfl rfl (by omega) (by omega) te_268.h) rfl rfl ?_ | refine AR.op0 (.index_a rfl rfl (by omega) hgt rfl te_268.h) rfl rfl ?_
    first | refine AR.op0 (.load_l1 rfl rfl hgt tg_2.h rfl) rfl rfl ?_ | refine AR.op0 (.load_a1 rfl hgt tg_2.h rfl) rfl rfl ?_
    refine c_s (fs_Int n hnb) ?_
    refine a_z ?_
    refine AWp.reg (m := 3) rfl ?_
    refine a_z ?_
    refine ⟨i + 1, by omega, hlt, ?_⟩
    simp only [htk, hQ, List.cons_append, itS_cons]
    have e : pE (q :: Q) ++ [qC (n : Rat)] = pE (q :: (Q ++ [(n : Rat)])) := by simp [pE]
    refine SEnt.to [(1, 3)] rfl rfl rfl ?_ (fun hs => ?_) (fun hs => ?_)
    ·repeat' (first | exact ShrL.nil | refine ShrL.cons rfl rfl rfl rfl (by first | (simp) | rfl | (simp; done) | (simp <;> omega)) ?_)
    ·repeat' (first | exact CvF.nil | refine CvF.cons rfl ?_ ?_)
     all_goals (first | (exact Cv.clo hs (closed_arr (closed_zE l))) | exact au_c)
    ·repeat' (first | exact CvH.nil | refine CvH.cons rfl rfl rfl rfl ?_ ?_)
     all_goals (first | (exact CvLL.cloE hs e (closed_pE _)) | exact au_e | (refine CvLL.box ?_; repeat' (first | exact CvL.nil | refine CvL.cons ?_ ?_)))
     all_goals (first | (exact Cv.clo hs (closed_arr (closed_zE l))) | exact au_c)
  ·have hge : i = l.length := by omega
   subst hge
   simp only [List.take_length]
   cases hQ : zR l with
   | nil =>
    simp only [itS_nil]
    refine AWp.seq ?_
    refine r_z 4 ?_
    refine AWp.cond rfl (fun h => ?_) (fun h => ?_)
    ·exact absurd h (by simp [zE])
    ·refine AWp.exit ⟨(), trivial, ?_⟩
     simp only [hQ, itS_nil]
     refine SEnt.to [] rfl rfl rfl au_r (fun hs => ?_) (fun hs => ?_)
     ·repeat' (first | exact CvF.nil | refine CvF.cons rfl ?_ ?_)
      all_goals (first | (exact Cv.clo hs (closed_arr (closed_zE l))) | exact au_c)
     ·repeat' (first | exact CvH.nil | refine CvH.cons rfl rfl rfl rfl ?_ ?_)
      all_goals (first | exact au_e | (refine CvLL.box ?_; repeat' (first | exact CvL.nil | refine CvL.cons ?_ ?_)))
      all_goals (first | (exact Cv.clo hs (closed_arr (closed_zE l))) | exact au_c)
   | cons q Q =>
    simp only [itS_cons]
    refine AWp.seq ?_
    refine r_z 4 ?_
    refine AWp.cond rfl (fun h => ?_) (fun h => ?_)
    ·exact absurd h (by simp [zE])
    ·refine AWp.exit ⟨(), trivial, ?_⟩
     simp only [hQ, itS_cons]
     refine SEnt.to [] rfl rfl rfl au_r (fun hs => ?_) (fun hs => ?_)
     ·repeat' (first | exact CvF.nil | refine CvF.cons rfl ?_ ?_)
      all_goals (first | (exact Cv.clo hs (closed_arr (closed_zE l))) | exact au_c)
     ·repeat' (first | exact CvH.nil | refine CvH.cons rfl rfl rfl rfl ?_ ?_)
      all_goals (first | exact au_e | (refine CvLL.box ?_; repeat' (first | exact CvL.nil | refine CvL.cons ?_ ?_)))
      all_goals (first | (exact Cv.clo hs (closed_arr (closed_zE l))) | exact au_c)
 rintro _ _
 cases hQ : zR l with
 | nil =>
  simp only [itS_nil]
  refine r_z 2 ?_
  refine AWp.ret ?_
  exact Fin.tmpN rfl
 | cons q Q =>
  simp only [itS_cons]
  refine r_z 2 ?_
  refine AWp.ret ?_
  exact Fin.tmpS rfl rfl rfl (by simp) (closed_pE _)



def zl (z : Int) : Prop := bl z.natAbs ≤ 8796093022208

structure ZmI (a b : Nat) (x : List Nat × Nat) : Prop where
 len : x.1.length = (digs UB a).length + (digs UB b).length
 le : x.2 ≤ (digs UB a).length
 dig : ∀ d ∈ x.1, d < UB
 val : ofD UB x.1 = ofD UB ((digs UB a).take x.2) * b
 zer : ∀ j, x.2 + (digs UB b).length ≤ j → j < x.1.length → x.1[j]? = some 0
structure ZmJ (a b i v : Nat) (x : List Nat × Nat × Nat) : Prop where
 len : x.1.length = (digs UB a).length + (digs UB b).length
 le : x.2.1 ≤ (digs UB b).length
 dig : ∀ d ∈ x.1, d < UB
 car : x.2.2 < UB
 val : ofD UB x.1 + UB ^ (i + x.2.1) * x.2.2 = ofD UB ((digs UB a).take i) * b + UB ^ i * v * ofD UB ((digs UB b).take x.2.1)
 zer : ∀ j, i + (digs UB b).length ≤ j → j < x.1.length → x.1[j]? = some 0







def twP : List Rat := scaleP [0, 1] 2
def fmC (p : List Rat) (g : Nat) (cap : List AV) : List AV := [.arr (pE p), .clos g [] cap]
def u8v (k : Int) : Value := .int .u8 k
def famK : List Value := [u8v 1, u8v 2, u8v 3, u8v 4, u8v 5]
def famV : List AV := [.agg (fmC [0, 1] 215 [bP twP]), .agg (fmC twP 215 [bP twP]), .agg (fmC [0, 1] 216 []), .agg (fmC [1, -1] 217 []), .agg (fmC twP 218 [bP twP])]
abbrev famA : AV := .mp famK famV
theorem closed_fmC (p : List Rat) (g : Nat) {cap : List AV} (h : ∀ c ∈ cap, Closed c) : ∀ c ∈ fmC p g cap, Closed c := closed_cons (closed_pA p) (closed_cons (closed_clos closed_nil h) closed_nil)
theorem famV_closed : ∀ c ∈ famV, Closed c := by
 have c1 : ∀ c ∈ [bP twP], Closed c := closed_cons (closed_bP _) closed_nil
 exact closed_cons (closed_agg (closed_fmC _ _ c1)) (closed_cons (closed_agg (closed_fmC _ _ c1)) (closed_cons (closed_agg (closed_fmC _ _ closed_nil)) (closed_cons (closed_agg (closed_fmC _ _ closed_nil)) (closed_cons (closed_agg (closed_fmC _ _ c1)) closed_nil))))
def famTab : MapTab := ⟨191, .u8, 0, 7, [(4, 1, 10, 3), (8, 2, 13, 7), (11, 3, 15, 10), (16, 4, 19, 15), (20, 5, 22, 19)], [(21, 23), (22, 0)]⟩
theorem fs_families : FSpec Tryz.prog 136 [] famA := by
 refine FSpec.enter Tryz.func136 rfl (by kernel_rfl) rfl rfl rfl ?_ rfl ?_
 ·exact closed_nil
 refine r_z 1 ?_
 refine r_c 5 (fs_x) ?_
 refine c_s (fs_Int 2 (by decide)) ?_
 refine c_s (fs_Scale [0, 1] 2 (by decide) (by decide) (by decide)) ?_
 refine a_z ?_
 refine AWp.ent (st' := ⟨[(1, bP twP)], [], 2, 24⟩) ?_ ?_
 ·refine SEnt.to [] rfl rfl rfl au_r (fun hs => ?_) (fun hs => ?_)
  ·repeat' (first | exact CvF.nil | refine CvF.cons rfl ?_ ?_)
   all_goals (first | (exact Cv.boxp hs rfl (dead_of rfl) rfl (closed_cons (closed_pA _) closed_nil)) | exact au_c)
  ·repeat' (first | exact CvH.nil | refine CvH.cons rfl rfl rfl rfl ?_ ?_)
   all_goals (first | exact au_e | (refine CvLL.box ?_; repeat' (first | exact CvL.nil | refine CvL.cons ?_ ?_)))
   all_goals (first | (exact Cv.boxp hs rfl (dead_of rfl) rfl (closed_cons (closed_pA _) closed_nil)) | exact au_c)
 refine r_z 2 ?_
 refine AWp.seq ?_
 refine AWp.mapRegion famTab (vs := famV) (d := 0) hmix tm_191.h tu_5.h (by kernel_rfl) (by kernel_rfl) (by kernel_rfl) ⟨22, by simp [famTab], by decide⟩ (by decide) ?_ ?_
 ·refine AX.sp rfl rfl ?_
  refine AX.op0 (.call rfl rfl rfl (fs_x)) rfl rfl ?_
  refine AX.op0 (.move rfl) rfl rfl ?_
  refine AX.op0 (.build tz_189.h tp_189.h rfl rfl) rfl rfl ?_
  refine AX.spn rfl ?_
  first | refine AX.op0 (.load_l1 rfl rfl rfl tg_55.h rfl) rfl rfl ?_ | refine AX.op0 (.load_a1 rfl rfl tg_55.h rfl) rfl rfl ?_
  refine AX.op0 (.move rfl) rfl rfl ?_
  refine AX.op0 (.build tz_189.h tp_189.h rfl rfl) rfl rfl ?_
  refine AX.spn rfl ?_
  refine AX.op0 (.call rfl rfl rfl (fs_x)) rfl rfl ?_
  refine AX.op0 (.build tz_189.h tp_189.h rfl rfl) rfl rfl ?_
  refine AX.spn rfl ?_
  refine AX.op0 (.call rfl rfl rfl (fs_Int 1 (by decide))) rfl rfl ?_
  refine AX.op0 (.call rfl rfl rfl (fs_Int (-1) (by decide))) rfl rfl ?_
  refine AX.op1 (.buildSlice te_55.h tz_35.h rfl (by decide) rfl rfl rfl (by first | (simp; done) | (simp [setAt_length, ofV]; done) | rfl)) rfl rfl ?_
  refine AX.op0 (.build tz_189.h tp_189.h rfl rfl) rfl rfl ?_
  refine AX.spn rfl ?_
  first | refine AX.op0 (.load_l1 rfl rfl rfl tg_55.h rfl) rfl rfl ?_ | refine AX.op0 (.load_a1 rfl rfl tg_55.h rfl) rfl rfl ?_
  refine AX.op0 (.makeFunc rfl rfl) rfl rfl ?_
  refine AX.op0 (.build tz_189.h tp_189.h rfl rfl) rfl rfl ?_
  refine AX.spn rfl ?_
  refine AX.sp rfl rfl ?_
  refine AX.sp rfl rfl ?_
  refine AX.nil ⟨by kernel_rfl, ?_⟩
  have c1 : ∀ c ∈ [bP twP], Closed c := closed_cons (closed_bP _) closed_nil
  refine CvS.cons rfl (Cv.clo shr_nil (closed_agg (closed_fmC _ _ c1))) (CvS.cons rfl (Cv.clo shr_nil (closed_agg (closed_fmC _ _ c1))) (CvS.cons rfl (Cv.clo shr_nil (closed_agg (closed_fmC _ _ closed_nil))) (CvS.cons rfl ?_ (CvS.cons rfl (Cv.clo shr_nil (closed_agg (closed_fmC _ _ c1))) CvS.nil))))
  exact Cv.agg (CvL.cons (Cv.sealE shr_nil rfl (fun _ _ h => by cases h) rfl rfl (closed_pE _)) (CvL.cons (Cv.clo shr_nil (closed_clos closed_nil closed_nil)) CvL.nil))
 refine AWp.ret ?_
 refine Fin.tmpE rfl ?_ ?_
 ·rfl
 ·exact closed_mp famV_closed
theorem fs_fam1 (n : Int) (p last : List Rat) (h : okMul twP p) (hl : smL last) (h1 : (mulP twP p).length ≤ 274877906944) (h2 : last.length ≤ 274877906944) : FSpec Tryz.prog 215 [i64 n, .arr (pE p), .arr (pE last), bP twP] (.arr (pE (subP (mulP twP p) last))) := by
 refine FSpec.enter Tryz.func215 rfl (by kernel_rfl) rfl rfl rfl ?_ rfl ?_
 ·exact closed_cons (closed_v _) (closed_cons (closed_pA _) (closed_cons (closed_pA _) (closed_cons (closed_bP _) closed_nil)))
 refine r_z 1 ?_
 refine r_c 6 (fs_Mul twP p (mxL twP) (mxL p) (bdL_mx _) (bdL_mx _) (mxL_pos _) (mxL_pos _) h.1 h.2.1 h.2.2.1 h.2.2.2) ?_
 refine c_s (fs_Sub (mulP twP p) last (okMul_sm h) hl (by omega) (by omega)) ?_
 refine a_z ?_
 refine AWp.ret ?_
 refine Fin.tmpE rfl ?_ ?_
 ·rfl
 ·exact closed_pA _
def chP : Nat → List Rat × List Rat
 | 0 => (constP 1, [0, 1])
 | k + 1 => ((chP k).2, subP (mulP twP (chP k).2) (chP k).1)
def okCh (k : Nat) : Prop := okMul twP (chP k).2 ∧ smL (chP k).1 ∧ (mulP twP (chP k).2).length ≤ 274877906944 ∧ (chP k).1.length ≤ 274877906944
instance (k : Nat) : Decidable (okCh k) := inferInstanceAs (Decidable (_ ∧ _ ∧ _ ∧ _))
def chT (k : Nat) : Option (List AV) := some [.arr (pE (chP k).1)]
abbrev bF : AV := .aptr [fmC [0, 1] 215 [bP twP]] 0 0
theorem closed_bF : Closed bF := closed_box (closed_fmC _ _ (closed_cons (closed_bP _) closed_nil))
theorem gs_members (K : Nat) (hK : K ≤ 1000000) (hok : ∀ k, k < K → okCh k) : GSpecB Tryz.prog 267 [bF] chT K := by
 refine GSpecB.enter Tryz.func267 rfl (by kernel_rfl) rfl rfl rfl ?_ ?_ rfl ?_
 ·exact closed_cons closed_bF closed_nil
 ·intro k xs h
  cases h
  exact closed_cons (closed_pA _) closed_nil
 intro ll N hN E
 refine GWp.seq ?_
 refine GWp.lift ?_
 refine AWp.regD hmix (m := 6) rfl ?_
 refine c_s (fs_Int 1 (by decide)) ?_
 refine c_s (fs_constant 1) ?_
 refine a_4 ?_
 refine AR.nil ⟨by kernel_rfl, ?_⟩
 refine GWp.seq ?_
 refine GWp.lift ?_
 refine AWp.reg (m := 1) rfl ?_
 refine a_z ?_
 refine GWp.block ?_
 refine GWp.loopS (fun k : Nat => ⟨[(0, .v (.func (.yield ll) #[] #[])), (1, bF), (3, .arr (pE (chP k).1)), (4, .arr (pE (chP k).2)), (5, i64 ((k : Int) + 1))], [], 1, 22⟩) (fun k => k) (fun k => N + 1 - k) (fun k => k ≤ N) 0 (Nat.zero_le _) rfl ?_ ?_
 ·refine SEnt.to [] rfl rfl rfl au_r (fun hs => ?_) (fun hs => ?_)
  ·repeat' (first | exact CvF.nil | refine CvF.cons rfl ?_ ?_)
   all_goals (first | (exact Cv.clo hs closed_bF) | exact au_c)
  ·repeat' (first | exact CvH.nil | refine CvH.cons rfl rfl rfl rfl ?_ ?_)
   all_goals (first | exact au_e | (refine CvLL.box ?_; repeat' (first | exact CvL.nil | refine CvL.cons ?_ ?_)))
   all_goals (first | (exact Cv.clo hs closed_bF) | exact au_c)
 intro k hk
 refine GWp.seq ?_
 refine GWp.seq ?_
 refine GWp.regY (fr2 := [(0, .v (.func (.yield ll) #[] #[])), (1, bF), (3, .arr (pE (chP k).1)), (4, .arr (pE (chP k).2)), (5, i64 ((k : Int) + 1)), (10, .v (.func (.yield ll) #[] #[])), (11, .arr (pE (chP k).1))]) (hp2 := []) (nx2 := 2) 2 rfl rfl rfl rfl rfl rfl ?_ rfl rfl rfl ?_ ?_ ?_
 ·refine o_0 (.move rfl) ?_
  refine o_0 (.move rfl) ?_
  refine AR.nil ?_
  refine SEntT.to [] rfl rfl rfl au_r (fun hs => au_f) (fun hs => au_h)
 rotate_left 2
 intro go
 refine AR.nil ?_
 rotate_left
 ·rfl
 ·exact closed_cons (closed_pA _) closed_nil
 cases go with
 | false =>
  refine GWp.cond rfl (fun h => ?_) (fun h => ?_)
  ·cases h
  ·exact GWp.exit ⟨.inl rfl, fun h => by cases h⟩
 | true =>
  refine GWp.bound fun hk1 => ?_
  refine GWp.cond rfl (fun h => ?_) (fun h => ?_)
  rotate_left
  ·cases h
  refine GWp.skip ?_
  obtain ⟨o1, o2, o3, o4⟩ := hok k (by omega)
  refine GWp.lift ?_
  refine AWp.seq ?_
  refine AWp.block ?_
  refine AWp.reg (m := 9) rfl ?_
  refine c_s (fs_fam1 ((k : Int) + 1) (chP k).2 (chP k).1 o1 o2 o3 o4) ?_
  refine a_z ?_
  refine AWp.reg (m := 3) rfl ?_
  refine a_z ?_
  refine ⟨rfl, k + 1, by omega, hk1, rfl, ?_⟩
  refine SEnt.to [] rfl rfl rfl au_r (fun hs => ?_) (fun hs => ?_)
  ·repeat' (first | exact CvF.nil | refine CvF.cons rfl ?_ ?_)
   all_goals (first | (exact Cv.clo hs closed_bF) | exact au_c)
  ·repeat' (first | exact CvH.nil | refine CvH.cons rfl rfl rfl rfl ?_ ?_)
   all_goals (first | exact au_e | (refine CvLL.box ?_; repeat' (first | exact CvL.nil | refine CvL.cons ?_ ?_)))
   all_goals (first | (exact Cv.clo hs closed_bF) | exact au_c)
theorem fs_members : FSpec Tryz.prog 219 [.agg (fmC [0, 1] 215 [bP twP])] (.clos 267 [] [bF]) := by
 have hc : ∀ c ∈ fmC [0, 1] 215 [bP twP], Closed c := closed_fmC _ _ (closed_cons (closed_bP _) closed_nil)
 refine FSpec.enter Tryz.func219 rfl (by kernel_rfl) rfl rfl rfl ?_ rfl ?_
 ·exact closed_cons (closed_agg hc) closed_nil
 refine r_z 2 ?_
 refine r_z 2 ?_
 refine AWp.ret ?_
 refine ⟨.inr rfl, [_], ⟨_, [], rfl, rfl, rfl⟩, ?_⟩
 exact Cv.clos CvL.nil (CvL.cons (Cv.boxp shr_nil rfl (fun _ _ h => by cases h) rfl hc) CvL.nil)
def chL2 (n : Nat) : List (List Rat) := (List.range n).map fun k => (chP k).1
theorem chL2_succ (n : Nat) : chL2 (n + 1) = chL2 n ++ [(chP n).1] := by simp [chL2, List.range_succ]
@[simp] theorem chL2_length (n : Nat) : (chL2 n).length = n := by simp [chL2]
def fi0 (n : Int) : Unit → AState
 | u => ⟨[(1, .lptr 1 0 0), (3, .lptr 2 0 0), (7, .clos 267 [] [bF])], [(1, some ⟨3, 1, [[i64 n]]⟩), (2, some ⟨261, 1, [[.emp]]⟩)], 4, 18⟩
theorem fi0_mk (n : Int) (u : Unit) : fi0 n u = ⟨[(1, .lptr 1 0 0), (3, .lptr 2 0 0), (7, .clos 267 [] [bF])], [(1, some ⟨3, 1, [[i64 n]]⟩), (2, some ⟨261, 1, [[.emp]]⟩)], 4, 18⟩ := rfl
def fi1 (n : Int) : Nat → AState
 | k => ⟨[(1, .lptr 1 0 0), (3, .lptr 2 0 0), (7, .clos 267 [] [bF])], [(1, some ⟨3, 1, [[i64 n]]⟩), (2, some ⟨261, 1, [[.lsl 3 0 (k + 1) none 1]]⟩), (3, some ⟨55, 1, cE (chL2 (k + 1))⟩)], 4, 18⟩
def fiX (z : Nat) : Unit → AState
 | u => ⟨[(3, .lptr 1 0 0)], [(1, some ⟨261, 1, [[.lsl 2 0 (z + 1) none 1]]⟩), (2, some ⟨55, 1, cE (chL2 (z + 1))⟩)], 4, 18⟩
theorem fiX_mk (z : Nat) (u : Unit) : fiX z u = ⟨[(3, .lptr 1 0 0)], [(1, some ⟨261, 1, [[.lsl 2 0 (z + 1) none 1]]⟩), (2, some ⟨55, 1, cE (chL2 (z + 1))⟩)], 4, 18⟩ := rfl
def fiS (n : Int) : Nat → AState
 | 0 => fi0 n ()
 | k + 1 => fi1 n k
theorem closed_cF : Closed (.clos 267 [] [bF]) := closed_clos closed_nil (closed_cons closed_bF closed_nil)
theorem fs_firsts (n : Nat) (hn : n ≤ 1000) (hok : ∀ k, k < n → okCh k) : FSpec Tryz.prog 233 [i64 n] (.arr (cE (chL2 (n + 1)))) := by
 have hgs := gs_members n (by omega) hok
 refine FSpec.enter Tryz.func233 rfl (by kernel_rfl) rfl rfl rfl ?_ rfl ?_
 ·exact closed_cons (closed_v _) closed_nil
 refine r_z 2 ?_
 refine r_z 1 ?_
 refine AWp.seq ?_
 refine r_c 3 (fs_families) ?_
 refine c_s (fs_members) ?_
 refine AR.nil ?_
 refine AWp.cutT (fiX n) (fun _ => True) ?_ ?_
 ·refine AWp.block ?_
  refine AWp.rangeFuncB (α := Nat) (γ := Unit) n (fiS n) (fun k => k) (fun k => k ≤ n) (fiX n) (fun e _ => e = .exit 0) 0 rfl hgs rfl rfl ?_ (fun k => by cases k <;> exact ⟨rfl, rfl⟩) (fun _ => rfl) (Nat.zero_le _) rfl (fun _ h => h) ?_ ?_ ?_ ?_ ?_
  ·intro k xs hT; cases hT; rfl
  ·show SEntT _ (fi0 n ())
   rw [fi0_mk]
   refine SEntT.to [(2, 3)] rfl rfl rfl au_r (fun hs => ?_) (fun hs => ?_)
   ·repeat' (first | exact CvF.nil | refine CvF.cons rfl ?_ ?_)
    all_goals (first | (exact Cv.clo hs closed_cF) | exact au_c)
   ·repeat' (first | exact CvH.nil | refine CvH.cons rfl rfl rfl rfl ?_ ?_)
    all_goals (first | exact au_e | (refine CvLL.box ?_; repeat' (first | exact CvL.nil | refine CvL.cons ?_ ?_)))
    all_goals (first | (exact Cv.clo hs closed_cF) | exact au_c)
  ·exact closed_cons closed_bF closed_nil
  ·intro l k xs hk hT
   cases hT
   cases k with
   | zero =>
    show AWp _ _ _ _ ⟨setPs (fi0 n ()).fr _ _ ++ shiftFr (fi0 n ()).fr, _, _, _⟩
    show AWp _ _ _ _ ⟨[(8, .arr (pE (chP 0).1)), (1, .lptr 1 0 0), (3, .lptr 2 0 0), (7, .clos 267 [] [bF]), (1001, .lptr 1 0 0), (1003, .lptr 2 0 0), (1007, .clos 267 [] [bF])], [(1, some ⟨3, 1, [[i64 n]]⟩), (2, some ⟨261, 1, [[.emp]]⟩)], 4, 18⟩
    refine AWp.reg (m := 1) rfl ?_
    refine a_z ?_
    refine AWp.block ?_
    refine s_r 5 ?_
    refine a_3 ?_
    refine o_1 (.append_e rfl rfl rfl te_261.h rfl rfl rfl (.lsl rfl (nle rfl)) (by first | assumption | (simp; done)) tz_55.h rfl tb_55.h (by first | rfl | assumption | (simp; done) | (simp; omega) | omega) (by first | (simp [maxLen]; done) | (simp [maxLen]; omega))) ?_
    refine a_z ?_
    refine r_z 4 ?_
    refine AWp.cond rfl (fun h1 => ?_) (fun h1 => ?_)
    ·have h2 : n = 0 := by
      simp at h1; omega
     subst h2
     refine AWp.exit ?_
     refine ⟨rfl, (), rfl, ?_⟩
     show SEntT _ ⟨[(1003, .lptr 1 0 0)], [(1, some ⟨261, 1, [[.lsl 2 0 (0 + 1) none 1]]⟩), (2, some ⟨55, 1, cE (chL2 (0 + 1))⟩)], 4, 18⟩
     refine SEntT.to [(1, 1003), (2, 12)] rfl rfl rfl au_r (fun hs => au_f) (fun hs => ?_)
     ·repeat' (first | exact CvH.nil | refine CvH.cons rfl rfl rfl rfl ?_ ?_)
      all_goals (first | (exact CvLL.clo hs (closed_cE [(chP 0).1])) | exact au_e)
    ·have h2 : ¬ n = 0 := by
      simp at h1; omega
     refine AWp.skip ?_
     refine ⟨0 + 1, ⟨by omega, rfl⟩, ?_⟩
     show SEntT _ ⟨[(1001, .lptr 1 0 0), (1003, .lptr 2 0 0), (1007, .clos 267 [] [bF])], [(1, some ⟨3, 1, [[i64 n]]⟩), (2, some ⟨261, 1, [[.lsl 3 0 (0 + 1) none 1]]⟩), (3, some ⟨55, 1, cE (chL2 (0 + 1))⟩)], 4, 18⟩
     refine SEntT.to [(3, 12)] rfl rfl rfl au_r (fun hs => ?_) (fun hs => ?_)
     ·repeat' (first | exact CvF.nil | refine CvF.cons rfl ?_ ?_)
      all_goals (first | (exact Cv.clo hs closed_cF) | exact au_c)
     ·repeat' (first | exact CvH.nil | refine CvH.cons rfl rfl rfl rfl ?_ ?_)
      all_goals (first | (exact CvLL.clo hs (closed_cE [(chP 0).1])) | exact au_e | (refine CvLL.box ?_; repeat' (first | exact CvL.nil | refine CvL.cons ?_ ?_)))
      all_goals (first | (exact Cv.clo hs closed_cF) | exact au_c)
   | succ k =>
    show AWp _ _ _ _ ⟨setPs (fi1 n k).fr _ _ ++ shiftFr (fi1 n k).fr, _, _, _⟩
    show AWp _ _ _ _ ⟨[(8, .arr (pE (chP (k + 1)).1)), (1, .lptr 1 0 0), (3, .lptr 2 0 0), (7, .clos 267 [] [bF]), (1001, .lptr 1 0 0), (1003, .lptr 2 0 0), (1007, .clos 267 [] [bF])], [(1, some ⟨3, 1, [[i64 n]]⟩), (2, some ⟨261, 1, [[.lsl 3 0 (k + 1) none 1]]⟩), (3, some ⟨55, 1, cE (chL2 (k + 1))⟩)], 4, 18⟩
    refine AWp.reg (m := 1) rfl ?_
    refine a_z ?_
    refine AWp.block ?_
    refine r_z 5 ?_
    refine r_z 4 ?_
    refine AWp.cond rfl (fun h1 => ?_) (fun h1 => ?_)
    ·have h2 : n = k + 1 := by
      simp at h1; omega
     subst h2
     refine AWp.exit ?_
     refine ⟨rfl, (), rfl, ?_⟩
     show SEntT _ ⟨[(1003, .lptr 1 0 0)], [(1, some ⟨261, 1, [[.lsl 2 0 ((k + 1) + 1) none 1]]⟩), (2, some ⟨55, 1, cE (chL2 ((k + 1) + 1))⟩)], 4, 18⟩
     refine SEntT.to [(1, 1003), (2, 12)] rfl rfl rfl au_r (fun hs => au_f) (fun hs => ?_)
     ·repeat' (first | exact CvH.nil | refine CvH.cons rfl rfl rfl rfl ?_ ?_)
      all_goals (first | (exact CvLL.cloE hs (by rw [chL2_succ (k + 1), cE_snoc]; rfl) (closed_cE _)) | exact au_e)
    ·have h2 : ¬ n = k + 1 := by
      simp at h1; omega
     refine AWp.skip ?_
     refine ⟨k + 1 + 1, ⟨by omega, rfl⟩, ?_⟩
     show SEntT _ ⟨[(1001, .lptr 1 0 0), (1003, .lptr 2 0 0), (1007, .clos 267 [] [bF])], [(1, some ⟨3, 1, [[i64 n]]⟩), (2, some ⟨261, 1, [[.lsl 3 0 ((k + 1) + 1) none 1]]⟩), (3, some ⟨55, 1, cE (chL2 ((k + 1) + 1))⟩)], 4, 18⟩
     refine SEntT.to [(3, 12)] rfl rfl rfl au_r (fun hs => ?_) (fun hs => ?_)
     ·repeat' (first | exact CvF.nil | refine CvF.cons rfl ?_ ?_)
      all_goals (first | (exact Cv.clo hs closed_cF) | exact au_c)
     ·repeat' (first | exact CvH.nil | refine CvH.cons rfl rfl rfl rfl ?_ ?_)
      all_goals (first | (exact CvLL.cloE hs (by rw [chL2_succ (k + 1), cE_snoc]; rfl) (closed_cE _)) | exact au_e | (refine CvLL.box ?_; repeat' (first | exact CvL.nil | refine CvL.cons ?_ ?_)))
      all_goals (first | (exact Cv.clo hs closed_cF) | exact au_c)
  ·intro k hk hT; cases hT
  ·rintro e u rfl
   exact ⟨u, trivial, SEnt.refl _⟩
 rintro u _
 rw [fiX_mk]
 refine r_z 2 ?_
 refine AWp.ret ?_
 exact Fin.tmpS rfl rfl rfl (by simp) (closed_cE _)
end Go.Proofs.YtdjfjpeoddmamaaGreatDoor
