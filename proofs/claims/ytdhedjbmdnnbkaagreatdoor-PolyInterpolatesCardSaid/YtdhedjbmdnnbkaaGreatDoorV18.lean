/- Part V18 of the proof. -/
import Derived.Test.YtdhedjbmdnnbkaaGreatDoorV17
set_option linter.all false
namespace Go.Proofs.YtdhedjbmdnnbkaaGreatDoor
open Go.Abs
set_option maxRecDepth 20000
set_option maxHeartbeats 1000000
theorem xt_ (c : Cnt) (i : Int) (x : Rat) (h : okBe c x) : FSpec Tryz.prog 158 [plA c i, .agg (qC x)] (i64 (plC c i x)) := by
 refine FSpec.enter Tryz.func158 rfl (by kernel_rfl) rfl rfl rfl ?_ rfl ?_
 ·exact aa_ (ba_ c i) (aa_ (ae_ x) ab_)
 refine r_z 2 ?_
 refine AWp.seq ?_
 refine AWp.seq ?_
 refine AWp.regD hmix (m := 7) rfl ?_
 refine c_s (ji_ c x h) ?_
 refine a_1 ?_
 refine AR.nil ⟨by kernel_rfl, ?_⟩
 refine AWp.cutT (fun _ : Unit => ⟨[], [], 1, 36⟩) (fun _ => plC c i x = 1) ?_ ?_
 ·refine AWp.block ?_
  refine r_z 7 ?_
  refine AWp.cond rfl (fun h1 => ?_) (fun h1 => ?_)
  ·have h2 : i < eb_ c x := by simpa using h1
   refine r_z 1 ?_
   refine AWp.ret ?_
   refine Fin.tmpE rfl ?_ ?_
   ·unfold plC; rw [if_pos h2]; rfl
   ·exact ac_ _
  ·have h2 : ¬ i < eb_ c x := by simpa using h1
   by_cases h3 : eb_ c x = i
   ·refine AWp.seq ?_
    refine AWp.regD hmix (m := 17) rfl ?_
    refine a_7 ?_
    refine AR.op0y rfl rfl (gy (by simp [h3])) (.move rfl) rfl rfl ?_
    refine AR.op0y rfl rfl (gy (by simp [h3])) (.nilCheck rfl rfl) rfl rfl ?_
    first | refine AR.op0y rfl rfl (gy (by simp [h3])) (.fieldAddr_l rfl tf_167_0.h (by decide)) rfl rfl ?_ | refine AR.op0y rfl rfl (gy (by simp [h3])) (.fieldAddr_a rfl tf_167_0.h (by decide)) rfl rfl ?_
    first | refine AR.op0y rfl rfl (gy (by simp [h3])) (.load_l1 rfl rfl rfl tg_164.h rfl) rfl rfl ?_ | refine AR.op0y rfl rfl (gy (by simp [h3])) (.load_a1 rfl rfl tg_164.h rfl) rfl rfl ?_
    first | refine AR.op0y rfl rfl (gy (by simp [h3])) (.load_l rfl rfl rfl tg_37.h ts_37.h (nle rfl)) rfl rfl ?_ | refine AR.op0y rfl rfl (gy (by simp [h3])) (.load_a rfl rfl tg_37.h ts_37.h (nle rfl)) rfl rfl ?_
    refine AR.op0y rfl rfl (gy (by simp [h3])) (.call rfl rfl rfl (kz_ c x h.1)) rfl rfl ?_
    refine AR.op0y rfl rfl (gy (by simp [h3])) (.move rfl) rfl rfl ?_
    refine AR.op0y rfl rfl (gy (by simp [h3])) (.bin rfl rfl mh_) rfl rfl ?_
    refine o_0 (.pickT rfl (by simp [h3]) rfl) ?_
    refine a_1 ?_
    refine AR.nil ⟨by kernel_rfl, ?_⟩
    refine AWp.cond rfl (fun h4 => ?_) (fun h4 => ?_)
    ·have h5 : eb_ c x < uptoV c x := by simpa using h4
     refine r_z 1 ?_
     refine AWp.ret ?_
     refine Fin.tmpE rfl ?_ ?_
     ·unfold plC; rw [if_neg h2, if_pos ⟨h3, h5⟩]; rfl
     ·exact ac_ _
    ·have h5 : ¬ eb_ c x < uptoV c x := by simpa using h4
     refine AWp.skip ⟨(), by unfold plC; rw [if_neg h2, if_neg fun e => h5 e.2], ?_⟩
     exact s_e []
   ·refine AWp.seq ?_
    refine AWp.regD hmix (m := 17) rfl ?_
    refine a_7 ?_
    refine AR.opN rfl rfl (gn (by simp [h3])) rfl rfl ?_
    refine AR.opN rfl rfl (gn (by simp [h3])) rfl rfl ?_
    refine AR.opN rfl rfl (gn (by simp [h3])) rfl rfl ?_
    refine AR.opN rfl rfl (gn (by simp [h3])) rfl rfl ?_
    refine AR.opN rfl rfl (gn (by simp [h3])) rfl rfl ?_
    refine AR.opN rfl rfl (gn (by simp [h3])) rfl rfl ?_
    refine AR.opN rfl rfl (gn (by simp [h3])) rfl rfl ?_
    refine AR.opN rfl rfl (gn (by simp [h3])) rfl rfl ?_
    refine o_0 (.pickF rfl (by simp [h3]) rfl) ?_
    refine a_1 ?_
    refine AR.nil ⟨by kernel_rfl, ?_⟩
    refine AWp.cond rfl (fun h4 => ?_) (fun h4 => ?_)
    ·cases h4
    ·refine AWp.skip ⟨(), by unfold plC; rw [if_neg h2, if_neg fun e => h3 e.1], ?_⟩
     exact s_e []
 rintro _ hr
 refine r_z 1 ?_
 refine AWp.ret ?_
 refine Fin.tmpE rfl ?_ ?_
 ·rw [hr]; rfl
 ·exact ac_ _
def hiV (c : Cnt) (step : Rat) : Rat := ceilQ (id_ c.p / step)
def okDown (c : Cnt) (step : Rat) (lo : Rat) : Prop := ss_ c.p ∧ trimQ c.p ≠ [] ∧ step ≠ 0 ∧ qs (id_ c.p) + qs step ≤ 549755813888 ∧ qs lo + qs step ≤ 549755813888 ∧ okBe c (lo * step)
instance (c : Cnt) (step lo : Rat) : Decidable (okDown c step lo) := inferInstanceAs (Decidable (_ ∧ _ ∧ _ ∧ _ ∧ _ ∧ _))
def downM (f : Nat) (c : Cnt) (i : Int) (step : Rat) : Option (Rat × Bool) :=
 (biM c i step f (-hiV c step) (hiV c step)).bind fun lo => if okDown c step lo then some (lo * step, plC c i (lo * step) == 0) else none
def dnS (c : Cnt) (i : Int) (step : Rat) : Rat × Rat → AState
 | (lo, hi) => ⟨[(0, plA c i), (3, .lptr 1 0 0), (4, .lptr 2 0 0), (6, .lptr 3 0 0), (7, .lptr 4 0 0), (8, .lptr 5 0 0)], [(1, some ⟨37, 3, [qC step]⟩), (2, some ⟨37, 3, [zC]⟩), (3, some ⟨37, 3, [qC hi]⟩), (4, some ⟨37, 3, [qC lo]⟩), (5, some ⟨37, 3, [qC 2]⟩)], 6, 52⟩
theorem rz_ (c : Cnt) (i : Int) (step : Rat) (lo : Rat) (hi : Rat) : dnS c i step (lo, hi) = ⟨[(0, plA c i), (3, .lptr 1 0 0), (4, .lptr 2 0 0), (6, .lptr 3 0 0), (7, .lptr 4 0 0), (8, .lptr 5 0 0)], [(1, some ⟨37, 3, [qC step]⟩), (2, some ⟨37, 3, [zC]⟩), (3, some ⟨37, 3, [qC hi]⟩), (4, some ⟨37, 3, [qC lo]⟩), (5, some ⟨37, 3, [qC 2]⟩)], 6, 52⟩ := rfl
theorem fs_down (f : Nat) (c : Cnt) (i : Int) (step : Rat) (r : Rat × Bool) (h : downM f c i step = some r) : FSpec Tryz.prog 160 [plA c i, .agg (qC step)] (.tup [.agg (qC r.1), bln r.2]) := by
 unfold downM at h
 obtain ⟨l, hl, h2⟩ := Option.bind_eq_some_iff.1 h
 split at h2
 case isFalse => cases h2
 case isTrue hk =>
 cases h2
 obtain ⟨k1, k2, k3, k4, k5, k6⟩ := hk
 have hq := ih_ (id_ c.p) step
 refine FSpec.enter Tryz.func160 rfl (by kernel_rfl) rfl rfl rfl ?_ rfl ?_
 ·exact aa_ (ba_ c i) (aa_ (ae_ step) ab_)
 refine r_z 3 ?_
 refine AWp.seq ?_
 refine AWp.regD hmix (m := 13) rfl ?_
 refine c_s (fs_bound c.p k1 k2) ?_
 refine c_s (fh_ (id_ c.p) step k3 k4) ?_
 refine c_s (fs_ceil (id_ c.p / step) (by omega)) ?_
 refine a_2 ?_
 refine AR.nil ⟨by kernel_rfl, ?_⟩
 refine r_c 4 (pq_ (ceilQ (id_ c.p / step))) ?_
 refine a_z ?_
 refine r_c 3 (dw_ 2 (by decide)) ?_
 refine a_z ?_
 refine AWp.cut (fun hi : Rat => dnS c i step (l, hi)) (fun _ => True) ?_ ?_
 ·refine AWp.block ?_
  refine AWp.loopS (fun x : Nat × Rat × Rat => dnS c i step x.2) (fun x => x.1) (fun x => biM c i step x.1 x.2.1 x.2.2 = some l) (f, -hiV c step, hiV c step) hl ?_ ?_
  ·simp only [rz_, hiV]
   exact s_e [(2, 4), (3, 6), (4, 7), (5, 8)]
  rintro ⟨f, lo, hi⟩ h
  simp only at h
  simp only [rz_]
  cases f with
  | zero => cases h
  | succ f =>
   rw [biM] at h
   split at h
   case isFalse => cases h
   case isTrue hs =>
   obtain ⟨s1, s2, s3⟩ := hs
   refine AWp.seq ?_
   refine r_c 6 (rq_ hi lo (sm2 s2 s1)) ?_
   refine c_s (dw_ 1 (by decide)) ?_
   refine c_s (ru_ (hi - lo) 1 s3 (by decide)) ?_
   refine a_z ?_
   refine AWp.cond rfl (fun h1 => ?_) (fun h1 => ?_)
   ·have h2 : 0 < cmpQ (hi - lo) 1 := by simpa using h1
    rw [if_pos h2] at h
    split at h
    case isFalse => cases h
    case isTrue ht =>
    obtain ⟨t1, t2⟩ := ht
    have hq1 := ln_ lo hi
    have hq2 : qs 2 = 2 := by decide
    have hq3 := ih_ (lo + hi) 2
    unfold sm at s1 s2
    refine AWp.skip ?_
    refine AWp.block ?_
    refine AWp.seq ?_
    refine AWp.regD hmix (m := 8) rfl ?_
    refine c_s (ia_ lo hi (by omega)) ?_
    refine c_s (fh_ (lo + hi) 2 (by decide) (by omega)) ?_
    refine c_s (oc_ ((lo + hi) / 2) (by omega)) ?_
    refine a_2 ?_
    refine AR.nil ⟨by kernel_rfl, ?_⟩
    refine r_c 6 (do_ (((lo + hi) / 2).floor : Rat) step t1) ?_
    refine c_s (xt_ c i ((((lo + hi) / 2).floor : Rat) * step) t2) ?_
    refine a_z ?_
    refine AWp.cond rfl (fun h3 => ?_) (fun h3 => ?_)
    ·have h4 : 0 ≤ plC c i ((((lo + hi) / 2).floor : Rat) * step) := by simpa using h3
     rw [if_pos h4] at h
     refine AWp.reg (m := 2) rfl ?_
     refine a_z ?_
     refine ⟨(f, (((lo + hi) / 2).floor : Rat), hi), Nat.lt_succ_self f, h, ?_⟩
     simp only [rz_]
     exact s_e []
    ·have h4 : ¬ 0 ≤ plC c i ((((lo + hi) / 2).floor : Rat) * step) := by simpa using h3
     rw [if_neg h4] at h
     refine AWp.reg (m := 2) rfl ?_
     refine a_z ?_
     refine ⟨(f, lo, (((lo + hi) / 2).floor : Rat)), Nat.lt_succ_self f, h, ?_⟩
     simp only [rz_]
     exact s_e []
   ·have h2 : ¬ 0 < cmpQ (hi - lo) 1 := by simpa using h1
    rw [if_neg h2] at h
    cases h
    refine AWp.exit ⟨hi, trivial, ?_⟩
    simp only [rz_]
    exact s_e []
 rintro hi _
 simp only [rz_]
 refine r_c 4 (do_ l step k5) ?_
 refine a_z ?_
 refine AWp.seq ?_
 refine AWp.regD hmix (m := 7) rfl ?_
 refine c_s (xt_ c i (l * step) k6) ?_
 refine a_3 ?_
 refine AR.nil ⟨by kernel_rfl, ?_⟩
 refine AWp.ret ?_
 refine Fin.many ⟨_, _, rfl, ⟨_, _, _, _, _, rfl, rfl, rfl, .inl ⟨tg_37.h, _, ts_37.h, nle rfl, rfl⟩⟩, ⟨_, _, rfl, rfl, rfl⟩⟩ (nle rfl) ?_
 exact CvL.cons (Cv.clo am_ (ae_ _)) (CvL.cons (Cv.clo am_ (ac_ _)) CvL.nil)
def spanM (f : Nat) (c : Cnt) (i : Int) (k : Int) : Option Sp :=
 (downM f c i (fineQ (wi k 256))).bind fun r => if r.2 then some (r.1, r.1) else if qs r.1 + qs (fineQ (wi k 256)) ≤ 549755813888 then some (r.1, r.1 + fineQ (wi k 256)) else none
theorem fs_span (f : Nat) (c : Cnt) (i : Int) (k : Int) (s : Sp) (h : spanM f c i k = some s) : FSpec Tryz.prog 108 [plA c i, i64 k] (.agg (spC s.1 s.2)) := by
 unfold spanM at h
 obtain ⟨⟨at', ex⟩, hd, h2⟩ := Option.bind_eq_some_iff.1 h
 refine FSpec.enter Tryz.func108 rfl (by kernel_rfl) rfl rfl rfl ?_ rfl ?_
 ·exact aa_ (ba_ c i) (aa_ (ac_ _) ab_)
 refine r_z 1 ?_
 refine r_c 4 (pv_ k) ?_
 refine a_z ?_
 refine r_c 9 (fs_down f c i (fineQ (wi k 256)) (at', ex) hd) ?_
 refine a_z ?_
 refine AWp.seq ?_
 refine r_z 1 ?_
 refine AWp.cond rfl (fun h1 => ?_) (fun h1 => ?_)
 ·subst h1
  rw [if_pos rfl] at h2
  cases h2
  refine r_c 3 (fs_At at') ?_
  refine a_z ?_
  refine AWp.ret ?_
  refine Fin.cellE rfl rfl rfl tg_65.h ts_65.h (nle rfl) ?_ ?_
  ·rfl
  ·exact ai_ _ _
 ·subst h1
  rw [if_neg (show ¬ false = true by decide)] at h2
  split at h2
  case isFalse => cases h2
  case isTrue hs =>
  cases h2
  refine AWp.skip ?_
  refine AWp.seq ?_
  refine AWp.regD hmix (m := 6) rfl ?_
  refine c_s (ia_ at' (fineQ (wi k 256)) hs) ?_
  refine a_2 ?_
  refine AR.nil ⟨by kernel_rfl, ?_⟩
  refine AWp.ret ?_
  refine Fin.cellE rfl rfl rfl tg_65.h ts_65.h (nle rfl) ?_ ?_
  ·rfl
  ·exact ai_ _ _
abbrev roA (p : List Rat) (i : Int) : AV := .agg [.arr (pE p), i64 i]
theorem sd_ (p : List Rat) (i : Int) : Closed (roA p i) := ag_ (aa_ (ad_ p) (aa_ (ac_ _) ab_))
def vc_ (f : Nat) (p : List Rat) : Option Cnt := if p.length ≤ 274877906944 ∧ rn_ p = 0 then (mt_ f p).bind fun c => if okAll c then some c else none else none
theorem fs_place (f : Nat) (p : List Rat) (i : Int) (c : Cnt) (h : vc_ f p = some c) (hf : f ≤ 1000000) (hi : 0 ≤ i) : FSpec Tryz.prog 107 [roA p i] (.tup [plA c i, bln (decide (i < allV c))]) := by
 unfold vc_ at h
 split at h
 case isFalse => cases h
 case isTrue hp =>
 obtain ⟨c', hc, h2⟩ := Option.bind_eq_some_iff.1 h
 split at h2
 case isFalse => cases h2
 case isTrue hk =>
 cases h2
 refine FSpec.enter Tryz.func107 rfl (by kernel_rfl) rfl rfl rfl ?_ rfl ?_
 ·exact aa_ (sd_ p i) ab_
 refine r_z 3 ?_
 refine AWp.seq ?_
 refine r_c 9 (fs_large p (by omega)) ?_
 refine a_2 ?_
 first | refine AR.op0y rfl rfl (gy (by simp [hp.2])) (.fieldAddr_l rfl tf_59_1.h (by decide)) rfl rfl ?_ | refine AR.op0y rfl rfl (gy (by simp [hp.2])) (.fieldAddr_a rfl tf_59_1.h (by decide)) rfl rfl ?_
 first | refine AR.op0y rfl rfl (gy (by simp [hp.2])) (.load_l1 rfl rfl rfl tg_3.h rfl) rfl rfl ?_ | refine AR.op0y rfl rfl (gy (by simp [hp.2])) (.load_a1 rfl rfl tg_3.h rfl) rfl rfl ?_
 refine AR.op0y rfl rfl (gy (by simp [hp.2])) (.bin rfl rfl ey_) rfl rfl ?_
 refine o_0 (.pickF rfl (by simp [hp.2]) rfl) ?_
 refine AR.nil ?_
 refine AWp.cond rfl (fun h => ?_) (fun h => ?_)
 ·exact absurd h (by simp; omega)
 refine AWp.skip ?_
 refine AWp.seq ?_
 refine AWp.regD hmix (m := 8) rfl ?_
 refine c_s (lx_ f p c hc hf) ?_
 refine a_5 ?_
 refine AR.nil ⟨by kernel_rfl, ?_⟩
 refine AWp.seq ?_
 refine AWp.regD hmix (m := 11) rfl ?_
 refine c_s (fs_all c hk) ?_
 refine a_3 ?_
 refine AR.nil ⟨by kernel_rfl, ?_⟩
 refine AWp.ret ?_
 refine Fin.many ⟨_, _, rfl, rfl, ⟨_, _, rfl, rfl, rfl⟩⟩ (nle rfl) ?_
 exact CvL.cons (Cv.boxp am_ rfl (fun _ _ h => by cases h) rfl (aa_ (bf_ c) (aa_ (ac_ _) ab_))) (CvL.cons (Cv.clo am_ (ac_ _)) CvL.nil)
theorem fs_RSpan (f : Nat) (p : List Rat) (i k : Int) (c : Cnt) (s : Sp) (h : vc_ f p = some c) (hf : f ≤ 1000000) (hi : 0 ≤ i) (hall : i < allV c) (hs : spanM f c i k = some s) : FSpec Tryz.prog 34 [roA p i, i64 k] (.tup [.agg (spC s.1 s.2), i64 0]) := by
 refine FSpec.enter Tryz.func34 rfl (by kernel_rfl) rfl rfl rfl ?_ rfl ?_
 ·exact aa_ (sd_ p i) (aa_ (ac_ _) ab_)
 refine r_z 3 ?_
 refine r_c 7 (fs_place f p i c h hf hi) ?_
 refine a_z ?_
 refine AWp.seq ?_
 refine r_z 2 ?_
 refine AWp.cond rfl (fun h1 => ?_) (fun h1 => ?_)
 ·exact absurd h1 (by simp [hall])
 refine AWp.skip ?_
 refine r_c 5 (fs_span f c i k s hs) ?_
 refine a_z ?_
 refine AWp.ret ?_
 refine Fin.many ⟨_, _, rfl, ⟨_, _, _, _, _, rfl, rfl, rfl, .inl ⟨tg_65.h, _, ts_65.h, nle rfl, rfl⟩⟩, ⟨_, _, rfl, rfl, rfl⟩⟩ (nle rfl) ?_
 exact CvL.cons (Cv.clo am_ (ai_ _ _)) (CvL.cons (Cv.clo am_ (ac_ _)) CvL.nil)
def midV (s : Sp) : Rat := (s.1 + s.2) * fineQ 1
def nextS (c : Cnt) (i : Int) (s : Sp) : Sp := if plC c i (midV s) = 0 then (midV s, midV s) else if plC c i (midV s) = 1 then (midV s, s.2) else (s.1, midV s)
def ne_ (c : Cnt) (s : Sp) : Prop := smS s ∧ okBe c (midV s)
instance (c : Cnt) (s : Sp) : Decidable (ne_ c s) := inferInstanceAs (Decidable (_ ∧ _))
def closV (c : Cnt) (i : Int) (s0 : Sp) : Nat → Sp
 | 0 => s0
 | k + 1 => nextS c i (closV c i s0 k)
def closT (c : Cnt) (i : Int) (s0 : Sp) (k : Nat) : Option (List AV) := some [.agg (spC (closV c i s0 k).1 (closV c i s0 k).2)]
abbrev bPl (c : Cnt) (i : Int) : AV := .aptr [[plA c i]] 0 0
theorem aj_ (c : Cnt) (i : Int) : Closed (bPl c i) := bb_ (aa_ (ba_ c i) ab_)
theorem pm_ (f : Nat) (c : Cnt) (i : Int) (s0 : Sp) (K : Nat) (h : spanM f c i 0 = some s0) (hok : ∀ k, k < K → ne_ c (closV c i s0 k)) : GSpecB Tryz.prog 243 [bPl c i] (closT c i s0) K := by
 refine GSpecB.enter Tryz.func243 rfl (by kernel_rfl) rfl rfl rfl ?_ ?_ rfl ?_
 ·exact aa_ (aj_ c i) ab_
 ·intro k xs h
  cases h
  exact aa_ (ai_ _ _) ab_
 intro ll N hN E
 refine GWp.seq ?_
 refine GWp.lift ?_
 refine AWp.reg (m := 4) rfl ?_
 refine c_s (fs_span f c i 0 s0 h) ?_
 refine a_z ?_
 refine GWp.block ?_
 refine GWp.loopS (fun k : Nat => ⟨[(0, .v (.func (.yield ll) #[] #[])), (1, bPl c i), (3, .lptr 1 0 0)], [(1, some ⟨65, 6, [spC (closV c i s0 k).1 (closV c i s0 k).2]⟩)], 2, 25⟩) (fun k => k) (fun k => N + 1 - k) (fun k => k ≤ N) 0 (Nat.zero_le _) rfl ?_ ?_
 ·refine SEnt.to [(1, 3)] rfl rfl rfl au_r (fun hs => ?_) (fun hs => ?_)
  ·repeat' (first | exact CvF.nil | refine CvF.cons rfl ?_ ?_)
   all_goals (first | (exact Cv.clo hs (aj_ c i)) | exact au_c)
  ·repeat' (first | exact CvH.nil | refine CvH.cons rfl rfl rfl rfl ?_ ?_)
   all_goals (first | exact au_e | (refine CvLL.box ?_; repeat' (first | exact CvL.nil | refine CvL.cons ?_ ?_)))
   all_goals (first | (exact Cv.clo hs (aj_ c i)) | exact au_c)
 intro k hk
 refine GWp.seq ?_
 refine GWp.seq ?_
 refine GWp.regY (fr2 := [(0, .v (.func (.yield ll) #[] #[])), (1, bPl c i), (3, .lptr 1 0 0), (7, .v (.func (.yield ll) #[] #[])), (8, .agg (spC (closV c i s0 k).1 (closV c i s0 k).2))]) (hp2 := [(1, some ⟨65, 6, [spC (closV c i s0 k).1 (closV c i s0 k).2]⟩)]) (nx2 := 2) 2 rfl rfl rfl rfl rfl rfl ?_ rfl rfl rfl ?_ ?_ ?_
 ·refine o_0 (.move rfl) ?_
  first | refine AR.op0 (.load_l rfl rfl rfl tg_65.h ts_65.h (nle rfl)) rfl rfl ?_ | refine AR.op0 (.load_a rfl rfl tg_65.h ts_65.h (nle rfl)) rfl rfl ?_
  refine AR.nil ?_
  refine SEntT.to [] rfl rfl rfl au_r (fun hs => au_f) (fun hs => au_h)
 rotate_left 2
 intro go
 refine AR.nil ?_
 rotate_left
 ·rfl
 ·exact aa_ (ai_ _ _) ab_
 cases go with
 | false =>
  refine GWp.cond rfl (fun h => ?_) (fun h => ?_)
  ·cases h
  ·exact GWp.exit ⟨.inl rfl, fun h => by cases h⟩
 | true =>
  refine GWp.bound fun hk1 => ?_
  refine GWp.cond rfl (fun h => ?_) (fun h => ?_)
  rotate_left
  ·cases h
  refine GWp.skip ?_
  have hn := hok k (by omega)
  obtain ⟨hs, hb⟩ := hn
  have hnx : closV c i s0 (k + 1) = nextS c i (closV c i s0 k) := rfl
  obtain ⟨s, hsd⟩ : ∃ s, s = closV c i s0 k := ⟨_, rfl⟩
  rw [← hsd] at hs hb hnx ⊢
  refine GWp.lift ?_
  refine AWp.block ?_
  refine r_c 4 (fs_SMiddle s.1 s.2 hs.1 hs.2) ?_
  refine a_z ?_
  refine r_c 3 (xt_ c i (midV s) hb) ?_
  refine AR.nil ?_
  refine AWp.block ?_
  refine r_z 2 ?_
  refine AWp.cond rfl (fun h1 => ?_) (fun h1 => ?_)
  ·have h2 : plC c i (midV s) = 0 := by simpa using h1
   have hx : closV c i s0 (k + 1) = (midV s, midV s) := by rw [hnx]; unfold nextS; rw [if_pos h2]
   refine AWp.reg (m := 3) rfl ?_
   refine c_s (fs_At (midV s)) ?_
   refine a_z ?_
   refine ⟨rfl, k + 1, by omega, hk1, rfl, ?_⟩
   simp only [hx]
   refine SEnt.to [] rfl rfl rfl au_r (fun hs => ?_) (fun hs => ?_)
   ·repeat' (first | exact CvF.nil | refine CvF.cons rfl ?_ ?_)
    all_goals (first | (exact Cv.clo hs (aj_ c i)) | exact au_c)
   ·repeat' (first | exact CvH.nil | refine CvH.cons rfl rfl rfl rfl ?_ ?_)
    all_goals (first | exact au_e | (refine CvLL.box ?_; repeat' (first | exact CvL.nil | refine CvL.cons ?_ ?_)))
    all_goals (first | (exact Cv.clo hs (aj_ c i)) | exact au_c)
  ·have h2 : ¬ plC c i (midV s) = 0 := by simpa using h1
   refine r_z 2 ?_
   refine AWp.cond rfl (fun h3 => ?_) (fun h3 => ?_)
   ·have h4 : plC c i (midV s) = 1 := by simpa using h3
    have hx : closV c i s0 (k + 1) = (midV s, s.2) := by rw [hnx]; unfold nextS; rw [if_neg h2, if_pos h4]
    refine AWp.reg (m := 3) rfl ?_
    refine a_z ?_
    refine ⟨rfl, k + 1, by omega, hk1, rfl, ?_⟩
    simp only [hx]
    refine SEnt.to [] rfl rfl rfl au_r (fun hs => ?_) (fun hs => ?_)
    ·repeat' (first | exact CvF.nil | refine CvF.cons rfl ?_ ?_)
     all_goals (first | (exact Cv.clo hs (aj_ c i)) | exact au_c)
    ·repeat' (first | exact CvH.nil | refine CvH.cons rfl rfl rfl rfl ?_ ?_)
     all_goals (first | exact au_e | (refine CvLL.box ?_; repeat' (first | exact CvL.nil | refine CvL.cons ?_ ?_)))
     all_goals (first | (exact Cv.clo hs (aj_ c i)) | exact au_c)
   ·have h4 : ¬ plC c i (midV s) = 1 := by simpa using h3
    have hx : closV c i s0 (k + 1) = (s.1, midV s) := by rw [hnx]; unfold nextS; rw [if_neg h2, if_neg h4]
    refine AWp.reg (m := 3) rfl ?_
    refine a_z ?_
    refine ⟨rfl, k + 1, by omega, hk1, rfl, ?_⟩
    simp only [hx]
    refine SEnt.to [] rfl rfl rfl au_r (fun hs => ?_) (fun hs => ?_)
    ·repeat' (first | exact CvF.nil | refine CvF.cons rfl ?_ ?_)
     all_goals (first | (exact Cv.clo hs (aj_ c i)) | exact au_c)
    ·repeat' (first | exact CvH.nil | refine CvH.cons rfl rfl rfl rfl ?_ ?_)
     all_goals (first | exact au_e | (refine CvLL.box ?_; repeat' (first | exact CvL.nil | refine CvL.cons ?_ ?_)))
     all_goals (first | (exact Cv.clo hs (aj_ c i)) | exact au_c)
theorem ps_ (c : Cnt) (i : Int) : FSpec Tryz.prog 188 [plA c i] (.clos 243 [] [bPl c i]) := by
 refine FSpec.enter Tryz.func188 rfl (by kernel_rfl) rfl rfl rfl ?_ rfl ?_
 ·exact aa_ (ba_ c i) ab_
 refine r_z 2 ?_
 refine r_z 2 ?_
 refine AWp.ret ?_
 refine ⟨.inr rfl, [_], ⟨_, [], rfl, rfl, rfl⟩, ?_⟩
 exact Cv.clos CvL.nil (CvL.cons (Cv.boxp am_ rfl (fun _ _ h => by cases h) rfl (aa_ (ba_ c i) ab_)) CvL.nil)
def py_ (t : Nat → Option Bool) : Nat → Nat → Option Nat
 | 0, _ => none
 | f + 1, k => match t k with
  | some true => some k
  | some false => py_ t f (k + 1)
  | none => none
theorem hm_ {t : Nat → Option Bool} : ∀ {f k0 k : Nat}, py_ t f k0 = some k → t k = some true ∧ k0 ≤ k ∧ ∀ j, k0 ≤ j → j < k → t j = some false
 | 0, _, _, h => by cases h
 | f + 1, k0, k, h => by
  rw [py_] at h
  split at h
  ·cases h; exact ⟨by assumption, Nat.le_refl _, fun j h1 h2 => by omega⟩
  ·obtain ⟨h1, h2, h3⟩ := hm_ h
   refine ⟨h1, by omega, fun j hj1 hj2 => ?_⟩
   by_cases e : j = k0
   ·rw [e]; assumption
   ·exact h3 j (by omega) hj2
  ·cases h
def qp_ (c : Cnt) (i : Int) (s : Sp) : Option Bool := if okBe c s.1 ∧ okUp c s.2 ∧ ne_ c s ∧ -4611686018427387904 ≤ i ∧ i ≤ 4611686018427387904 then some (decide (eb_ c s.1 = i ∧ uptoV c s.2 = i + 1)) else none
def alS (c : Cnt) (i : Int) : Nat → AState
 | k => ⟨[(1, bPl c i), (2, .lptr 1 0 0), (3, .lptr 2 0 0), (6, .clos 243 [] [bPl c i])], [(1, some ⟨65, 6, [zC ++ zC]⟩), (2, some ⟨65, 6, [zC ++ zC]⟩)], 3, 37⟩
theorem alS_mk (c : Cnt) (i : Int) (k : Nat) : alS c i k = ⟨[(1, bPl c i), (2, .lptr 1 0 0), (3, .lptr 2 0 0), (6, .clos 243 [] [bPl c i])], [(1, some ⟨65, 6, [zC ++ zC]⟩), (2, some ⟨65, 6, [zC ++ zC]⟩)], 3, 37⟩ := rfl
def alX (s : Sp) : Unit → AState
 | u => ⟨[(2, .lptr 1 0 0), (3, .lptr 2 0 0)], [(1, some ⟨65, 6, [zC ++ zC]⟩), (2, some ⟨65, 6, [spC s.1 s.2]⟩)], 3, 37⟩
theorem alX_mk (s : Sp) (u : Unit) : alX s u = ⟨[(2, .lptr 1 0 0), (3, .lptr 2 0 0)], [(1, some ⟨65, 6, [zC ++ zC]⟩), (2, some ⟨65, 6, [spC s.1 s.2]⟩)], 3, 37⟩ := rfl
theorem fs_alone (f g : Nat) (c : Cnt) (i : Int) (s0 : Sp) (kk : Nat) (h : spanM f c i 0 = some s0) (hk : py_ (fun k => qp_ c i (closV c i s0 k)) g 0 = some kk) : FSpec Tryz.prog 261 [plA c i] (.agg (spC (closV c i s0 kk).1 (closV c i s0 kk).2)) := by
 obtain ⟨h1, _, h2⟩ := hm_ hk
 have hok : ∀ k, k ≤ kk → okBe c (closV c i s0 k).1 ∧ okUp c (closV c i s0 k).2 ∧ ne_ c (closV c i s0 k) ∧ -4611686018427387904 ≤ i ∧ i ≤ 4611686018427387904 := fun k hk => by
  have : ∃ b, qp_ c i (closV c i s0 k) = some b := by
   by_cases e : k = kk
   ·rw [e]; exact ⟨_, h1⟩
   ·exact ⟨_, h2 k (Nat.zero_le _) (by omega)⟩
  obtain ⟨b, hb⟩ := this
  unfold qp_ at hb
  split at hb
  ·assumption
  ·cases hb
 have hgs := pm_ f c i s0 kk h (fun k hk => (hok k (by omega)).2.2.1)
 refine FSpec.enter Tryz.func261 rfl (by kernel_rfl) rfl rfl rfl ?_ rfl ?_
 ·exact aa_ (ba_ c i) ab_
 refine r_z 2 ?_
 refine r_z 1 ?_
 refine AWp.ent (st' := ⟨[(1, bPl c i), (2, .lptr 1 0 0), (3, .lptr 2 0 0)], [(1, some ⟨65, 6, [zC ++ zC]⟩), (2, some ⟨65, 6, [zC ++ zC]⟩)], 3, 37⟩) ?_ ?_
 ·refine SEnt.to [(1, 2), (2, 3)] rfl rfl rfl au_r (fun hs => ?_) (fun hs => ?_)
  ·repeat' (first | exact CvF.nil | refine CvF.cons rfl ?_ ?_)
   all_goals (first | (exact Cv.boxp hs rfl (bl_ rfl) rfl (aa_ (ba_ c i) ab_)) | exact au_c)
  ·repeat' (first | exact CvH.nil | refine CvH.cons rfl rfl rfl rfl ?_ ?_)
   all_goals (first | exact au_e | (refine CvLL.box ?_; repeat' (first | exact CvL.nil | refine CvL.cons ?_ ?_)))
   all_goals (first | (exact Cv.boxp hs rfl (bl_ rfl) rfl (aa_ (ba_ c i) ab_)) | exact au_c)
 refine AWp.seq ?_
 refine r_c 2 (ps_ c i) ?_
 refine AR.nil ?_
 refine AWp.cutT (alX (closV c i s0 kk)) (fun _ => True) ?_ ?_
 ·refine AWp.block ?_
  refine AWp.rangeFuncB (α := Nat) (γ := Unit) kk (alS c i) (fun k => k) (fun k => k ≤ kk) (alX (closV c i s0 kk)) (fun e _ => e = .exit 0) 0 rfl hgs rfl rfl ?_ (fun _ => ⟨rfl, rfl⟩) (fun _ => rfl) (Nat.zero_le _) rfl (fun _ h => h) ?_ ?_ ?_ ?_ ?_
  ·intro k xs hT; cases hT; rfl
  ·rw [alS_mk]
   refine SEntT.to [] rfl rfl rfl au_r (fun hs => ?_) (fun hs => ?_)
   ·repeat' (first | exact CvF.nil | refine CvF.cons rfl ?_ ?_)
    all_goals (first | (exact Cv.clo hs (aj_ c i)) | exact au_c)
   ·repeat' (first | exact CvH.nil | refine CvH.cons rfl rfl rfl rfl ?_ ?_)
    all_goals (first | exact au_e | (refine CvLL.box ?_; repeat' (first | exact CvL.nil | refine CvL.cons ?_ ?_)))
    all_goals (first | (exact Cv.clo hs (aj_ c i)) | exact au_c)
  ·exact aa_ (aj_ c i) ab_
  ·intro l k xs hk hT
   cases hT
   have hx := hok k hk
   obtain ⟨s, hsd⟩ : ∃ s, s = closV c i s0 k := ⟨_, rfl⟩
   rw [← hsd] at hx ⊢
   obtain ⟨x1, x2, x3, x4, x5⟩ := hx
   show AWp _ _ _ _ ⟨[(7, .agg (spC s.1 s.2)), (1, bPl c i), (2, .lptr 1 0 0), (3, .lptr 2 0 0), (6, .clos 243 [] [bPl c i]), (1001, bPl c i), (1002, .lptr 1 0 0), (1003, .lptr 2 0 0), (1006, .clos 243 [] [bPl c i])], [(1, some ⟨65, 6, [zC ++ zC]⟩), (2, some ⟨65, 6, [zC ++ zC]⟩)], 3, 37⟩
   refine AWp.reg (m := 2) rfl ?_
   refine a_z ?_
   refine AWp.block ?_
   by_cases hb : eb_ c s.1 = i
   ·refine AWp.seq ?_
    refine AWp.regD hmix (m := 27) rfl ?_
    refine c_s (ji_ c s.1 x1) ?_
    refine a_6 ?_
    first | refine AR.op0y rfl rfl (gy (by simp [hb])) (.load_l1 rfl rfl rfl tg_150.h rfl) rfl rfl ?_ | refine AR.op0y rfl rfl (gy (by simp [hb])) (.load_a1 rfl rfl tg_150.h rfl) rfl rfl ?_
    refine AR.op0y rfl rfl (gy (by simp [hb])) (.nilCheck rfl rfl) rfl rfl ?_
    first | refine AR.op0y rfl rfl (gy (by simp [hb])) (.fieldAddr_l rfl tf_167_0.h (by decide)) rfl rfl ?_ | refine AR.op0y rfl rfl (gy (by simp [hb])) (.fieldAddr_a rfl tf_167_0.h (by decide)) rfl rfl ?_
    first | refine AR.op0y rfl rfl (gy (by simp [hb])) (.load_l1 rfl rfl rfl tg_164.h rfl) rfl rfl ?_ | refine AR.op0y rfl rfl (gy (by simp [hb])) (.load_a1 rfl rfl tg_164.h rfl) rfl rfl ?_
    first | refine AR.op0y rfl rfl (gy (by simp [hb])) (.fieldAddr_l rfl tf_65_1.h (by decide)) rfl rfl ?_ | refine AR.op0y rfl rfl (gy (by simp [hb])) (.fieldAddr_a rfl tf_65_1.h (by decide)) rfl rfl ?_
    first | refine AR.op0y rfl rfl (gy (by simp [hb])) (.load_l rfl rfl rfl tg_37.h ts_37.h (nle rfl)) rfl rfl ?_ | refine AR.op0y rfl rfl (gy (by simp [hb])) (.load_a rfl rfl tg_37.h ts_37.h (nle rfl)) rfl rfl ?_
    refine AR.op0y rfl rfl (gy (by simp [hb])) (.call rfl rfl rfl (kz_ c s.2 x2)) rfl rfl ?_
    first | refine AR.op0y rfl rfl (gy (by simp [hb])) (.load_l1 rfl rfl rfl tg_150.h rfl) rfl rfl ?_ | refine AR.op0y rfl rfl (gy (by simp [hb])) (.load_a1 rfl rfl tg_150.h rfl) rfl rfl ?_
    refine AR.op0y rfl rfl (gy (by simp [hb])) (.nilCheck rfl rfl) rfl rfl ?_
    first | refine AR.op0y rfl rfl (gy (by simp [hb])) (.fieldAddr_l rfl tf_167_1.h (by decide)) rfl rfl ?_ | refine AR.op0y rfl rfl (gy (by simp [hb])) (.fieldAddr_a rfl tf_167_1.h (by decide)) rfl rfl ?_
    first | refine AR.op0y rfl rfl (gy (by simp [hb])) (.load_l1 rfl rfl rfl tg_3.h rfl) rfl rfl ?_ | refine AR.op0y rfl rfl (gy (by simp [hb])) (.load_a1 rfl rfl tg_3.h rfl) rfl rfl ?_
    refine AR.op0y rfl rfl (gy (by simp [hb])) (.bin rfl rfl (bI64_add (by omega))) rfl rfl ?_
    refine AR.op0y rfl rfl (gy (by simp [hb])) (.bin rfl rfl bo_) rfl rfl ?_
    refine o_0 (.pickT rfl (by simp [hb]) rfl) ?_
    refine AR.nil ⟨by kernel_rfl, ?_⟩
    refine AWp.cond rfl (fun h5 => ?_) (fun h5 => ?_)
    ·have h6 : uptoV c s.2 = i + 1 := by simpa using h5
     have he : k = kk := by
      refine Nat.le_antisymm hk (Nat.le_of_not_lt fun hlt => ?_)
      have h7 := h2 k (Nat.zero_le _) hlt
      rw [← hsd] at h7
      unfold qp_ at h7
      rw [if_pos ⟨x1, x2, x3, x4, x5⟩] at h7
      simp [hb, h6] at h7
     subst he
     refine r_z 2 ?_
     refine AWp.exit ?_
     refine ⟨rfl, (), rfl, ?_⟩
     rw [← hsd]
     show SEntT _ ⟨[(1002, .lptr 1 0 0), (1003, .lptr 2 0 0)], [(1, some ⟨65, 6, [zC ++ zC]⟩), (2, some ⟨65, 6, [spC s.1 s.2]⟩)], 3, 37⟩
     refine SEntT.to [] rfl rfl rfl au_r (fun hs => au_f) (fun hs => au_h)
    ·have h6 : ¬ uptoV c s.2 = i + 1 := by simpa using h5
     have he : k < kk := by
      refine Nat.lt_of_le_of_ne hk fun e => ?_
      subst e
      rw [← hsd] at h1
      unfold qp_ at h1
      rw [if_pos ⟨x1, x2, x3, x4, x5⟩] at h1
      simp [h6] at h1
     refine AWp.skip ?_
     refine ⟨k + 1, ⟨he, rfl⟩, ?_⟩
     show SEntT _ ⟨[(1001, bPl c i), (1002, .lptr 1 0 0), (1003, .lptr 2 0 0), (1006, .clos 243 [] [bPl c i])], [(1, some ⟨65, 6, [zC ++ zC]⟩), (2, some ⟨65, 6, [zC ++ zC]⟩)], 3, 37⟩
     refine SEntT.to [] rfl rfl rfl au_r (fun hs => au_f) (fun hs => au_h)
   ·refine AWp.seq ?_
    refine AWp.regD hmix (m := 27) rfl ?_
    refine c_s (ji_ c s.1 x1) ?_
    refine a_6 ?_
    refine AR.opN rfl rfl (gn (by simp [hb])) rfl rfl ?_
    refine AR.opN rfl rfl (gn (by simp [hb])) rfl rfl ?_
    refine AR.opN rfl rfl (gn (by simp [hb])) rfl rfl ?_
    refine AR.opN rfl rfl (gn (by simp [hb])) rfl rfl ?_
    refine AR.opN rfl rfl (gn (by simp [hb])) rfl rfl ?_
    refine AR.opN rfl rfl (gn (by simp [hb])) rfl rfl ?_
    refine AR.opN rfl rfl (gn (by simp [hb])) rfl rfl ?_
    refine AR.opN rfl rfl (gn (by simp [hb])) rfl rfl ?_
    refine AR.opN rfl rfl (gn (by simp [hb])) rfl rfl ?_
    refine AR.opN rfl rfl (gn (by simp [hb])) rfl rfl ?_
    refine AR.opN rfl rfl (gn (by simp [hb])) rfl rfl ?_
    refine AR.opN rfl rfl (gn (by simp [hb])) rfl rfl ?_
    refine AR.opN rfl rfl (gn (by simp [hb])) rfl rfl ?_
    refine o_0 (.pickF rfl (by simp [hb]) rfl) ?_
    refine AR.nil ⟨by kernel_rfl, ?_⟩
    refine AWp.cond rfl (fun h5 => ?_) (fun h5 => ?_)
    ·cases h5
    ·have he : k < kk := by
      refine Nat.lt_of_le_of_ne hk fun e => ?_
      subst e
      rw [← hsd] at h1
      unfold qp_ at h1
      rw [if_pos ⟨x1, x2, x3, x4, x5⟩] at h1
      simp [hb] at h1
     refine AWp.skip ?_
     refine ⟨k + 1, ⟨he, rfl⟩, ?_⟩
     show SEntT _ ⟨[(1001, bPl c i), (1002, .lptr 1 0 0), (1003, .lptr 2 0 0), (1006, .clos 243 [] [bPl c i])], [(1, some ⟨65, 6, [zC ++ zC]⟩), (2, some ⟨65, 6, [zC ++ zC]⟩)], 3, 37⟩
     refine SEntT.to [] rfl rfl rfl au_r (fun hs => au_f) (fun hs => au_h)
  ·intro k hk hT; cases hT
  ·rintro e u rfl
   exact ⟨u, trivial, SEnt.refl _⟩
 rintro u _
 rw [alX_mk]
 refine r_z 2 ?_
 refine AWp.ret ?_
 refine Fin.cellE rfl rfl rfl tg_65.h ts_65.h (nle rfl) ?_ ?_
 ·rfl
 ·exact ai_ _ _
def aloneM (f g : Nat) (c : Cnt) (i : Int) : Option Sp := (spanM f c i 0).bind fun s0 => (py_ (fun k => qp_ c i (closV c i s0 k)) g 0).map (closV c i s0)
theorem fs_aloneM (f g : Nat) (c : Cnt) (i : Int) (s : Sp) (h : aloneM f g c i = some s) : FSpec Tryz.prog 261 [plA c i] (.agg (spC s.1 s.2)) := by
 obtain ⟨s0, h1, h2⟩ := Option.bind_eq_some_iff.1 h
 obtain ⟨k, h3, rfl⟩ := Option.map_eq_some_iff.1 h2
 exact fs_alone f g c i s0 k h1 h3
def xe_ (f g : Nat) (c : Cnt) (i : Int) (q : List Rat) : Option Bool :=
 if c.p.length ≤ 274877906944 ∧ q.length ≤ 274877906944 then (gcdM f c.p q).bind fun d =>
  if d.length ≤ 274877906944 then
   if degP d < 1 then some false
   else (mt_ f d).bind fun c2 => (aloneM f g c i).bind fun s => if okUp c2 s.2 ∧ okBe c2 s.1 then some (decide (eb_ c2 s.1 < uptoV c2 s.2)) else none
  else none
 else none
theorem fs_shares (f g : Nat) (c : Cnt) (i : Int) (q : List Rat) (r : Bool) (h : xe_ f g c i q = some r) (hf : f ≤ 1000000) : FSpec Tryz.prog 218 [plA c i, .arr (pE q)] (bln r) := by
 unfold xe_ at h
 split at h
 case isFalse => cases h
 case isTrue hl =>
 obtain ⟨d, hd, h2⟩ := Option.bind_eq_some_iff.1 h
 split at h2
 case isFalse => cases h2
 case isTrue hdl =>
 refine FSpec.enter Tryz.func218 rfl (by kernel_rfl) rfl rfl rfl ?_ rfl ?_
 ·exact aa_ (ba_ c i) (aa_ (ad_ q) ab_)
 refine r_z 1 ?_
 refine r_c 10 (fs_Gcd f c.p q d hd hl.1 hl.2) ?_
 refine a_z ?_
 refine AWp.seq ?_
 refine r_c 3 (cc_ d (by omega)) ?_
 refine a_z ?_
 refine AWp.cond rfl (fun h3 => ?_) (fun h3 => ?_)
 ·have h4 : degP d < 1 := by simpa using h3
  rw [if_pos h4] at h2
  cases h2
  refine r_z 1 ?_
  refine AWp.ret ?_
  refine Fin.tmpE rfl ?_ ?_
  ·rfl
  ·exact ac_ _
 ·have h4 : ¬ degP d < 1 := by simpa using h3
  rw [if_neg h4] at h2
  obtain ⟨c2, hc2, h5⟩ := Option.bind_eq_some_iff.1 h2
  obtain ⟨s, hs, h6⟩ := Option.bind_eq_some_iff.1 h5
  split at h6
  case isFalse => cases h6
  case isTrue hk =>
  cases h6
  refine AWp.skip ?_
  refine r_c 7 (lx_ f d c2 hc2 hf) ?_
  refine c_s (fs_aloneM f g c i s hs) ?_
  refine a_z ?_
  refine AWp.seq ?_
  refine AWp.regD hmix (m := 10) rfl ?_
  refine c_s (kz_ c2 s.2 hk.1) ?_
  refine c_s (ji_ c2 s.1 hk.2) ?_
  refine a_2 ?_
  refine AR.nil ⟨by kernel_rfl, ?_⟩
  refine AWp.ret ?_
  refine Fin.tmpE rfl ?_ ?_
  ·rfl
  ·exact ac_ _
def signT (c : Cnt) (i : Int) (c2 : Cnt) (s : Sp) : Option Bool := if okUp c2 s.2 ∧ okBe c2 s.1 ∧ ne_ c s then some (decide (uptoV c2 s.2 = eb_ c2 s.1)) else none
def signM (f g : Nat) (c : Cnt) (i : Int) (q : List Rat) : Option Int :=
 if q.length ≤ 274877906944 then
  if degP q < 0 then some 0
  else (xe_ f g c i q).bind fun b => if b then some 0 else (mt_ f q).bind fun c2 => (spanM f c i 0).bind fun s0 =>
   (py_ (fun k => signT c i c2 (closV c i s0 k)) g 0).bind fun k => if gu_ q (closV c i s0 k).2 then some (sgZ (evalP q (closV c i s0 k).2).num) else none
 else none
def pgS (c : Cnt) (i : Int) (q : List Rat) (c2 : Cnt) : Nat → AState
 | k => ⟨[(0, plA c i), (3, bP q), (4, .lptr 1 0 0), (5, .aptr [[kA c2]] 0 0), (18, .clos 243 [] [bPl c i])], [(1, some ⟨3, 1, [[i64 0]]⟩)], 2, 34⟩
theorem pgS_mk (c : Cnt) (i : Int) (q : List Rat) (c2 : Cnt) (k : Nat) : pgS c i q c2 k = ⟨[(0, plA c i), (3, bP q), (4, .lptr 1 0 0), (5, .aptr [[kA c2]] 0 0), (18, .clos 243 [] [bPl c i])], [(1, some ⟨3, 1, [[i64 0]]⟩)], 2, 34⟩ := rfl
def pgX (r : Int) : Unit → AState
 | u => ⟨[(4, .lptr 1 0 0)], [(1, some ⟨3, 1, [[i64 r]]⟩)], 2, 34⟩
theorem jo_ (c : Cnt) : Closed (.aptr [[kA c]] 0 0) := bb_ (aa_ (bf_ c) ab_)
theorem fs_sign (f g : Nat) (c : Cnt) (i : Int) (q : List Rat) (r : Int) (h : signM f g c i q = some r) (hf : f ≤ 1000000) : FSpec Tryz.prog 157 [plA c i, .arr (pE q)] (i64 r) := by
 unfold signM at h
 split at h
 case isFalse => cases h
 case isTrue hl =>
 refine FSpec.enter Tryz.func157 rfl (by kernel_rfl) rfl rfl rfl ?_ rfl ?_
 ·exact aa_ (ba_ c i) (aa_ (ad_ q) ab_)
 refine r_z 2 ?_
 refine AWp.ent (st' := ⟨[(0, plA c i), (3, bP q), (4, .lptr 1 0 0)], [(1, some ⟨3, 1, [[i64 0]]⟩)], 2, 34⟩) ?_ ?_
 ·refine SEnt.to [(1, 4)] rfl rfl rfl au_r (fun hs => au_f) (fun hs => ?_)
  ·repeat' (first | exact CvH.nil | refine CvH.cons rfl rfl rfl rfl ?_ ?_)
   all_goals (first | (exact CvLL.box (CvL.cons (Cv.clo hs (ac_ _)) CvL.nil)) | exact au_e)
 by_cases hd : degP q < 0
 ·rw [if_pos hd] at h
  cases h
  refine AWp.seq ?_
  refine r_c 8 (cc_ q (by omega)) ?_
  refine a_2 ?_
  refine AR.opN rfl rfl (gn (by simp [hd])) rfl rfl ?_
  refine AR.opN rfl rfl (gn (by simp [hd])) rfl rfl ?_
  refine AR.opN rfl rfl (gn (by simp [hd])) rfl rfl ?_
  refine o_0 (.pickT rfl (by simp [hd]) rfl) ?_
  refine AR.nil ?_
  refine AWp.cond rfl (fun h1 => ?_) (fun h1 => ?_)
  ·refine r_z 1 ?_
   refine AWp.ret ?_
   exact Fin.cell1E rfl rfl rfl tg_3.h rfl rfl (ac_ _)
  ·cases h1
 rw [if_neg hd] at h
 obtain ⟨b, hb, h2⟩ := Option.bind_eq_some_iff.1 h
 refine AWp.seq ?_
 refine r_c 8 (cc_ q (by omega)) ?_
 refine a_2 ?_
 refine AR.op0y rfl rfl (gy (by simp [hd])) (.move rfl) rfl rfl ?_
 first | refine AR.op0y rfl rfl (gy (by simp [hd])) (.load_l1 rfl rfl rfl tg_25.h rfl) rfl rfl ?_ | refine AR.op0y rfl rfl (gy (by simp [hd])) (.load_a1 rfl rfl tg_25.h rfl) rfl rfl ?_
 refine AR.op0y rfl rfl (gy (by simp [hd])) (.call rfl rfl rfl (fs_shares f g c i q b hb hf)) rfl rfl ?_
 refine o_0 (.pickF rfl (by simp [hd]) rfl) ?_
 refine AR.nil ?_
 refine AWp.cond rfl (fun h1 => ?_) (fun h1 => ?_)
 ·have hb1 : b = true := h1
  subst hb1
  rw [if_pos rfl] at h2
  cases h2
  refine r_z 1 ?_
  refine AWp.ret ?_
  exact Fin.cell1E rfl rfl rfl tg_3.h rfl rfl (ac_ _)
 have hb1 : b = false := h1
 subst hb1
 rw [if_neg (show ¬ false = true by decide)] at h2
 obtain ⟨c2, hc2, h3⟩ := Option.bind_eq_some_iff.1 h2
 obtain ⟨s0, hs0, h4⟩ := Option.bind_eq_some_iff.1 h3
 obtain ⟨kk, hkk, h5⟩ := Option.bind_eq_some_iff.1 h4
 split at h5
 case isFalse => cases h5
 case isTrue hev =>
 cases h5
 obtain ⟨t1, _, t2⟩ := hm_ hkk
 have hok : ∀ k, k ≤ kk → okUp c2 (closV c i s0 k).2 ∧ okBe c2 (closV c i s0 k).1 ∧ ne_ c (closV c i s0 k) := fun k hk => by
  have : ∃ b, signT c i c2 (closV c i s0 k) = some b := by
   by_cases e : k = kk
   ·rw [e]; exact ⟨_, t1⟩
   ·exact ⟨_, t2 k (Nat.zero_le _) (by omega)⟩
  obtain ⟨b, hb⟩ := this
  unfold signT at hb
  split at hb
  ·assumption
  ·cases hb
 have hgs := pm_ f c i s0 kk hs0 (fun k hk => (hok k (by omega)).2.2)
 obtain ⟨r, hr⟩ : ∃ r, r = sgZ (evalP q (closV c i s0 kk).2).num := ⟨_, rfl⟩
 rw [← hr]
 refine AWp.skip ?_
 refine r_c 4 (lx_ f q c2 hc2 hf) ?_
 refine a_z ?_
 refine AWp.ent (st' := ⟨[(0, plA c i), (3, bP q), (4, .lptr 1 0 0), (5, .aptr [[kA c2]] 0 0)], [(1, some ⟨3, 1, [[i64 0]]⟩)], 2, 34⟩) ?_ ?_
 ·refine SEnt.to [] rfl rfl rfl au_r (fun hs => ?_) (fun hs => ?_)
  ·repeat' (first | exact CvF.nil | refine CvF.cons rfl ?_ ?_)
   all_goals (first | (exact Cv.boxp hs rfl (bl_ rfl) rfl (aa_ (bf_ c2) ab_)) | exact au_c)
  ·repeat' (first | exact CvH.nil | refine CvH.cons rfl rfl rfl rfl ?_ ?_)
   all_goals (first | (exact CvLL.box (CvL.cons (Cv.clo hs (ac_ _)) CvL.nil)) | exact au_e | (refine CvLL.box ?_; repeat' (first | exact CvL.nil | refine CvL.cons ?_ ?_)))
   all_goals (first | (exact Cv.boxp hs rfl (bl_ rfl) rfl (aa_ (bf_ c2) ab_)) | exact au_c)
 refine AWp.seq ?_
 refine r_c 2 (ps_ c i) ?_
 refine AR.nil ?_
 refine AWp.cutT (pgX r) (fun _ => False) ?_ (fun _ h => h.elim)
 refine AWp.block ?_
 refine AWp.rangeFuncB (α := Nat) (γ := Unit) kk (pgS c i q c2) (fun k => k) (fun k => k ≤ kk) (pgX r) (fun e _ => e = .ret) 0 rfl hgs rfl rfl ?_ (fun _ => ⟨rfl, rfl⟩) (fun _ => rfl) (Nat.zero_le _) rfl (fun _ h => h) ?_ ?_ ?_ ?_ ?_
 ·intro k xs hT; cases hT; rfl
 ·rw [pgS_mk]
  refine SEntT.to [] rfl rfl rfl au_r (fun hs => ?_) (fun hs => ?_)
  ·repeat' (first | exact CvF.nil | refine CvF.cons rfl ?_ ?_)
   all_goals (first | (exact Cv.clo hs (jo_ c2)) | exact au_c)
  ·repeat' (first | exact CvH.nil | refine CvH.cons rfl rfl rfl rfl ?_ ?_)
   all_goals (first | (exact CvLL.box (CvL.cons (Cv.clo hs (ac_ _)) CvL.nil)) | exact au_e | (refine CvLL.box ?_; repeat' (first | exact CvL.nil | refine CvL.cons ?_ ?_)))
   all_goals (first | (exact Cv.clo hs (jo_ c2)) | exact au_c)
 ·exact aa_ (aj_ c i) ab_
 ·intro l k xs hk hT
  cases hT
  have hx := hok k hk
  obtain ⟨s, hsd⟩ : ∃ s, s = closV c i s0 k := ⟨_, rfl⟩
  rw [← hsd] at hx ⊢
  obtain ⟨x1, x2, x3⟩ := hx
  show AWp _ _ _ _ ⟨[(19, .agg (spC s.1 s.2)), (0, plA c i), (3, bP q), (4, .lptr 1 0 0), (5, .aptr [[kA c2]] 0 0), (18, .clos 243 [] [bPl c i]), (1000, plA c i), (1003, bP q), (1004, .lptr 1 0 0), (1005, .aptr [[kA c2]] 0 0), (1018, .clos 243 [] [bPl c i])], [(1, some ⟨3, 1, [[i64 0]]⟩)], 2, 34⟩
  refine AWp.reg (m := 2) rfl ?_
  refine a_z ?_
  refine AWp.block ?_
  refine AWp.seq ?_
  refine AWp.regD hmix (m := 9) rfl ?_
  refine c_s (kz_ c2 s.2 x1) ?_
  refine c_s (ji_ c2 s.1 x2) ?_
  refine a_1 ?_
  refine AR.nil ⟨by kernel_rfl, ?_⟩
  refine AWp.cond rfl (fun h6 => ?_) (fun h6 => ?_)
  ·have h7 : uptoV c2 s.2 = eb_ c2 s.1 := by simpa using h6
   have he : k = kk := by
    refine Nat.le_antisymm hk (Nat.le_of_not_lt fun hlt => ?_)
    have h8 := t2 k (Nat.zero_le _) hlt
    rw [← hsd] at h8
    unfold signT at h8
    rw [if_pos ⟨x1, x2, x3⟩] at h8
    simp [h7] at h8
   subst he
   rw [← hsd] at hev hr
   refine r_c 6 (ld_ q s.2 hev) ?_
   refine c_s (dm_ (evalP q s.2)) ?_
   refine a_z ?_
   refine AWp.ret ?_
   refine ⟨rfl, (), rfl, ?_⟩
   rw [hr]
   show SEntT _ ⟨[(1004, .lptr 1 0 0)], [(1, some ⟨3, 1, [[i64 (sgZ (evalP q s.2).num)]]⟩)], 2, 34⟩
   refine SEntT.to [] rfl rfl rfl au_r (fun hs => au_f) (fun hs => ?_)
   ·repeat' (first | exact CvH.nil | refine CvH.cons rfl rfl rfl rfl ?_ ?_)
    all_goals (first | (exact CvLL.box (CvL.cons (Cv.clo hs (ac_ _)) CvL.nil)) | exact au_e)
  ·have h7 : ¬ uptoV c2 s.2 = eb_ c2 s.1 := by simpa using h6
   have he : k < kk := by
    refine Nat.lt_of_le_of_ne hk fun e => ?_
    subst e
    rw [← hsd] at t1
    unfold signT at t1
    rw [if_pos ⟨x1, x2, x3⟩] at t1
    simp [h7] at t1
   refine AWp.skip ?_
   refine ⟨k + 1, ⟨he, rfl⟩, ?_⟩
   show SEntT _ ⟨[(1000, plA c i), (1003, bP q), (1004, .lptr 1 0 0), (1005, .aptr [[kA c2]] 0 0), (1018, .clos 243 [] [bPl c i])], [(1, some ⟨3, 1, [[i64 0]]⟩)], 2, 34⟩
   refine SEntT.to [] rfl rfl rfl au_r (fun hs => ?_) (fun hs => ?_)
   ·repeat' (first | exact CvF.nil | refine CvF.cons rfl ?_ ?_)
    all_goals (first | (exact Cv.clo hs (jo_ c2)) | exact au_c)
   ·repeat' (first | exact CvH.nil | refine CvH.cons rfl rfl rfl rfl ?_ ?_)
    all_goals (first | (exact CvLL.box (CvL.cons (Cv.clo hs (ac_ _)) CvL.nil)) | exact au_e | (refine CvLL.box ?_; repeat' (first | exact CvL.nil | refine CvL.cons ?_ ?_)))
    all_goals (first | (exact Cv.clo hs (jo_ c2)) | exact au_c)
 ·intro k hk hT; cases hT
 ·rintro e u rfl
  exact Fin.cell1E rfl rfl rfl tg_3.h rfl rfl (ac_ _)
def valT (c : Cnt) (q : List Rat) (step : Rat) (s : Sp) : Option Bool := if zr_ q s ∧ smS (overP q s) ∧ sm ((overP q s).2 - (overP q s).1) ∧ sm step ∧ ne_ c s then some (decide (cmpQ ((overP q s).2 - (overP q s).1) step < 0)) else none
def valR (f g : Nat) (c : Cnt) (i : Int) (q : List Rat) (k : Int) (v : Sp) : Option Sp :=
 if sm (downQ v.2 (wi k 256)) ∧ smS v ∧ sm (fineQ (wi k 256)) ∧ smL q ∧ q.length ≤ 274877906944 then
  if cmpQ (downQ v.2 (wi k 256)) v.1 < 0 then some (downQ v.2 (wi k 256), downQ v.2 (wi k 256) + fineQ (wi k 256))
  else (signM f g c i (subP q (ew_ (downQ v.2 (wi k 256))))).bind fun sg =>
   some (if sg = 0 then (downQ v.2 (wi k 256), downQ v.2 (wi k 256)) else if sg = 1 then (downQ v.2 (wi k 256), downQ v.2 (wi k 256) + fineQ (wi k 256)) else (downQ v.2 (wi k 256) - fineQ (wi k 256), downQ v.2 (wi k 256)))
 else none
def valueM (f g : Nat) (c : Cnt) (i : Int) (q : List Rat) (k : Int) : Option Sp :=
 (spanM f c i 0).bind fun s0 => (py_ (fun j => valT c q (fineQ (wi k 256)) (closV c i s0 j)) g 0).bind fun j => valR f g c i q k (overP q (closV c i s0 j))
abbrev bI (k : Int) : AV := .aptr [[i64 k]] 0 0
theorem dh_ (k : Int) : Closed (bI k) := bb_ (aa_ (ac_ _) ab_)
def vaS (c : Cnt) (i : Int) (q : List Rat) (k : Int) (step : Rat) : Nat → AState
 | j => ⟨[(3, bPl c i), (4, bP q), (5, bI k), (6, .lptr 1 0 0), (7, bQ step), (14, .clos 243 [] [bPl c i])], [(1, some ⟨65, 6, [zC ++ zC]⟩)], 2, 61⟩
theorem vaS_mk (c : Cnt) (i : Int) (q : List Rat) (k : Int) (step : Rat) (j : Nat) : vaS c i q k step j = ⟨[(3, bPl c i), (4, bP q), (5, bI k), (6, .lptr 1 0 0), (7, bQ step), (14, .clos 243 [] [bPl c i])], [(1, some ⟨65, 6, [zC ++ zC]⟩)], 2, 61⟩ := rfl
def vaX (r : Sp) : Unit → AState
 | u => ⟨[(6, .lptr 1 0 0)], [(1, some ⟨65, 6, [spC r.1 r.2]⟩)], 2, 61⟩
theorem fs_value (f g : Nat) (c : Cnt) (i : Int) (q : List Rat) (k : Int) (r : Sp) (h : valueM f g c i q k = some r) (hf : f ≤ 1000000) : FSpec Tryz.prog 109 [plA c i, .arr (pE q), i64 k] (.agg (spC r.1 r.2)) := by
 unfold valueM at h
 obtain ⟨s0, hs0, h2⟩ := Option.bind_eq_some_iff.1 h
 obtain ⟨kk, hkk, hR⟩ := Option.bind_eq_some_iff.1 h2
 obtain ⟨t1, _, t2⟩ := hm_ hkk
 obtain ⟨step, hst⟩ : ∃ step, step = fineQ (wi k 256) := ⟨_, rfl⟩
 rw [← hst] at t1 t2
 have hok : ∀ j, j ≤ kk → zr_ q (closV c i s0 j) ∧ smS (overP q (closV c i s0 j)) ∧ sm ((overP q (closV c i s0 j)).2 - (overP q (closV c i s0 j)).1) ∧ sm step ∧ ne_ c (closV c i s0 j) := fun j hj => by
  have : ∃ b, valT c q step (closV c i s0 j) = some b := by
   by_cases e : j = kk
   ·rw [e]; exact ⟨_, t1⟩
   ·exact ⟨_, t2 j (Nat.zero_le _) (by omega)⟩
  obtain ⟨b, hb⟩ := this
  unfold valT at hb
  split at hb
  ·assumption
  ·cases hb
 have hgs := pm_ f c i s0 kk hs0 (fun j hj => (hok j (by omega)).2.2.2.2)
 have hfi := pv_ k
 rw [← hst] at hfi
 refine FSpec.enter Tryz.func109 rfl (by kernel_rfl) rfl rfl rfl ?_ rfl ?_
 ·exact aa_ (ba_ c i) (aa_ (ad_ q) (aa_ (ac_ _) ab_))
 refine r_z 4 ?_
 refine r_c 4 (hfi) ?_
 refine a_z ?_
 refine AWp.ent (st' := ⟨[(3, bPl c i), (4, bP q), (5, bI k), (6, .lptr 1 0 0), (7, bQ step)], [(1, some ⟨65, 6, [zC ++ zC]⟩)], 2, 61⟩) ?_ ?_
 ·refine SEnt.to [(1, 6)] rfl rfl rfl au_r (fun hs => ?_) (fun hs => ?_)
  ·repeat' (first | exact CvF.nil | refine CvF.cons rfl ?_ ?_)
   all_goals (first | (exact Cv.boxp hs rfl (bl_ rfl) rfl (aa_ (ba_ c i) ab_)) | exact au_c)
  ·repeat' (first | exact CvH.nil | refine CvH.cons rfl rfl rfl rfl ?_ ?_)
   all_goals (first | exact au_e | (refine CvLL.box ?_; repeat' (first | exact CvL.nil | refine CvL.cons ?_ ?_)))
   all_goals (first | (exact Cv.boxp hs rfl (bl_ rfl) rfl (aa_ (ba_ c i) ab_)) | exact au_c)
 refine AWp.seq ?_
 refine r_c 2 (ps_ c i) ?_
 refine AR.nil ?_
 refine AWp.cutT (vaX r) (fun _ => False) ?_ (fun _ h => h.elim)
 refine AWp.block ?_
 refine AWp.rangeFuncB (α := Nat) (γ := Unit) kk (vaS c i q k step) (fun j => j) (fun j => j ≤ kk) (vaX r) (fun e _ => e = .ret) 0 rfl hgs rfl rfl ?_ (fun _ => ⟨rfl, rfl⟩) (fun _ => rfl) (Nat.zero_le _) rfl (fun _ h => h) ?_ ?_ ?_ ?_ ?_
 ·intro j xs hT; cases hT; rfl
 ·rw [vaS_mk]
  refine SEntT.to [] rfl rfl rfl au_r (fun hs => ?_) (fun hs => ?_)
  ·repeat' (first | exact CvF.nil | refine CvF.cons rfl ?_ ?_)
   all_goals (first | (exact Cv.clo hs (dh_ k)) | exact au_c)
  ·repeat' (first | exact CvH.nil | refine CvH.cons rfl rfl rfl rfl ?_ ?_)
   all_goals (first | exact au_e | (refine CvLL.box ?_; repeat' (first | exact CvL.nil | refine CvL.cons ?_ ?_)))
   all_goals (first | (exact Cv.clo hs (dh_ k)) | exact au_c)
 ·exact aa_ (aj_ c i) ab_
 ·intro l j xs hj hT
  cases hT
  have hx := hok j hj
  obtain ⟨s, hsd⟩ : ∃ s, s = closV c i s0 j := ⟨_, rfl⟩
  rw [← hsd] at hx ⊢
  obtain ⟨x1, x2, x3, x4, x5⟩ := hx
  obtain ⟨v, hv⟩ : ∃ v, v = overP q s := ⟨_, rfl⟩
  have hov := fs_Over q s x1
  rw [← hv] at hov x2 x3
  show AWp _ _ _ _ ⟨[(15, .agg (spC s.1 s.2)), (3, bPl c i), (4, bP q), (5, bI k), (6, .lptr 1 0 0), (7, bQ step), (14, .clos 243 [] [bPl c i]), (1003, bPl c i), (1004, bP q), (1005, bI k), (1006, .lptr 1 0 0), (1007, bQ step), (1014, .clos 243 [] [bPl c i])], [(1, some ⟨65, 6, [zC ++ zC]⟩)], 2, 61⟩
  refine AWp.reg (m := 2) rfl ?_
  refine a_z ?_
  refine AWp.block ?_
  refine r_c 5 (hov) ?_
  refine a_z ?_
  refine AWp.seq ?_
  refine AWp.seq ?_
  refine AWp.regD hmix (m := 5) rfl ?_
  refine c_s (fs_SWidth v.1 v.2 x2.1 x2.2) ?_
  refine c_s (ru_ (v.2 - v.1) step x3 x4) ?_
  refine a_1 ?_
  refine AR.nil ⟨by kernel_rfl, ?_⟩
  refine AWp.cond rfl (fun h6 => ?_) (fun h6 => ?_)
  ·have h7 : ¬ cmpQ (v.2 - v.1) step < 0 := by
    have : 0 ≤ cmpQ (v.2 - v.1) step := by simpa using h6
    omega
   have he : j < kk := by
    refine Nat.lt_of_le_of_ne hj fun e => ?_
    subst e
    rw [← hsd] at t1
    unfold valT at t1
    rw [← hv] at t1
    rw [if_pos ⟨x1, x2, x3, x4, x5⟩] at t1
    simp [h7] at t1
   refine AWp.exit ?_
   refine ⟨j + 1, ⟨he, rfl⟩, ?_⟩
   show SEntT _ ⟨[(1003, bPl c i), (1004, bP q), (1005, bI k), (1006, .lptr 1 0 0), (1007, bQ step), (1014, .clos 243 [] [bPl c i])], [(1, some ⟨65, 6, [zC ++ zC]⟩)], 2, 61⟩
   refine SEntT.to [] rfl rfl rfl au_r (fun hs => ?_) (fun hs => ?_)
   ·repeat' (first | exact CvF.nil | refine CvF.cons rfl ?_ ?_)
    all_goals (first | (exact Cv.clo hs (dh_ k)) | exact au_c)
   ·repeat' (first | exact CvH.nil | refine CvH.cons rfl rfl rfl rfl ?_ ?_)
    all_goals (first | exact au_e | (refine CvLL.box ?_; repeat' (first | exact CvL.nil | refine CvL.cons ?_ ?_)))
    all_goals (first | (exact Cv.clo hs (dh_ k)) | exact au_c)
  ·have h7 : cmpQ (v.2 - v.1) step < 0 := by
    have : ¬ 0 ≤ cmpQ (v.2 - v.1) step := by simpa using h6
    omega
   have he : j = kk := by
    refine Nat.le_antisymm hj (Nat.le_of_not_lt fun hlt => ?_)
    have h8 := t2 j (Nat.zero_le _) hlt
    rw [← hsd] at h8
    unfold valT at h8
    rw [← hv] at h8
    rw [if_pos ⟨x1, x2, x3, x4, x5⟩] at h8
    simp [h7] at h8
   subst he
   rw [← hsd, ← hv] at hR
   unfold valR at hR
   rw [← hst] at hR
   obtain ⟨m, hm⟩ : ∃ m, m = downQ v.2 (wi k 256) := ⟨_, rfl⟩
   rw [← hm] at hR
   split at hR
   case isFalse => cases hR
   case isTrue hz =>
   obtain ⟨z1, z2, z3, z4, z5⟩ := hz
   have hdn := fs_Down v.2 k x2.2
   rw [← hm] at hdn
   refine AWp.skip ?_
   refine r_c 6 (hdn) ?_
   refine a_z ?_
   refine AWp.seq ?_
   refine r_c 5 (ru_ m v.1 z1 z2.1) ?_
   refine a_z ?_
   refine AWp.cond rfl (fun h8 => ?_) (fun h8 => ?_)
   ·have h9 : cmpQ m v.1 < 0 := by simpa using h8
    rw [if_pos h9] at hR
    cases hR
    refine AWp.seq ?_
    refine AWp.regD hmix (m := 6) rfl ?_
    refine c_s (ia_ m step (sm2 z1 z3)) ?_
    refine a_2 ?_
    refine AR.nil ⟨by kernel_rfl, ?_⟩
    refine AWp.ret ?_
    refine ⟨rfl, (), rfl, ?_⟩
    show SEntT _ ⟨[(1006, .lptr 1 0 0)], [(1, some ⟨65, 6, [spC (m, m + step).1 (m, m + step).2]⟩)], 2, 61⟩
    refine SEntT.to [] rfl rfl rfl au_r (fun hs => ?_) (fun hs => ?_)
    ·repeat' (first | exact CvF.nil | refine CvF.cons rfl ?_ ?_)
     all_goals (first | (exact Cv.clo hs (dh_ k)) | exact au_c)
    ·repeat' (first | exact CvH.nil | refine CvH.cons rfl rfl rfl rfl ?_ ?_)
     all_goals (first | exact au_e | (refine CvLL.box ?_; repeat' (first | exact CvL.nil | refine CvL.cons ?_ ?_)))
     all_goals (first | (exact Cv.clo hs (dh_ k)) | exact au_c)
   ·have h9 : ¬ cmpQ m v.1 < 0 := by simpa using h8
    rw [if_neg h9] at hR
    obtain ⟨sg, hsg, hR2⟩ := Option.bind_eq_some_iff.1 hR
    cases hR2
    have hcl := jl_ m
    have hsmc : smL (ew_ m) := yx_ fun x hx => by rw [List.mem_singleton.1 hx]; exact z1
    refine AWp.skip ?_
    refine AWp.seq ?_
    refine AWp.seq ?_
    refine AWp.regD hmix (m := 6) rfl ?_
    refine c_s (la_ m) ?_
    refine c_s (fs_Sub q (ew_ m) z4 hsmc (by omega) (by omega)) ?_
    refine c_s (fs_sign f g c i (subP q (ew_ m)) sg hsg hf) ?_
    refine AR.nil ⟨by kernel_rfl, ?_⟩
    refine AWp.block ?_
    refine r_z 2 ?_
    refine AWp.cond rfl (fun h10 => ?_) (fun h10 => ?_)
    ·have h11 : sg = 0 := by simpa using h10
     refine r_c 3 (fs_At m) ?_
     refine a_z ?_
     refine AWp.ret ?_
     refine ⟨rfl, (), rfl, ?_⟩
     rw [if_pos h11]
     show SEntT _ ⟨[(1006, .lptr 1 0 0)], [(1, some ⟨65, 6, [spC (m, m).1 (m, m).2]⟩)], 2, 61⟩
     refine SEntT.to [] rfl rfl rfl au_r (fun hs => ?_) (fun hs => ?_)
     ·repeat' (first | exact CvF.nil | refine CvF.cons rfl ?_ ?_)
      all_goals (first | (exact Cv.clo hs (dh_ k)) | exact au_c)
     ·repeat' (first | exact CvH.nil | refine CvH.cons rfl rfl rfl rfl ?_ ?_)
      all_goals (first | exact au_e | (refine CvLL.box ?_; repeat' (first | exact CvL.nil | refine CvL.cons ?_ ?_)))
      all_goals (first | (exact Cv.clo hs (dh_ k)) | exact au_c)
    ·have h11 : ¬ sg = 0 := by simpa using h10
     refine r_z 2 ?_
     refine AWp.cond rfl (fun h12 => ?_) (fun h12 => ?_)
     ·have h13 : sg = 1 := by simpa using h12
      refine AWp.seq ?_
      refine AWp.regD hmix (m := 6) rfl ?_
      refine c_s (ia_ m step (sm2 z1 z3)) ?_
      refine a_2 ?_
      refine AR.nil ⟨by kernel_rfl, ?_⟩
      refine AWp.ret ?_
      refine ⟨rfl, (), rfl, ?_⟩
      rw [if_neg h11, if_pos h13]
      show SEntT _ ⟨[(1006, .lptr 1 0 0)], [(1, some ⟨65, 6, [spC (m, m + step).1 (m, m + step).2]⟩)], 2, 61⟩
      refine SEntT.to [] rfl rfl rfl au_r (fun hs => ?_) (fun hs => ?_)
      ·repeat' (first | exact CvF.nil | refine CvF.cons rfl ?_ ?_)
       all_goals (first | (exact Cv.clo hs (dh_ k)) | exact au_c)
      ·repeat' (first | exact CvH.nil | refine CvH.cons rfl rfl rfl rfl ?_ ?_)
       all_goals (first | exact au_e | (refine CvLL.box ?_; repeat' (first | exact CvL.nil | refine CvL.cons ?_ ?_)))
       all_goals (first | (exact Cv.clo hs (dh_ k)) | exact au_c)
     ·have h13 : ¬ sg = 1 := by simpa using h12
      refine AWp.skip ?_
      refine AWp.seq ?_
      refine AWp.regD hmix (m := 6) rfl ?_
      refine c_s (rq_ m step (sm2 z1 z3)) ?_
      refine a_3 ?_
      refine AR.nil ⟨by kernel_rfl, ?_⟩
      refine AWp.ret ?_
      refine ⟨rfl, (), rfl, ?_⟩
      rw [if_neg h11, if_neg h13]
      show SEntT _ ⟨[(1006, .lptr 1 0 0)], [(1, some ⟨65, 6, [spC (m - step, m).1 (m - step, m).2]⟩)], 2, 61⟩
      refine SEntT.to [] rfl rfl rfl au_r (fun hs => ?_) (fun hs => ?_)
      ·repeat' (first | exact CvF.nil | refine CvF.cons rfl ?_ ?_)
       all_goals (first | (exact Cv.clo hs (dh_ k)) | exact au_c)
      ·repeat' (first | exact CvH.nil | refine CvH.cons rfl rfl rfl rfl ?_ ?_)
       all_goals (first | exact au_e | (refine CvLL.box ?_; repeat' (first | exact CvL.nil | refine CvL.cons ?_ ?_)))
       all_goals (first | (exact Cv.clo hs (dh_ k)) | exact au_c)
 ·intro j hj hT; cases hT
 ·rintro e u rfl
  exact Fin.cell rfl rfl rfl tg_65.h ts_65.h (nle rfl) (Cv.clo am_ (ai_ _ _))
def hullS (a b : Sp) : Sp := (minL [a.1, b.1], maxL [a.2, b.2])
def qSpan (a : Rat) (k : Int) : Sp := (downQ a (wi k 256), upQ a (wi k 256))
def rlM (f g : Nat) (c : Cnt) (p : List Rat) (k : Int) (up : Int) : Nat → Int → Sp → Option Sp
 | 0, _, _ => none
 | n + 1, i, o => if i < up then (valueM f g c i p k).bind fun v => if smS o ∧ smS v then rlM f g c p k up n (i + 1) (hullS o v) else none else some o
def okRange (p : List Rat) (s : Sp) (k : Int) : Prop := smS s ∧ gu_ p s.1 ∧ gu_ p s.2 ∧ smL p ∧ p.length ≤ 274877906944 ∧ cmpQ s.1 s.2 ≤ 0 ∧ degP p ≤ 40 ∧ smS (qSpan (evalP p s.1) k) ∧ smS (qSpan (evalP p s.2) k)
instance (p : List Rat) (s : Sp) (k : Int) : Decidable (okRange p s k) := inferInstanceAs (Decidable (_ ∧ _ ∧ _ ∧ _ ∧ _ ∧ _ ∧ _ ∧ _ ∧ _))
def rangeM (f g : Nat) (p : List Rat) (s : Sp) (k : Int) : Option Sp :=
 if okRange p s k then
  if degP (ei_ p) < 0 then some (hullS (qSpan (evalP p s.1) k) (qSpan (evalP p s.2) k))
  else (mt_ f (ei_ p)).bind fun c => if okBe c s.1 ∧ okUp c s.2 then rlM f g c p k (uptoV c s.2) g (eb_ c s.1) (hullS (qSpan (evalP p s.1) k) (qSpan (evalP p s.2) k)) else none
 else none
def rgS (p : List Rat) (s : Sp) (k : Int) (c : Cnt) : Int × Sp → AState
 | (i, o) => ⟨[(0, .arr (pE p)), (2, i64 k), (4, bS s), (6, .lptr 1 0 0), (8, .lptr 2 0 0), (10, kA c), (11, i64 i)], [(1, some ⟨65, 6, [zC ++ zC]⟩), (2, some ⟨65, 6, [spC o.1 o.2]⟩)], 3, 66⟩
theorem rgS_mk (p : List Rat) (s : Sp) (k : Int) (c : Cnt) (i : Int) (o : Sp) : rgS p s k c (i, o) = ⟨[(0, .arr (pE p)), (2, i64 k), (4, bS s), (6, .lptr 1 0 0), (8, .lptr 2 0 0), (10, kA c), (11, i64 i)], [(1, some ⟨65, 6, [zC ++ zC]⟩), (2, some ⟨65, 6, [spC o.1 o.2]⟩)], 3, 66⟩ := rfl
theorem fs_Range (f g : Nat) (p : List Rat) (s : Sp) (k : Int) (r : Sp) (h : rangeM f g p s k = some r) (hf : f ≤ 1000000) : FSpec Tryz.prog 53 [.arr (pE p), .agg (spC s.1 s.2), i64 k] (.tup [.agg (spC r.1 r.2), i64 0]) := by
 unfold rangeM at h
 split at h
 case isFalse => cases h
 case isTrue hk =>
 obtain ⟨k1, k2, k3, k4, k5, k6, k7, k8, k9⟩ := hk
 have hdl := lf_ p
 obtain ⟨o0, ho⟩ : ∃ o, o = hullS (qSpan (evalP p s.1) k) (qSpan (evalP p s.2) k) := ⟨_, rfl⟩
 have hhu := fs_SHull (qSpan (evalP p s.1) k).1 (qSpan (evalP p s.1) k).2 (qSpan (evalP p s.2) k).1 (qSpan (evalP p s.2) k).2 k8.1 k8.2 k9.1 k9.2
 rw [← ho] at h
 have hhu' : FSpec Tryz.prog 129 [.agg (spC (qSpan (evalP p s.1) k).1 (qSpan (evalP p s.1) k).2), .agg (spC (qSpan (evalP p s.2) k).1 (qSpan (evalP p s.2) k).2)] (.agg (spC o0.1 o0.2)) := by rw [ho]; exact hhu
 refine FSpec.enter Tryz.func53 rfl (by kernel_rfl) rfl rfl rfl ?_ rfl ?_
 ·exact aa_ (ad_ p) (aa_ (ai_ _ _) (aa_ (ac_ _) ab_))
 refine r_z 3 ?_
 refine AWp.cut (fun _ : Unit => ⟨[(0, .arr (pE p)), (2, i64 k), (4, bS s), (6, .lptr 1 0 0)], [(1, some ⟨65, 6, [zC ++ zC]⟩)], 2, 66⟩) (fun _ => True) ?_ ?_
 ·refine AWp.block ?_
  refine r_c 4 (pu_ s.1 s.2 k1.1 k1.2) ?_
  refine a_z ?_
  refine AWp.cond rfl (fun h1 => ?_) (fun h1 => ?_)
  ·exact absurd h1 (by simp [k6])
  refine r_c 4 (cc_ p (by omega)) ?_
  refine a_z ?_
  refine AWp.cond rfl (fun h2 => ?_) (fun h2 => ?_)
  ·exact absurd h2 (by simp; omega)
  refine AWp.skip ⟨(), trivial, ?_⟩
  exact s_e [(1, 6)]
 rintro _ _
 refine AWp.seq ?_
 refine AWp.regD hmix (m := 15) rfl ?_
 refine c_s (ld_ p s.1 k2) ?_
 refine c_s (fs_QSpan (evalP p s.1) k (oe_ k2)) ?_
 refine c_s (ld_ p s.2 k3) ?_
 refine c_s (fs_QSpan (evalP p s.2) k (oe_ k3)) ?_
 refine c_s (hhu') ?_
 refine a_2 ?_
 refine AR.nil ⟨by kernel_rfl, ?_⟩
 refine AWp.seq ?_
 refine r_c 3 (pw_ p k4 (by omega)) ?_
 refine a_z ?_
 refine r_c 3 (cc_ (ei_ p) (by omega)) ?_
 refine a_z ?_
 refine AWp.cutT (fun _ : Unit => ⟨[(6, .lptr 1 0 0), (8, .lptr 2 0 0)], [(1, some ⟨65, 6, [zC ++ zC]⟩), (2, some ⟨65, 6, [spC r.1 r.2]⟩)], 3, 66⟩) (fun _ => True) ?_ ?_
 ·refine AWp.cond rfl (fun h3 => ?_) (fun h3 => ?_)
  ·have h4 : ¬ degP (ei_ p) < 0 := by
    have : 0 ≤ degP (ei_ p) := by simpa using h3
    omega
   rw [if_neg h4] at h
   obtain ⟨c, hc, h5⟩ := Option.bind_eq_some_iff.1 h
   split at h5
   case isFalse => cases h5
   case isTrue hb =>
   refine r_c 3 (lx_ f (ei_ p) c hc hf) ?_
   refine a_z ?_
   refine r_c 5 (ji_ c s.1 hb.1) ?_
   refine a_z ?_
   have hub := nl_ (x := s.2) hb.2.1
   have hbb := belowV_bd (x := s.1) hb.1.1.1
   refine AWp.block ?_
   refine AWp.loopS (fun x : Nat × Int × Sp => rgS p s k c x.2) (fun x => x.1) (fun x => rlM f g c p k (uptoV c s.2) x.1 x.2.1 x.2.2 = some r ∧ -4611686018427387904 ≤ x.2.1) (g, eb_ c s.1, o0) ⟨h5, by simp only; omega⟩ ?_ ?_
   ·simp only [rgS_mk]
    exact s_e [(2, 8)]
   rintro ⟨n, i, o⟩ ⟨hrl, hil⟩
   simp only at hrl hil
   simp only [rgS_mk]
   cases n with
   | zero => cases hrl
   | succ n =>
    rw [rlM] at hrl
    refine AWp.seq ?_
    refine r_c 6 (kz_ c s.2 hb.2) ?_
    refine a_z ?_
    refine AWp.cond rfl (fun h6 => ?_) (fun h6 => ?_)
    ·have h7 : i < uptoV c s.2 := by simpa using h6
     rw [if_pos h7] at hrl
     obtain ⟨v, hv, h8⟩ := Option.bind_eq_some_iff.1 hrl
     split at h8
     case isFalse => cases h8
     case isTrue hsm =>
     have hhv : FSpec Tryz.prog 129 [.agg (spC o.1 o.2), .agg (spC v.1 v.2)] (.agg (spC (hullS o v).1 (hullS o v).2)) := fs_SHull o.1 o.2 v.1 v.2 hsm.1.1 hsm.1.2 hsm.2.1 hsm.2.2
     refine AWp.skip ?_
     refine AWp.seq ?_
     refine AWp.block ?_
     refine r_z 5 ?_
     refine AWp.ent (st' := ⟨[(0, .arr (pE p)), (2, i64 k), (4, bS s), (6, .lptr 1 0 0), (8, .lptr 2 0 0), (10, kA c), (11, i64 i), (12, plA c i)], [(1, some ⟨65, 6, [zC ++ zC]⟩), (2, some ⟨65, 6, [spC o.1 o.2]⟩)], 3, 66⟩) ?_ ?_
     ·refine SEnt.to [] rfl rfl rfl au_r (fun hs => ?_) (fun hs => ?_)
      ·repeat' (first | exact CvF.nil | refine CvF.cons rfl ?_ ?_)
       all_goals (first | (exact Cv.boxp hs rfl (bl_ rfl) rfl (aa_ (bf_ c) (aa_ (ac_ _) ab_))) | exact au_c)
      ·repeat' (first | exact CvH.nil | refine CvH.cons rfl rfl rfl rfl ?_ ?_)
       all_goals (first | exact au_e | (refine CvLL.box ?_; repeat' (first | exact CvL.nil | refine CvL.cons ?_ ?_)))
       all_goals (first | (exact Cv.boxp hs rfl (bl_ rfl) rfl (aa_ (bf_ c) (aa_ (ac_ _) ab_))) | exact au_c)
     refine AWp.regD hmix (m := 7) rfl ?_
     refine c_s (fs_value f g c i p k v hv hf) ?_
     refine c_s (hhv) ?_
     refine a_1 ?_
     refine AR.nil ⟨by kernel_rfl, ?_⟩
     refine AWp.reg (m := 3) rfl ?_
     refine a_z ?_
     refine ⟨(n, i + 1, hullS o v), Nat.lt_succ_self n, ⟨h8, by simp only; omega⟩, ?_⟩
     simp only [rgS_mk]
     exact s_e []
    ·have h7 : ¬ i < uptoV c s.2 := by simpa using h6
     rw [if_neg h7] at hrl
     cases hrl
     refine AWp.exit ⟨(), trivial, ?_⟩
     exact s_e []
  ·have h4 : degP (ei_ p) < 0 := by
    have : ¬ 0 ≤ degP (ei_ p) := by simpa using h3
    omega
   rw [if_pos h4] at h
   cases h
   refine AWp.skip ⟨(), trivial, ?_⟩
   exact s_e [(2, 8)]
 rintro _ _
 refine r_z 3 ?_
 refine AWp.ret ?_
 refine Fin.many ⟨_, _, rfl, ⟨_, _, _, _, _, rfl, rfl, rfl, .inl ⟨tg_65.h, _, ts_65.h, nle rfl, rfl⟩⟩, ⟨_, _, rfl, rfl, rfl⟩⟩ (nle rfl) ?_
 exact CvL.cons (Cv.clo am_ (ai_ _ _)) (CvL.cons (Cv.clo am_ (ac_ _)) CvL.nil)
theorem fs_Divide (p q : List Rat) (h : okDiv p q) (h0 : trimQ q ≠ []) : FSpec Tryz.prog 28 [.arr (pE p), .arr (pE q)] (.tup [.arr (pE (divP p q).1), .arr (pE (divP p q).2), i64 0]) := by
 have hl := h.2.2
 refine FSpec.enter Tryz.func28 rfl (by kernel_rfl) rfl rfl rfl ?_ rfl ?_
 ·exact aa_ (ad_ p) (aa_ (ad_ q) ab_)
 refine r_z 3 ?_
 refine AWp.seq ?_
 refine r_c 3 (cc_ q (by omega)) ?_
 refine a_z ?_
 refine AWp.cond rfl (fun h1 => ?_) (fun h1 => ?_)
 ·exact absurd (degP_neg.1 (by simpa using h1)) h0
 refine AWp.skip ?_
 refine r_c 8 (in_ p q (mxL p) (mxL q) (dq_ p) (dq_ q) (cz_ p) (cz_ q) h.1 h0 h.2.1 h.2.2) ?_
 refine a_z ?_
 refine r_z 5 ?_
 refine AWp.ret ?_
 refine Fin.many ⟨_, _, rfl, rfl, ⟨_, _, rfl, rfl, ⟨_, _, rfl, rfl, rfl⟩⟩⟩ (nle rfl) ?_
 exact CvL.cons (Cv.clo am_ (ad_ _)) (CvL.cons (Cv.clo am_ (ad_ _)) (CvL.cons (Cv.clo am_ (ac_ _)) CvL.nil))
def idxF (t : Rat → Bool) : List Rat → Int → Int
 | [], _ => -1
 | a :: l, i => if t a then i else idxF t l (i + 1)
theorem idxF_any (t : Rat → Bool) : ∀ (l : List Rat) (i : Int), 0 ≤ i → (decide (0 ≤ idxF t l i)) = l.any t
 | [], i, _ => by simp [idxF]
 | a :: l, i, hi => by
  unfold idxF
  cases h : t a with
  | true => simp [h, hi]
  | false => simp [h]; rw [← idxF_any t l (i + 1) (by omega)]
def ixS (l : List Rat) (g : Nat) (cap : List AV) : Nat → AState
 | i => ⟨[(0, .arr (pE l)), (1, .clos g [] cap), (7, i64 l.length), (8, i64 i)], [], 1, 19⟩
theorem ixS_mk (l : List Rat) (g : Nat) (cap : List AV) (i : Nat) : ixS l g cap i = ⟨[(0, .arr (pE l)), (1, .clos g [] cap), (7, i64 l.length), (8, i64 i)], [], 1, 19⟩ := rfl
theorem vx_ (l : List Rat) (g : Nat) (cap : List AV) (t : Rat → Bool) (hcap : ∀ c ∈ cap, Closed c) (hl : l.length ≤ 1099511627776) (hg : ∀ q ∈ l, FSpec Tryz.prog g ((.agg (qC q) :: cap).map coe) (bln (t q))) : FSpec Tryz.prog 228 [.arr (pE l), .clos g [] cap] (i64 (idxF t l 0)) := by
 have hcc : Closed (.clos g [] cap) := af_ ab_ hcap
 refine FSpec.enter Tryz.func228 rfl (by kernel_rfl) rfl rfl rfl ?_ rfl ?_
 ·exact aa_ (ad_ l) (aa_ hcc ab_)
 obtain ⟨R, hR⟩ : ∃ R, R = idxF t l 0 := ⟨_, rfl⟩
 rw [← hR]
 refine r_z 1 ?_
 refine AWp.seq ?_
 refine r_z 3 ?_
 refine AWp.cutT (fun _ : Unit => ⟨[], [], 1, 19⟩) (fun _ => R = -1) ?_ ?_
 ·refine AWp.block ?_
  refine AWp.loopS (ixS l g cap) (fun i => l.length - i) (fun i => i ≤ l.length ∧ idxF t (l.drop i) i = R) 0 ⟨Nat.zero_le _, by rw [hR]; rfl⟩ ?_ ?_
  ·simp only [ixS_mk]
   refine SEnt.to [] rfl rfl rfl au_r (fun hs => ?_) (fun hs => ?_)
   ·repeat' (first | exact CvF.nil | refine CvF.cons rfl ?_ ?_)
    all_goals (first | (exact Cv.clo hs hcc) | exact au_c)
   ·repeat' (first | exact CvH.nil | refine CvH.cons rfl rfl rfl rfl ?_ ?_)
    all_goals (first | exact au_e | (refine CvLL.box ?_; repeat' (first | exact CvL.nil | refine CvL.cons ?_ ?_)))
    all_goals (first | (exact Cv.clo hs hcc) | exact au_c)
  rintro i ⟨hi, hr⟩
  rw [ixS_mk]
  refine r_z 1 ?_
  refine AWp.seq ?_
  refine AWp.cond rfl (fun h => ?_) (fun h => ?_)
  ·refine AWp.skip ?_
   have hlt : i < l.length := by simpa using h
   have hgt : (pE l)[((i : Nat) : Int).toNat]? = some (qC (coP l i)) := cv_ (bg_ hlt)
   rw [it_ hlt, idxF] at hr
   refine AWp.seq ?_
   refine AWp.block ?_
   refine r_z 2 ?_
   refine s_r 6 ?_
   refine a_3 ?_
   first | refine AR.op0 (.index_l rfl rfl (by omega) (by omega) te_24.h) rfl rfl ?_ | refine AR.op0 (.index_a rfl rfl (by omega) hgt rfl te_24.h) rfl rfl ?_
   first | refine AR.op0 (.load_l rfl rfl hgt tg_37.h ts_37.h (nle rfl)) rfl rfl ?_ | refine AR.op0 (.load_a rfl hgt tg_37.h ts_37.h (nle rfl)) rfl rfl ?_
   refine c_s (hg (coP l i) (List.mem_of_getElem? (bg_ hlt))) ?_
   refine AR.nil ?_
   refine AWp.cond rfl (fun h1 => ?_) (fun h1 => ?_)
   ·have h2 : t (coP l i) = true := h1
    rw [if_pos h2] at hr
    refine r_z 2 ?_
    refine AWp.ret ?_
    refine Fin.tmpE rfl ?_ ?_
    ·rw [← hr]
    ·exact ac_ _
   ·have h2 : ¬ t (coP l i) = true := by rw [show t (coP l i) = false from h1]; decide
    rw [if_neg h2] at hr
    refine AWp.skip ?_
    refine AWp.reg (m := 2) rfl ?_
    refine a_z ?_
    refine ⟨i + 1, by omega, ⟨hlt, hr⟩, ?_⟩
    simp only [ixS_mk]
    refine SEnt.to [] rfl rfl rfl au_r (fun hs => ?_) (fun hs => ?_)
    ·repeat' (first | exact CvF.nil | refine CvF.cons rfl ?_ ?_)
     all_goals (first | (exact Cv.clo hs hcc) | exact au_c)
    ·repeat' (first | exact CvH.nil | refine CvH.cons rfl rfl rfl rfl ?_ ?_)
     all_goals (first | exact au_e | (refine CvLL.box ?_; repeat' (first | exact CvL.nil | refine CvL.cons ?_ ?_)))
     all_goals (first | (exact Cv.clo hs hcc) | exact au_c)
  ·have hge : i = l.length := by
    have : ¬ i < l.length := by simpa using h
    omega
   subst hge
   rw [List.drop_length] at hr
   refine AWp.exit ⟨(), hr.symm, ?_⟩
   exact s_e []
 rintro _ hr
 refine r_z 1 ?_
 refine AWp.ret ?_
 refine Fin.tmpE rfl ?_ ?_
 ·rw [hr]; rfl
 ·exact ac_ _
theorem iq_ (l : List Rat) (g : Nat) (cap : List AV) (t : Rat → Bool) (hcap : ∀ c ∈ cap, Closed c) (hl : l.length ≤ 1099511627776) (hg : ∀ q ∈ l, FSpec Tryz.prog g ((.agg (qC q) :: cap).map coe) (bln (t q))) (hcap2 : cap.map coe = cap) : FSpec Tryz.prog 162 [.arr (pE l), .clos g [] cap] (bln (l.any t)) := by
 have hcc : Closed (.clos g [] cap) := af_ ab_ hcap
 have e := idxF_any t l 0 (Int.le_refl 0)
 refine FSpec.enter Tryz.func162 rfl (by kernel_rfl) rfl rfl rfl ?_ rfl ?_
 ·exact aa_ (ad_ l) (aa_ hcc ab_)
 refine r_z 1 ?_
 refine r_c 5 (vx_ l g cap t hcap hl hg) ?_
 refine a_z ?_
 refine AWp.ret ?_
 refine Fin.tmpE rfl ?_ ?_
 ·rw [← e]; rfl
 ·exact ac_ _
theorem ip_ (a b : Rat) (ha : sm a) (hb : sm b) : FSpec Tryz.prog 163 [.agg (qC b), bQ a] (bln (decide (a = b))) := by
 have e : (cmpQ a b == (0 : Int)) = decide (a = b) := by
  unfold cmpQ
  by_cases h : a = b
  ·subst h; simp [Rat.lt_irrefl]
  ·by_cases h1 : a < b
   ·simp [h, h1]
   ·simp [h, h1]
 refine FSpec.enter Tryz.func163 rfl (by kernel_rfl) rfl rfl rfl ?_ rfl ?_
 ·exact aa_ (ae_ b) (aa_ (as_ a) ab_)
 refine r_z 2 ?_
 refine r_c 5 (ru_ a b ha hb) ?_
 refine a_z ?_
 refine AWp.ret ?_
 refine Fin.tmpE rfl ?_ ?_
 ·rw [← e]; rfl
 ·exact ac_ _
def inS (p : List Rat) (v : List Rat) : Nat → AState
 | i => ⟨[(0, .arr (pE p)), (1, .arr (pE v)), (23, .arr (pE p)), (24, i64 p.length), (25, i64 i)], [], 1, 69⟩
theorem ro_ (p : List Rat) (v : List Rat) (i : Nat) : inS p v i = ⟨[(0, .arr (pE p)), (1, .arr (pE v)), (23, .arr (pE p)), (24, i64 p.length), (25, i64 i)], [], 1, 69⟩ := rfl
def inT (p : List Rat) (v : List Rat) : Nat × List Rat × List Rat → AState
 | (i, out, zeros) => ⟨[(1, .arr (pE v)), (8, .arr (pE out)), (9, .arr (pE zeros)), (38, .arr (pE p)), (39, i64 p.length), (40, i64 i)], [], 1, 69⟩
theorem inT_mk (p : List Rat) (v : List Rat) (i : Nat) (out : List Rat) (zeros : List Rat) : inT p v (i, out, zeros) = ⟨[(1, .arr (pE v)), (8, .arr (pE out)), (9, .arr (pE zeros)), (38, .arr (pE p)), (39, i64 p.length), (40, i64 i)], [], 1, 69⟩ := rfl
theorem qt_ (p v r : List Rat) (hl : p.length = v.length) (hl2 : p.length ≤ 41) (hp : smL p) (htw : ej_ [] p = false) (h : intM p v [] (ew_ 1) = some r) : FSpec Tryz.prog 81 [.arr (pE p), .arr (pE v)] (.tup [.arr (pE r), i64 0]) := by
 refine FSpec.enter Tryz.func81 rfl (by kernel_rfl) rfl rfl rfl ?_ rfl ?_
 ·exact aa_ (ad_ p) (aa_ (ad_ v) ab_)
 refine r_z 2 ?_
 refine AWp.cut (fun _ : Unit => ⟨[(0, .arr (pE p)), (1, .arr (pE v))], [], 1, 69⟩) (fun _ => True) ?_ ?_
 ·refine AWp.block ?_
  refine r_z 6 ?_
  refine AWp.cond rfl (fun h1 => ?_) (fun h1 => ?_)
  ·exact absurd h1 (by simp [hl])
  refine r_z 4 ?_
  refine AWp.cond rfl (fun h2 => ?_) (fun h2 => ?_)
  ·exact absurd h2 (by simp; omega)
  refine AWp.skip ⟨(), trivial, ?_⟩
  exact s_e []
 rintro _ _
 refine AWp.seq ?_
 refine r_z 3 ?_
 refine AWp.cutT (fun _ : Unit => ⟨[(0, .arr (pE p)), (1, .arr (pE v))], [], 1, 69⟩) (fun _ => True) ?_ ?_
 ·refine AWp.block ?_
  refine AWp.loopS (inS p v) (fun i => p.length - i) (fun i => i ≤ p.length ∧ ej_ (p.take i) (p.drop i) = false) 0 ⟨Nat.zero_le _, htw⟩ ?_ ?_
  ·simp only [ro_]
   exact s_e []
  rintro i ⟨hi, ht⟩
  rw [ro_]
  refine r_z 1 ?_
  refine AWp.seq ?_
  refine AWp.cond rfl (fun h => ?_) (fun h => ?_)
  ·refine AWp.skip ?_
   have hlt : i < p.length := by simpa using h
   have hgt : (pE p)[((i : Nat) : Int).toNat]? = some (qC (coP p i)) := cv_ (bg_ hlt)
   rw [it_ hlt, ej_, Bool.or_eq_false_iff] at ht
   obtain ⟨ht1, ht2⟩ := ht
   have hco := iq_ (p.take i) 163 [bQ (coP p i)] (fun b => decide (coP p i = b)) (aa_ (as_ _) ab_) (by simp; omega) (fun q hq => ip_ (coP p i) q (qi_ hp i) (hp q (List.mem_of_mem_take hq))) rfl
   rw [ht1] at hco
   refine AWp.seq ?_
   refine AWp.block ?_
   refine s_r 6 ?_
   refine a_1 ?_
   first | refine AR.op0 (.index_l rfl rfl (by omega) (by omega) te_24.h) rfl rfl ?_ | refine AR.op0 (.index_a rfl rfl (by omega) hgt rfl te_24.h) rfl rfl ?_
   first | refine AR.op0 (.load_l rfl rfl hgt tg_37.h ts_37.h (nle rfl)) rfl rfl ?_ | refine AR.op0 (.load_a rfl hgt tg_37.h ts_37.h (nle rfl)) rfl rfl ?_
   refine a_z ?_
   refine AWp.ent (st' := ⟨[(0, .arr (pE p)), (1, .arr (pE v)), (6, i64 i), (7, bQ (coP p i)), (23, .arr (pE p)), (24, i64 p.length), (25, i64 i)], [], 1, 69⟩) ?_ ?_
   ·exact s_e []
   refine s_r 5 ?_
   refine a_2 ?_
   refine o_0 (.sa_h rfl rfl (h := i) rfl (by simp; omega) te_24.h (hh_ _)) ?_
   refine o_0 (.makeFunc rfl rfl) ?_
   refine o_0 (.call rfl rfl rfl ((by rw [kw_]; exact hco))) ?_
   refine AR.nil ?_
   refine AWp.cond rfl (fun h1 => ?_) (fun h1 => ?_)
   ·cases h1
   refine AWp.skip ?_
   refine AWp.reg (m := 2) rfl ?_
   refine a_z ?_
   refine ⟨i + 1, by omega, ⟨hlt, by rw [cw_ (bg_ hlt)]; exact ht2⟩, ?_⟩
   simp only [ro_]
   exact s_e []
  ·refine AWp.exit ⟨(), trivial, ?_⟩
   exact s_e []
 rintro _ _
 refine r_c 4 (dw_ 1 (by decide)) ?_
 refine c_s (la_ 1) ?_
 refine a_z ?_
 refine AWp.seq ?_
 refine r_z 3 ?_
 refine AWp.cutT (fun _ : Unit => ⟨[(8, .arr (pE r))], [], 1, 69⟩) (fun _ => True) ?_ ?_
 ·refine AWp.block ?_
  refine AWp.loopS (inT p v) (fun x => p.length - x.1) (fun x => x.1 ≤ p.length ∧ intM (p.drop x.1) (v.drop x.1) x.2.1 x.2.2 = some r) (0, [], ew_ 1) ⟨Nat.zero_le _, h⟩ ?_ ?_
  ·simp only [inT_mk]
   exact s_e []
  rintro ⟨i, out, zeros⟩ ⟨hi, hm⟩
  simp only at hi hm
  rw [inT_mk]
  refine r_z 1 ?_
  refine AWp.seq ?_
  refine AWp.cond rfl (fun h => ?_) (fun h => ?_)
  ·refine AWp.skip ?_
   have hlt : i < p.length := by simpa using h
   have hgp : (pE p)[((i : Nat) : Int).toNat]? = some (qC (coP p i)) := cv_ (bg_ hlt)
   have hgv : (pE v)[((i : Nat) : Int).toNat]? = some (qC (coP v i)) := cv_ (bg_ (by omega))
   rw [it_ hlt, it_ (show i < v.length by omega), intM] at hm
   split at hm
   case isFalse => cases hm
   case isTrue hk =>
   obtain ⟨k1, k2, k3, k4, k5, k6, k7, k8, k9, k10, k11⟩ := hk
   have e1 := oe_ k3
   have e2 := oe_ k4
   have e3 := vb_ (coP v i) (evalP out (coP p i))
   have hsl := cg_ zeros (inK (coP p i) (coP v i) out zeros)
   have hz := k10.2.2.1
   refine AWp.seq ?_
   refine AWp.block ?_
   refine s_r 6 ?_
   refine a_1 ?_
   first | refine AR.op0 (.index_l rfl rfl (by omega) (by omega) te_24.h) rfl rfl ?_ | refine AR.op0 (.index_a rfl rfl (by omega) hgp rfl te_24.h) rfl rfl ?_
   first | refine AR.op0 (.load_l rfl rfl hgp tg_37.h ts_37.h (nle rfl)) rfl rfl ?_ | refine AR.op0 (.load_a rfl hgp tg_37.h ts_37.h (nle rfl)) rfl rfl ?_
   refine a_z ?_
   refine AWp.seq ?_
   refine AWp.regD hmix (m := 14) rfl ?_
   refine a_2 ?_
   first | refine AR.op0 (.index_l rfl rfl (by omega) (by omega) te_24.h) rfl rfl ?_ | refine AR.op0 (.index_a rfl rfl (by omega) hgv rfl te_24.h) rfl rfl ?_
   first | refine AR.op0 (.load_l rfl rfl hgv tg_37.h ts_37.h (nle rfl)) rfl rfl ?_ | refine AR.op0 (.load_a rfl hgv tg_37.h ts_37.h (nle rfl)) rfl rfl ?_
   refine c_s (ld_ out (coP p i) k3) ?_
   refine c_s (rq_ (coP v i) (evalP out (coP p i)) (sm2 k2 e1)) ?_
   refine c_s (ld_ zeros (coP p i) k4) ?_
   refine c_s (fh_ (coP v i - evalP out (coP p i)) (evalP zeros (coP p i)) k5 (by unfold sm at e1 e2 k2; omega)) ?_
   refine a_2 ?_
   refine AR.nil ⟨by kernel_rfl, ?_⟩
   refine r_c 6 (hk_ zeros (inK (coP p i) (coP v i) out zeros) k8 k6 (by omega)) ?_
   refine c_s (fs_Add out (bp_ zeros (inK (coP p i) (coP v i) out zeros)) k7 k9 (by omega) (by omega)) ?_
   refine a_z ?_
   refine AWp.reg (m := 6) rfl ?_
   refine c_s (pq_ (coP p i)) ?_
   refine c_s (fs_line (-coP p i)) ?_
   refine c_s (fs_Mul zeros [-coP p i, 1] (mxL zeros) (mxL [-coP p i, 1]) (dq_ _) (dq_ _) (cz_ _) (cz_ _) k10.1 k10.2.1 k10.2.2.1 k10.2.2.2) ?_
   refine a_z ?_
   refine AWp.reg (m := 2) rfl ?_
   refine a_z ?_
   refine ⟨(i + 1, _, _), by simp only; omega, ⟨hlt, hm⟩, ?_⟩
   simp only [inT_mk]
   exact s_e []
  ·have hge : i = p.length := by
    have : ¬ i < p.length := by simpa using h
    omega
   subst hge
   rw [List.drop_length, intM] at hm
   cases hm
   refine AWp.exit ⟨(), trivial, ?_⟩
   exact s_e []
 rintro _ _
 refine r_z 3 ?_
 refine AWp.ret ?_
 refine Fin.many ⟨_, _, rfl, rfl, ⟨_, _, rfl, rfl, rfl⟩⟩ (nle rfl) ?_
 exact CvL.cons (Cv.clo am_ (ad_ _)) (CvL.cons (Cv.clo am_ (ac_ _)) CvL.nil)
end Go.Proofs.YtdhedjbmdnnbkaaGreatDoor
