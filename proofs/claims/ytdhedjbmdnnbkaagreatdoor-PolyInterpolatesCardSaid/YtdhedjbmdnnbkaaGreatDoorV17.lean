/- Part V17 of the proof. -/
import Derived.Test.YtdhedjbmdnnbkaaGreatDoorV16
set_option linter.all false
namespace Go.Proofs.YtdhedjbmdnnbkaaGreatDoor
open Go.Abs
set_option maxRecDepth 20000
set_option maxHeartbeats 2000000
def raS  : Rat × Rat × Nat → AState
 | (out, a, n) => ⟨[(1, i64 n), (2, .lptr 1 0 0), (4, .lptr 2 0 0), (5, .lptr 3 0 0)], [(1, some ⟨37, 3, [qC a]⟩), (2, some ⟨37, 3, [zC]⟩), (3, some ⟨37, 3, [qC out]⟩)], 4, 21⟩
theorem rf_  (out : Rat) (a : Rat) (n : Nat) : raS  (out, a, n) = ⟨[(1, i64 n), (2, .lptr 1 0 0), (4, .lptr 2 0 0), (5, .lptr 3 0 0)], [(1, some ⟨37, 3, [qC a]⟩), (2, some ⟨37, 3, [zC]⟩), (3, some ⟨37, 3, [qC out]⟩)], 4, 21⟩ := rfl
theorem vq_ (a r : Rat) (n : Nat) (h : raiM 64 1 a n = some r) (hn : n ≤ 1099511627776) : FSpec Tryz.prog 90 [.agg (qC a), i64 n] (.agg (qC r)) := by
 refine FSpec.enter Tryz.func90 rfl (by kernel_rfl) rfl rfl rfl ?_ rfl ?_
 ·exact aa_ (ae_ a) (aa_ (ac_ _) ab_)
 refine r_z 2 ?_
 refine r_c 3 (dw_ 1 (by decide)) ?_
 refine a_z ?_
 refine AWp.cut (fun a : Rat => raS (r, a, 0)) (fun _ => True) ?_ ?_
 ·refine AWp.block ?_
  refine AWp.loopS (fun x : Nat × Rat × Rat × Nat => raS (x.2.1, x.2.2.1, x.2.2.2)) (fun x => x.1) (fun x => raiM x.1 x.2.1 x.2.2.1 x.2.2.2 = some r ∧ x.2.2.2 ≤ 1099511627776) (64, 1, a, n) ⟨h, hn⟩ ?_ ?_
  ·simp only [rf_]
   exact s_e [(2, 4), (3, 5)]
  rintro ⟨f, out, a, n⟩ ⟨h, hn⟩
  simp only at h hn
  simp only [rf_]
  cases f with
  | zero => cases h
  | succ f =>
   rw [raiM] at h
   refine AWp.seq ?_
   refine r_z 2 ?_
   refine AWp.cond rfl (fun h1 => ?_) (fun h1 => ?_)
   ·have hn0 : n ≠ 0 := by simp at h1; omega
    rw [if_neg hn0] at h
    split at h
    case isFalse => cases h
    case isTrue hs =>
    refine AWp.skip ?_
    refine AWp.seq ?_
    refine AWp.block ?_
    refine AWp.seq ?_
    refine r_z 3 ?_
    have h2i : (n : Int) / 2 = ((n / 2 : Nat) : Int) := by omega
    refine AWp.cond rfl (fun h2 => ?_) (fun h2 => ?_)
    ·have ho : n % 2 = 1 := by
      have : (n : Int) % 2 = 1 := by simpa using h2
      omega
     rw [if_pos ho] at h
     refine AWp.reg (m := 4) rfl ?_
     refine c_s (do_ out a hs.1) ?_
     refine a_z ?_
     refine AWp.reg (m := 4) rfl ?_
     refine c_s (do_ a a hs.2) ?_
     refine a_z ?_
     refine AWp.reg (m := 3) rfl ?_
     refine a_z ?_
     refine ⟨(f, out * a, a * a, n / 2), Nat.lt_succ_self f, ⟨h, by simp only; omega⟩, ?_⟩
     simp only [rf_]
     rw [h2i]
     exact s_e []
    ·have ho : ¬ n % 2 = 1 := by
      have : ¬ (n : Int) % 2 = 1 := by simpa using h2
      omega
     rw [if_neg ho] at h
     refine AWp.skip ?_
     refine AWp.reg (m := 4) rfl ?_
     refine c_s (do_ a a hs.2) ?_
     refine a_z ?_
     refine AWp.reg (m := 3) rfl ?_
     refine a_z ?_
     refine ⟨(f, out, a * a, n / 2), Nat.lt_succ_self f, ⟨h, by simp only; omega⟩, ?_⟩
     simp only [rf_]
     rw [h2i]
     exact s_e []
   ·have hn0 : n = 0 := by simp at h1; omega
    subst hn0
    rw [if_pos rfl] at h
    cases h
    refine AWp.exit ⟨a, trivial, ?_⟩
    simp only [rf_]
    exact s_e []
 rintro b _
 simp only [rf_]
 refine r_z 2 ?_
 refine AWp.ret ?_
 refine Fin.cellE rfl rfl rfl tg_37.h ts_37.h (nle rfl) ?_ ?_
 ·rfl
 ·exact ae_ _
def gcS  : List Rat × List Rat → AState
 | (p, q) => ⟨[(0, .arr (pE p)), (1, .arr (pE q))], [], 1, 21⟩
theorem gcS_mk  (p : List Rat) (q : List Rat) : gcS  (p, q) = ⟨[(0, .arr (pE p)), (1, .arr (pE q))], [], 1, 21⟩ := rfl
theorem degP_neg {l : List Rat} : degP l < 0 ↔ trimQ l = [] := by
 unfold degP
 constructor
 ·intro h; exact List.length_eq_zero_iff.1 (by omega)
 ·intro h; rw [h]; decide
theorem fs_Gcd (f : Nat) (p q g : List Rat) (h : gcdM f p q = some g) (hp1 : p.length ≤ 274877906944) (hq1 : q.length ≤ 274877906944) : FSpec Tryz.prog 19 [.arr (pE p), .arr (pE q)] (.arr (pE g)) := by
 refine FSpec.enter Tryz.func19 rfl (by kernel_rfl) rfl rfl rfl ?_ rfl ?_
 ·exact aa_ (ad_ p) (aa_ (ad_ q) ab_)
 refine r_z 1 ?_
 refine AWp.cut (fun p : List Rat => ⟨[(0, .arr (pE p))], [], 1, 21⟩) (fun p => smL p ∧ p.length ≤ 274877906944 ∧ g = jv_ p) ?_ ?_
 ·refine AWp.block ?_
  refine AWp.loopS (fun x : Nat × List Rat × List Rat => gcS x.2) (fun x => x.1) (fun x => gcdM x.1 x.2.1 x.2.2 = some g ∧ x.2.1.length ≤ 274877906944 ∧ x.2.2.length ≤ 274877906944) (f, p, q) ⟨h, hp1, hq1⟩ ?_ ?_
  ·simp only [gcS_mk]
   exact s_e []
  rintro ⟨f, p, q⟩ ⟨h, hp1, hq1⟩
  simp only at h hp1 hq1
  simp only [gcS_mk]
  cases f with
  | zero => cases h
  | succ f =>
   rw [gcdM] at h
   refine AWp.seq ?_
   refine r_c 3 (cc_ q (by omega)) ?_
   refine a_z ?_
   refine AWp.cond rfl (fun h1 => ?_) (fun h1 => ?_)
   ·have hq0 : trimQ q ≠ [] := by
     intro e
     have e2 := degP_neg.2 e
     simp at h1; omega
    rw [if_neg hq0] at h
    split at h
    case isFalse => cases h
    case isTrue hs =>
    have hl := of_ (p := p) (q := q)
    have hm := monicP_len (divP p q).2
    refine AWp.skip ?_
    refine AWp.block ?_
    refine r_c 8 (in_ p q (mxL p) (mxL q) (dq_ p) (dq_ q) (cz_ p) (cz_ q) hs.1 hq0 hp1 hq1) ?_
    refine a_z ?_
    refine AWp.reg (m := 5) rfl ?_
    refine c_s (td_ (divP p q).2 (yh_ hs hq0).2 (by omega)) ?_
    refine a_z ?_
    refine ⟨(f, q, jv_ (divP p q).2), Nat.lt_succ_self f, ⟨h, hq1, by simp only; omega⟩, ?_⟩
    simp only [gcS_mk]
    exact s_e []
   ·have hq0 : trimQ q = [] := by
     refine degP_neg.1 ?_
     simp at h1; omega
    rw [if_pos hq0] at h
    split at h
    case isFalse => cases h
    case isTrue hs =>
    cases h
    refine AWp.exit ⟨p, ⟨hs, hp1, rfl⟩, ?_⟩
    exact s_e []
 rintro p ⟨hs, hp1, rfl⟩
 refine r_c 3 (td_ p hs (by omega)) ?_
 refine a_z ?_
 refine AWp.ret ?_
 refine Fin.tmpE rfl ?_ ?_
 ·rfl
 ·exact ad_ _
def reS  : Rat × List Rat × List Rat → AState
 | (out, p, q) => ⟨[(0, .arr (pE p)), (1, .arr (pE q)), (4, .lptr 1 0 0), (5, .lptr 2 0 0)], [(1, some ⟨37, 3, [zC]⟩), (2, some ⟨37, 3, [qC out]⟩)], 3, 81⟩
theorem nb_  (out : Rat) (p : List Rat) (q : List Rat) : reS  (out, p, q) = ⟨[(0, .arr (pE p)), (1, .arr (pE q)), (4, .lptr 1 0 0), (5, .lptr 2 0 0)], [(1, some ⟨37, 3, [zC]⟩), (2, some ⟨37, 3, [qC out]⟩)], 3, 81⟩ := rfl
theorem tm_ (l : List Rat) : degP l ≤ l.length := by
 have := bm_ l
 unfold degP; omega
theorem divP_deg {p q : List Rat} : degP (divP p q).2 ≤ degP p := by
 have h1 := gh_ (trimQ q) (leadP q) ((trimQ p).length + 1 - (trimQ q).length) (List.replicate ((trimQ p).length + 1 - (trimQ q).length) 0) (trimQ p)
 have h4 := bm_ (divR (trimQ q) (leadP q) ((trimQ p).length + 1 - (trimQ q).length) (List.replicate ((trimQ p).length + 1 - (trimQ q).length) 0) (trimQ p)).2
 rw [h1.2] at h4
 unfold degP divP
 simp only [ek_]
 omega
theorem vw_ (f : Nat) (p q : List Rat) (r : Rat) (h : resM f 1 p q = some r) : FSpec Tryz.prog 17 [.arr (pE p), .arr (pE q)] (.agg (qC r)) := by
 refine FSpec.enter Tryz.func17 rfl (by kernel_rfl) rfl rfl rfl ?_ rfl ?_
 ·exact aa_ (ad_ p) (aa_ (ad_ q) ab_)
 refine r_z 1 ?_
 refine r_c 3 (dw_ 1 (by decide)) ?_
 refine a_z ?_
 refine AWp.block ?_
 refine AWp.loopS (fun x : Nat × Rat × List Rat × List Rat => reS x.2) (fun x => x.1) (fun x => resM x.1 x.2.1 x.2.2.1 x.2.2.2 = some r) (f, 1, p, q) h ?_ ?_
 ·simp only [nb_]
  exact s_e [(2, 5)]
 rintro ⟨f, out, p, q⟩ h
 simp only at h
 simp only [nb_]
 cases f with
 | zero => cases h
 | succ f =>
  rw [resM] at h
  split at h
  case isFalse => cases h
  case isTrue hl =>
  have hdp := tm_ p
  have hdq := tm_ q
  refine AWp.block ?_
  refine r_c 6 (cc_ p (by omega)) ?_
  refine c_s (cc_ q (by omega)) ?_
  refine a_z ?_
  refine AWp.cut (fun _ : Unit => ⟨[(0, .arr (pE p)), (1, .arr (pE q)), (4, .lptr 1 0 0), (5, .lptr 2 0 0), (6, i64 (degP p)), (7, i64 (degP q))], [(1, some ⟨37, 3, [zC]⟩), (2, some ⟨37, 3, [qC out]⟩)], 3, 81⟩) (fun _ => ¬ (degP p < 0 ∨ degP q < 0) ∧ ¬ degP q = 0 ∧ ¬ degP p < degP q) ?_ ?_
  ·refine AWp.block ?_
   by_cases hm1 : degP p < 0
   ·rw [if_pos (.inl hm1)] at h
    cases h
    refine s_r 7 ?_
    refine a_3 ?_
    refine AR.opN rfl rfl (gn (by simp [hm1])) rfl rfl ?_
    refine AR.opN rfl rfl (gn (by simp [hm1])) rfl rfl ?_
    refine o_0 (.pickT rfl (by simp [hm1]) rfl) ?_
    refine a_z ?_
    refine AWp.cond rfl (fun h1 => ?_) (fun h1 => ?_)
    ·refine r_z 2 ?_
     refine AWp.ret ?_
     refine Fin.cell rfl rfl rfl tg_37.h ts_37.h (nle rfl) (Cv.agg ?_)
     rw [qC0]
     exact CvL.cons (Cv.emp _) (CvL.cons (Cv.clo am_ (ac_ _)) (CvL.cons (Cv.emp _) CvL.nil))
    ·cases h1
   by_cases hn1 : degP q < 0
   ·rw [if_pos (.inr hn1)] at h
    cases h
    refine s_r 7 ?_
    refine a_3 ?_
    refine AR.op0y rfl rfl (gy (by simp [hm1])) (.move rfl) rfl rfl ?_
    refine AR.op0y rfl rfl (gy (by simp [hm1])) (.bin rfl rfl ey_) rfl rfl ?_
    refine o_0 (.pickF rfl (by simp [hm1]) rfl) ?_
    refine a_z ?_
    refine AWp.cond rfl (fun h1 => ?_) (fun h1 => ?_)
    ·refine r_z 2 ?_
     refine AWp.ret ?_
     refine Fin.cell rfl rfl rfl tg_37.h ts_37.h (nle rfl) (Cv.agg ?_)
     rw [qC0]
     exact CvL.cons (Cv.emp _) (CvL.cons (Cv.clo am_ (ac_ _)) (CvL.cons (Cv.emp _) CvL.nil))
    ·exact absurd h1 (by simp [hn1])
   have hmn : ¬ (degP p < 0 ∨ degP q < 0) := fun e => e.elim hm1 hn1
   rw [if_neg hmn] at h
   refine s_r 7 ?_
   refine a_3 ?_
   refine AR.op0y rfl rfl (gy (by simp [hm1])) (.move rfl) rfl rfl ?_
   refine AR.op0y rfl rfl (gy (by simp [hm1])) (.bin rfl rfl ey_) rfl rfl ?_
   refine o_0 (.pickF rfl (by simp [hm1]) rfl) ?_
   refine a_z ?_
   refine AWp.cond rfl (fun h1 => ?_) (fun h1 => ?_)
   ·exact absurd h1 (by simp [hn1])
   refine r_z 3 ?_
   refine AWp.cond rfl (fun h2 => ?_) (fun h2 => ?_)
   ·have hn0 : degP q = 0 := by simpa using h2
    rw [if_pos hn0] at h
    obtain ⟨x, hx, hy⟩ := Option.bind_eq_some_iff.1 h
    unfold mulC at hy
    split at hy
    case isFalse => cases hy
    case isTrue hsz =>
    cases hy
    have hra := vq_ (leadP q) x (degP p).toNat hx (by omega)
    rw [Int.toNat_of_nonneg (by omega)] at hra
    refine AWp.seq ?_
    refine AWp.regD hmix (m := 7) rfl ?_
    refine c_s (io_ q (by omega)) ?_
    refine c_s (hra) ?_
    refine c_s (do_ out x hsz) ?_
    refine a_1 ?_
    refine AR.nil ⟨by kernel_rfl, ?_⟩
    refine AWp.ret ?_
    refine Fin.cellE rfl rfl rfl tg_37.h ts_37.h (nle rfl) ?_ ?_
    ·rfl
    ·exact ae_ _
   have hn0 : ¬ degP q = 0 := by simpa using h2
   rw [if_neg hn0] at h
   refine r_z 4 ?_
   refine AWp.cond rfl (fun h3 => ?_) (fun h3 => ?_)
   ·have hlt : degP p < degP q := by simpa using h3
    rw [if_pos hlt] at h
    refine AWp.cut (fun o : Rat => reS (o, p, q)) (fun o => o = if degP p % 2 = 1 ∧ degP q % 2 = 1 then -out else out) ?_ ?_
    ·by_cases ho1 : degP p % 2 = 1
     ·refine s_r 8 ?_
      refine a_4 ?_
      refine AR.op0y rfl rfl (gy (by simp [ho1])) (.move rfl) rfl rfl ?_
      refine AR.op0y rfl rfl (gy (by simp [ho1])) (.bin rfl rfl (tv_ (by omega))) rfl rfl ?_
      refine AR.op0y rfl rfl (gy (by simp [ho1])) (.bin rfl rfl bo_) rfl rfl ?_
      refine o_0 (.pickT rfl (by simp [ho1]) rfl) ?_
      refine AR.nil ?_
      refine AWp.cond rfl (fun h4 => ?_) (fun h4 => ?_)
      ·have ho2 : degP q % 2 = 1 := by simpa using h4
       refine AWp.reg (m := 3) rfl ?_
       refine c_s (pq_ out) ?_
       refine a_z ?_
       refine ⟨-out, by rw [if_pos ⟨ho1, ho2⟩], ?_⟩
       simp only [nb_]
       exact s_e []
      ·have ho2 : ¬ degP q % 2 = 1 := by simpa using h4
       refine AWp.skip ⟨out, by rw [if_neg fun e => ho2 e.2], ?_⟩
       simp only [nb_]
       exact s_e []
     ·refine s_r 8 ?_
      refine a_4 ?_
      refine AR.opN rfl rfl (gn (by simp [ho1])) rfl rfl ?_
      refine AR.opN rfl rfl (gn (by simp [ho1])) rfl rfl ?_
      refine AR.opN rfl rfl (gn (by simp [ho1])) rfl rfl ?_
      refine o_0 (.pickF rfl (by simp [ho1]) rfl) ?_
      refine AR.nil ?_
      refine AWp.cond rfl (fun h4 => ?_) (fun h4 => ?_)
      ·cases h4
      ·refine AWp.skip ⟨out, by rw [if_neg fun e => ho1 e.1], ?_⟩
       simp only [nb_]
       exact s_e []
    rintro o rfl
    simp only [nb_]
    refine r_z 4 ?_
    refine AWp.exit ?_
    refine ⟨(f, _, q, p), Nat.lt_succ_self f, h, ?_⟩
    simp only [nb_]
    exact s_e []
   ·have hlt : ¬ degP p < degP q := by simpa using h3
    refine AWp.skip ⟨(), ⟨hmn, hn0, hlt⟩, ?_⟩
    exact s_e []
  rintro _ ⟨hm, hn0, hmn⟩
  rw [if_neg hm, if_neg hn0, if_neg hmn] at h
  split at h
  case isFalse => cases h
  case isTrue hs =>
  have hq0 : trimQ q ≠ [] := fun e => hm (.inr (degP_neg.2 e))
  have hl2 := of_ (p := p) (q := q)
  have hdr := tm_ (divP p q).2
  refine r_c 8 (in_ p q (mxL p) (mxL q) (dq_ p) (dq_ q) (cz_ p) (cz_ q) hs.1 hq0 hl.1 hl.2) ?_
  refine a_z ?_
  refine r_c 3 (cc_ (divP p q).2 (by omega)) ?_
  refine a_z ?_
  refine AWp.seq ?_
  refine r_z 2 ?_
  refine AWp.cond rfl (fun h1 => ?_) (fun h1 => ?_)
  ·have h0 : degP (divP p q).2 < 0 := by simpa using h1
   rw [if_pos h0] at h
   cases h
   refine r_z 2 ?_
   refine AWp.ret ?_
   refine Fin.cell rfl rfl rfl tg_37.h ts_37.h (nle rfl) (Cv.agg ?_)
   rw [qC0]
   exact CvL.cons (Cv.emp _) (CvL.cons (Cv.clo am_ (ac_ _)) (CvL.cons (Cv.emp _) CvL.nil))
  have h0 : ¬ degP (divP p q).2 < 0 := by simpa using h1
  rw [if_neg h0] at h
  obtain ⟨x, hx, hy⟩ := Option.bind_eq_some_iff.1 h
  obtain ⟨y, hy1, hy2⟩ := Option.bind_eq_some_iff.1 hy
  unfold mulC at hy1
  split at hy1
  case isFalse => cases hy1
  case isTrue hsz =>
  cases hy1
  have hdl := divP_deg (p := p) (q := q)
  have hra := vq_ (leadP q) x (degP p - degP (divP p q).2).toNat hx (by omega)
  rw [Int.toNat_of_nonneg (by omega)] at hra
  refine AWp.skip ?_
  refine AWp.seq ?_
  refine AWp.regD hmix (m := 9) rfl ?_
  refine c_s (io_ q (by omega)) ?_
  refine c_s (hra) ?_
  refine c_s (do_ out x hsz) ?_
  refine a_1 ?_
  refine AR.nil ⟨by kernel_rfl, ?_⟩
  refine AWp.cut (fun o : Rat => ⟨[(1, .arr (pE q)), (4, .lptr 1 0 0), (5, .lptr 2 0 0), (9, .arr (pE (divP p q).2))], [(1, some ⟨37, 3, [zC]⟩), (2, some ⟨37, 3, [qC o]⟩)], 3, 81⟩) (fun o => o = if (degP p - degP (divP p q).2) % 2 = 1 ∧ degP q % 2 = 1 then -(out * x) else out * x) ?_ ?_
  ·by_cases ho1 : (degP p - degP (divP p q).2) % 2 = 1
   ·refine s_r 10 ?_
    refine a_6 ?_
    refine AR.op0y rfl rfl (gy (by simp [ho1])) (.move rfl) rfl rfl ?_
    refine AR.op0y rfl rfl (gy (by simp [ho1])) (.bin rfl rfl (tv_ (by omega))) rfl rfl ?_
    refine AR.op0y rfl rfl (gy (by simp [ho1])) (.bin rfl rfl bo_) rfl rfl ?_
    refine o_0 (.pickT rfl (by simp [ho1]) rfl) ?_
    refine AR.nil ?_
    refine AWp.cond rfl (fun h4 => ?_) (fun h4 => ?_)
    ·have ho2 : degP q % 2 = 1 := by simpa using h4
     refine AWp.reg (m := 3) rfl ?_
     refine c_s (pq_ (out * x)) ?_
     refine a_z ?_
     refine ⟨-(out * x), by rw [if_pos ⟨ho1, ho2⟩], ?_⟩
     exact s_e []
    ·have ho2 : ¬ degP q % 2 = 1 := by simpa using h4
     refine AWp.skip ⟨out * x, by rw [if_neg fun e => ho2 e.2], ?_⟩
     exact s_e []
   ·refine s_r 10 ?_
    refine a_6 ?_
    refine AR.opN rfl rfl (gn (by simp [ho1])) rfl rfl ?_
    refine AR.opN rfl rfl (gn (by simp [ho1])) rfl rfl ?_
    refine AR.opN rfl rfl (gn (by simp [ho1])) rfl rfl ?_
    refine o_0 (.pickF rfl (by simp [ho1]) rfl) ?_
    refine AR.nil ?_
    refine AWp.cond rfl (fun h4 => ?_) (fun h4 => ?_)
    ·cases h4
    ·refine AWp.skip ⟨out * x, by rw [if_neg fun e => ho1 e.1], ?_⟩
     exact s_e []
  rintro o rfl
  refine AWp.reg (m := 2) rfl ?_
  refine a_z ?_
  refine ⟨(f, _, (divP p q).2, q), Nat.lt_succ_self f, hy2, ?_⟩
  simp only [nb_]
  exact s_e []
theorem lv_ (l : List Rat) (hl : l.length ≤ 281474976710656) : GSpec Tryz.prog 257 [bP l] (backP l) := by
 refine GSpec.enter Tryz.func257 rfl (by kernel_rfl) rfl rfl rfl ?_ ?_ rfl ?_
 ·exact aa_ (ak_ l) ab_
 ·intro k xs h
  unfold backP at h
  split at h
  ·cases h; exact aa_ (ac_ _) (aa_ (ae_ _) ab_)
  ·cases h
 intro ll N E
 refine GWp.seq ?_
 refine GWp.lift ?_
 refine AWp.reg (m := 4) rfl ?_
 refine a_z ?_
 refine GWp.block ?_
 refine GWp.loopS (fun m : Nat => ⟨[(0, .v (.func (.yield ll) #[] #[])), (1, bP l), (3, i64 ((m : Int) - 1))], [], 1, 19⟩) (fun m => l.length - m) (fun m => m) (fun m => m ≤ l.length) l.length (Nat.le_refl _) (by simp) ?_ ?_
 ·exact s_e []
 intro m hm
 refine GWp.seq ?_
 refine GWp.seq ?_
 refine GWp.lift ?_
 refine AWp.reg (m := 2) rfl ?_
 refine a_z ?_
 refine GWp.cond rfl (fun h => ?_) (fun h => ?_)
 ·refine GWp.skip ?_
  have hm1 : 1 ≤ m := by have := of_decide_eq_true h; omega
  have hx' : (pE l)[((m : Int) - 1).toNat]? = some (qC (coP l (m - 1))) := by rw [show ((m : Int) - 1).toNat = m - 1 by omega]; exact cv_ (bg_ (by omega))
  refine GWp.seq ?_
  refine GWp.block ?_
  refine GWp.seq ?_
  refine GWp.regY (fr2 := [(0, .v (.func (.yield ll) #[] #[])), (1, bP l), (3, i64 ((m : Int) - 1)), (11, .v (.func (.yield ll) #[] #[])), (12, i64 ((m : Int) - 1)), (16, .agg (qC (coP l (m - 1))))]) (hp2 := []) (nx2 := 1) 6 rfl rfl rfl rfl rfl rfl ?_ rfl rfl rfl ?_ ?_ ?_
  ·refine o_0 (.move rfl) ?_
   refine o_0 (.move rfl) ?_
   first | refine AR.op0 (.load_l1 rfl rfl rfl tg_25.h rfl) rfl rfl ?_ | refine AR.op0 (.load_a1 rfl rfl tg_25.h rfl) rfl rfl ?_
   refine o_0 (.move rfl) ?_
   first | refine AR.op0 (.index_l rfl rfl (by omega) (by omega) te_25.h) rfl rfl ?_ | refine AR.op0 (.index_a rfl rfl (by omega) hx' rfl te_25.h) rfl rfl ?_
   first | refine AR.op0 (.load_l rfl rfl hx' tg_37.h ts_37.h (nle rfl)) rfl rfl ?_ | refine AR.op0 (.load_a rfl hx' tg_37.h ts_37.h (nle rfl)) rfl rfl ?_
   refine AR.nil ?_
   refine SEntT.to [] rfl rfl rfl au_r (fun hs => au_f) (fun hs => au_h)
  rotate_left 2
  intro go
  refine o_0 (.un rfl uf_) ?_
  refine AR.nil ?_
  rotate_left
  ·unfold backP
   rw [if_pos (by omega)]
   have e1 : ((l.length - 1 - (l.length - m) : Nat) : Int) = (m : Int) - 1 := by omega
   have e2 : l.length - 1 - (l.length - m) = m - 1 := by omega
   rw [e1, e2]
   rfl
  ·exact aa_ (ac_ _) (aa_ (ae_ _) ab_)
  cases go with
  | false =>
   refine GWp.cond rfl (fun h => ?_) (fun h => ?_)
   ·exact GWp.ret ⟨.inr rfl, fun h => by cases h⟩
   ·cases h
  | true =>
   refine GWp.cond rfl (fun h => ?_) (fun h => ?_)
   ·cases h
   ·refine GWp.skip ?_
    refine GWp.lift ?_
    refine AWp.reg (m := 3) rfl ?_
    refine a_z ?_
    refine ⟨rfl, m - 1, by omega, by omega, by omega, ?_⟩
    exact s_e []
 ·refine GWp.exit ⟨.inl rfl, fun _ => ?_⟩
  have : m = 0 := by have := of_decide_eq_false h; omega
  subst this
  unfold backP
  rw [if_neg (by omega)]
theorem lz_ (l : List Rat) : FSpec Tryz.prog 211 [.arr (pE l)] (.clos 257 [] [bP l]) := by
 refine FSpec.enter Tryz.func211 rfl (by kernel_rfl) rfl rfl rfl ?_ rfl ?_
 ·exact aa_ (ad_ l) ab_
 refine r_z 2 ?_
 refine r_z 2 ?_
 refine AWp.ret ?_
 refine ⟨.inr rfl, [_], ⟨_, [], rfl, rfl, rfl⟩, ?_⟩
 exact Cv.clos CvL.nil (CvL.cons (Cv.boxp am_ rfl (fun _ _ h => by cases h) rfl (aa_ (ad_ l) ab_)) CvL.nil)
def hoS (p : List Rat) (g : Nat) (cap : List AV) (w : Nat → Rat) : Nat → AState
 | k => ⟨[(4, .lptr 1 0 0), (5, .aptr [[.clos g [] cap]] 0 0), (6, .lptr 2 0 0), (10, .clos 257 [] [bP p])], [(1, some ⟨37, 3, [qC (w k)]⟩), (2, some ⟨37, 3, [zC]⟩)], 3, 18⟩
theorem hoS_mk (p : List Rat) (g : Nat) (cap : List AV) (w : Nat → Rat) (k : Nat) : hoS p g cap w k = ⟨[(4, .lptr 1 0 0), (5, .aptr [[.clos g [] cap]] 0 0), (6, .lptr 2 0 0), (10, .clos 257 [] [bP p])], [(1, some ⟨37, 3, [qC (w k)]⟩), (2, some ⟨37, 3, [zC]⟩)], 3, 18⟩ := rfl
theorem fs_hornerQ (p : List Rat) (g : Nat) (cap : List AV) (w : Nat → Rat) (hl : p.length ≤ 281474976710656) (hcap : ∀ c ∈ cap, Closed c) (hg : ∀ k, k < p.length → FSpec Tryz.prog g ((.agg (qC (w k)) :: .agg (qC (coP p (p.length - 1 - k))) :: cap).map coe) (.agg (qC (w (k + 1))))) : FSpec Tryz.prog 139 [.arr (pE p), .agg (qC (w 0)), .clos g [] cap] (.agg (qC (w p.length))) := by
 have hb := lz_ p
 have hgs := lv_ p hl
 have hcc : Closed (.clos g [] cap) := af_ ab_ hcap
 have hcc2 : Closed (.aptr [[.clos g [] cap]] 0 0) := bb_ (aa_ hcc ab_)
 have hcl2 : Closed (.clos 257 [] [bP p]) := af_ ab_ (aa_ (ak_ p) ab_)
 refine FSpec.enter Tryz.func139 rfl (by kernel_rfl) rfl rfl rfl ?_ rfl ?_
 ·exact aa_ (ad_ p) (aa_ (ae_ _) (aa_ hcc ab_))
 refine r_z 3 ?_
 refine AWp.ent (st' := ⟨[(0, .arr (pE p)), (4, .lptr 1 0 0), (5, .aptr [[.clos g [] cap]] 0 0), (6, .lptr 2 0 0)], [(1, some ⟨37, 3, [qC (w 0)]⟩), (2, some ⟨37, 3, [zC]⟩)], 3, 18⟩) ?_ ?_
 ·refine SEnt.to [(1, 4), (2, 6)] rfl rfl rfl au_r (fun hs => ?_) (fun hs => ?_)
  ·repeat' (first | exact CvF.nil | refine CvF.cons rfl ?_ ?_)
   all_goals (first | (exact Cv.boxp hs rfl (bl_ rfl) rfl (aa_ hcc ab_)) | exact au_c)
  ·repeat' (first | exact CvH.nil | refine CvH.cons rfl rfl rfl rfl ?_ ?_)
   all_goals (first | exact au_e | (refine CvLL.box ?_; repeat' (first | exact CvL.nil | refine CvL.cons ?_ ?_)))
   all_goals (first | (exact Cv.boxp hs rfl (bl_ rfl) rfl (aa_ hcc ab_)) | exact au_c)
 refine AWp.seq ?_
 refine r_c 2 (hb) ?_
 refine AR.nil ?_
 refine AWp.cutT (fun _ : Unit => ⟨[(4, .lptr 1 0 0), (6, .lptr 2 0 0)], [(1, some ⟨37, 3, [qC (w p.length)]⟩), (2, some ⟨37, 3, [zC]⟩)], 3, 18⟩) (fun _ => True) ?_ ?_
 ·refine AWp.block ?_
  refine AWp.rangeFunc (α := Nat) (γ := Empty) p.length (hoS p g cap w) (fun k => k) (fun k => k ≤ p.length) (fun e => nomatch e) (fun _ e => nomatch e) 0 rfl hgs rfl rfl ?_ (fun _ => ⟨rfl, rfl⟩) (fun e => nomatch e) (Nat.zero_le _) rfl (fun _ h => h) ?_ ?_ ?_ ?_ (fun _ e => nomatch e)
  ·intro k xs hT
   unfold backP at hT
   split at hT
   ·cases hT; rfl
   ·cases hT
  ·rw [hoS_mk]
   refine SEntT.to [] rfl rfl rfl au_r (fun hs => au_f) (fun hs => au_h)
  ·exact aa_ (ak_ p) ab_
  ·intro l k xs hk hT
   unfold backP at hT
   split at hT
   rotate_left
   ·cases hT
   rename_i hlt
   cases hT
   show AWp _ _ _ _ ⟨[(12, .agg (qC (coP p (p.length - 1 - k)))), (11, i64 (p.length - 1 - k : Nat)), (4, .lptr 1 0 0), (5, .aptr [[.clos g [] cap]] 0 0), (6, .lptr 2 0 0), (10, .clos 257 [] [bP p]), (1004, .lptr 1 0 0), (1005, .aptr [[.clos g [] cap]] 0 0), (1006, .lptr 2 0 0), (1010, .clos 257 [] [bP p])], [(1, some ⟨37, 3, [qC (w k)]⟩), (2, some ⟨37, 3, [zC]⟩)], 3, 18⟩
   refine AWp.reg (m := 2) rfl ?_
   refine a_z ?_
   refine AWp.block ?_
   refine AWp.reg (m := 5) rfl ?_
   refine c_s (hg k hlt) ?_
   refine a_z ?_
   refine ⟨k + 1, ⟨hlt, rfl⟩, ?_⟩
   show SEntT _ ⟨[(1004, .lptr 1 0 0), (1005, .aptr [[.clos g [] cap]] 0 0), (1006, .lptr 2 0 0), (1010, .clos 257 [] [bP p])], [(1, some ⟨37, 3, [qC (w (k + 1))]⟩), (2, some ⟨37, 3, [zC]⟩)], 3, 18⟩
   refine SEntT.to [] rfl rfl rfl au_r (fun hs => au_f) (fun hs => au_h)
  ·intro k hk hT
   unfold backP at hT
   split at hT
   ·cases hT
   refine ⟨(), trivial, ?_⟩
   rw [hoS_mk]
   have h1 : k = p.length := by omega
   subst h1
   exact s_e []
 rintro _ _
 refine r_z 2 ?_
 refine AWp.ret ?_
 refine Fin.cellE rfl rfl rfl tg_37.h ts_37.h (nle rfl) ?_ ?_
 ·rfl
 ·exact ae_ _
theorem fs_Eval1 (v c x : Rat) (h1 : qs v + qs x ≤ 549755813888) (h2 : qs (v * x) + qs c ≤ 549755813888) : FSpec Tryz.prog 140 [.agg (qC v), .agg (qC c), bQ x] (.agg (qC (v * x + c))) := by
 refine FSpec.enter Tryz.func140 rfl (by kernel_rfl) rfl rfl rfl ?_ rfl ?_
 ·exact aa_ (ae_ v) (aa_ (ae_ c) (aa_ (as_ x) ab_))
 refine r_z 3 ?_
 refine AWp.seq ?_
 refine AWp.regD hmix (m := 6) rfl ?_
 refine c_s (do_ v x h1) ?_
 refine c_s (ia_ (v * x) c h2) ?_
 refine a_1 ?_
 refine AR.nil ⟨by kernel_rfl, ?_⟩
 refine AWp.ret ?_
 refine Fin.cellE rfl rfl rfl tg_37.h ts_37.h (nle rfl) ?_ ?_
 ·rfl
 ·exact ae_ _
theorem ld_ (p : List Rat) (x : Rat) (h : gu_ p x) : FSpec Tryz.prog 59 [.arr (pE p), .agg (qC x)] (.agg (qC (evalP p x))) := by
 have hw : ∀ k, k < p.length → FSpec Tryz.prog 140 [.agg (qC (evalP (p.drop (p.length - k)) x)), .agg (qC (coP p (p.length - 1 - k))), bQ x] (.agg (qC (evalP (p.drop (p.length - (k + 1))) x))) := fun k hk => by
  have := evalP_part h k hk
  rw [wg_ hk]
  exact fs_Eval1 _ _ _ this.1 this.2
 have hh := fs_hornerQ p 140 [bQ x] (fun k => evalP (p.drop (p.length - k)) x) (by have := h.2; omega) (aa_ (as_ x) ab_) hw
 simp only [Nat.sub_zero, Nat.sub_self, List.drop_zero, List.drop_length] at hh
 rw [show evalP [] x = 0 from rfl, qC0] at hh
 refine FSpec.enter Tryz.func59 rfl (by kernel_rfl) rfl rfl rfl ?_ rfl ?_
 ·exact aa_ (ad_ p) (aa_ (ae_ x) ab_)
 refine r_z 2 ?_
 refine AWp.ent (st' := ⟨[(0, .arr (pE p)), (3, bQ x), (4, .lptr 1 0 0)], [(1, some ⟨37, 3, [zC]⟩)], 2, 9⟩) ?_ ?_
 ·exact s_e [(1, 4)]
 refine r_c 5 (hh) ?_
 refine a_z ?_
 refine AWp.ret ?_
 refine Fin.cellE rfl rfl rfl tg_37.h ts_37.h (nle rfl) ?_ ?_
 ·rfl
 ·exact ae_ _
def hsS (p : List Rat) (g : Nat) (cap : List AV) (w : Nat → Rat × Rat) : Nat → AState
 | k => ⟨[(4, .lptr 1 0 0), (5, .aptr [[.clos g [] cap]] 0 0), (6, .lptr 2 0 0), (10, .clos 257 [] [bP p])], [(1, some ⟨65, 6, [spC (w k).1 (w k).2]⟩), (2, some ⟨65, 6, [zC ++ zC]⟩)], 3, 18⟩
theorem hsS_mk (p : List Rat) (g : Nat) (cap : List AV) (w : Nat → Rat × Rat) (k : Nat) : hsS p g cap w k = ⟨[(4, .lptr 1 0 0), (5, .aptr [[.clos g [] cap]] 0 0), (6, .lptr 2 0 0), (10, .clos 257 [] [bP p])], [(1, some ⟨65, 6, [spC (w k).1 (w k).2]⟩), (2, some ⟨65, 6, [zC ++ zC]⟩)], 3, 18⟩ := rfl
theorem fs_hornerS (p : List Rat) (g : Nat) (cap : List AV) (w : Nat → Rat × Rat) (hl : p.length ≤ 281474976710656) (hcap : ∀ c ∈ cap, Closed c) (hg : ∀ k, k < p.length → FSpec Tryz.prog g ((.agg (spC (w k).1 (w k).2) :: .agg (qC (coP p (p.length - 1 - k))) :: cap).map coe) (.agg (spC (w (k + 1)).1 (w (k + 1)).2))) : FSpec Tryz.prog 245 [.arr (pE p), .agg (spC (w 0).1 (w 0).2), .clos g [] cap] (.agg (spC (w p.length).1 (w p.length).2)) := by
 have hb := lz_ p
 have hgs := lv_ p hl
 have hcc : Closed (.clos g [] cap) := af_ ab_ hcap
 have hcc2 : Closed (.aptr [[.clos g [] cap]] 0 0) := bb_ (aa_ hcc ab_)
 have hcl2 : Closed (.clos 257 [] [bP p]) := af_ ab_ (aa_ (ak_ p) ab_)
 refine FSpec.enter Tryz.func245 rfl (by kernel_rfl) rfl rfl rfl ?_ rfl ?_
 ·exact aa_ (ad_ p) (aa_ (ai_ _ _) (aa_ hcc ab_))
 refine r_z 3 ?_
 refine AWp.ent (st' := ⟨[(0, .arr (pE p)), (4, .lptr 1 0 0), (5, .aptr [[.clos g [] cap]] 0 0), (6, .lptr 2 0 0)], [(1, some ⟨65, 6, [spC (w 0).1 (w 0).2]⟩), (2, some ⟨65, 6, [zC ++ zC]⟩)], 3, 18⟩) ?_ ?_
 ·refine SEnt.to [(1, 4), (2, 6)] rfl rfl rfl au_r (fun hs => ?_) (fun hs => ?_)
  ·repeat' (first | exact CvF.nil | refine CvF.cons rfl ?_ ?_)
   all_goals (first | (exact Cv.boxp hs rfl (bl_ rfl) rfl (aa_ hcc ab_)) | exact au_c)
  ·repeat' (first | exact CvH.nil | refine CvH.cons rfl rfl rfl rfl ?_ ?_)
   all_goals (first | exact au_e | (refine CvLL.box ?_; repeat' (first | exact CvL.nil | refine CvL.cons ?_ ?_)))
   all_goals (first | (exact Cv.boxp hs rfl (bl_ rfl) rfl (aa_ hcc ab_)) | exact au_c)
 refine AWp.seq ?_
 refine r_c 2 (hb) ?_
 refine AR.nil ?_
 refine AWp.cutT (fun _ : Unit => ⟨[(4, .lptr 1 0 0), (6, .lptr 2 0 0)], [(1, some ⟨65, 6, [spC (w p.length).1 (w p.length).2]⟩), (2, some ⟨65, 6, [zC ++ zC]⟩)], 3, 18⟩) (fun _ => True) ?_ ?_
 ·refine AWp.block ?_
  refine AWp.rangeFunc (α := Nat) (γ := Empty) p.length (hsS p g cap w) (fun k => k) (fun k => k ≤ p.length) (fun e => nomatch e) (fun _ e => nomatch e) 0 rfl hgs rfl rfl ?_ (fun _ => ⟨rfl, rfl⟩) (fun e => nomatch e) (Nat.zero_le _) rfl (fun _ h => h) ?_ ?_ ?_ ?_ (fun _ e => nomatch e)
  ·intro k xs hT
   unfold backP at hT
   split at hT
   ·cases hT; rfl
   ·cases hT
  ·rw [hsS_mk]
   refine SEntT.to [] rfl rfl rfl au_r (fun hs => au_f) (fun hs => au_h)
  ·exact aa_ (ak_ p) ab_
  ·intro l k xs hk hT
   unfold backP at hT
   split at hT
   rotate_left
   ·cases hT
   rename_i hlt
   cases hT
   show AWp _ _ _ _ ⟨[(12, .agg (qC (coP p (p.length - 1 - k)))), (11, i64 (p.length - 1 - k : Nat)), (4, .lptr 1 0 0), (5, .aptr [[.clos g [] cap]] 0 0), (6, .lptr 2 0 0), (10, .clos 257 [] [bP p]), (1004, .lptr 1 0 0), (1005, .aptr [[.clos g [] cap]] 0 0), (1006, .lptr 2 0 0), (1010, .clos 257 [] [bP p])], [(1, some ⟨65, 6, [spC (w k).1 (w k).2]⟩), (2, some ⟨65, 6, [zC ++ zC]⟩)], 3, 18⟩
   refine AWp.reg (m := 2) rfl ?_
   refine a_z ?_
   refine AWp.block ?_
   refine AWp.reg (m := 5) rfl ?_
   refine c_s (hg k hlt) ?_
   refine a_z ?_
   refine ⟨k + 1, ⟨hlt, rfl⟩, ?_⟩
   show SEntT _ ⟨[(1004, .lptr 1 0 0), (1005, .aptr [[.clos g [] cap]] 0 0), (1006, .lptr 2 0 0), (1010, .clos 257 [] [bP p])], [(1, some ⟨65, 6, [spC (w (k + 1)).1 (w (k + 1)).2]⟩), (2, some ⟨65, 6, [zC ++ zC]⟩)], 3, 18⟩
   refine SEntT.to [] rfl rfl rfl au_r (fun hs => au_f) (fun hs => au_h)
  ·intro k hk hT
   unfold backP at hT
   split at hT
   ·cases hT
   refine ⟨(), trivial, ?_⟩
   rw [hsS_mk]
   have h1 : k = p.length := by omega
   subst h1
   exact s_e []
 rintro _ _
 refine r_z 2 ?_
 refine AWp.ret ?_
 refine Fin.cellE rfl rfl rfl tg_65.h ts_65.h (nle rfl) ?_ ?_
 ·rfl
 ·exact ai_ _ _
abbrev bS (s : Sp) : AV := .aptr [spC s.1 s.2] 0 0
theorem bx_ (s : Sp) : Closed (bS s) := bb_ (da_ _ _)
theorem spMul_sm {a b : Sp} (h : smL (prods a b)) : smS (spMul a b) := ⟨mx_ h, mx_ h⟩
theorem fs_Over1 (v s : Sp) (c : Rat) (hv : smS v) (hs : smS s) (hc : sm c) (hp : smL (prods v s)) : FSpec Tryz.prog 246 [.agg (spC v.1 v.2), .agg (qC c), bS s] (.agg (spC (spAdd (spMul v s) (c, c)).1 (spAdd (spMul v s) (c, c)).2)) := by
 have hm := spMul_sm hp
 refine FSpec.enter Tryz.func246 rfl (by kernel_rfl) rfl rfl rfl ?_ rfl ?_
 ·exact aa_ (ai_ _ _) (aa_ (ae_ c) (aa_ (bx_ s) ab_))
 refine r_z 3 ?_
 refine AWp.seq ?_
 refine AWp.regD hmix (m := 7) rfl ?_
 refine c_s (fs_SMul v.1 v.2 s.1 s.2 hv.1 hv.2 hs.1 hs.2 hp) ?_
 refine c_s (fs_At c) ?_
 refine c_s (fs_SAdd (spMul v s).1 (spMul v s).2 c c hm.1 hm.2 hc hc) ?_
 refine a_1 ?_
 refine AR.nil ⟨by kernel_rfl, ?_⟩
 refine AWp.ret ?_
 refine Fin.cellE rfl rfl rfl tg_65.h ts_65.h (nle rfl) ?_ ?_
 ·rfl
 ·exact ai_ _ _
theorem fs_Over (p : List Rat) (s : Sp) (h : zr_ p s) : FSpec Tryz.prog 189 [.arr (pE p), .agg (spC s.1 s.2)] (.agg (spC (overP p s).1 (overP p s).2)) := by
 obtain ⟨hsm, hs, hl, hov⟩ := h
 have htl := bm_ p
 refine FSpec.enter Tryz.func189 rfl (by kernel_rfl) rfl rfl rfl ?_ rfl ?_
 ·exact aa_ (ad_ p) (aa_ (ai_ _ _) ab_)
 refine r_z 2 ?_
 refine AWp.ent (st' := ⟨[(0, .arr (pE p)), (3, bS s), (4, .lptr 1 0 0)], [(1, some ⟨65, 6, [zC ++ zC]⟩)], 2, 30⟩) ?_ ?_
 ·exact s_e [(1, 4)]
 refine r_c 3 (dv_ p (by omega)) ?_
 refine a_z ?_
 refine AWp.cut (fun _ : Unit => ⟨[(0, .arr (pE (trimQ p))), (3, bS s), (4, .lptr 1 0 0)], [(1, some ⟨65, 6, [zC ++ zC]⟩)], 2, 30⟩) (fun _ => cmpQ s.1 s.2 ≤ 0 ∧ trimQ p ≠ []) ?_ ?_
 ·by_cases hv : cmpQ s.1 s.2 ≤ 0
  ·refine r_c 8 (pu_ s.1 s.2 hs.1 hs.2) ?_
   refine a_2 ?_
   refine AR.op0y rfl rfl (gy (by simp [hv])) (.move rfl) rfl rfl ?_
   first | refine AR.op0y rfl rfl (gy (by simp [hv])) (.lenD rfl rfl rfl rfl te_25.h) rfl rfl ?_ | refine AR.op0y rfl rfl (gy (by simp [hv])) (.lenI rfl rfl rfl rfl te_25.h) rfl rfl ?_ | refine AR.op0y rfl rfl (gy (by simp [hv])) (.lenP rfl rfl rfl rfl te_25.h) rfl rfl ?_ | refine AR.op0y rfl rfl (gy (by simp [hv])) (.lenC rfl rfl rfl rfl te_25.h) rfl rfl ?_ | refine AR.op0y rfl rfl (gy (by simp [hv])) (.lenR rfl rfl rfl rfl te_25.h) rfl rfl ?_ | refine AR.op0y rfl rfl (gy (by simp [hv])) (.len rfl rfl rfl rfl rfl te_25.h) rfl rfl ?_
   refine AR.op0y rfl rfl (gy (by simp [hv])) (.bin rfl rfl bo_) rfl rfl ?_
   refine o_0 (.pickF rfl (by simp [hv]) rfl) ?_
   refine AR.nil ?_
   refine AWp.cond rfl (fun h1 => ?_) (fun h1 => ?_)
   ·have h0 : trimQ p = [] := by
     have : (trimQ p).length = 0 := by simpa using h1
     exact List.length_eq_zero_iff.1 this
    have hr : overP p s = (0, 0) := by unfold overP; rw [if_pos (.inr h0)]
    rw [hr]
    refine r_z 2 ?_
    refine AWp.ret ?_
    refine Fin.cell rfl rfl rfl tg_65.h ts_65.h (nle rfl) (Cv.agg ?_)
    show CvL _ _ _ _ (qC 0 ++ qC 0)
    rw [qC0]
    exact CvL.cons (Cv.emp _) (CvL.cons (Cv.clo am_ (ac_ _)) (CvL.cons (Cv.emp _) (CvL.cons (Cv.emp _) (CvL.cons (Cv.clo am_ (ac_ _)) (CvL.cons (Cv.emp _) CvL.nil)))))
   ·have h0 : trimQ p ≠ [] := by
     have : ¬ (trimQ p).length = 0 := by simpa using h1
     exact fun e => this (by rw [e]; rfl)
    refine AWp.skip ⟨(), ⟨hv, h0⟩, ?_⟩
    exact s_e []
  ·refine r_c 8 (pu_ s.1 s.2 hs.1 hs.2) ?_
   refine a_2 ?_
   refine AR.opN rfl rfl (gn (by simp [hv])) rfl rfl ?_
   refine AR.opN rfl rfl (gn (by simp [hv])) rfl rfl ?_
   refine AR.opN rfl rfl (gn (by simp [hv])) rfl rfl ?_
   refine o_0 (.pickT rfl (by simp [hv]) rfl) ?_
   refine AR.nil ?_
   refine AWp.cond rfl (fun h1 => ?_) (fun h1 => ?_)
   ·have hr : overP p s = (0, 0) := by unfold overP; rw [if_pos (.inl hv)]
    rw [hr]
    refine r_z 2 ?_
    refine AWp.ret ?_
    refine Fin.cell rfl rfl rfl tg_65.h ts_65.h (nle rfl) (Cv.agg ?_)
    show CvL _ _ _ _ (qC 0 ++ qC 0)
    rw [qC0]
    exact CvL.cons (Cv.emp _) (CvL.cons (Cv.clo am_ (ac_ _)) (CvL.cons (Cv.emp _) (CvL.cons (Cv.emp _) (CvL.cons (Cv.clo am_ (ac_ _)) (CvL.cons (Cv.emp _) CvL.nil)))))
   ·cases h1
 rintro _ ⟨hv, h0⟩
 have hpl := List.length_pos_iff.2 h0
 have hr : overP p s = ovP (leadP p, leadP p) s ((trimQ p).take ((trimQ p).length - 1)) := by
  unfold overP; rw [if_neg (by rintro (e | e); exact e hv; exact h0 e)]
 obtain ⟨l, hll⟩ : ∃ l, l = (trimQ p).take ((trimQ p).length - 1) := ⟨_, rfl⟩
 rw [← hll] at hov hr
 rw [hr]
 have hlen : l.length = (trimQ p).length - 1 := by rw [hll]; simp
 have hsml : ∀ q ∈ l, sm q := fun q hq => hsm q (ca_ (List.mem_of_mem_take (by rw [← hll]; exact hq)))
 have hw : ∀ k, k < l.length → FSpec Tryz.prog 246 [.agg (spC (ovP (leadP p, leadP p) s (l.drop (l.length - k))).1 (ovP (leadP p, leadP p) s (l.drop (l.length - k))).2), .agg (qC (coP l (l.length - 1 - k))), bS s] (.agg (spC (ovP (leadP p, leadP p) s (l.drop (l.length - (k + 1)))).1 (ovP (leadP p, leadP p) s (l.drop (l.length - (k + 1)))).2)) := fun k hk => by
  have h1 := vi_ (l.length - (k + 1)) hov
  rw [wg_ hk] at h1 ⊢
  exact fs_Over1 _ s _ (okOv_sm h1.1) hs h1.2.2.1 h1.2.1
 have hh := fs_hornerS l 246 [bS s] (fun k => ovP (leadP p, leadP p) s (l.drop (l.length - k))) (by omega) (aa_ (bx_ s) ab_) hw
 simp only [Nat.sub_zero, Nat.sub_self, List.drop_zero, List.drop_length] at hh
 have hg : (pE (trimQ p))[(((trimQ p).length : Int) - 1).toNat]? = some (qC (leadP p)) := by
  rw [show (((trimQ p).length : Int) - 1).toNat = (trimQ p).length - 1 by omega]; exact cv_ (dt_ (by omega))
 refine r_z 4 ?_
 refine AWp.seq ?_
 refine AWp.regD hmix (m := 11) rfl ?_
 refine a_2 ?_
 refine o_0 (.sa_h rfl rfl (h := (trimQ p).length - 1) (by omega) (by simp) te_25.h (hh_ _)) ?_
 refine a_2 ?_
 first | refine AR.op0 (.index_l rfl rfl (by omega) (by omega) te_25.h) rfl rfl ?_ | refine AR.op0 (.index_a rfl rfl (by omega) hg rfl te_25.h) rfl rfl ?_
 first | refine AR.op0 (.load_l rfl rfl hg tg_37.h ts_37.h (nle rfl)) rfl rfl ?_ | refine AR.op0 (.load_a rfl hg tg_37.h ts_37.h (nle rfl)) rfl rfl ?_
 refine c_s (fs_At (leadP p)) ?_
 refine o_0 (.makeFunc rfl rfl) ?_
 refine o_0 (.call rfl rfl rfl ((by rw [kw_, ← hll]; exact hh))) ?_
 refine o_1n (.store rfl rfl rfl rfl rfl rfl ts_65.h (nle rfl)) ?_
 refine AR.nil ⟨by kernel_rfl, ?_⟩
 refine AWp.ret ?_
 refine Fin.cellE rfl rfl rfl tg_65.h ts_65.h (nle rfl) ?_ ?_
 ·rfl
 ·exact ai_ _ _

def coS  : Nat × Nat → AState
 | (a, b) => ⟨[(2, .lptr 1 0 0), (3, .lptr 2 0 0), (4, .lptr 3 0 0)], [(1, some ⟨37, 3, [qC (nQ a)]⟩), (2, some ⟨37, 3, [qC (nQ b)]⟩), (3, some ⟨37, 3, [zC]⟩)], 4, 18⟩
theorem wl_  (a : Nat) (b : Nat) : coS  (a, b) = ⟨[(2, .lptr 1 0 0), (3, .lptr 2 0 0), (4, .lptr 3 0 0)], [(1, some ⟨37, 3, [qC (nQ a)]⟩), (2, some ⟨37, 3, [qC (nQ b)]⟩), (3, some ⟨37, 3, [zC]⟩)], 4, 18⟩ := rfl
theorem rt_ (a b : Nat) (ha : bl a ≤ 68719476736) (hb : bl b ≤ 68719476736) : FSpec Tryz.prog 220 [.agg (qC (nQ a)), .agg (qC (nQ b))] (.agg (qC (nQ (Nat.gcd a b)))) := by
 refine FSpec.enter Tryz.func220 rfl (by kernel_rfl) rfl rfl rfl ?_ rfl ?_
 ·exact aa_ (ae_ _) (aa_ (ae_ _) ab_)
 refine r_z 3 ?_
 refine AWp.cut (fun _ : Unit => coS (Nat.gcd a b, 0)) (fun _ => True) ?_ ?_
 ·refine AWp.block ?_
  refine AWp.loopS coS (fun x => x.2) (fun x => Nat.gcd x.1 x.2 = Nat.gcd a b ∧ bl x.1 ≤ 68719476736 ∧ bl x.2 ≤ 68719476736) (a, b) ⟨rfl, ha, hb⟩ ?_ ?_
  ·simp only [wl_]
   exact s_e []
  rintro ⟨u, v⟩ ⟨hg, hu, hv⟩
  simp only at hg hu hv
  rw [wl_]
  refine AWp.seq ?_
  refine r_c 3 (dm_ (nQ v)) ?_
  refine a_z ?_
  refine AWp.cond rfl (fun h => ?_) (fun h => ?_)
  ·have hv0 : v ≠ 0 := by
    intro e
    subst e
    exact absurd h (by decide)
   refine AWp.skip ?_
   have h1 := qs_nQ (n := u) hu (by decide)
   have h2 := qs_nQ (n := v) hv (by decide)
   have hq := ih_ (nQ u) (nQ v)
   have hov := fh_ (nQ u) (nQ v) (fun e => hv0 (nQ_zero.1 e)) (by omega)
   have hfl := oc_ (nQ u / nQ v) (by omega)
   rw [nQ_div u v hv0, xo_ u v hv0] at hfl
   rw [nQ_div u v hv0] at hov
   have h3 := qs_nQ (n := u / v) (k := 68719476736) (Nat.le_trans (ea_ u v) hu) (by decide)
   have hmu := do_ (nQ v) (nQ (u / v)) (by omega)
   rw [nQ_mul] at hmu
   have hle : v * (u / v) ≤ u := Nat.mul_div_le u v
   have h4 := qs_nQ (n := v * (u / v)) (k := 68719476736) (Nat.le_trans (cu_ hle) hu) (by decide)
   have hsu := rq_ (nQ u) (nQ (v * (u / v))) (by omega)
   rw [nQ_sub hle, show u - v * (u / v) = u % v by have := Nat.div_add_mod u v; omega] at hsu
   refine AWp.block ?_
   refine AWp.regD hmix (m := 11) rfl ?_
   refine c_s (hov) ?_
   refine c_s (hfl) ?_
   refine c_s (hmu) ?_
   refine c_s (hsu) ?_
   refine a_2 ?_
   refine AR.nil ⟨by kernel_rfl, ?_⟩
   refine ⟨(v, u % v), Nat.mod_lt _ (by omega), ⟨?_, hv, Nat.le_trans (cu_ (Nat.mod_le u v)) hu⟩, ?_⟩
   ·rw [← hg]; show Nat.gcd v (u % v) = Nat.gcd u v
    rw [Nat.gcd_comm v, Nat.gcd_comm u v, ← Nat.gcd_rec]
   ·simp only [wl_]
    exact s_e []
  ·have hv0 : v = 0 := by
    have h1 : sgZ (nQ v).num = 0 := by simpa using h
    exact nQ_zero.1 (sgZ_num_eq.1 h1)
   subst hv0
   rw [Nat.gcd_zero_right] at hg
   refine AWp.exit ⟨(), trivial, ?_⟩
   rw [← hg]
   simp only [wl_]
   exact s_e []
 rintro _ _
 simp only [wl_]
 refine r_z 2 ?_
 refine AWp.ret ?_
 refine Fin.cellE rfl rfl rfl tg_37.h ts_37.h (nle rfl) ?_ ?_
 ·rfl
 ·exact ae_ _
def prS (t : List Rat) : Nat × Nat → AState
 | (i, d) => ⟨[(0, .arr (pE t)), (3, .lptr 1 0 0), (4, .lptr 2 0 0), (13, .arr (pE t)), (14, i64 t.length), (15, i64 i)], [(1, some ⟨37, 3, [qC (nQ d)]⟩), (2, some ⟨37, 3, [qC 0]⟩)], 3, 47⟩
theorem prS_mk (t : List Rat) (i : Nat) (d : Nat) : prS t (i, d) = ⟨[(0, .arr (pE t)), (3, .lptr 1 0 0), (4, .lptr 2 0 0), (13, .arr (pE t)), (14, i64 t.length), (15, i64 i)], [(1, some ⟨37, 3, [qC (nQ d)]⟩), (2, some ⟨37, 3, [qC 0]⟩)], 3, 47⟩ := rfl
def prT (t : List Rat) (D : Nat) : Nat × Nat → AState
 | (i, n) => ⟨[(0, .arr (pE t)), (3, .lptr 1 0 0), (4, .lptr 2 0 0), (29, .arr (pE t)), (30, i64 t.length), (31, i64 i)], [(1, some ⟨37, 3, [qC (nQ D)]⟩), (2, some ⟨37, 3, [qC (nQ n)]⟩)], 3, 47⟩
theorem prT_mk (t : List Rat) (D : Nat) (i : Nat) (n : Nat) : prT t D (i, n) = ⟨[(0, .arr (pE t)), (3, .lptr 1 0 0), (4, .lptr 2 0 0), (29, .arr (pE t)), (30, i64 t.length), (31, i64 i)], [(1, some ⟨37, 3, [qC (nQ D)]⟩), (2, some ⟨37, 3, [qC (nQ n)]⟩)], 3, 47⟩ := rfl
theorem it_ {l : List Rat} {i : Nat} (h : i < l.length) : l.drop i = coP l i :: l.drop (i + 1) := by
 rw [List.drop_eq_getElem_cons h]
 congr 1
 have := bg_ h
 rw [List.getElem?_eq_getElem h] at this
 exact Option.some.inj this
theorem bl_gcd (a b : Nat) : bl (Nat.gcd a b) ≤ max (bl a) (bl b) := by
 rcases Nat.eq_zero_or_pos a with h | h
 ·subst h; rw [Nat.gcd_zero_left]; exact Nat.le_max_right _ _
 ·exact Nat.le_trans (cu_ (Nat.gcd_le_left b h)) (Nat.le_max_left _ _)
theorem ng_ (p : List Rat) (h : zq_ p) (h0 : trimQ p ≠ []) : FSpec Tryz.prog 159 [.arr (pE p)] (.arr (pE (primP p))) := by
 obtain ⟨t, ht⟩ : ∃ t, t = trimQ p := ⟨_, rfl⟩
 obtain ⟨s, hs⟩ : ∃ s, s = mxL p := ⟨_, rfl⟩
 have hs1 : 1 ≤ s := by rw [hs]; exact cz_ p
 have hbt : bdL t s := fun q hq => by rw [hs]; exact dq_ p q (ca_ (by rw [← ht]; exact hq))
 have htl : t.length ≤ p.length := by rw [ht]; exact bm_ p
 obtain ⟨hsz, hpl⟩ := h
 rw [← hs] at hsz
 have hts : t.length * s ≤ p.length * s := Nat.mul_le_mul_right _ htl
 rw [Nat.add_mul] at hsz
 obtain ⟨D, hD⟩ : ∃ D, D = denL t 1 := ⟨_, rfl⟩
 have hD0 : D ≠ 0 := by rw [hD]; exact denL_ne t (by decide)
 have hDb : bl D ≤ 1 + t.length * s := by rw [hD]; exact denL_bl t 1 hbt
 have hDd : ∀ c ∈ t, c.den ∣ D := by rw [hD]; exact (tl_ t 1).2
 obtain ⟨N, hN⟩ : ∃ N, N = numL D t 0 := ⟨_, rfl⟩
 have hlast : leadP p ∈ t := by
  rw [ht]
  obtain ⟨n, hn⟩ : ∃ n, (trimQ p).length = n + 1 := ⟨(trimQ p).length - 1, by have := List.length_pos_iff.2 h0; omega⟩
  exact List.mem_of_getElem? (dt_ hn)
 have hNd := (zt_ D t 0).2 (leadP p) hlast
 rw [← hN] at hNd
 have hi0 := intC_ne (hDd _ hlast) hD0 (jg_ h0)
 have hN0 : N ≠ 0 := fun e => hi0 (by rw [e] at hNd; exact Nat.zero_dvd.1 hNd)
 have hNb : bl N ≤ s + bl D := Nat.le_trans (cu_ (Nat.le_of_dvd (by omega) hNd)) (Nat.le_trans (intC_bl _ _) (by have := hbt _ hlast; omega))
 have hpr : primP p = bp_ t (nQ D / nQ N) := by unfold primP; rw [← ht, ← hD, ← hN]
 rw [hpr]
 have hgt : ∀ i, i < t.length → (pE t)[((i : Nat) : Int).toNat]? = some (qC (coP t i)) := fun i hi => cv_ (bg_ hi)
 have hmem : ∀ i, i < t.length → coP t i ∈ t := fun i hi => List.mem_of_getElem? (bg_ hi)
 have htr := dv_ p (by omega)
 rw [← ht] at htr
 refine FSpec.enter Tryz.func159 rfl (by kernel_rfl) rfl rfl rfl ?_ rfl ?_
 ·exact aa_ (ad_ p) ab_
 refine r_z 1 ?_
 refine r_c 3 (htr) ?_
 refine a_z ?_
 refine r_c 6 (dw_ 1 (by decide)) ?_
 refine a_z ?_
 refine AWp.seq ?_
 refine r_z 3 ?_
 refine AWp.cutT (fun _ : Unit => ⟨[(0, .arr (pE t)), (3, .lptr 1 0 0), (4, .lptr 2 0 0)], [(1, some ⟨37, 3, [qC (nQ D)]⟩), (2, some ⟨37, 3, [qC 0]⟩)], 3, 47⟩) (fun _ => True) ?_ ?_
 ·refine AWp.block ?_
  refine AWp.loopS (prS t) (fun x => t.length - x.1) (fun x => x.1 ≤ t.length ∧ x.2 ≠ 0 ∧ denL (t.drop x.1) x.2 = D) (0, 1) ⟨Nat.zero_le _, by decide, by rw [hD]; rfl⟩ ?_ ?_
  ·simp only [prS_mk]
   rw [qC0]
   exact s_e [(1, 3), (2, 4)]
  rintro ⟨i, d⟩ ⟨hi, hd0, hd⟩
  simp only at hi hd0 hd
  rw [prS_mk]
  refine r_z 1 ?_
  refine AWp.seq ?_
  refine AWp.cond rfl (fun h => ?_) (fun h => ?_)
  ·refine AWp.skip ?_
   have hlt : i < t.length := by simpa using h
   have hc := hbt _ (hmem i hlt)
   have hcd := ci_ (coP t i)
   have hcn := (coP t i).den_nz
   rw [it_ hlt] at hd
   have hdD : d ∣ D := by rw [← hd]; exact (tl_ _ d).1
   have hdb := cu_ (Nat.le_of_dvd (by omega) hdD)
   have hq1 := qs_nQ (n := d) (k := 34359738368) (by omega) (by decide)
   have hq2 := qs_nQ (n := (coP t i).den) (k := 34359738368) (by omega) (by decide)
   have hmu := do_ (nQ d) (nQ (coP t i).den) (by omega)
   have hco := rt_ d (coP t i).den (by omega) (by omega)
   have hg0 : Nat.gcd d (coP t i).den ≠ 0 := by have := Nat.gcd_pos_of_pos_left (coP t i).den (Nat.pos_of_ne_zero hd0); omega
   have hgb := bl_gcd d (coP t i).den
   have hq3 := qs_nQ (n := Nat.gcd d (coP t i).den) (k := 34359738368) (by omega) (by decide)
   have hq4 := gf_ (nQ d) (nQ (coP t i).den)
   rw [nQ_mul] at hq4 hmu
   have hov := fh_ (nQ (d * (coP t i).den)) (nQ (Nat.gcd d (coP t i).den)) (fun e => hg0 (nQ_zero.1 e)) (by omega)
   rw [nQ_div _ _ hg0, mkRat_nat _ _ hg0 (Nat.dvd_mul_right_of_dvd (Nat.gcd_dvd_left _ _) _)] at hov
   refine AWp.seq ?_
   refine AWp.block ?_
   refine s_r 4 ?_
   first | refine AR.op0 (.index_l rfl rfl (by omega) (by omega) te_25.h) rfl rfl ?_ | refine AR.op0 (.index_a rfl rfl (by omega) (hgt i hlt) rfl te_25.h) rfl rfl ?_
   first | refine AR.op0 (.load_l rfl rfl (hgt i hlt) tg_37.h ts_37.h (nle rfl)) rfl rfl ?_ | refine AR.op0 (.load_a rfl (hgt i hlt) tg_37.h ts_37.h (nle rfl)) rfl rfl ?_
   refine a_z ?_
   refine AWp.regD hmix (m := 10) rfl ?_
   refine c_s (fs_den (coP t i) (by unfold sm; omega)) ?_
   refine c_s (hmu) ?_
   refine c_s (fs_den (coP t i) (by unfold sm; omega)) ?_
   refine c_s (hco) ?_
   refine c_s (hov) ?_
   refine a_1 ?_
   refine AR.nil ⟨by kernel_rfl, ?_⟩
   refine AWp.reg (m := 2) rfl ?_
   refine a_z ?_
   refine ⟨(i + 1, Nat.lcm d (coP t i).den), by simp only; omega, ⟨hlt, lcm_pos hd0 hcn, hd⟩, ?_⟩
   simp only [prS_mk]
   exact s_e []
  ·have hge : i = t.length := by
    have : ¬ i < t.length := by simpa using h
    omega
   subst hge
   rw [List.drop_length] at hd
   refine AWp.exit ⟨(), trivial, ?_⟩
   rw [← hd]
   exact s_e []
 rintro _ _
 refine AWp.seq ?_
 refine r_z 3 ?_
 refine AWp.cutT (fun _ : Unit => ⟨[(0, .arr (pE t)), (3, .lptr 1 0 0), (4, .lptr 2 0 0)], [(1, some ⟨37, 3, [qC (nQ D)]⟩), (2, some ⟨37, 3, [qC (nQ N)]⟩)], 3, 47⟩) (fun _ => True) ?_ ?_
 ·refine AWp.block ?_
  refine AWp.loopS (prT t D) (fun x => t.length - x.1) (fun x => x.1 ≤ t.length ∧ bl x.2 ≤ s + bl D ∧ numL D (t.drop x.1) x.2 = N) (0, 0) ⟨Nat.zero_le _, by rw [bl_zero]; exact Nat.zero_le _, by rw [hN]; rfl⟩ ?_ ?_
  ·simp only [prT_mk]
   exact s_e []
  rintro ⟨i, n⟩ ⟨hi, hnb, hn⟩
  simp only at hi hnb hn
  rw [prT_mk]
  refine r_z 1 ?_
  refine AWp.seq ?_
  refine AWp.cond rfl (fun h => ?_) (fun h => ?_)
  ·refine AWp.skip ?_
   have hlt : i < t.length := by simpa using h
   have hc := hbt _ (hmem i hlt)
   rw [it_ hlt] at hn
   have hib := intC_bl (coP t i) D
   have hgb := bl_gcd n (intC (coP t i) D)
   have hq1 := qs_nQ (n := D) (k := 34359738368) (by omega) (by decide)
   have hmu := do_ (coP t i) (nQ D) (by omega)
   have hab := fs_abs (coP t i * nQ D)
   rw [mul_intC _ _ (hDd _ (hmem i hlt))] at hab
   have hco := rt_ n (intC (coP t i) D) (by omega) (by omega)
   refine AWp.seq ?_
   refine AWp.block ?_
   refine s_r 4 ?_
   first | refine AR.op0 (.index_l rfl rfl (by omega) (by omega) te_25.h) rfl rfl ?_ | refine AR.op0 (.index_a rfl rfl (by omega) (hgt i hlt) rfl te_25.h) rfl rfl ?_
   first | refine AR.op0 (.load_l rfl rfl (hgt i hlt) tg_37.h ts_37.h (nle rfl)) rfl rfl ?_ | refine AR.op0 (.load_a rfl (hgt i hlt) tg_37.h ts_37.h (nle rfl)) rfl rfl ?_
   refine a_z ?_
   refine AWp.regD hmix (m := 7) rfl ?_
   refine c_s (hmu) ?_
   refine c_s (hab) ?_
   refine c_s (hco) ?_
   refine a_1 ?_
   refine AR.nil ⟨by kernel_rfl, ?_⟩
   refine AWp.reg (m := 2) rfl ?_
   refine a_z ?_
   refine ⟨(i + 1, Nat.gcd n (intC (coP t i) D)), by simp only; omega, ⟨hlt, by simp only; omega, hn⟩, ?_⟩
   simp only [prT_mk]
   exact s_e []
  ·have hge : i = t.length := by
    have : ¬ i < t.length := by simpa using h
    omega
   subst hge
   rw [List.drop_length] at hn
   refine AWp.exit ⟨(), trivial, ?_⟩
   rw [← hn]
   exact s_e []
 rintro _ _
 have hq1 := qs_nQ (n := D) (k := 34359738368) (by omega) (by decide)
 have hq2 := qs_nQ (n := N) (k := 34359738368) (by omega) (by decide)
 have hq3 := ih_ (nQ D) (nQ N)
 refine r_c 6 (fh_ (nQ D) (nQ N) (fun e => hN0 (nQ_zero.1 e)) (by omega)) ?_
 refine c_s (hk_ t (nQ D / nQ N) (mi_ hbt (by omega)) (by unfold sm; omega) (by omega)) ?_
 refine a_z ?_
 refine AWp.ret ?_
 refine Fin.tmpE rfl ?_ ?_
 ·rfl
 ·exact ad_ _
theorem ta_ (f : Nat) (p r : List Rat) (h : sqfM f p = some r) : FSpec Tryz.prog 205 [.arr (pE p)] (.arr (pE r)) := by
 unfold sqfM at h
 split at h
 case isFalse => cases h
 case isTrue hs =>
 obtain ⟨g, hg, hr⟩ := Option.bind_eq_some_iff.1 h
 split at hr
 case isFalse => cases hr
 case isTrue hg2 =>
 cases hr
 have hdl := lf_ p
 have hdv := of_ (p := p) (q := g)
 refine FSpec.enter Tryz.func205 rfl (by kernel_rfl) rfl rfl rfl ?_ rfl ?_
 ·exact aa_ (ad_ p) ab_
 refine r_z 1 ?_
 refine r_c 11 (pw_ p hs.1 (by omega)) ?_
 refine c_s (fs_Gcd f p (ei_ p) g hg hs.2 (by omega)) ?_
 refine c_s (in_ p g (mxL p) (mxL g) (dq_ p) (dq_ g) (cz_ p) (cz_ g) hg2.2.1 hg2.1 hs.2 hg2.2.2.2) ?_
 refine a_z ?_
 refine r_c 3 (td_ (divP p g).1 (yh_ hg2.2 hg2.1).1 (by omega)) ?_
 refine a_z ?_
 refine AWp.ret ?_
 refine Fin.tmpE rfl ?_ ?_
 ·rfl
 ·exact ad_ _
theorem fs_large (p : List Rat) (hp : p.length ≤ 1099511627776) : FSpec Tryz.prog 151 [.arr (pE p)] (i64 (rn_ p)) := by
 refine FSpec.enter Tryz.func151 rfl (by kernel_rfl) rfl rfl rfl ?_ rfl ?_
 ·exact aa_ (ad_ p) ab_
 refine r_z 1 ?_
 refine AWp.seq ?_
 refine r_c 3 (cc_ p hp) ?_
 refine a_z ?_
 refine AWp.cutT (fun _ : Unit => ⟨[], [], 1, 12⟩) (fun _ => rn_ p = 0) ?_ ?_
 ·refine AWp.block ?_
  refine r_z 3 ?_
  refine AWp.cond rfl (fun h => ?_) (fun h => ?_)
  ·have h1 : degP p < 0 := by simpa using h
   refine r_z 1 ?_
   refine AWp.ret ?_
   refine Fin.tmpE rfl ?_ ?_
   ·unfold rn_; rw [if_pos h1]; rfl
   ·exact ac_ _
  ·have h1 : ¬ degP p < 0 := by simpa using h
   refine r_z 3 ?_
   refine AWp.cond rfl (fun h2 => ?_) (fun h2 => ?_)
   ·have h3 : 40 < degP p := by simpa using h2
    refine r_z 1 ?_
    refine AWp.ret ?_
    refine Fin.tmpE rfl ?_ ?_
    ·unfold rn_; rw [if_neg h1, if_pos h3]; rfl
    ·exact ac_ _
   ·have h3 : ¬ 40 < degP p := by simpa using h2
    refine AWp.skip ⟨(), by unfold rn_; rw [if_neg h1, if_neg h3], ?_⟩
    exact s_e []
 rintro _ hl
 refine r_z 1 ?_
 refine AWp.ret ?_
 refine Fin.tmpE rfl ?_ ?_
 ·rw [hl]; rfl
 ·exact ac_ _
def boS (t : List Rat) (l : List Rat) : Nat × Rat → AState
 | (i, m) => ⟨[(0, .arr (pE t)), (2, .lptr 1 0 0), (3, .lptr 2 0 0), (13, .arr (pE l)), (14, i64 l.length), (15, i64 i)], [(1, some ⟨37, 3, [zC]⟩), (2, some ⟨37, 3, [qC m]⟩)], 3, 31⟩
theorem boS_mk (t : List Rat) (l : List Rat) (i : Nat) (m : Rat) : boS t l (i, m) = ⟨[(0, .arr (pE t)), (2, .lptr 1 0 0), (3, .lptr 2 0 0), (13, .arr (pE l)), (14, i64 l.length), (15, i64 i)], [(1, some ⟨37, 3, [zC]⟩), (2, some ⟨37, 3, [qC m]⟩)], 3, 31⟩ := rfl
theorem fs_bound (p : List Rat) (h : ss_ p) (h0 : trimQ p ≠ []) : FSpec Tryz.prog 221 [.arr (pE p)] (.agg (qC (id_ p))) := by
 obtain ⟨hsz, hpl⟩ := h
 obtain ⟨t, ht⟩ : ∃ t, t = trimQ p := ⟨_, rfl⟩
 have htr := dv_ p (by omega)
 have htl := bm_ p
 rw [← ht] at htr htl
 obtain ⟨l, hl⟩ : ∃ l, l = t.take (t.length - 1) := ⟨_, rfl⟩
 have hll : l.length = t.length - 1 := by rw [hl]; simp
 have hbl : bdL l (mxL p) := fun q hq => dq_ p q (ca_ (by rw [← ht]; exact List.mem_of_mem_take (by rw [← hl]; exact hq)))
 have hpos : 0 < t.length := by rw [ht]; exact List.length_pos_iff.2 h0
 have hlead : leadP t = leadP p := by rw [ht, leadP_trim]
 have hlb : qs (leadP p) ≤ mxL p := by
  obtain ⟨n, hn⟩ : ∃ n, (trimQ p).length = n + 1 := ⟨(trimQ p).length - 1, by rw [← ht]; omega⟩
  exact dq_ p _ (ca_ (List.mem_of_getElem? (dt_ hn)))
 have hb : id_ p = boL (leadP p) l 0 + 1 := by unfold id_; rw [← ht, ← hl]
 rw [hb]
 obtain ⟨B, hB⟩ : ∃ B, B = boL (leadP p) l 0 := ⟨_, rfl⟩
 rw [← hB]
 refine FSpec.enter Tryz.func221 rfl (by kernel_rfl) rfl rfl rfl ?_ rfl ?_
 ·exact aa_ (ad_ p) ab_
 refine r_z 1 ?_
 refine r_c 3 (htr) ?_
 refine a_z ?_
 refine r_z 3 ?_
 refine AWp.seq ?_
 refine s_r 7 ?_
 refine a_4 ?_
 refine o_0 (.sa_h rfl rfl (h := t.length - 1) (by omega) (by simp) te_25.h (hh_ _)) ?_
 refine a_z ?_
 refine AWp.cutT (fun _ : Unit => ⟨[(2, .lptr 1 0 0), (3, .lptr 2 0 0)], [(1, some ⟨37, 3, [zC]⟩), (2, some ⟨37, 3, [qC B]⟩)], 3, 31⟩) (fun _ => qs B ≤ 2 * mxL p + 1) ?_ ?_
 ·refine AWp.block ?_
  refine AWp.loopS (boS t l) (fun x => l.length - x.1) (fun x => x.1 ≤ l.length ∧ qs x.2 ≤ 2 * mxL p + 1 ∧ boL (leadP p) (l.drop x.1) x.2 = B) (0, 0) ⟨Nat.zero_le _, Nat.le_trans (by decide : qs 0 ≤ 1) (Nat.le_add_left 1 _), by rw [hB]; rfl⟩ ?_ ?_
  ·simp only [boS_mk]
   rw [qC0]
   have e13 : AV.arr (List.take (t.length - 1) (pE t)) = AV.arr (pE l) := by rw [hl, kw_]
   refine SEnt.to [(1, 2), (2, 3)] rfl rfl rfl ?_ (fun hs => ?_) (fun hs => ?_)
   ·repeat' (first | exact ShrL.nil | refine ShrL.cons rfl rfl rfl rfl (by first | rfl | (simp; done) | (simp [hll] <;> omega)) ?_)
   ·repeat' (first | exact CvF.nil | refine CvF.cons rfl ?_ ?_)
    all_goals (first | (exact Cv.loE hs e13 (e13 ▸ ad_ l)) | exact au_c | (refine Cv.loE hs ?_ (ac_ _); first | rfl | (simp [i64, u64, u32, bln, hll]; done) | (simp [i64, u64, u32, bln, hll] <;> omega)))
   ·repeat' (first | exact CvH.nil | refine CvH.cons rfl rfl rfl rfl ?_ ?_)
    all_goals (first | exact CvLL.bld rfl rfl rfl rfl rfl rfl | exact CvLL.bld0 hs | exact CvLL.clo hs (ef_ _) | exact CvLL.clo hs (an_ _) | (refine CvLL.cloE hs ?_ (an_ _); first | (simp [ev_, ee_, cf_, hll]; done) | (simp [dE, u32, ofV, hll]; done)) | exact CvLL.clo hs (ar_ _) | exact CvLL.clo hs (bh_ _) | (refine CvLL.cloE hs ?_ (bh_ _); first | (simp [hy_, er_, cq_, hll]; done) | (simp [iE, i64, ofV, hll]; done)) | (refine CvLL.cloE hs ?_ (ar_ _); first | (simp [gt_, eq_, hll]; done) | (simp [pE, ofV, hll]; done)) | (refine CvLL.box ?_; repeat' (first | exact CvL.nil | exact CvL.clo hs (aq_ _) | refine CvL.cons ?_ ?_)))
    all_goals (first | (exact Cv.loE hs e13 (e13 ▸ ad_ l)) | exact Cv.clo hs (ac_ _) | exact Cv.ptr rfl rfl rfl | exact Cv.sl rfl rfl rfl | exact Cv.slN rfl rfl rfl | exact Cv.clo hs az_ | (refine Cv.clo hs ?_; first | assumption | exact aw_ _ | exact ah_ _ | exact ac_ _ | exact az_ | exact ad_ _ | exact av_ _ | exact bi_ _ | exact al_ _ | exact ae_ _ | exact bj_ _ | exact ai_ _ _ | exact af_ ab_ ab_ | exact ak_ _ | exact as_ _ | exact bx_ _ | exact bf_ _ | exact ba_ _ _ | exact aj_ _ _ | exact bk_ | exact ay_ _ | exact au_ _ | (refine af_ ab_ ?_; first | assumption | exact aa_ (ak_ _) ab_ | exact aa_ (as_ _) ab_ | exact aa_ (aj_ _ _) ab_)) | (refine Cv.boxp hs rfl (bl_ rfl) rfl ?_; first | exact aq_ _ | exact da_ _ _ | exact bv_ _ | exact bz_ _ | (refine aa_ ?_ ab_; first | assumption | exact aw_ _ | exact ah_ _ | exact ac_ _ | exact az_ | exact ad_ _ | exact av_ _ | exact bi_ _ | exact al_ _ | exact ae_ _ | exact bj_ _ | exact ai_ _ _ | exact af_ ab_ ab_ | exact ak_ _ | exact as_ _ | exact bx_ _ | exact bf_ _ | exact ba_ _ _ | exact aj_ _ _ | exact bk_ | exact ay_ _ | exact au_ _ | (refine af_ ab_ ?_; first | assumption | exact aa_ (ak_ _) ab_ | exact aa_ (as_ _) ab_ | exact aa_ (aj_ _ _) ab_))) | (refine Cv.loE hs ?_ (ac_ _); first | rfl | (simp [i64, u64, u32, bln, hll]; done) | (simp [i64, u64, u32, bln, hll] <;> omega)) | (refine Cv.slE rfl rfl rfl ?_ ?_ ?_ <;> first | rfl | omega | (congr 1; omega) | (simp; done) | (simp <;> omega)) | exact Cv.emp _)
  rintro ⟨i, m⟩ ⟨hi, hm, hbo⟩
  simp only at hi hm hbo
  rw [boS_mk]
  refine r_z 1 ?_
  refine AWp.seq ?_
  refine AWp.cond rfl (fun h => ?_) (fun h => ?_)
  ·refine AWp.skip ?_
   have hlt : i < l.length := by simpa using h
   have hgt : (pE l)[((i : Nat) : Int).toNat]? = some (qC (coP l i)) := cv_ (bg_ hlt)
   have hc : qs (coP l i) ≤ mxL p := hbl _ (List.mem_of_getElem? (bg_ hlt))
   rw [it_ hlt] at hbo
   have hq := ih_ (coP l i) (leadP p)
   have hle := io_ t (by omega)
   rw [hlead] at hle
   have hqa := qs_abs (coP l i / leadP p)
   have hbm : bdL [m, absQ (coP l i / leadP p)] (2 * mxL p + 1) := by
    intro x hx
    rcases List.mem_cons.1 hx with rfl | hx
    ·exact hm
    ·rw [List.mem_singleton.1 hx]; omega
   have hmx := fs_Max [m, absQ (coP l i / leadP p)] (mi_ hbm (by omega)) (by simp)
   refine AWp.seq ?_
   refine AWp.block ?_
   refine s_r 4 ?_
   first | refine AR.op0 (.index_l rfl rfl (by omega) (by omega) te_25.h) rfl rfl ?_ | refine AR.op0 (.index_a rfl rfl (by omega) hgt rfl te_25.h) rfl rfl ?_
   first | refine AR.op0 (.load_l rfl rfl hgt tg_37.h ts_37.h (nle rfl)) rfl rfl ?_ | refine AR.op0 (.load_a rfl hgt tg_37.h ts_37.h (nle rfl)) rfl rfl ?_
   refine a_z ?_
   refine AWp.regD hmix (m := 9) rfl ?_
   refine c_s (hle) ?_
   refine c_s (fh_ (coP l i) (leadP p) (jg_ h0) (by omega)) ?_
   refine c_s (fs_abs (coP l i / leadP p)) ?_
   refine a_1 ?_
   refine o_1 (.callS1 rfl rfl rfl (.shut rfl (by first | exact nle rfl | (simp; done) | (simp; omega)) (.nil)) rfl (hmx)) ?_
   refine a_1 ?_
   refine AR.nil ⟨by kernel_rfl, ?_⟩
   refine AWp.reg (m := 2) rfl ?_
   refine a_z ?_
   refine ⟨(i + 1, maxL [m, absQ (coP l i / leadP p)]), by simp only; omega, ⟨hlt, maxL_le hbm (Nat.le_add_left 1 _), hbo⟩, ?_⟩
   simp only [boS_mk]
   exact s_e []
  ·have hge : i = l.length := by
    have : ¬ i < l.length := by simpa using h
    omega
   subst hge
   rw [List.drop_length] at hbo
   have hbo' : m = B := hbo
   subst hbo'
   refine AWp.exit ⟨(), hm, ?_⟩
   exact s_e []
 rintro _ hq
 have h1 : qs 1 = 1 := by decide
 refine AWp.seq ?_
 refine AWp.regD hmix (m := 4) rfl ?_
 refine c_s (dw_ 1 (by decide)) ?_
 refine c_s (ia_ B 1 (by omega)) ?_
 refine a_1 ?_
 refine AR.nil ⟨by kernel_rfl, ?_⟩
 refine AWp.ret ?_
 refine Fin.cellE rfl rfl rfl tg_37.h ts_37.h (nle rfl) ?_ ?_
 ·rfl
 ·exact ae_ _
def stS  : List Rat × List (List Rat) → AState
 | (next, acc) => ⟨[(3, .lsl 1 0 acc.length none 1), (4, .arr (pE next))], [(1, some ⟨25, 1, cE acc⟩)], 2, 40⟩
theorem stS_mk  (next : List Rat) (acc : List (List Rat)) : stS  (next, acc) = ⟨[(3, .lsl 1 0 acc.length none 1), (4, .arr (pE next))], [(1, some ⟨25, 1, cE acc⟩)], 2, 40⟩ := rfl
theorem primP_len (p : List Rat) : (primP p).length ≤ p.length :=
 Nat.le_trans (cg_ _ _) (bm_ p)
theorem fs_sturm (f : Nat) (p : List Rat) (r : List (List Rat)) (h : sturmM f p = some r) (hf : f ≤ 1000000) : FSpec Tryz.prog 206 [.arr (pE p)] (.arr (cE r)) := by
 unfold sturmM at h
 split at h
 case isFalse => cases h
 case isTrue hp =>
 have hdl := lf_ p
 have hpl := hp.2.1.2
 refine FSpec.enter Tryz.func206 rfl (by kernel_rfl) rfl rfl rfl ?_ rfl ?_
 ·exact aa_ (ad_ p) ab_
 refine r_z 1 ?_
 refine r_c 4 (ng_ p hp.2.1 hp.2.2) ?_
 refine a_z ?_
 refine AWp.seq ?_
 refine r_c 3 (pw_ p hp.1 (by omega)) ?_
 refine a_z ?_
 refine AWp.cutT (fun _ : Unit => ⟨[(3, .lsl 1 0 r.length none 1)], [(1, some ⟨25, 1, cE r⟩)], 2, 40⟩) (fun _ => True) ?_ ?_
 ·refine AWp.block ?_
  refine AWp.loopS (fun x : Nat × List Rat × List Rat × List (List Rat) => stS x.2.2) (fun x => x.1) (fun x => chainM f x.1 x.2.1 x.2.2.1 x.2.2.2 = some r ∧ x.2.2.1.length ≤ 274877906944 ∧ x.2.2.2.length + x.1 ≤ 1000001 ∧ 1 ≤ x.2.2.2.length ∧ x.2.2.2[x.2.2.2.length - 1]? = some x.2.1) (f, primP p, ei_ p, [primP p]) ⟨h, by simp only; omega, by simp only [List.length_singleton]; omega, by simp, rfl⟩ ?_ ?_
  ·simp only [stS_mk]
   refine SEnt.to [(1, 3)] rfl rfl rfl au_r (fun hs => au_f) (fun hs => ?_)
   ·repeat' (first | exact CvH.nil | refine CvH.cons rfl rfl rfl rfl ?_ ?_)
    all_goals (first | (exact CvLL.clo hs (dy_ [primP p])) | exact au_e)
  rintro ⟨k, last, next, acc⟩ ⟨h, hn, hk, ha1, hla⟩
  simp only at h hn hk ha1 hla
  simp only [stS_mk]
  cases k with
  | zero => cases h
  | succ k =>
   rw [chainM] at h
   refine AWp.seq ?_
   refine r_c 3 (cc_ next (by omega)) ?_
   refine a_z ?_
   refine AWp.cond rfl (fun h1 => ?_) (fun h1 => ?_)
   ·have h0 : trimQ next ≠ [] := by
     intro e
     have e2 := degP_neg.2 e
     simp at h1; omega
    rw [if_neg h0] at h
    split at h
    case isFalse => cases h
    case isTrue hs =>
    have hpn := primP_len next
    have hdv := of_ (p := last) (q := primP next)
    have hsl := cg_ (divP last (primP next)).2 (-1)
    have hl2 := hs.2.1.2.1
    have hg1 : (cE (acc ++ [primP next]))[0 + (((acc.length + 1 : Nat) : Int) - 2).toNat]? = some [.arr (pE last)] := by
     rw [show 0 + (((acc.length + 1 : Nat) : Int) - 2).toNat = acc.length - 1 by omega]
     exact cE_get (by rw [List.getElem?_append_left (by omega)]; exact hla)
    have hg2 : (cE (acc ++ [primP next]))[0 + (((acc.length + 1 : Nat) : Int) - 1).toNat]? = some [.arr (pE (primP next))] := by
     rw [show 0 + (((acc.length + 1 : Nat) : Int) - 1).toNat = acc.length by omega]
     exact cE_get (by simp)
    refine AWp.skip ?_
    refine AWp.block ?_
    refine r_c 6 (ng_ next hs.1 h0) ?_
    refine a_z ?_
    refine AWp.ent (st' := ⟨[(3, .lsl 1 0 (acc.length + 1) none 1)], [(1, some ⟨25, 1, cE (acc ++ [primP next])⟩)], 2, 40⟩) ?_ ?_
    ·refine SEnt.to [(1, 3)] rfl rfl rfl au_r (fun hs => au_f) (fun hs => ?_)
     ·repeat' (first | exact CvH.nil | refine CvH.cons rfl rfl rfl rfl ?_ ?_)
      all_goals (first | (exact CvLL.cloE hs (yn_ acc (primP next)).symm (dy_ _)) | exact au_e)
    refine AWp.seq ?_
    refine AWp.regD hmix (m := 18) rfl ?_
    refine a_5 ?_
    first | refine AR.op0 (.load_l1 rfl rfl hg1 tg_25.h rfl) rfl rfl ?_ | refine AR.op0 (.load_a1 rfl hg1 tg_25.h rfl) rfl rfl ?_
    refine a_5 ?_
    first | refine AR.op0 (.load_l1 rfl rfl hg2 tg_25.h rfl) rfl rfl ?_ | refine AR.op0 (.load_a1 rfl hg2 tg_25.h rfl) rfl rfl ?_
    refine c_s (in_ last (primP next) (mxL last) (mxL (primP next)) (dq_ _) (dq_ _) (cz_ _) (cz_ _) hs.2.1.1 hs.2.2 hs.2.1.2.1 hs.2.1.2.2) ?_
    refine a_5 ?_
    refine AR.nil ⟨by kernel_rfl, ?_⟩
    refine AWp.reg (m := 4) rfl ?_
    refine c_s (dw_ (-1) (by decide)) ?_
    refine c_s (hk_ (divP last (primP next)).2 (-1) (yh_ hs.2.1 hs.2.2).2 (by decide) (by omega)) ?_
    refine a_z ?_
    refine ⟨(k, primP next, bp_ (divP last (primP next)).2 (-1), acc ++ [primP next]), Nat.lt_succ_self k, ⟨h, by simp only; omega, by simp only [List.length_append, List.length_singleton]; omega, by simp, by simp⟩, ?_⟩
    have hla : (acc ++ [primP next]).length = acc.length + 1 := by simp
    simp only [stS_mk, hla]
    refine SEnt.to [] rfl rfl rfl au_r (fun hs => au_f) (fun hs => ?_)
    ·repeat' (first | exact CvH.nil | refine CvH.cons rfl rfl rfl rfl ?_ ?_)
     all_goals (first | (exact CvLL.clo hs (dy_ _)) | exact au_e)
   ·have h0 : trimQ next = [] := by
     refine degP_neg.1 ?_
     simp at h1; omega
    rw [if_pos h0] at h
    cases h
    refine AWp.exit ⟨(), trivial, ?_⟩
    refine SEnt.to [] rfl rfl rfl au_r (fun hs => au_f) (fun hs => ?_)
    ·repeat' (first | exact CvH.nil | refine CvH.cons rfl rfl rfl rfl ?_ ?_)
     all_goals (first | (exact CvLL.clo hs (dy_ _)) | exact au_e)
 rintro _ _
 refine r_z 2 ?_
 refine AWp.ret ?_
 exact Fin.tmpS rfl rfl rfl (by simp) (dy_ r)
def chS (ch : List (List Rat)) (g : Nat) (cap : List AV) : Nat × Int × Int → AState
 | (i, n, last) => ⟨[(1, .clos g [] cap), (5, i64 n), (6, i64 last), (10, .arr (cE ch)), (11, i64 ch.length), (12, i64 i)], [], 1, 30⟩
theorem wr_ (ch : List (List Rat)) (g : Nat) (cap : List AV) (i : Nat) (n : Int) (last : Int) : chS ch g cap (i, n, last) = ⟨[(1, .clos g [] cap), (5, i64 n), (6, i64 last), (10, .arr (cE ch)), (11, i64 ch.length), (12, i64 i)], [], 1, 30⟩ := rfl
theorem rv_ (ch : List (List Rat)) (g : Nat) (cap : List AV) (sg : List Rat → Int) (hcap : ∀ c ∈ cap, Closed c) (hsg : ∀ q ∈ ch, -1 ≤ sg q ∧ sg q ≤ 1) (hl : ch.length ≤ 274877906944) (hg : ∀ q ∈ ch, FSpec Tryz.prog g ((.arr (pE q) :: cap).map coe) (i64 (sg q))) : FSpec Tryz.prog 207 [.arr (cE ch), .clos g [] cap] (i64 (chL (ch.map sg) 0 0)) := by
 refine FSpec.enter Tryz.func207 rfl (by kernel_rfl) rfl rfl rfl ?_ rfl ?_
 ·exact aa_ (bi_ ch) (aa_ (af_ ab_ hcap) ab_)
 refine r_z 1 ?_
 refine r_z 2 ?_
 refine AWp.seq ?_
 refine r_z 3 ?_
 obtain ⟨R, hR⟩ : ∃ R, R = chL (ch.map sg) 0 0 := ⟨_, rfl⟩
 rw [← hR]
 refine AWp.cutT (fun _ : Unit => ⟨[(5, i64 R)], [], 1, 30⟩) (fun _ => True) ?_ ?_
 ·refine AWp.block ?_
  refine AWp.loopS (chS ch g cap) (fun x => ch.length - x.1) (fun x => x.1 ≤ ch.length ∧ 0 ≤ x.2.1 ∧ x.2.1 ≤ x.1 ∧ -1 ≤ x.2.2 ∧ x.2.2 ≤ 1 ∧ chL ((ch.drop x.1).map sg) x.2.1 x.2.2 = R) (0, 0, 0) ⟨Nat.zero_le _, by decide, by decide, by decide, by decide, by rw [hR]; rfl⟩ ?_ ?_
  ·simp only [wr_]
   refine SEnt.to [] rfl rfl rfl au_r (fun hs => ?_) (fun hs => ?_)
   ·repeat' (first | exact CvF.nil | refine CvF.cons rfl ?_ ?_)
    all_goals (first | (exact Cv.clo hs (af_ ab_ hcap)) | exact au_c)
   ·repeat' (first | exact CvH.nil | refine CvH.cons rfl rfl rfl rfl ?_ ?_)
    all_goals (first | exact au_e | (refine CvLL.box ?_; repeat' (first | exact CvL.nil | refine CvL.cons ?_ ?_)))
    all_goals (first | (exact Cv.clo hs (af_ ab_ hcap)) | exact au_c)
  rintro ⟨i, n, last⟩ ⟨hi, hn0, hn1, hl0, hl1, hc⟩
  simp only at hi hn0 hn1 hl0 hl1 hc
  rw [wr_]
  refine r_z 1 ?_
  refine AWp.seq ?_
  refine AWp.cond rfl (fun h => ?_) (fun h => ?_)
  ·refine AWp.skip ?_
   have hlt : i < ch.length := by simpa using h
   obtain ⟨q, hq⟩ : ∃ q, ch[i]? = some q := ⟨_, List.getElem?_eq_getElem hlt⟩
   have hqm := List.mem_of_getElem? hq
   have hgt : (cE ch)[((i : Nat) : Int).toNat]? = some [.arr (pE q)] := cE_get hq
   have hd : ch.drop i = q :: ch.drop (i + 1) := by
    rw [List.drop_eq_getElem_cons hlt]
    rw [List.getElem?_eq_getElem hlt] at hq
    rw [Option.some.inj hq]
   rw [hd, List.map_cons, chL] at hc
   have hs2 := hsg q hqm
   refine AWp.seq ?_
   refine AWp.block ?_
   refine s_r 3 ?_
   first | refine AR.op0 (.index_l rfl rfl (by omega) (by omega) te_189.h) rfl rfl ?_ | refine AR.op0 (.index_a rfl rfl (by omega) hgt rfl te_189.h) rfl rfl ?_
   first | refine AR.op0 (.load_l1 rfl rfl hgt tg_25.h rfl) rfl rfl ?_ | refine AR.op0 (.load_a1 rfl hgt tg_25.h rfl) rfl rfl ?_
   refine a_z ?_
   refine r_c 4 (hg q hqm) ?_
   refine a_z ?_
   refine r_z 2 ?_
   refine AWp.cond rfl (fun h1 => ?_) (fun h1 => ?_)
   ·have hne : sg q ≠ 0 := by simpa using h1
    rw [if_pos hne] at hc
    refine AWp.seq ?_
    refine r_z 4 ?_
    refine AWp.cond rfl (fun h2 => ?_) (fun h2 => ?_)
    ·have he : sg q = -last := by simpa using h2
     rw [if_pos he] at hc
     refine AWp.reg (m := 3) rfl ?_
     refine a_z ?_
     refine AWp.reg (m := 2) rfl ?_
     refine a_z ?_
     refine AWp.reg (m := 2) rfl ?_
     refine a_z ?_
     refine ⟨(i + 1, n + 1, sg q), by simp only; omega, ⟨hlt, by simp only; omega, by simp only; omega, hs2.1, hs2.2, hc⟩, ?_⟩
     simp only [wr_]
     refine SEnt.to [] rfl rfl rfl au_r (fun hs => ?_) (fun hs => ?_)
     ·repeat' (first | exact CvF.nil | refine CvF.cons rfl ?_ ?_)
      all_goals (first | (exact Cv.clo hs (af_ ab_ hcap)) | exact au_c)
     ·repeat' (first | exact CvH.nil | refine CvH.cons rfl rfl rfl rfl ?_ ?_)
      all_goals (first | exact au_e | (refine CvLL.box ?_; repeat' (first | exact CvL.nil | refine CvL.cons ?_ ?_)))
      all_goals (first | (exact Cv.clo hs (af_ ab_ hcap)) | exact au_c)
    ·have he : ¬ sg q = -last := by simpa using h2
     rw [if_neg he] at hc
     refine AWp.skip ?_
     refine AWp.reg (m := 2) rfl ?_
     refine a_z ?_
     refine AWp.reg (m := 2) rfl ?_
     refine a_z ?_
     refine ⟨(i + 1, n, sg q), by simp only; omega, ⟨hlt, hn0, by simp only; omega, hs2.1, hs2.2, hc⟩, ?_⟩
     simp only [wr_]
     refine SEnt.to [] rfl rfl rfl au_r (fun hs => ?_) (fun hs => ?_)
     ·repeat' (first | exact CvF.nil | refine CvF.cons rfl ?_ ?_)
      all_goals (first | (exact Cv.clo hs (af_ ab_ hcap)) | exact au_c)
     ·repeat' (first | exact CvH.nil | refine CvH.cons rfl rfl rfl rfl ?_ ?_)
      all_goals (first | exact au_e | (refine CvLL.box ?_; repeat' (first | exact CvL.nil | refine CvL.cons ?_ ?_)))
      all_goals (first | (exact Cv.clo hs (af_ ab_ hcap)) | exact au_c)
   ·have hne : sg q = 0 := by simpa using h1
    rw [if_neg (fun e => e hne)] at hc
    refine AWp.skip ?_
    refine AWp.reg (m := 2) rfl ?_
    refine a_z ?_
    refine ⟨(i + 1, n, last), by simp only; omega, ⟨hlt, hn0, by simp only; omega, hl0, hl1, hc⟩, ?_⟩
    simp only [wr_]
    refine SEnt.to [] rfl rfl rfl au_r (fun hs => ?_) (fun hs => ?_)
    ·repeat' (first | exact CvF.nil | refine CvF.cons rfl ?_ ?_)
     all_goals (first | (exact Cv.clo hs (af_ ab_ hcap)) | exact au_c)
    ·repeat' (first | exact CvH.nil | refine CvH.cons rfl rfl rfl rfl ?_ ?_)
     all_goals (first | exact au_e | (refine CvLL.box ?_; repeat' (first | exact CvL.nil | refine CvL.cons ?_ ?_)))
     all_goals (first | (exact Cv.clo hs (af_ ab_ hcap)) | exact au_c)
  ·have hge : i = ch.length := by
    have : ¬ i < ch.length := by simpa using h
    omega
   subst hge
   rw [List.drop_length] at hc
   have hc' : n = R := hc
   subst hc'
   refine AWp.exit ⟨(), trivial, ?_⟩
   exact s_e []
 rintro _ _
 refine r_z 2 ?_
 refine AWp.ret ?_
 refine Fin.tmpE rfl ?_ ?_
 ·rfl
 ·exact ac_ _
theorem fs_counts1 (q : List Rat) (h0 : trimQ q ≠ []) (hl : q.length ≤ 274877906944) : FSpec Tryz.prog 208 [.arr (pE q)] (i64 (sgI q)) := by
 have hd : ¬ degP q < 0 := fun e => h0 (degP_neg.1 e)
 have hb := xf_ (leadP q).num
 refine FSpec.enter Tryz.func208 rfl (by kernel_rfl) rfl rfl rfl ?_ rfl ?_
 ·exact aa_ (ad_ q) ab_
 refine r_z 1 ?_
 refine AWp.seq ?_
 refine r_c 4 (cc_ q (by omega)) ?_
 refine a_z ?_
 refine AWp.cond rfl (fun h => ?_) (fun h => ?_)
 ·have h1 : degP q % 2 = 1 := by simpa using h
  refine r_c 5 (io_ q (by omega)) ?_
  refine c_s (dm_ (leadP q)) ?_
  refine a_z ?_
  refine AWp.ret ?_
  refine Fin.tmpE rfl ?_ ?_
  ·unfold sgI; rw [if_pos h1]; rfl
  ·exact ac_ _
 ·have h1 : ¬ degP q % 2 = 1 := by simpa using h
  refine AWp.skip ?_
  refine r_c 4 (io_ q (by omega)) ?_
  refine c_s (dm_ (leadP q)) ?_
  refine a_z ?_
  refine AWp.ret ?_
  refine Fin.tmpE rfl ?_ ?_
  ·unfold sgI; rw [if_neg h1]
  ·exact ac_ _
theorem lx_ (f : Nat) (p : List Rat) (c : Cnt) (h : mt_ f p = some c) (hf : f ≤ 1000000) : FSpec Tryz.prog 130 [.arr (pE p)] (kA c) := by
 unfold mt_ at h
 obtain ⟨s, hs, h2⟩ := Option.bind_eq_some_iff.1 h
 obtain ⟨ch, hch, h3⟩ := Option.bind_eq_some_iff.1 h2
 split at h3
 case isFalse => cases h3
 case isTrue hk =>
 cases h3
 have hcs := rv_ ch 208 [] sgI ab_ (fun q _ => sgI_abs q) hk.2.1 (fun q hq => fs_counts1 q (hk.1 q hq).1 (hk.1 q hq).2)
 refine FSpec.enter Tryz.func130 rfl (by kernel_rfl) rfl rfl rfl ?_ rfl ?_
 ·exact aa_ (ad_ p) ab_
 refine r_z 1 ?_
 refine r_c 5 (ta_ f p s hs) ?_
 refine a_z ?_
 refine r_c 9 (fs_sturm f s ch hch hf) ?_
 refine a_z ?_
 refine r_c 9 (hcs) ?_
 refine a_z ?_
 refine r_z 2 ?_
 refine AWp.ret ?_
 exact Fin.tmpP rfl rfl rfl (wp_ _)
theorem fs_upto1 (q : List Rat) (x : Rat) (h : gu_ q x) : FSpec Tryz.prog 209 [.arr (pE q), bQ x] (i64 (sgE x q)) := by
 refine FSpec.enter Tryz.func209 rfl (by kernel_rfl) rfl rfl rfl ?_ rfl ?_
 ·exact aa_ (ad_ q) (aa_ (as_ x) ab_)
 refine r_z 1 ?_
 refine r_c 5 (ld_ q x h) ?_
 refine c_s (dm_ (evalP q x)) ?_
 refine a_z ?_
 refine AWp.ret ?_
 refine Fin.tmpE rfl ?_ ?_
 ·rfl
 ·exact ac_ _
theorem kz_ (c : Cnt) (x : Rat) (h : okUp c x) : FSpec Tryz.prog 132 [kA c, .agg (qC x)] (i64 (uptoV c x)) := by
 have hcs := rv_ c.ch 209 [bQ x] (sgE x) (aa_ (as_ x) ab_) (fun q _ => xf_ _) h.1.2.1 (fun q hq => fs_upto1 q x (h.2 q hq))
 have hb := nl_ (x := x) h.1
 unfold uptoV at hb ⊢
 refine FSpec.enter Tryz.func132 rfl (by kernel_rfl) rfl rfl rfl ?_ rfl ?_
 ·exact aa_ (bf_ c) (aa_ (ae_ x) ab_)
 refine r_z 2 ?_
 refine AWp.ent (st' := ⟨[(0, kA c), (3, bQ x)], [], 1, 16⟩) ?_ ?_
 ·exact s_e []
 refine AWp.seq ?_
 refine AWp.regD hmix (m := 12) rfl ?_
 refine c_s (hcs) ?_
 refine a_2 ?_
 refine AR.nil ⟨by kernel_rfl, ?_⟩
 refine AWp.ret ?_
 refine Fin.tmpE rfl ?_ ?_
 ·rfl
 ·exact ac_ _
theorem ji_ (c : Cnt) (x : Rat) (h : okBe c x) : FSpec Tryz.prog 131 [kA c, .agg (qC x)] (i64 (eb_ c x)) := by
 have hb := nl_ (x := x) h.1.1
 refine FSpec.enter Tryz.func131 rfl (by kernel_rfl) rfl rfl rfl ?_ rfl ?_
 ·exact aa_ (bf_ c) (aa_ (ae_ x) ab_)
 refine r_z 2 ?_
 refine r_c 4 (kz_ c x h.1) ?_
 refine a_z ?_
 refine AWp.cut (fun n : Int => ⟨[(5, i64 n)], [], 1, 20⟩) (fun n => n = eb_ c x) ?_ ?_
 ·refine AWp.seq ?_
  refine AWp.regD hmix (m := 8) rfl ?_
  refine c_s (ld_ c.p x h.2) ?_
  refine c_s (dm_ (evalP c.p x)) ?_
  refine a_1 ?_
  refine AR.nil ⟨by kernel_rfl, ?_⟩
  refine AWp.cond rfl (fun h1 => ?_) (fun h1 => ?_)
  ·have h0 : evalP c.p x = 0 := by
    have : sgZ (evalP c.p x).num = 0 := by simpa using h1
    exact sgZ_num_eq.1 this
   refine AWp.reg (m := 3) rfl ?_
   refine a_z ?_
   refine ⟨uptoV c x - 1, by unfold eb_; rw [if_pos h0], ?_⟩
   exact s_e []
  ·have h0 : evalP c.p x ≠ 0 := by
    intro e
    have : ¬ sgZ (evalP c.p x).num = 0 := by simpa using h1
    exact this (sgZ_num_eq.2 e)
   refine AWp.skip ⟨uptoV c x, by unfold eb_; rw [if_neg h0], ?_⟩
   exact s_e []
 rintro n rfl
 refine r_z 2 ?_
 refine AWp.ret ?_
 refine Fin.tmpE rfl ?_ ?_
 ·rfl
 ·exact ac_ _
theorem fs_all (c : Cnt) (h : okAll c) : FSpec Tryz.prog 185 [kA c] (i64 (allV c)) := by
 refine FSpec.enter Tryz.func185 rfl (by kernel_rfl) rfl rfl rfl ?_ rfl ?_
 ·exact aa_ (bf_ c) ab_
 refine r_z 1 ?_
 refine r_c 8 (fs_bound c.p h.1 h.2.1) ?_
 refine c_s (kz_ c (id_ c.p) h.2.2) ?_
 refine a_z ?_
 refine AWp.ret ?_
 refine Fin.tmpE rfl ?_ ?_
 ·rfl
 ·exact ac_ _
end Go.Proofs.YtdhedjbmdnnbkaaGreatDoor
