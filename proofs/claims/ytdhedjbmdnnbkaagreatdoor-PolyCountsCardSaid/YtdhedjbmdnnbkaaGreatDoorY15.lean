/- Part Y15 of the proof. -/
import Derived.Test.YtdhedjbmdnnbkaaGreatDoorY14
set_option linter.all false
namespace Go.Proofs.YtdhedjbmdnnbkaaGreatDoor
open Go.Abs
set_option maxRecDepth 100000
set_option maxHeartbeats 1000000
def chS (ch : List (List Rat)) (g : Nat) (cap : List AV) : Nat × Int × Int → AState
 | (i, n, last) => ⟨[(1, .clos g [] cap), (5, i64 n), (6, i64 last), (10, .arr (cE ch)), (11, i64 ch.length), (12, i64 i)], [], 1, 30⟩
theorem lq_ (ch : List (List Rat)) (g : Nat) (cap : List AV) (i : Nat) (n : Int) (last : Int) : chS ch g cap (i, n, last) = ⟨[(1, .clos g [] cap), (5, i64 n), (6, i64 last), (10, .arr (cE ch)), (11, i64 ch.length), (12, i64 i)], [], 1, 30⟩ := rfl
theorem iJ_ (ch : List (List Rat)) (g : Nat) (cap : List AV) (sg : List Rat → Int) (hcap : ∀ c ∈ cap, Closed c) (hsg : ∀ q ∈ ch, -1 ≤ sg q ∧ sg q ≤ 1) (hl : ch.length ≤ 274877906944) (hg : ∀ q ∈ ch, FSpec Tryz.prog g ((.arr (pE q) :: cap).map coe) (i64 (sg q))) : FSpec Tryz.prog 207 [.arr (cE ch), .clos g [] cap] (i64 (chL (ch.map sg) 0 0)) := by
 refine f_n Tryz.func207 ?_ ?_
 ·exact aa_ (da_ ch) (aa_ (aJ_ ab_ hcap) ab_)
 refine r_z 1 ?_
 refine r_z 2 ?_
 refine ac_ (r_z 3 ?_)
 obtain ⟨R, hR⟩ : ∃ R, R = chL (ch.map sg) 0 0 := ⟨_, rfl⟩
 rw [← hR]
 refine au_ (fun _ : Unit => ⟨[(5, i64 R)], [], 1, 30⟩) (fun _ => True) ?_ ?_
 ·refine ah_ (ao_ (chS ch g cap) (fun x => ch.length - x.1) (fun x => x.1 ≤ ch.length ∧ 0 ≤ x.2.1 ∧ x.2.1 ≤ x.1 ∧ -1 ≤ x.2.2 ∧ x.2.2 ≤ 1 ∧ chL ((ch.drop x.1).map sg) x.2.1 x.2.2 = R) (0, 0, 0) ⟨Nat.zero_le _, by decide, by decide, by decide, by decide, by rw [hR]; rfl⟩ ?_ ?_)
  ·simp only [lq_]
   refine ax_ [] rfl rfl rfl au_r (fun hs => ?_) (fun hs => ?_)
   ·repeat' (first | exact aX_ | refine aL_ rfl ?_ ?_)
    all_goals (first | (exact ar_ hs (aJ_ ab_ hcap)) | exact au_c)
   ·repeat' (first | exact as_ | refine an_ rfl rfl rfl rfl ?_ ?_)
    all_goals (first | exact au_e | (refine aF_ ?_; repeat' (first | exact ap_ | refine ai_ ?_ ?_)))
    all_goals (first | (exact ar_ hs (aJ_ ab_ hcap)) | exact au_c)
  rintro ⟨i, n, last⟩ ⟨hi, hn0, hn1, hl0, hl1, hc⟩
  simp only at hi hn0 hn1 hl0 hl1 hc
  rw [lq_]
  refine r_z 1 ?_
  refine ac_ (af_ rfl (fun h => ?_) (fun h => ?_))
  ·refine ag_ ?_
   have hlt : i < ch.length := by simpa using h
   obtain ⟨q, hq⟩ : ∃ q, ch[i]? = some q := ⟨_, List.getElem?_eq_getElem hlt⟩
   have hqm := List.mem_of_getElem? hq
   have hgt : (cE ch)[((i : Nat) : Int).toNat]? = some [.arr (pE q)] := nv_ hq
   have hd : ch.drop i = q :: ch.drop (i + 1) := by
    rw [List.drop_eq_getElem_cons hlt]
    rw [List.getElem?_eq_getElem hlt] at hq
    rw [Option.some.inj hq]
   rw [hd, List.map_cons, chL] at hc
   have hs2 := hsg q hqm
   refine ac_ (ah_ (s_r 3 ?_))
   refine i_x hgt ?_
   refine l_1 hgt ?_
   refine a_z ?_
   refine r_c 4 (hg q hqm) ?_
   refine a_z ?_
   refine r_z 2 ?_
   refine af_ rfl (fun h1 => ?_) (fun h1 => ?_)
   ·have hne : sg q ≠ 0 := by simpa using h1
    rw [if_pos hne] at hc
    refine ac_ (r_z 4 ?_)
    refine af_ rfl (fun h2 => ?_) (fun h2 => ?_)
    ·have he : sg q = -last := by simpa using h2
     rw [if_pos he] at hc
     refine r_m 3 ?_
     refine a_z ?_
     refine r_m 2 ?_
     refine a_z ?_
     refine r_m 2 ?_
     refine a_z ?_
     refine ⟨(i + 1, n + 1, sg q), by simp only; omega, ⟨hlt, by simp only; omega, by simp only; omega, hs2.1, hs2.2, hc⟩, ?_⟩
     simp only [lq_]
     refine ax_ [] rfl rfl rfl au_r (fun hs => ?_) (fun hs => ?_)
     ·repeat' (first | exact aX_ | refine aL_ rfl ?_ ?_)
      all_goals (first | (exact ar_ hs (aJ_ ab_ hcap)) | exact au_c)
     ·repeat' (first | exact as_ | refine an_ rfl rfl rfl rfl ?_ ?_)
      all_goals (first | exact au_e | (refine aF_ ?_; repeat' (first | exact ap_ | refine ai_ ?_ ?_)))
      all_goals (first | (exact ar_ hs (aJ_ ab_ hcap)) | exact au_c)
    ·have he : ¬ sg q = -last := by simpa using h2
     rw [if_neg he] at hc
     refine ag_ (r_m 2 ?_)
     refine a_z ?_
     refine r_m 2 ?_
     refine a_z ?_
     refine ⟨(i + 1, n, sg q), by simp only; omega, ⟨hlt, hn0, by simp only; omega, hs2.1, hs2.2, hc⟩, ?_⟩
     simp only [lq_]
     refine ax_ [] rfl rfl rfl au_r (fun hs => ?_) (fun hs => ?_)
     ·repeat' (first | exact aX_ | refine aL_ rfl ?_ ?_)
      all_goals (first | (exact ar_ hs (aJ_ ab_ hcap)) | exact au_c)
     ·repeat' (first | exact as_ | refine an_ rfl rfl rfl rfl ?_ ?_)
      all_goals (first | exact au_e | (refine aF_ ?_; repeat' (first | exact ap_ | refine ai_ ?_ ?_)))
      all_goals (first | (exact ar_ hs (aJ_ ab_ hcap)) | exact au_c)
   ·have hne : sg q = 0 := by simpa using h1
    rw [if_neg (fun e => e hne)] at hc
    refine ag_ (r_m 2 ?_)
    refine a_z ?_
    refine ⟨(i + 1, n, last), by simp only; omega, ⟨hlt, hn0, by simp only; omega, hl0, hl1, hc⟩, ?_⟩
    simp only [lq_]
    refine ax_ [] rfl rfl rfl au_r (fun hs => ?_) (fun hs => ?_)
    ·repeat' (first | exact aX_ | refine aL_ rfl ?_ ?_)
     all_goals (first | (exact ar_ hs (aJ_ ab_ hcap)) | exact au_c)
    ·repeat' (first | exact as_ | refine an_ rfl rfl rfl rfl ?_ ?_)
     all_goals (first | exact au_e | (refine aF_ ?_; repeat' (first | exact ap_ | refine ai_ ?_ ?_)))
     all_goals (first | (exact ar_ hs (aJ_ ab_ hcap)) | exact au_c)
  ·have hge : i = ch.length := by
    have : ¬ i < ch.length := by simpa using h
    omega
   subst hge
   rw [List.drop_length] at hc
   have hc' : n = R := hc
   subst hc'
   refine al_ ⟨(), trivial, ?_⟩
   exact s_e []
 rintro _ _
 refine r_z 2 ?_
 exact ae_ (t_e (ad_ _))
theorem nZ_ (q : List Rat) (h0 : trimQ q ≠ []) (hl : q.length ≤ 274877906944) : FSpec Tryz.prog 208 [.arr (pE q)] (i64 (sgI q)) := by
 have hd : ¬ degP q < 0 := fun e => h0 (degP_neg.1 e)
 have hb := f3_ (leadP q).num
 refine f_n Tryz.func208 ?_ ?_
 ·exact aa_ (am_ q) ab_
 refine r_z 1 ?_
 refine ac_ (r_c 4 (br_ q (by omega)) ?_)
 refine a_z ?_
 refine af_ rfl (fun h => ?_) (fun h => ?_)
 ·have h1 : degP q % 2 = 1 := by simpa using h
  refine r_c 5 (eB_ q (by omega)) ?_
  refine c_s (cc_ (leadP q)) ?_
  refine a_z ?_
  refine ae_ (aD_ rfl ?_ ?_)
  ·unfold sgI; rw [if_pos h1]; rfl
  ·exact ad_ _
 ·have h1 : ¬ degP q % 2 = 1 := by simpa using h
  refine ag_ (r_c 4 (eB_ q (by omega)) ?_)
  refine c_s (cc_ (leadP q)) ?_
  refine a_z ?_
  refine ae_ (aD_ rfl ?_ ?_)
  ·unfold sgI; rw [if_neg h1]
  ·exact ad_ _
theorem dX_ (f : Nat) (p : List Rat) (c : Cnt) (h : cY_ f p = some c) (hf : f ≤ 1000000) : FSpec Tryz.prog 130 [.arr (pE p)] (kA c) := by
 unfold cY_ at h
 obtain ⟨s, hs, h2⟩ := Option.bind_eq_some_iff.1 h
 obtain ⟨ch, hch, h3⟩ := Option.bind_eq_some_iff.1 h2
 split at h3
 case isFalse => cases h3
 case isTrue hk =>
 cases h3
 have hcs := iJ_ ch 208 [] sgI ab_ (fun q _ => sgI_abs q) hk.2.1 (fun q hq => nZ_ q (hk.1 q hq).1 (hk.1 q hq).2)
 refine f_n Tryz.func130 ?_ ?_
 ·exact aa_ (am_ p) ab_
 refine r_z 1 ?_
 refine r_c 5 (jF_ f p s hs) ?_
 refine a_z ?_
 refine r_c 9 (fs_sturm f s ch hch hf) ?_
 refine a_z ?_
 refine r_c 9 (hcs) ?_
 refine a_z ?_
 refine r_z 2 ?_
 exact ae_ (Fin.tmpP rfl rfl rfl (ln_ _))
theorem fs_upto1 (q : List Rat) (x : Rat) (h : em_ q x) : FSpec Tryz.prog 209 [.arr (pE q), bQ x] (i64 (sgE x q)) := by
 refine f_n Tryz.func209 ?_ ?_
 ·exact aa_ (am_ q) (aa_ (cA_ x) ab_)
 refine r_z 1 ?_
 refine r_c 5 (hO_ q x h) ?_
 refine c_s (cc_ (evalP q x)) ?_
 refine a_z ?_
 exact ae_ (t_e (ad_ _))
theorem ec_ (c : Cnt) (x : Rat) (h : okUp c x) : FSpec Tryz.prog 132 [kA c, .agg (qC x)] (i64 (uptoV c x)) := by
 have hcs := iJ_ c.ch 209 [bQ x] (sgE x) (aa_ (cA_ x) ab_) (fun q _ => f3_ _) h.1.2.1 (fun q hq => fs_upto1 q x (h.2 q hq))
 have hb := dE_ (x := x) h.1
 unfold uptoV at hb ⊢
 refine f_n Tryz.func132 ?_ ?_
 ·exact aa_ (b4_ c) (aa_ (ak_ x) ab_)
 refine r_z 2 ?_
 refine AWp.ent (st' := ⟨[(0, kA c), (3, bQ x)], [], 1, 16⟩) ?_ ?_
 ·exact s_e []
 refine ac_ (r_d hmix 12 ?_)
 refine c_s (hcs) ?_
 refine a_2 ?_
 refine aj_ (n_k ?_)
 exact ae_ (t_e (ad_ _))
theorem dK_ (c : Cnt) (x : Rat) (h : okBe c x) : FSpec Tryz.prog 131 [kA c, .agg (qC x)] (i64 (bo_ c x)) := by
 have hb := dE_ (x := x) h.1.1
 refine f_n Tryz.func131 ?_ ?_
 ·exact aa_ (b4_ c) (aa_ (ak_ x) ab_)
 refine r_z 2 ?_
 refine r_c 4 (ec_ c x h.1) ?_
 refine a_z ?_
 refine aO_ (fun n : Int => ⟨[(5, i64 n)], [], 1, 20⟩) (fun n => n = bo_ c x) ?_ ?_
 ·refine ac_ (r_d hmix 8 ?_)
  refine c_s (hO_ c.p x h.2) ?_
  refine c_s (cc_ (evalP c.p x)) ?_
  refine a_1 ?_
  refine aj_ (n_k ?_)
  refine af_ rfl (fun h1 => ?_) (fun h1 => ?_)
  ·have h0 : evalP c.p x = 0 := by
    have : sgZ (evalP c.p x).num = 0 := by simpa using h1
    exact sgZ_num_eq.1 this
   refine r_m 3 ?_
   refine a_z ?_
   refine ⟨uptoV c x - 1, by unfold bo_; rw [if_pos h0], ?_⟩
   exact s_e []
  ·have h0 : evalP c.p x ≠ 0 := by
    intro e
    have : ¬ sgZ (evalP c.p x).num = 0 := by simpa using h1
    exact this (sgZ_num_eq.2 e)
   refine ag_ ⟨uptoV c x, by unfold bo_; rw [if_neg h0], ?_⟩
   exact s_e []
 rintro n rfl
 refine r_z 2 ?_
 exact ae_ (t_e (ad_ _))
theorem fs_all (c : Cnt) (h : okAll c) : FSpec Tryz.prog 185 [kA c] (i64 (allV c)) := by
 refine f_n Tryz.func185 ?_ ?_
 ·exact aa_ (b4_ c) ab_
 refine r_z 1 ?_
 refine r_c 8 (m2_ c.p h.1 h.2.1) ?_
 refine c_s (ec_ c (bW_ c.p) h.2.2) ?_
 refine a_z ?_
 exact ae_ (t_e (ad_ _))
theorem lW_ (c : Cnt) (i : Int) (x : Rat) (h : okBe c x) : FSpec Tryz.prog 158 [plA c i, .agg (qC x)] (i64 (plC c i x)) := by
 refine f_n Tryz.func158 ?_ ?_
 ·exact aa_ (bu_ c i) (aa_ (ak_ x) ab_)
 refine r_z 2 ?_
 refine ac_ (ac_ (r_d hmix 7 ?_))
 refine c_s (dK_ c x h) ?_
 refine a_1 ?_
 refine aj_ (n_k ?_)
 refine au_ (fun _ : Unit => ⟨[], [], 1, 36⟩) (fun _ => plC c i x = 1) ?_ ?_
 ·refine ah_ (r_z 7 ?_)
  refine af_ rfl (fun h1 => ?_) (fun h1 => ?_)
  ·have h2 : i < bo_ c x := by simpa using h1
   refine r_z 1 ?_
   refine ae_ (aD_ rfl ?_ ?_)
   ·unfold plC; rw [if_pos h2]; rfl
   ·exact ad_ _
  ·have h2 : ¬ i < bo_ c x := by simpa using h1
   by_cases h3 : bo_ c x = i
   ·refine ac_ (r_d hmix 17 ?_)
    refine a_7 ?_
    refine y_g rfl (by simp [h3]) (.move rfl) ?_
    refine y_g rfl (by simp [h3]) (.nilCheck rfl rfl) ?_
    first | refine y_g rfl (by simp [h3]) (.fieldAddr_l rfl tf_167_0.h (by decide)) ?_ | refine y_g rfl (by simp [h3]) (.fieldAddr_a rfl tf_167_0.h (by decide)) ?_
    first | refine y_g rfl (by simp [h3]) (.load_l1 rfl rfl rfl tg_164.h rfl) ?_ | refine y_g rfl (by simp [h3]) (.load_a1 rfl rfl tg_164.h rfl) ?_
    first | refine y_g rfl (by simp [h3]) (.load_l rfl rfl rfl tg_37.h ts_37.h (nle rfl)) ?_ | refine y_g rfl (by simp [h3]) (.load_a rfl rfl tg_37.h ts_37.h (nle rfl)) ?_
    refine y_g rfl (by simp [h3]) (.call rfl rfl rfl (ec_ c x h.1)) ?_
    refine y_g rfl (by simp [h3]) (.move rfl) ?_
    refine y_g rfl (by simp [h3]) (.bin rfl rfl ei_) ?_
    refine o_0 (.pickT rfl (by simp [h3]) rfl) ?_
    refine a_1 ?_
    refine aj_ (n_k ?_)
    refine af_ rfl (fun h4 => ?_) (fun h4 => ?_)
    ·have h5 : bo_ c x < uptoV c x := by simpa using h4
     refine r_z 1 ?_
     refine ae_ (aD_ rfl ?_ ?_)
     ·unfold plC; rw [if_neg h2, if_pos ⟨h3, h5⟩]; rfl
     ·exact ad_ _
    ·have h5 : ¬ bo_ c x < uptoV c x := by simpa using h4
     refine ag_ ⟨(), by unfold plC; rw [if_neg h2, if_neg fun e => h5 e.2], ?_⟩
     exact s_e []
   ·refine ac_ (r_d hmix 17 ?_)
    refine a_7 ?_
    refine n_g rfl (by simp [h3]) ?_
    refine n_g rfl (by simp [h3]) ?_
    refine n_g rfl (by simp [h3]) ?_
    refine n_g rfl (by simp [h3]) ?_
    refine n_g rfl (by simp [h3]) ?_
    refine n_g rfl (by simp [h3]) ?_
    refine n_g rfl (by simp [h3]) ?_
    refine n_g rfl (by simp [h3]) ?_
    refine o_0 (.pickF rfl (by simp [h3]) rfl) ?_
    refine a_1 ?_
    refine aj_ (n_k ?_)
    refine cF ?_
    ·refine ag_ ⟨(), by unfold plC; rw [if_neg h2, if_neg fun e => h3 e.1], ?_⟩
     exact s_e []
 rintro _ hr
 refine r_z 1 ?_
 refine ae_ (aD_ rfl ?_ ?_)
 ·rw [hr]; rfl
 ·exact ad_ _
def hiV (c : Cnt) (step : Rat) : Rat := ceilQ (bW_ c.p / step)
def okDown (c : Cnt) (step : Rat) (lo : Rat) : Prop := ju_ c.p ∧ trimQ c.p ≠ [] ∧ step ≠ 0 ∧ qs (bW_ c.p) + qs step ≤ 549755813888 ∧ qs lo + qs step ≤ 549755813888 ∧ okBe c (lo * step)
instance (c : Cnt) (step lo : Rat) : Decidable (okDown c step lo) := inferInstanceAs (Decidable (_ ∧ _ ∧ _ ∧ _ ∧ _ ∧ _))
def downM (f : Nat) (c : Cnt) (i : Int) (step : Rat) : Option (Rat × Bool) :=
 (biM c i step f (-hiV c step) (hiV c step)).bind fun lo => if okDown c step lo then some (lo * step, plC c i (lo * step) == 0) else none
def dnS (c : Cnt) (i : Int) (step : Rat) : Rat × Rat → AState
 | (lo, hi) => ⟨[(0, plA c i), (3, .lptr 1 0 0), (4, .lptr 2 0 0), (6, .lptr 3 0 0), (7, .lptr 4 0 0), (8, .lptr 5 0 0)], [(1, some ⟨37, 3, [qC step]⟩), (2, some ⟨37, 3, [zC]⟩), (3, some ⟨37, 3, [qC hi]⟩), (4, some ⟨37, 3, [qC lo]⟩), (5, some ⟨37, 3, [qC 2]⟩)], 6, 52⟩
theorem iP_ (c : Cnt) (i : Int) (step : Rat) (lo : Rat) (hi : Rat) : dnS c i step (lo, hi) = ⟨[(0, plA c i), (3, .lptr 1 0 0), (4, .lptr 2 0 0), (6, .lptr 3 0 0), (7, .lptr 4 0 0), (8, .lptr 5 0 0)], [(1, some ⟨37, 3, [qC step]⟩), (2, some ⟨37, 3, [zC]⟩), (3, some ⟨37, 3, [qC hi]⟩), (4, some ⟨37, 3, [qC lo]⟩), (5, some ⟨37, 3, [qC 2]⟩)], 6, 52⟩ := rfl
theorem fs_down (f : Nat) (c : Cnt) (i : Int) (step : Rat) (r : Rat × Bool) (h : downM f c i step = some r) : FSpec Tryz.prog 160 [plA c i, .agg (qC step)] (.tup [.agg (qC r.1), bln r.2]) := by
 unfold downM at h
 obtain ⟨l, hl, h2⟩ := Option.bind_eq_some_iff.1 h
 split at h2
 case isFalse => cases h2
 case isTrue hk =>
 cases h2
 obtain ⟨k1, k2, k3, k4, k5, k6⟩ := hk
 have hq := ek_ (bW_ c.p) step
 refine f_n Tryz.func160 ?_ ?_
 ·exact aa_ (bu_ c i) (aa_ (ak_ step) ab_)
 refine r_z 3 ?_
 refine ac_ (r_d hmix 13 ?_)
 refine c_s (m2_ c.p k1 k2) ?_
 refine c_s (dk_ (bW_ c.p) step k3 k4) ?_
 refine c_s (pF_ (bW_ c.p / step) (by omega)) ?_
 refine a_2 ?_
 refine aj_ (n_k ?_)
 refine r_c 4 (iF_ (ceilQ (bW_ c.p / step))) ?_
 refine a_z ?_
 refine r_c 3 (cu_ 2 (by decide)) ?_
 refine a_z ?_
 refine aO_ (fun hi : Rat => dnS c i step (l, hi)) (fun _ => True) ?_ ?_
 ·refine ah_ (ao_ (fun x : Nat × Rat × Rat => dnS c i step x.2) (fun x => x.1) (fun x => biM c i step x.1 x.2.1 x.2.2 = some l) (f, -hiV c step, hiV c step) hl ?_ ?_)
  ·simp only [iP_, hiV]
   exact s_e [(2, 4), (3, 6), (4, 7), (5, 8)]
  rintro ⟨f, lo, hi⟩ h
  simp only at h
  simp only [iP_]
  cases f with
  | zero => cases h
  | succ f =>
   rw [biM] at h
   split at h
   case isFalse => cases h
   case isTrue hs =>
   obtain ⟨s1, s2, s3⟩ := hs
   refine ac_ (r_c 6 (kQ_ hi lo (sm2 s2 s1)) ?_)
   refine c_s (cu_ 1 (by decide)) ?_
   refine c_s (kV_ (hi - lo) 1 s3 (by decide)) ?_
   refine a_z ?_
   refine af_ rfl (fun h1 => ?_) (fun h1 => ?_)
   ·have h2 : 0 < cmpQ (hi - lo) 1 := by simpa using h1
    rw [if_pos h2] at h
    split at h
    case isFalse => cases h
    case isTrue ht =>
    obtain ⟨t1, t2⟩ := ht
    have hq1 := hk_ lo hi
    have hq2 : qs 2 = 2 := by decide
    have hq3 := ek_ (lo + hi) 2
    unfold sm at s1 s2
    refine ag_ (ah_ (ac_ (r_d hmix 8 ?_)))
    refine c_s (ep_ lo hi (by omega)) ?_
    refine c_s (dk_ (lo + hi) 2 (by decide) (by omega)) ?_
    refine c_s (gX_ ((lo + hi) / 2) (by omega)) ?_
    refine a_2 ?_
    refine aj_ (n_k ?_)
    refine r_c 6 (cf_ (((lo + hi) / 2).floor : Rat) step t1) ?_
    refine c_s (lW_ c i ((((lo + hi) / 2).floor : Rat) * step) t2) ?_
    refine a_z ?_
    refine af_ rfl (fun h3 => ?_) (fun h3 => ?_)
    ·have h4 : 0 ≤ plC c i ((((lo + hi) / 2).floor : Rat) * step) := by simpa using h3
     rw [if_pos h4] at h
     refine r_m 2 ?_
     refine a_z ?_
     refine ⟨(f, (((lo + hi) / 2).floor : Rat), hi), Nat.lt_succ_self f, h, ?_⟩
     simp only [iP_]
     exact s_e []
    ·have h4 : ¬ 0 ≤ plC c i ((((lo + hi) / 2).floor : Rat) * step) := by simpa using h3
     rw [if_neg h4] at h
     refine r_m 2 ?_
     refine a_z ?_
     refine ⟨(f, lo, (((lo + hi) / 2).floor : Rat)), Nat.lt_succ_self f, h, ?_⟩
     simp only [iP_]
     exact s_e []
   ·have h2 : ¬ 0 < cmpQ (hi - lo) 1 := by simpa using h1
    rw [if_neg h2] at h
    cases h
    refine al_ ⟨hi, trivial, ?_⟩
    simp only [iP_]
    exact s_e []
 rintro hi _
 simp only [iP_]
 refine r_c 4 (cf_ l step k5) ?_
 refine a_z ?_
 refine ac_ (r_d hmix 7 ?_)
 refine c_s (lW_ c i (l * step) k6) ?_
 refine a_3 ?_
 refine aj_ (n_k ?_)
 refine ae_ (Fin.many ⟨_, _, rfl, ⟨_, _, _, _, _, rfl, rfl, rfl, .inl ⟨tg_37.h, _, ts_37.h, nle rfl, rfl⟩⟩, ⟨_, _, rfl, rfl, rfl⟩⟩ (nle rfl) ?_)
 exact ai_ (ar_ at_ (ak_ _)) (ai_ (ar_ at_ (ad_ _)) ap_)
def spanM (f : Nat) (c : Cnt) (i : Int) (k : Int) : Option Sp :=
 (downM f c i (fineQ (wi k 256))).bind fun r => if r.2 then some (r.1, r.1) else if qs r.1 + qs (fineQ (wi k 256)) ≤ 549755813888 then some (r.1, r.1 + fineQ (wi k 256)) else none
theorem ps_ (f : Nat) (c : Cnt) (i : Int) (k : Int) (s : Sp) (h : spanM f c i k = some s) : FSpec Tryz.prog 108 [plA c i, i64 k] (.agg (spC s.1 s.2)) := by
 unfold spanM at h
 obtain ⟨⟨at', ex⟩, hd, h2⟩ := Option.bind_eq_some_iff.1 h
 refine f_n Tryz.func108 ?_ ?_
 ·exact aa_ (bu_ c i) (aa_ (ad_ _) ab_)
 refine r_z 1 ?_
 refine r_c 4 (hN_ k) ?_
 refine a_z ?_
 refine r_c 9 (fs_down f c i (fineQ (wi k 256)) (at', ex) hd) ?_
 refine a_z ?_
 refine ac_ (r_z 1 ?_)
 refine af_ rfl (fun h1 => ?_) (fun h1 => ?_)
 ·subst h1
  rw [if_pos rfl] at h2
  cases h2
  refine r_c 3 (fs_At at') ?_
  refine a_z ?_
  exact ae_ (c_e (aA_ _ _))
 ·subst h1
  rw [if_neg (show ¬ false = true by decide)] at h2
  split at h2
  case isFalse => cases h2
  case isTrue hs =>
  cases h2
  refine ag_ (ac_ (r_d hmix 6 ?_))
  refine c_s (ep_ at' (fineQ (wi k 256)) hs) ?_
  refine a_2 ?_
  refine aj_ (n_k ?_)
  exact ae_ (c_e (aA_ _ _))
abbrev roA (p : List Rat) (i : Int) : AV := .agg [.arr (pE p), i64 i]
theorem iT_ (p : List Rat) (i : Int) : Closed (roA p i) := aq_ (aa_ (am_ p) (aa_ (ad_ _) ab_))
def kC_ (f : Nat) (p : List Rat) : Option Cnt := if p.length ≤ 274877906944 ∧ ce_ p = 0 then (cY_ f p).bind fun c => if okAll c then some c else none else none
theorem fs_place (f : Nat) (p : List Rat) (i : Int) (c : Cnt) (h : kC_ f p = some c) (hf : f ≤ 1000000) (hi : 0 ≤ i) : FSpec Tryz.prog 107 [roA p i] (.tup [plA c i, bln (decide (i < allV c))]) := by
 unfold kC_ at h
 split at h
 case isFalse => cases h
 case isTrue hp =>
 obtain ⟨c', hc, h2⟩ := Option.bind_eq_some_iff.1 h
 split at h2
 case isFalse => cases h2
 case isTrue hk =>
 cases h2
 refine f_n Tryz.func107 ?_ ?_
 ·exact aa_ (iT_ p i) ab_
 refine r_z 3 ?_
 refine ac_ (r_c 9 (fP_ p (by omega)) ?_)
 refine a_2 ?_
 first | refine y_g rfl (by simp [hp.2]) (.fieldAddr_l rfl tf_59_1.h (by decide)) ?_ | refine y_g rfl (by simp [hp.2]) (.fieldAddr_a rfl tf_59_1.h (by decide)) ?_
 first | refine y_g rfl (by simp [hp.2]) (.load_l1 rfl rfl rfl tg_3.h rfl) ?_ | refine y_g rfl (by simp [hp.2]) (.load_a1 rfl rfl tg_3.h rfl) ?_
 refine y_g rfl (by simp [hp.2]) (.bin rfl rfl bZ_) ?_
 refine o_0 (.pickF rfl (by simp [hp.2]) rfl) ?_
 refine aj_ ?_
 refine af_ rfl (fun h => ?_) (fun h => ?_)
 ·exact absurd h (by simp; omega)
 refine ag_ (ac_ (r_d hmix 8 ?_))
 refine c_s (dX_ f p c hc hf) ?_
 refine a_5 ?_
 refine aj_ (n_k ?_)
 refine ac_ (r_d hmix 11 ?_)
 refine c_s (fs_all c hk) ?_
 refine a_3 ?_
 refine aj_ (n_k ?_)
 refine ae_ (Fin.many ⟨_, _, rfl, rfl, ⟨_, _, rfl, rfl, rfl⟩⟩ (nle rfl) ?_)
 exact ai_ (Cv.boxp at_ rfl (fun _ _ h => by cases h) rfl (aa_ (b4_ c) (aa_ (ad_ _) ab_))) (ai_ (ar_ at_ (ad_ _)) ap_)
theorem fs_RSpan (f : Nat) (p : List Rat) (i k : Int) (c : Cnt) (s : Sp) (h : kC_ f p = some c) (hf : f ≤ 1000000) (hi : 0 ≤ i) (hall : i < allV c) (hs : spanM f c i k = some s) : FSpec Tryz.prog 34 [roA p i, i64 k] (.tup [.agg (spC s.1 s.2), i64 0]) := by
 refine f_n Tryz.func34 ?_ ?_
 ·exact aa_ (iT_ p i) (aa_ (ad_ _) ab_)
 refine r_z 3 ?_
 refine r_c 7 (fs_place f p i c h hf hi) ?_
 refine a_z ?_
 refine ac_ (r_z 2 ?_)
 refine af_ rfl (fun h1 => ?_) (fun h1 => ?_)
 ·exact absurd h1 (by simp [hall])
 refine ag_ (r_c 5 (ps_ f c i k s hs) ?_)
 refine a_z ?_
 refine ae_ (Fin.many ⟨_, _, rfl, ⟨_, _, _, _, _, rfl, rfl, rfl, .inl ⟨tg_65.h, _, ts_65.h, nle rfl, rfl⟩⟩, ⟨_, _, rfl, rfl, rfl⟩⟩ (nle rfl) ?_)
 exact ai_ (ar_ at_ (aA_ _ _)) (ai_ (ar_ at_ (ad_ _)) ap_)
def midV (s : Sp) : Rat := (s.1 + s.2) * fineQ 1
def nextS (c : Cnt) (i : Int) (s : Sp) : Sp := if plC c i (midV s) = 0 then (midV s, midV s) else if plC c i (midV s) = 1 then (midV s, s.2) else (s.1, midV s)
def gw_ (c : Cnt) (s : Sp) : Prop := smS s ∧ okBe c (midV s)
instance (c : Cnt) (s : Sp) : Decidable (gw_ c s) := inferInstanceAs (Decidable (_ ∧ _))
def closV (c : Cnt) (i : Int) (s0 : Sp) : Nat → Sp
 | 0 => s0
 | k + 1 => nextS c i (closV c i s0 k)
def closT (c : Cnt) (i : Int) (s0 : Sp) (k : Nat) : Option (List AV) := some [.agg (spC (closV c i s0 k).1 (closV c i s0 k).2)]
abbrev bPl (c : Cnt) (i : Int) : AV := .aptr [[plA c i]] 0 0
theorem bB_ (c : Cnt) (i : Int) : Closed (bPl c i) := aP_ (aa_ (bu_ c i) ab_)
theorem hE_ (f : Nat) (c : Cnt) (i : Int) (s0 : Sp) (K : Nat) (h : spanM f c i 0 = some s0) (hok : ∀ k, k < K → gw_ c (closV c i s0 k)) : GSpecB Tryz.prog 243 [bPl c i] (closT c i s0) K := by
 refine GSpecB.enter Tryz.func243 rfl (by kernel_rfl) rfl rfl rfl ?_ ?_ rfl ?_
 ·exact aa_ (bB_ c i) ab_
 ·intro k xs h
  cases h
  exact aa_ (aA_ _ _) ab_
 intro ll N hN E
 refine GWp.seq ?_
 refine GWp.lift ?_
 refine r_m 4 ?_
 refine c_s (ps_ f c i 0 s0 h) ?_
 refine a_z ?_
 refine GWp.block ?_
 refine GWp.loopS (fun k : Nat => ⟨[(0, .v (.func (.yield ll) #[] #[])), (1, bPl c i), (3, .lptr 1 0 0)], [(1, some ⟨65, 6, [spC (closV c i s0 k).1 (closV c i s0 k).2]⟩)], 2, 25⟩) (fun k => k) (fun k => N + 1 - k) (fun k => k ≤ N) 0 (Nat.zero_le _) rfl ?_ ?_
 ·have := bB_ c i
  exact s_f [(1, 3)]
 intro k hk
 refine GWp.seq ?_
 refine GWp.seq ?_
 refine GWp.regY (fr2 := [(0, .v (.func (.yield ll) #[] #[])), (1, bPl c i), (3, .lptr 1 0 0), (7, .v (.func (.yield ll) #[] #[])), (8, .agg (spC (closV c i s0 k).1 (closV c i s0 k).2))]) (hp2 := [(1, some ⟨65, 6, [spC (closV c i s0 k).1 (closV c i s0 k).2]⟩)]) (nx2 := 2) 2 rfl rfl rfl rfl rfl rfl ?_ rfl rfl rfl ?_ ?_ ?_
 ·refine o_0 (.move rfl) ?_
  first | refine aG_ (.load_l rfl rfl rfl tg_65.h ts_65.h (nle rfl)) rfl rfl ?_ | refine aG_ (.load_a rfl rfl tg_65.h ts_65.h (nle rfl)) rfl rfl ?_
  refine aj_ ?_
  refine SEntT.to [] rfl rfl rfl au_r (fun hs => au_f) (fun hs => au_h)
 rotate_left 2
 intro go
 refine aj_ ?_
 rotate_left
 ·rfl
 ·exact aa_ (aA_ _ _) ab_
 cases go with
 | false =>
  refine GWp.cond rfl (fun h => ?_) (fun h => ?_)
  ·cases h
  ·exact GWp.exit ⟨.inl rfl, fun h => by cases h⟩
 | true =>
  refine GWp.bound fun hk1 => ?_
  refine GWp.cond rfl (fun h => ?_) (fun h => ?_)
  rotate_left
  ·cases h
  refine GWp.skip ?_
  have hn := hok k (by omega)
  obtain ⟨hs, hb⟩ := hn
  have hnx : closV c i s0 (k + 1) = nextS c i (closV c i s0 k) := rfl
  obtain ⟨s, hsd⟩ : ∃ s, s = closV c i s0 k := ⟨_, rfl⟩
  rw [← hsd] at hs hb hnx ⊢
  refine GWp.lift ?_
  refine ah_ (r_c 4 (n1_ s.1 s.2 hs.1 hs.2) ?_)
  refine a_z ?_
  refine r_c 3 (lW_ c i (midV s) hb) ?_
  refine aj_ ?_
  refine ah_ (r_z 2 ?_)
  refine af_ rfl (fun h1 => ?_) (fun h1 => ?_)
  ·have h2 : plC c i (midV s) = 0 := by simpa using h1
   have hx : closV c i s0 (k + 1) = (midV s, midV s) := by rw [hnx]; unfold nextS; rw [if_pos h2]
   refine r_m 3 ?_
   refine c_s (fs_At (midV s)) ?_
   refine a_z ?_
   refine ⟨rfl, k + 1, by omega, hk1, rfl, ?_⟩
   simp only [hx]
   have := bB_ c i
   exact s_f []
  ·have h2 : ¬ plC c i (midV s) = 0 := by simpa using h1
   refine r_z 2 ?_
   refine af_ rfl (fun h3 => ?_) (fun h3 => ?_)
   ·have h4 : plC c i (midV s) = 1 := by simpa using h3
    have hx : closV c i s0 (k + 1) = (midV s, s.2) := by rw [hnx]; unfold nextS; rw [if_neg h2, if_pos h4]
    refine r_m 3 ?_
    refine a_z ?_
    refine ⟨rfl, k + 1, by omega, hk1, rfl, ?_⟩
    simp only [hx]
    have := bB_ c i
    exact s_f []
   ·have h4 : ¬ plC c i (midV s) = 1 := by simpa using h3
    have hx : closV c i s0 (k + 1) = (s.1, midV s) := by rw [hnx]; unfold nextS; rw [if_neg h2, if_neg h4]
    refine r_m 3 ?_
    refine a_z ?_
    refine ⟨rfl, k + 1, by omega, hk1, rfl, ?_⟩
    simp only [hx]
    have := bB_ c i
    exact s_f []
theorem hL_ (c : Cnt) (i : Int) : FSpec Tryz.prog 188 [plA c i] (.clos 243 [] [bPl c i]) := by
 refine f_n Tryz.func188 ?_ ?_
 ·exact aa_ (bu_ c i) ab_
 refine r_z 2 ?_
 refine r_z 2 ?_
 refine ae_ (⟨.inr rfl, [_], ⟨_, [], rfl, rfl, rfl⟩, ?_⟩)
 exact Cv.clos ap_ (ai_ (Cv.boxp at_ rfl (fun _ _ h => by cases h) rfl (aa_ (bu_ c i) ab_)) ap_)
def hR_ (t : Nat → Option Bool) : Nat → Nat → Option Nat
 | 0, _ => none
 | f + 1, k => match t k with
  | some true => some k
  | some false => hR_ t f (k + 1)
  | none => none
theorem eg_ {t : Nat → Option Bool} : ∀ {f k0 k : Nat}, hR_ t f k0 = some k → t k = some true ∧ k0 ≤ k ∧ ∀ j, k0 ≤ j → j < k → t j = some false
 | 0, _, _, h => by cases h
 | f + 1, k0, k, h => by
  rw [hR_] at h
  split at h
  ·cases h; exact ⟨by assumption, Nat.le_refl _, fun j h1 h2 => by omega⟩
  ·obtain ⟨h1, h2, h3⟩ := eg_ h
   refine ⟨h1, by omega, fun j hj1 hj2 => ?_⟩
   by_cases e : j = k0
   ·rw [e]; assumption
   ·exact h3 j (by omega) hj2
  ·cases h
def ib_ (c : Cnt) (i : Int) (s : Sp) : Option Bool := if okBe c s.1 ∧ okUp c s.2 ∧ gw_ c s ∧ -4611686018427387904 ≤ i ∧ i ≤ 4611686018427387904 then some (decide (bo_ c s.1 = i ∧ uptoV c s.2 = i + 1)) else none
def alS (c : Cnt) (i : Int) : Nat → AState
 | k => ⟨[(1, bPl c i), (2, .lptr 1 0 0), (3, .lptr 2 0 0), (6, .clos 243 [] [bPl c i])], [(1, some ⟨65, 6, [zC ++ zC]⟩), (2, some ⟨65, 6, [zC ++ zC]⟩)], 3, 37⟩
theorem alS_mk (c : Cnt) (i : Int) (k : Nat) : alS c i k = ⟨[(1, bPl c i), (2, .lptr 1 0 0), (3, .lptr 2 0 0), (6, .clos 243 [] [bPl c i])], [(1, some ⟨65, 6, [zC ++ zC]⟩), (2, some ⟨65, 6, [zC ++ zC]⟩)], 3, 37⟩ := rfl
def alX (s : Sp) : Unit → AState
 | u => ⟨[(2, .lptr 1 0 0), (3, .lptr 2 0 0)], [(1, some ⟨65, 6, [zC ++ zC]⟩), (2, some ⟨65, 6, [spC s.1 s.2]⟩)], 3, 37⟩
theorem alX_mk (s : Sp) (u : Unit) : alX s u = ⟨[(2, .lptr 1 0 0), (3, .lptr 2 0 0)], [(1, some ⟨65, 6, [zC ++ zC]⟩), (2, some ⟨65, 6, [spC s.1 s.2]⟩)], 3, 37⟩ := rfl
theorem fs_alone (f g : Nat) (c : Cnt) (i : Int) (s0 : Sp) (kk : Nat) (h : spanM f c i 0 = some s0) (hk : hR_ (fun k => ib_ c i (closV c i s0 k)) g 0 = some kk) : FSpec Tryz.prog 261 [plA c i] (.agg (spC (closV c i s0 kk).1 (closV c i s0 kk).2)) := by
 obtain ⟨h1, _, h2⟩ := eg_ hk
 have hok : ∀ k, k ≤ kk → okBe c (closV c i s0 k).1 ∧ okUp c (closV c i s0 k).2 ∧ gw_ c (closV c i s0 k) ∧ -4611686018427387904 ≤ i ∧ i ≤ 4611686018427387904 := fun k hk => by
  have : ∃ b, ib_ c i (closV c i s0 k) = some b := by
   by_cases e : k = kk
   ·rw [e]; exact ⟨_, h1⟩
   ·exact ⟨_, h2 k (Nat.zero_le _) (by omega)⟩
  obtain ⟨b, hb⟩ := this
  unfold ib_ at hb
  split at hb
  ·assumption
  ·cases hb
 have hgs := hE_ f c i s0 kk h (fun k hk => (hok k (by omega)).2.2.1)
 refine f_n Tryz.func261 ?_ ?_
 ·exact aa_ (bu_ c i) ab_
 refine r_z 2 ?_
 refine r_z 1 ?_
 refine AWp.ent (st' := ⟨[(1, bPl c i), (2, .lptr 1 0 0), (3, .lptr 2 0 0)], [(1, some ⟨65, 6, [zC ++ zC]⟩), (2, some ⟨65, 6, [zC ++ zC]⟩)], 3, 37⟩) ?_ ?_
 ·have := (aa_ (bu_ c i) ab_)
  exact s_f [(1, 2), (2, 3)]
 refine ac_ (r_c 2 (hL_ c i) ?_)
 refine aj_ ?_
 refine au_ (alX (closV c i s0 kk)) (fun _ => True) ?_ ?_
 ·refine ah_ (AWp.rangeFuncB (α := Nat) (γ := Unit) kk (alS c i) (fun k => k) (fun k => k ≤ kk) (alX (closV c i s0 kk)) (fun e _ => e = .exit 0) 0 rfl hgs rfl rfl ?_ (fun _ => ⟨rfl, rfl⟩) (fun _ => rfl) (Nat.zero_le _) rfl (fun _ h => h) ?_ ?_ ?_ ?_ ?_)
  ·intro k xs hT; cases hT; rfl
  ·rw [alS_mk]
   have := bB_ c i
   exact s_t []
  ·exact aa_ (bB_ c i) ab_
  ·intro l k xs hk hT
   cases hT
   have hx := hok k hk
   obtain ⟨s, hsd⟩ : ∃ s, s = closV c i s0 k := ⟨_, rfl⟩
   rw [← hsd] at hx ⊢
   obtain ⟨x1, x2, x3, x4, x5⟩ := hx
   show AWp _ _ _ _ ⟨[(7, .agg (spC s.1 s.2)), (1, bPl c i), (2, .lptr 1 0 0), (3, .lptr 2 0 0), (6, .clos 243 [] [bPl c i]), (1001, bPl c i), (1002, .lptr 1 0 0), (1003, .lptr 2 0 0), (1006, .clos 243 [] [bPl c i])], [(1, some ⟨65, 6, [zC ++ zC]⟩), (2, some ⟨65, 6, [zC ++ zC]⟩)], 3, 37⟩
   refine r_m 2 ?_
   refine a_z ?_
   refine ah_ ?_
   by_cases hb : bo_ c s.1 = i
   ·refine ac_ (r_d hmix 27 ?_)
    refine c_s (dK_ c s.1 x1) ?_
    refine a_6 ?_
    first | refine y_g rfl (by simp [hb]) (.load_l1 rfl rfl rfl tg_150.h rfl) ?_ | refine y_g rfl (by simp [hb]) (.load_a1 rfl rfl tg_150.h rfl) ?_
    refine y_g rfl (by simp [hb]) (.nilCheck rfl rfl) ?_
    first | refine y_g rfl (by simp [hb]) (.fieldAddr_l rfl tf_167_0.h (by decide)) ?_ | refine y_g rfl (by simp [hb]) (.fieldAddr_a rfl tf_167_0.h (by decide)) ?_
    first | refine y_g rfl (by simp [hb]) (.load_l1 rfl rfl rfl tg_164.h rfl) ?_ | refine y_g rfl (by simp [hb]) (.load_a1 rfl rfl tg_164.h rfl) ?_
    first | refine y_g rfl (by simp [hb]) (.fieldAddr_l rfl tf_65_1.h (by decide)) ?_ | refine y_g rfl (by simp [hb]) (.fieldAddr_a rfl tf_65_1.h (by decide)) ?_
    first | refine y_g rfl (by simp [hb]) (.load_l rfl rfl rfl tg_37.h ts_37.h (nle rfl)) ?_ | refine y_g rfl (by simp [hb]) (.load_a rfl rfl tg_37.h ts_37.h (nle rfl)) ?_
    refine y_g rfl (by simp [hb]) (.call rfl rfl rfl (ec_ c s.2 x2)) ?_
    first | refine y_g rfl (by simp [hb]) (.load_l1 rfl rfl rfl tg_150.h rfl) ?_ | refine y_g rfl (by simp [hb]) (.load_a1 rfl rfl tg_150.h rfl) ?_
    refine y_g rfl (by simp [hb]) (.nilCheck rfl rfl) ?_
    first | refine y_g rfl (by simp [hb]) (.fieldAddr_l rfl tf_167_1.h (by decide)) ?_ | refine y_g rfl (by simp [hb]) (.fieldAddr_a rfl tf_167_1.h (by decide)) ?_
    first | refine y_g rfl (by simp [hb]) (.load_l1 rfl rfl rfl tg_3.h rfl) ?_ | refine y_g rfl (by simp [hb]) (.load_a1 rfl rfl tg_3.h rfl) ?_
    refine y_g rfl (by simp [hb]) (.bin rfl rfl (nF_ (by omega))) ?_
    refine y_g rfl (by simp [hb]) (.bin rfl rfl a2_) ?_
    refine o_0 (.pickT rfl (by simp [hb]) rfl) ?_
    refine aj_ (n_k ?_)
    refine af_ rfl (fun h5 => ?_) (fun h5 => ?_)
    ·have h6 : uptoV c s.2 = i + 1 := by simpa using h5
     have he : k = kk := by
      refine Nat.le_antisymm hk (Nat.le_of_not_lt fun hlt => ?_)
      have h7 := h2 k (Nat.zero_le _) hlt
      rw [← hsd] at h7
      unfold ib_ at h7
      rw [if_pos ⟨x1, x2, x3, x4, x5⟩] at h7
      simp [hb, h6] at h7
     subst he
     refine r_z 2 ?_
     refine al_ (⟨rfl, (), rfl, ?_⟩)
     rw [← hsd]
     show SEntT _ ⟨[(1002, .lptr 1 0 0), (1003, .lptr 2 0 0)], [(1, some ⟨65, 6, [zC ++ zC]⟩), (2, some ⟨65, 6, [spC s.1 s.2]⟩)], 3, 37⟩
     refine SEntT.to [] rfl rfl rfl au_r (fun hs => au_f) (fun hs => au_h)
    ·have h6 : ¬ uptoV c s.2 = i + 1 := by simpa using h5
     have he : k < kk := by
      refine Nat.lt_of_le_of_ne hk fun e => ?_
      subst e
      rw [← hsd] at h1
      unfold ib_ at h1
      rw [if_pos ⟨x1, x2, x3, x4, x5⟩] at h1
      simp [h6] at h1
     refine ag_ (⟨k + 1, ⟨he, rfl⟩, ?_⟩)
     show SEntT _ ⟨[(1001, bPl c i), (1002, .lptr 1 0 0), (1003, .lptr 2 0 0), (1006, .clos 243 [] [bPl c i])], [(1, some ⟨65, 6, [zC ++ zC]⟩), (2, some ⟨65, 6, [zC ++ zC]⟩)], 3, 37⟩
     refine SEntT.to [] rfl rfl rfl au_r (fun hs => au_f) (fun hs => au_h)
   ·refine ac_ (r_d hmix 27 ?_)
    refine c_s (dK_ c s.1 x1) ?_
    refine a_6 ?_
    refine n_g rfl (by simp [hb]) ?_
    refine n_g rfl (by simp [hb]) ?_
    refine n_g rfl (by simp [hb]) ?_
    refine n_g rfl (by simp [hb]) ?_
    refine n_g rfl (by simp [hb]) ?_
    refine n_g rfl (by simp [hb]) ?_
    refine n_g rfl (by simp [hb]) ?_
    refine n_g rfl (by simp [hb]) ?_
    refine n_g rfl (by simp [hb]) ?_
    refine n_g rfl (by simp [hb]) ?_
    refine n_g rfl (by simp [hb]) ?_
    refine n_g rfl (by simp [hb]) ?_
    refine n_g rfl (by simp [hb]) ?_
    refine o_0 (.pickF rfl (by simp [hb]) rfl) ?_
    refine aj_ (n_k ?_)
    refine cF ?_
    ·have he : k < kk := by
      refine Nat.lt_of_le_of_ne hk fun e => ?_
      subst e
      rw [← hsd] at h1
      unfold ib_ at h1
      rw [if_pos ⟨x1, x2, x3, x4, x5⟩] at h1
      simp [hb] at h1
     refine ag_ (⟨k + 1, ⟨he, rfl⟩, ?_⟩)
     show SEntT _ ⟨[(1001, bPl c i), (1002, .lptr 1 0 0), (1003, .lptr 2 0 0), (1006, .clos 243 [] [bPl c i])], [(1, some ⟨65, 6, [zC ++ zC]⟩), (2, some ⟨65, 6, [zC ++ zC]⟩)], 3, 37⟩
     refine SEntT.to [] rfl rfl rfl au_r (fun hs => au_f) (fun hs => au_h)
  ·intro k hk hT; cases hT
  ·rintro e u rfl
   exact ⟨u, trivial, SEnt.refl _⟩
 rintro u _
 rw [alX_mk]
 refine r_z 2 ?_
 exact ae_ (c_e (aA_ _ _))
def aloneM (f g : Nat) (c : Cnt) (i : Int) : Option Sp := (spanM f c i 0).bind fun s0 => (hR_ (fun k => ib_ c i (closV c i s0 k)) g 0).map (closV c i s0)
theorem pG_ (f g : Nat) (c : Cnt) (i : Int) (s : Sp) (h : aloneM f g c i = some s) : FSpec Tryz.prog 261 [plA c i] (.agg (spC s.1 s.2)) := by
 obtain ⟨s0, h1, h2⟩ := Option.bind_eq_some_iff.1 h
 obtain ⟨k, h3, rfl⟩ := Option.map_eq_some_iff.1 h2
 exact fs_alone f g c i s0 k h1 h3
def lE_ (f g : Nat) (c : Cnt) (i : Int) (q : List Rat) : Option Bool :=
 if c.p.length ≤ 274877906944 ∧ q.length ≤ 274877906944 then (gcdM f c.p q).bind fun d =>
  if d.length ≤ 274877906944 then
   if degP d < 1 then some false
   else (cY_ f d).bind fun c2 => (aloneM f g c i).bind fun s => if okUp c2 s.2 ∧ okBe c2 s.1 then some (decide (bo_ c2 s.1 < uptoV c2 s.2)) else none
  else none
 else none
theorem pv_ (f g : Nat) (c : Cnt) (i : Int) (q : List Rat) (r : Bool) (h : lE_ f g c i q = some r) (hf : f ≤ 1000000) : FSpec Tryz.prog 218 [plA c i, .arr (pE q)] (bln r) := by
 unfold lE_ at h
 split at h
 case isFalse => cases h
 case isTrue hl =>
 obtain ⟨d, hd, h2⟩ := Option.bind_eq_some_iff.1 h
 split at h2
 case isFalse => cases h2
 case isTrue hdl =>
 refine f_n Tryz.func218 ?_ ?_
 ·exact aa_ (bu_ c i) (aa_ (am_ q) ab_)
 refine r_z 1 ?_
 refine r_c 10 (fs_Gcd f c.p q d hd hl.1 hl.2) ?_
 refine a_z ?_
 refine ac_ (r_c 3 (br_ d (by omega)) ?_)
 refine a_z ?_
 refine af_ rfl (fun h3 => ?_) (fun h3 => ?_)
 ·have h4 : degP d < 1 := by simpa using h3
  rw [if_pos h4] at h2
  cases h2
  refine r_z 1 ?_
  exact ae_ (t_e (ad_ _))
 ·have h4 : ¬ degP d < 1 := by simpa using h3
  rw [if_neg h4] at h2
  obtain ⟨c2, hc2, h5⟩ := Option.bind_eq_some_iff.1 h2
  obtain ⟨s, hs, h6⟩ := Option.bind_eq_some_iff.1 h5
  split at h6
  case isFalse => cases h6
  case isTrue hk =>
  cases h6
  refine ag_ (r_c 7 (dX_ f d c2 hc2 hf) ?_)
  refine c_s (pG_ f g c i s hs) ?_
  refine a_z ?_
  refine ac_ (r_d hmix 10 ?_)
  refine c_s (ec_ c2 s.2 hk.1) ?_
  refine c_s (dK_ c2 s.1 hk.2) ?_
  refine a_2 ?_
  refine aj_ (n_k ?_)
  exact ae_ (t_e (ad_ _))
def signT (c : Cnt) (i : Int) (c2 : Cnt) (s : Sp) : Option Bool := if okUp c2 s.2 ∧ okBe c2 s.1 ∧ gw_ c s then some (decide (uptoV c2 s.2 = bo_ c2 s.1)) else none
def signM (f g : Nat) (c : Cnt) (i : Int) (q : List Rat) : Option Int :=
 if q.length ≤ 274877906944 then
  if degP q < 0 then some 0
  else (lE_ f g c i q).bind fun b => if b then some 0 else (cY_ f q).bind fun c2 => (spanM f c i 0).bind fun s0 =>
   (hR_ (fun k => signT c i c2 (closV c i s0 k)) g 0).bind fun k => if em_ q (closV c i s0 k).2 then some (sgZ (evalP q (closV c i s0 k).2).num) else none
 else none
def pgS (c : Cnt) (i : Int) (q : List Rat) (c2 : Cnt) : Nat → AState
 | k => ⟨[(0, plA c i), (3, bP q), (4, .lptr 1 0 0), (5, .aptr [[kA c2]] 0 0), (18, .clos 243 [] [bPl c i])], [(1, some ⟨3, 1, [[i64 0]]⟩)], 2, 34⟩
theorem pgS_mk (c : Cnt) (i : Int) (q : List Rat) (c2 : Cnt) (k : Nat) : pgS c i q c2 k = ⟨[(0, plA c i), (3, bP q), (4, .lptr 1 0 0), (5, .aptr [[kA c2]] 0 0), (18, .clos 243 [] [bPl c i])], [(1, some ⟨3, 1, [[i64 0]]⟩)], 2, 34⟩ := rfl
def pgX (r : Int) : Unit → AState
 | u => ⟨[(4, .lptr 1 0 0)], [(1, some ⟨3, 1, [[i64 r]]⟩)], 2, 34⟩
theorem iU_ (c : Cnt) : Closed (.aptr [[kA c]] 0 0) := aP_ (aa_ (b4_ c) ab_)
theorem fs_sign (f g : Nat) (c : Cnt) (i : Int) (q : List Rat) (r : Int) (h : signM f g c i q = some r) (hf : f ≤ 1000000) : FSpec Tryz.prog 157 [plA c i, .arr (pE q)] (i64 r) := by
 unfold signM at h
 split at h
 case isFalse => cases h
 case isTrue hl =>
 refine f_n Tryz.func157 ?_ ?_
 ·exact aa_ (bu_ c i) (aa_ (am_ q) ab_)
 refine r_z 2 ?_
 refine AWp.ent (st' := ⟨[(0, plA c i), (3, bP q), (4, .lptr 1 0 0)], [(1, some ⟨3, 1, [[i64 0]]⟩)], 2, 34⟩) ?_ ?_
 ·exact s_f [(1, 4)]
 by_cases hd : degP q < 0
 ·rw [if_pos hd] at h
  cases h
  refine ac_ (r_c 8 (br_ q (by omega)) ?_)
  refine a_2 ?_
  refine n_g rfl (by simp [hd]) ?_
  refine n_g rfl (by simp [hd]) ?_
  refine n_g rfl (by simp [hd]) ?_
  refine o_0 (.pickT rfl (by simp [hd]) rfl) ?_
  refine aj_ ?_
  refine af_ rfl (fun h1 => ?_) (fun h1 => ?_)
  ·refine r_z 1 ?_
   exact ae_ (Fin.cell1E rfl rfl rfl tg_3.h rfl rfl (ad_ _))
  ·cases h1
 rw [if_neg hd] at h
 obtain ⟨b, hb, h2⟩ := Option.bind_eq_some_iff.1 h
 refine ac_ (r_c 8 (br_ q (by omega)) ?_)
 refine a_2 ?_
 refine y_g rfl (by simp [hd]) (.move rfl) ?_
 first | refine y_g rfl (by simp [hd]) (.load_l1 rfl rfl rfl tg_25.h rfl) ?_ | refine y_g rfl (by simp [hd]) (.load_a1 rfl rfl tg_25.h rfl) ?_
 refine y_g rfl (by simp [hd]) (.call rfl rfl rfl (pv_ f g c i q b hb hf)) ?_
 refine o_0 (.pickF rfl (by simp [hd]) rfl) ?_
 refine aj_ ?_
 refine af_ rfl (fun h1 => ?_) (fun h1 => ?_)
 ·have hb1 : b = true := h1
  subst hb1
  rw [if_pos rfl] at h2
  cases h2
  refine r_z 1 ?_
  exact ae_ (Fin.cell1E rfl rfl rfl tg_3.h rfl rfl (ad_ _))
 have hb1 : b = false := h1
 subst hb1
 rw [if_neg (show ¬ false = true by decide)] at h2
 obtain ⟨c2, hc2, h3⟩ := Option.bind_eq_some_iff.1 h2
 obtain ⟨s0, hs0, h4⟩ := Option.bind_eq_some_iff.1 h3
 obtain ⟨kk, hkk, h5⟩ := Option.bind_eq_some_iff.1 h4
 split at h5
 case isFalse => cases h5
 case isTrue hev =>
 cases h5
 obtain ⟨t1, _, t2⟩ := eg_ hkk
 have hok : ∀ k, k ≤ kk → okUp c2 (closV c i s0 k).2 ∧ okBe c2 (closV c i s0 k).1 ∧ gw_ c (closV c i s0 k) := fun k hk => by
  have : ∃ b, signT c i c2 (closV c i s0 k) = some b := by
   by_cases e : k = kk
   ·rw [e]; exact ⟨_, t1⟩
   ·exact ⟨_, t2 k (Nat.zero_le _) (by omega)⟩
  obtain ⟨b, hb⟩ := this
  unfold signT at hb
  split at hb
  ·assumption
  ·cases hb
 have hgs := hE_ f c i s0 kk hs0 (fun k hk => (hok k (by omega)).2.2)
 obtain ⟨r, hr⟩ : ∃ r, r = sgZ (evalP q (closV c i s0 kk).2).num := ⟨_, rfl⟩
 rw [← hr]
 refine ag_ (r_c 4 (dX_ f q c2 hc2 hf) ?_)
 refine a_z ?_
 refine AWp.ent (st' := ⟨[(0, plA c i), (3, bP q), (4, .lptr 1 0 0), (5, .aptr [[kA c2]] 0 0)], [(1, some ⟨3, 1, [[i64 0]]⟩)], 2, 34⟩) ?_ ?_
 ·have := (aa_ (b4_ c2) ab_)
  exact s_f []
 refine ac_ (r_c 2 (hL_ c i) ?_)
 refine aj_ ?_
 refine au_ (pgX r) (fun _ => False) ?_ (fun _ h => h.elim)
 refine ah_ (AWp.rangeFuncB (α := Nat) (γ := Unit) kk (pgS c i q c2) (fun k => k) (fun k => k ≤ kk) (pgX r) (fun e _ => e = .ret) 0 rfl hgs rfl rfl ?_ (fun _ => ⟨rfl, rfl⟩) (fun _ => rfl) (Nat.zero_le _) rfl (fun _ h => h) ?_ ?_ ?_ ?_ ?_)
 ·intro k xs hT; cases hT; rfl
 ·rw [pgS_mk]
  have := iU_ c2
  exact s_t []
 ·exact aa_ (bB_ c i) ab_
 ·intro l k xs hk hT
  cases hT
  have hx := hok k hk
  obtain ⟨s, hsd⟩ : ∃ s, s = closV c i s0 k := ⟨_, rfl⟩
  rw [← hsd] at hx ⊢
  obtain ⟨x1, x2, x3⟩ := hx
  show AWp _ _ _ _ ⟨[(19, .agg (spC s.1 s.2)), (0, plA c i), (3, bP q), (4, .lptr 1 0 0), (5, .aptr [[kA c2]] 0 0), (18, .clos 243 [] [bPl c i]), (1000, plA c i), (1003, bP q), (1004, .lptr 1 0 0), (1005, .aptr [[kA c2]] 0 0), (1018, .clos 243 [] [bPl c i])], [(1, some ⟨3, 1, [[i64 0]]⟩)], 2, 34⟩
  refine r_m 2 ?_
  refine a_z ?_
  refine ah_ (ac_ (r_d hmix 9 ?_))
  refine c_s (ec_ c2 s.2 x1) ?_
  refine c_s (dK_ c2 s.1 x2) ?_
  refine a_1 ?_
  refine aj_ (n_k ?_)
  refine af_ rfl (fun h6 => ?_) (fun h6 => ?_)
  ·have h7 : uptoV c2 s.2 = bo_ c2 s.1 := by simpa using h6
   have he : k = kk := by
    refine Nat.le_antisymm hk (Nat.le_of_not_lt fun hlt => ?_)
    have h8 := t2 k (Nat.zero_le _) hlt
    rw [← hsd] at h8
    unfold signT at h8
    rw [if_pos ⟨x1, x2, x3⟩] at h8
    simp [h7] at h8
   subst he
   rw [← hsd] at hev hr
   refine r_c 6 (hO_ q s.2 hev) ?_
   refine c_s (cc_ (evalP q s.2)) ?_
   refine a_z ?_
   refine ae_ (⟨rfl, (), rfl, ?_⟩)
   rw [hr]
   show SEntT _ ⟨[(1004, .lptr 1 0 0)], [(1, some ⟨3, 1, [[i64 (sgZ (evalP q s.2).num)]]⟩)], 2, 34⟩
   exact s_t []
  ·have h7 : ¬ uptoV c2 s.2 = bo_ c2 s.1 := by simpa using h6
   have he : k < kk := by
    refine Nat.lt_of_le_of_ne hk fun e => ?_
    subst e
    rw [← hsd] at t1
    unfold signT at t1
    rw [if_pos ⟨x1, x2, x3⟩] at t1
    simp [h7] at t1
   refine ag_ (⟨k + 1, ⟨he, rfl⟩, ?_⟩)
   show SEntT _ ⟨[(1000, plA c i), (1003, bP q), (1004, .lptr 1 0 0), (1005, .aptr [[kA c2]] 0 0), (1018, .clos 243 [] [bPl c i])], [(1, some ⟨3, 1, [[i64 0]]⟩)], 2, 34⟩
   have := iU_ c2
   exact s_t []
 ·intro k hk hT; cases hT
 ·rintro e u rfl
  exact Fin.cell1E rfl rfl rfl tg_3.h rfl rfl (ad_ _)
def valT (c : Cnt) (q : List Rat) (step : Rat) (s : Sp) : Option Bool := if mM_ q s ∧ smS (overP q s) ∧ sm ((overP q s).2 - (overP q s).1) ∧ sm step ∧ gw_ c s then some (decide (cmpQ ((overP q s).2 - (overP q s).1) step < 0)) else none
def valR (f g : Nat) (c : Cnt) (i : Int) (q : List Rat) (k : Int) (v : Sp) : Option Sp :=
 if sm (downQ v.2 (wi k 256)) ∧ smS v ∧ sm (fineQ (wi k 256)) ∧ smL q ∧ q.length ≤ 274877906944 then
  if cmpQ (downQ v.2 (wi k 256)) v.1 < 0 then some (downQ v.2 (wi k 256), downQ v.2 (wi k 256) + fineQ (wi k 256))
  else (signM f g c i (subP q (gB_ (downQ v.2 (wi k 256))))).bind fun sg =>
   some (if sg = 0 then (downQ v.2 (wi k 256), downQ v.2 (wi k 256)) else if sg = 1 then (downQ v.2 (wi k 256), downQ v.2 (wi k 256) + fineQ (wi k 256)) else (downQ v.2 (wi k 256) - fineQ (wi k 256), downQ v.2 (wi k 256)))
 else none
def on_ (f g : Nat) (c : Cnt) (i : Int) (q : List Rat) (k : Int) : Option Sp :=
 (spanM f c i 0).bind fun s0 => (hR_ (fun j => valT c q (fineQ (wi k 256)) (closV c i s0 j)) g 0).bind fun j => valR f g c i q k (overP q (closV c i s0 j))
abbrev bI (k : Int) : AV := .aptr [[i64 k]] 0 0
theorem d3_ (k : Int) : Closed (bI k) := aP_ (aa_ (ad_ _) ab_)
def vaS (c : Cnt) (i : Int) (q : List Rat) (k : Int) (step : Rat) : Nat → AState
 | j => ⟨[(3, bPl c i), (4, bP q), (5, bI k), (6, .lptr 1 0 0), (7, bQ step), (14, .clos 243 [] [bPl c i])], [(1, some ⟨65, 6, [zC ++ zC]⟩)], 2, 61⟩
theorem vaS_mk (c : Cnt) (i : Int) (q : List Rat) (k : Int) (step : Rat) (j : Nat) : vaS c i q k step j = ⟨[(3, bPl c i), (4, bP q), (5, bI k), (6, .lptr 1 0 0), (7, bQ step), (14, .clos 243 [] [bPl c i])], [(1, some ⟨65, 6, [zC ++ zC]⟩)], 2, 61⟩ := rfl
def vaX (r : Sp) : Unit → AState
 | u => ⟨[(6, .lptr 1 0 0)], [(1, some ⟨65, 6, [spC r.1 r.2]⟩)], 2, 61⟩
theorem fs_value (f g : Nat) (c : Cnt) (i : Int) (q : List Rat) (k : Int) (r : Sp) (h : on_ f g c i q k = some r) (hf : f ≤ 1000000) : FSpec Tryz.prog 109 [plA c i, .arr (pE q), i64 k] (.agg (spC r.1 r.2)) := by
 unfold on_ at h
 obtain ⟨s0, hs0, h2⟩ := Option.bind_eq_some_iff.1 h
 obtain ⟨kk, hkk, hR⟩ := Option.bind_eq_some_iff.1 h2
 obtain ⟨t1, _, t2⟩ := eg_ hkk
 obtain ⟨step, hst⟩ : ∃ step, step = fineQ (wi k 256) := ⟨_, rfl⟩
 rw [← hst] at t1 t2
 have hok : ∀ j, j ≤ kk → mM_ q (closV c i s0 j) ∧ smS (overP q (closV c i s0 j)) ∧ sm ((overP q (closV c i s0 j)).2 - (overP q (closV c i s0 j)).1) ∧ sm step ∧ gw_ c (closV c i s0 j) := fun j hj => by
  have : ∃ b, valT c q step (closV c i s0 j) = some b := by
   by_cases e : j = kk
   ·rw [e]; exact ⟨_, t1⟩
   ·exact ⟨_, t2 j (Nat.zero_le _) (by omega)⟩
  obtain ⟨b, hb⟩ := this
  unfold valT at hb
  split at hb
  ·assumption
  ·cases hb
 have hgs := hE_ f c i s0 kk hs0 (fun j hj => (hok j (by omega)).2.2.2.2)
 have hfi := hN_ k
 rw [← hst] at hfi
 refine f_n Tryz.func109 ?_ ?_
 ·exact aa_ (bu_ c i) (aa_ (am_ q) (aa_ (ad_ _) ab_))
 refine r_z 4 ?_
 refine r_c 4 (hfi) ?_
 refine a_z ?_
 refine AWp.ent (st' := ⟨[(3, bPl c i), (4, bP q), (5, bI k), (6, .lptr 1 0 0), (7, bQ step)], [(1, some ⟨65, 6, [zC ++ zC]⟩)], 2, 61⟩) ?_ ?_
 ·have := (aa_ (bu_ c i) ab_)
  exact s_f [(1, 6)]
 refine ac_ (r_c 2 (hL_ c i) ?_)
 refine aj_ ?_
 refine au_ (vaX r) (fun _ => False) ?_ (fun _ h => h.elim)
 refine ah_ (AWp.rangeFuncB (α := Nat) (γ := Unit) kk (vaS c i q k step) (fun j => j) (fun j => j ≤ kk) (vaX r) (fun e _ => e = .ret) 0 rfl hgs rfl rfl ?_ (fun _ => ⟨rfl, rfl⟩) (fun _ => rfl) (Nat.zero_le _) rfl (fun _ h => h) ?_ ?_ ?_ ?_ ?_)
 ·intro j xs hT; cases hT; rfl
 ·rw [vaS_mk]
  have := d3_ k
  exact s_t []
 ·exact aa_ (bB_ c i) ab_
 ·intro l j xs hj hT
  cases hT
  have hx := hok j hj
  obtain ⟨s, hsd⟩ : ∃ s, s = closV c i s0 j := ⟨_, rfl⟩
  rw [← hsd] at hx ⊢
  obtain ⟨x1, x2, x3, x4, x5⟩ := hx
  obtain ⟨v, hv⟩ : ∃ v, v = overP q s := ⟨_, rfl⟩
  have hov := fs_Over q s x1
  rw [← hv] at hov x2 x3
  show AWp _ _ _ _ ⟨[(15, .agg (spC s.1 s.2)), (3, bPl c i), (4, bP q), (5, bI k), (6, .lptr 1 0 0), (7, bQ step), (14, .clos 243 [] [bPl c i]), (1003, bPl c i), (1004, bP q), (1005, bI k), (1006, .lptr 1 0 0), (1007, bQ step), (1014, .clos 243 [] [bPl c i])], [(1, some ⟨65, 6, [zC ++ zC]⟩)], 2, 61⟩
  refine r_m 2 ?_
  refine a_z ?_
  refine ah_ (r_c 5 (hov) ?_)
  refine a_z ?_
  refine ac_ (ac_ (r_d hmix 5 ?_))
  refine c_s (pL_ v.1 v.2 x2.1 x2.2) ?_
  refine c_s (kV_ (v.2 - v.1) step x3 x4) ?_
  refine a_1 ?_
  refine aj_ (n_k ?_)
  refine af_ rfl (fun h6 => ?_) (fun h6 => ?_)
  ·have h7 : ¬ cmpQ (v.2 - v.1) step < 0 := by
    have : 0 ≤ cmpQ (v.2 - v.1) step := by simpa using h6
    omega
   have he : j < kk := by
    refine Nat.lt_of_le_of_ne hj fun e => ?_
    subst e
    rw [← hsd] at t1
    unfold valT at t1
    rw [← hv] at t1
    rw [if_pos ⟨x1, x2, x3, x4, x5⟩] at t1
    simp [h7] at t1
   refine al_ (⟨j + 1, ⟨he, rfl⟩, ?_⟩)
   show SEntT _ ⟨[(1003, bPl c i), (1004, bP q), (1005, bI k), (1006, .lptr 1 0 0), (1007, bQ step), (1014, .clos 243 [] [bPl c i])], [(1, some ⟨65, 6, [zC ++ zC]⟩)], 2, 61⟩
   have := d3_ k
   exact s_t []
  ·have h7 : cmpQ (v.2 - v.1) step < 0 := by
    have : ¬ 0 ≤ cmpQ (v.2 - v.1) step := by simpa using h6
    omega
   have he : j = kk := by
    refine Nat.le_antisymm hj (Nat.le_of_not_lt fun hlt => ?_)
    have h8 := t2 j (Nat.zero_le _) hlt
    rw [← hsd] at h8
    unfold valT at h8
    rw [← hv] at h8
    rw [if_pos ⟨x1, x2, x3, x4, x5⟩] at h8
    simp [h7] at h8
   subst he
   rw [← hsd, ← hv] at hR
   unfold valR at hR
   rw [← hst] at hR
   obtain ⟨m, hm⟩ : ∃ m, m = downQ v.2 (wi k 256) := ⟨_, rfl⟩
   rw [← hm] at hR
   split at hR
   case isFalse => cases hR
   case isTrue hz =>
   obtain ⟨z1, z2, z3, z4, z5⟩ := hz
   have hdn := pR_ v.2 k x2.2
   rw [← hm] at hdn
   refine ag_ (r_c 6 (hdn) ?_)
   refine a_z ?_
   refine ac_ (r_c 5 (kV_ m v.1 z1 z2.1) ?_)
   refine a_z ?_
   refine af_ rfl (fun h8 => ?_) (fun h8 => ?_)
   ·have h9 : cmpQ m v.1 < 0 := by simpa using h8
    rw [if_pos h9] at hR
    cases hR
    refine ac_ (r_d hmix 6 ?_)
    refine c_s (ep_ m step (sm2 z1 z3)) ?_
    refine a_2 ?_
    refine aj_ (n_k ?_)
    refine ae_ (⟨rfl, (), rfl, ?_⟩)
    show SEntT _ ⟨[(1006, .lptr 1 0 0)], [(1, some ⟨65, 6, [spC (m, m + step).1 (m, m + step).2]⟩)], 2, 61⟩
    have := d3_ k
    exact s_t []
   ·have h9 : ¬ cmpQ m v.1 < 0 := by simpa using h8
    rw [if_neg h9] at hR
    obtain ⟨sg, hsg, hR2⟩ := Option.bind_eq_some_iff.1 hR
    cases hR2
    have hcl := n8_ m
    have hsmc : smL (gB_ m) := ms_ fun x hx => by rw [List.mem_singleton.1 hx]; exact z1
    refine ag_ (ac_ (ac_ (r_d hmix 6 ?_)))
    refine c_s (hK_ m) ?_
    refine c_s (pJ_ q (gB_ m) z4 hsmc (by omega) (by omega)) ?_
    refine c_s (fs_sign f g c i (subP q (gB_ m)) sg hsg hf) ?_
    refine aj_ (n_k ?_)
    refine ah_ (r_z 2 ?_)
    refine af_ rfl (fun h10 => ?_) (fun h10 => ?_)
    ·have h11 : sg = 0 := by simpa using h10
     refine r_c 3 (fs_At m) ?_
     refine a_z ?_
     refine ae_ (⟨rfl, (), rfl, ?_⟩)
     rw [if_pos h11]
     show SEntT _ ⟨[(1006, .lptr 1 0 0)], [(1, some ⟨65, 6, [spC (m, m).1 (m, m).2]⟩)], 2, 61⟩
     have := d3_ k
     exact s_t []
    ·have h11 : ¬ sg = 0 := by simpa using h10
     refine r_z 2 ?_
     refine af_ rfl (fun h12 => ?_) (fun h12 => ?_)
     ·have h13 : sg = 1 := by simpa using h12
      refine ac_ (r_d hmix 6 ?_)
      refine c_s (ep_ m step (sm2 z1 z3)) ?_
      refine a_2 ?_
      refine aj_ (n_k ?_)
      refine ae_ (⟨rfl, (), rfl, ?_⟩)
      rw [if_neg h11, if_pos h13]
      show SEntT _ ⟨[(1006, .lptr 1 0 0)], [(1, some ⟨65, 6, [spC (m, m + step).1 (m, m + step).2]⟩)], 2, 61⟩
      have := d3_ k
      exact s_t []
     ·have h13 : ¬ sg = 1 := by simpa using h12
      refine ag_ (ac_ (r_d hmix 6 ?_))
      refine c_s (kQ_ m step (sm2 z1 z3)) ?_
      refine a_3 ?_
      refine aj_ (n_k ?_)
      refine ae_ (⟨rfl, (), rfl, ?_⟩)
      rw [if_neg h11, if_neg h13]
      show SEntT _ ⟨[(1006, .lptr 1 0 0)], [(1, some ⟨65, 6, [spC (m - step, m).1 (m - step, m).2]⟩)], 2, 61⟩
      have := d3_ k
      exact s_t []
 ·intro j hj hT; cases hT
 ·rintro e u rfl
  exact Fin.cell rfl rfl rfl tg_65.h ts_65.h (nle rfl) (ar_ at_ (aA_ _ _))
def hullS (a b : Sp) : Sp := (minL [a.1, b.1], maxL [a.2, b.2])
def qSpan (a : Rat) (k : Int) : Sp := (downQ a (wi k 256), upQ a (wi k 256))
def rlM (f g : Nat) (c : Cnt) (p : List Rat) (k : Int) (up : Int) : Nat → Int → Sp → Option Sp
 | 0, _, _ => none
 | n + 1, i, o => if i < up then (on_ f g c i p k).bind fun v => if smS o ∧ smS v then rlM f g c p k up n (i + 1) (hullS o v) else none else some o
def o5_ (p : List Rat) (s : Sp) (k : Int) : Prop := smS s ∧ em_ p s.1 ∧ em_ p s.2 ∧ smL p ∧ p.length ≤ 274877906944 ∧ cmpQ s.1 s.2 ≤ 0 ∧ degP p ≤ 40 ∧ smS (qSpan (evalP p s.1) k) ∧ smS (qSpan (evalP p s.2) k)
instance (p : List Rat) (s : Sp) (k : Int) : Decidable (o5_ p s k) := inferInstanceAs (Decidable (_ ∧ _ ∧ _ ∧ _ ∧ _ ∧ _ ∧ _ ∧ _ ∧ _))
def oY_ (f g : Nat) (p : List Rat) (s : Sp) (k : Int) : Option Sp :=
 if o5_ p s k then
  if degP (aB_ p) < 0 then some (hullS (qSpan (evalP p s.1) k) (qSpan (evalP p s.2) k))
  else (cY_ f (aB_ p)).bind fun c => if okBe c s.1 ∧ okUp c s.2 then rlM f g c p k (uptoV c s.2) g (bo_ c s.1) (hullS (qSpan (evalP p s.1) k) (qSpan (evalP p s.2) k)) else none
 else none
def rgS (p : List Rat) (s : Sp) (k : Int) (c : Cnt) : Int × Sp → AState
 | (i, o) => ⟨[(0, .arr (pE p)), (2, i64 k), (4, bS s), (6, .lptr 1 0 0), (8, .lptr 2 0 0), (10, kA c), (11, i64 i)], [(1, some ⟨65, 6, [zC ++ zC]⟩), (2, some ⟨65, 6, [spC o.1 o.2]⟩)], 3, 66⟩
theorem oV_ (p : List Rat) (s : Sp) (k : Int) (c : Cnt) (i : Int) (o : Sp) : rgS p s k c (i, o) = ⟨[(0, .arr (pE p)), (2, i64 k), (4, bS s), (6, .lptr 1 0 0), (8, .lptr 2 0 0), (10, kA c), (11, i64 i)], [(1, some ⟨65, 6, [zC ++ zC]⟩), (2, some ⟨65, 6, [spC o.1 o.2]⟩)], 3, 66⟩ := rfl
theorem fs_Range (f g : Nat) (p : List Rat) (s : Sp) (k : Int) (r : Sp) (h : oY_ f g p s k = some r) (hf : f ≤ 1000000) : FSpec Tryz.prog 53 [.arr (pE p), .agg (spC s.1 s.2), i64 k] (.tup [.agg (spC r.1 r.2), i64 0]) := by
 unfold oY_ at h
 split at h
 case isFalse => cases h
 case isTrue hk =>
 obtain ⟨k1, k2, k3, k4, k5, k6, k7, k8, k9⟩ := hk
 have hdl := cX_ p
 obtain ⟨o0, ho⟩ : ∃ o, o = hullS (qSpan (evalP p s.1) k) (qSpan (evalP p s.2) k) := ⟨_, rfl⟩
 have hhu := m7_ (qSpan (evalP p s.1) k).1 (qSpan (evalP p s.1) k).2 (qSpan (evalP p s.2) k).1 (qSpan (evalP p s.2) k).2 k8.1 k8.2 k9.1 k9.2
 rw [← ho] at h
 have hhu' : FSpec Tryz.prog 129 [.agg (spC (qSpan (evalP p s.1) k).1 (qSpan (evalP p s.1) k).2), .agg (spC (qSpan (evalP p s.2) k).1 (qSpan (evalP p s.2) k).2)] (.agg (spC o0.1 o0.2)) := by rw [ho]; exact hhu
 refine f_n Tryz.func53 ?_ ?_
 ·exact aa_ (am_ p) (aa_ (aA_ _ _) (aa_ (ad_ _) ab_))
 refine r_z 3 ?_
 refine aO_ (fun _ : Unit => ⟨[(0, .arr (pE p)), (2, i64 k), (4, bS s), (6, .lptr 1 0 0)], [(1, some ⟨65, 6, [zC ++ zC]⟩)], 2, 66⟩) (fun _ => True) ?_ ?_
 ·refine ah_ (r_c 4 (cy_ s.1 s.2 k1.1 k1.2) ?_)
  refine a_z ?_
  refine af_ rfl (fun h1 => ?_) (fun h1 => ?_)
  ·exact absurd h1 (by simp [k6])
  refine r_c 4 (br_ p (by omega)) ?_
  refine a_z ?_
  refine af_ rfl (fun h2 => ?_) (fun h2 => ?_)
  ·exact absurd h2 (by simp; omega)
  refine ag_ ⟨(), trivial, ?_⟩
  exact s_e [(1, 6)]
 rintro _ _
 refine ac_ (r_d hmix 15 ?_)
 refine c_s (hO_ p s.1 k2) ?_
 refine c_s (m8_ (evalP p s.1) k (nd_ k2)) ?_
 refine c_s (hO_ p s.2 k3) ?_
 refine c_s (m8_ (evalP p s.2) k (nd_ k3)) ?_
 refine c_s (hhu') ?_
 refine a_2 ?_
 refine aj_ (n_k ?_)
 refine ac_ (r_c 3 (hP_ p k4 (by omega)) ?_)
 refine a_z ?_
 refine r_c 3 (br_ (aB_ p) (by omega)) ?_
 refine a_z ?_
 refine au_ (fun _ : Unit => ⟨[(6, .lptr 1 0 0), (8, .lptr 2 0 0)], [(1, some ⟨65, 6, [zC ++ zC]⟩), (2, some ⟨65, 6, [spC r.1 r.2]⟩)], 3, 66⟩) (fun _ => True) ?_ ?_
 ·refine af_ rfl (fun h3 => ?_) (fun h3 => ?_)
  ·have h4 : ¬ degP (aB_ p) < 0 := by
    have : 0 ≤ degP (aB_ p) := by simpa using h3
    omega
   rw [if_neg h4] at h
   obtain ⟨c, hc, h5⟩ := Option.bind_eq_some_iff.1 h
   split at h5
   case isFalse => cases h5
   case isTrue hb =>
   refine r_c 3 (dX_ f (aB_ p) c hc hf) ?_
   refine a_z ?_
   refine r_c 5 (dK_ c s.1 hb.1) ?_
   refine a_z ?_
   have hub := dE_ (x := s.2) hb.2.1
   have hbb := f0_ (x := s.1) hb.1.1.1
   refine ah_ (ao_ (fun x : Nat × Int × Sp => rgS p s k c x.2) (fun x => x.1) (fun x => rlM f g c p k (uptoV c s.2) x.1 x.2.1 x.2.2 = some r ∧ -4611686018427387904 ≤ x.2.1) (g, bo_ c s.1, o0) ⟨h5, by simp only; omega⟩ ?_ ?_)
   ·simp only [oV_]
    exact s_e [(2, 8)]
   rintro ⟨n, i, o⟩ ⟨hrl, hil⟩
   simp only at hrl hil
   simp only [oV_]
   cases n with
   | zero => cases hrl
   | succ n =>
    rw [rlM] at hrl
    refine ac_ (r_c 6 (ec_ c s.2 hb.2) ?_)
    refine a_z ?_
    refine af_ rfl (fun h6 => ?_) (fun h6 => ?_)
    ·have h7 : i < uptoV c s.2 := by simpa using h6
     rw [if_pos h7] at hrl
     obtain ⟨v, hv, h8⟩ := Option.bind_eq_some_iff.1 hrl
     split at h8
     case isFalse => cases h8
     case isTrue hsm =>
     have hhv : FSpec Tryz.prog 129 [.agg (spC o.1 o.2), .agg (spC v.1 v.2)] (.agg (spC (hullS o v).1 (hullS o v).2)) := m7_ o.1 o.2 v.1 v.2 hsm.1.1 hsm.1.2 hsm.2.1 hsm.2.2
     refine ag_ (ac_ (ah_ (r_z 5 ?_)))
     refine AWp.ent (st' := ⟨[(0, .arr (pE p)), (2, i64 k), (4, bS s), (6, .lptr 1 0 0), (8, .lptr 2 0 0), (10, kA c), (11, i64 i), (12, plA c i)], [(1, some ⟨65, 6, [zC ++ zC]⟩), (2, some ⟨65, 6, [spC o.1 o.2]⟩)], 3, 66⟩) ?_ ?_
     ·refine ax_ [] rfl rfl rfl au_r (fun hs => ?_) (fun hs => ?_)
      ·repeat' (first | exact aX_ | refine aL_ rfl ?_ ?_)
       all_goals (first | (exact Cv.boxp hs rfl (cd_ rfl) rfl (aa_ (b4_ c) (aa_ (ad_ _) ab_))) | exact au_c)
      ·repeat' (first | exact as_ | refine an_ rfl rfl rfl rfl ?_ ?_)
       all_goals (first | exact au_e | (refine aF_ ?_; repeat' (first | exact ap_ | refine ai_ ?_ ?_)))
       all_goals (first | (exact Cv.boxp hs rfl (cd_ rfl) rfl (aa_ (b4_ c) (aa_ (ad_ _) ab_))) | exact au_c)
     refine r_d hmix 7 ?_
     refine c_s (fs_value f g c i p k v hv hf) ?_
     refine c_s (hhv) ?_
     refine a_1 ?_
     refine aj_ (n_k ?_)
     refine r_m 3 ?_
     refine a_z ?_
     refine ⟨(n, i + 1, hullS o v), Nat.lt_succ_self n, ⟨h8, by simp only; omega⟩, ?_⟩
     simp only [oV_]
     exact s_e []
    ·have h7 : ¬ i < uptoV c s.2 := by simpa using h6
     rw [if_neg h7] at hrl
     cases hrl
     refine al_ ⟨(), trivial, ?_⟩
     exact s_e []
  ·have h4 : degP (aB_ p) < 0 := by
    have : ¬ 0 ≤ degP (aB_ p) := by simpa using h3
    omega
   rw [if_pos h4] at h
   cases h
   refine ag_ ⟨(), trivial, ?_⟩
   exact s_e [(2, 8)]
 rintro _ _
 refine r_z 3 ?_
 refine ae_ (Fin.many ⟨_, _, rfl, ⟨_, _, _, _, _, rfl, rfl, rfl, .inl ⟨tg_65.h, _, ts_65.h, nle rfl, rfl⟩⟩, ⟨_, _, rfl, rfl, rfl⟩⟩ (nle rfl) ?_)
 exact ai_ (ar_ at_ (aA_ _ _)) (ai_ (ar_ at_ (ad_ _)) ap_)
theorem pS_ (p q : List Rat) (h : okDiv p q) (h0 : trimQ q ≠ []) : FSpec Tryz.prog 28 [.arr (pE p), .arr (pE q)] (.tup [.arr (pE (divP p q).1), .arr (pE (divP p q).2), i64 0]) := by
 have hl := h.2.2
 refine f_n Tryz.func28 ?_ ?_
 ·exact aa_ (am_ p) (aa_ (am_ q) ab_)
 refine r_z 3 ?_
 refine ac_ (r_c 3 (br_ q (by omega)) ?_)
 refine a_z ?_
 refine af_ rfl (fun h1 => ?_) (fun h1 => ?_)
 ·exact absurd (degP_neg.1 (by simpa using h1)) h0
 refine ag_ (r_c 8 (eA_ p q (mxL p) (mxL q) (cv_ p) (cv_ q) (cb_ p) (cb_ q) h.1 h0 h.2.1 h.2.2) ?_)
 refine a_z ?_
 refine r_z 5 ?_
 refine ae_ (Fin.many ⟨_, _, rfl, rfl, ⟨_, _, rfl, rfl, ⟨_, _, rfl, rfl, rfl⟩⟩⟩ (nle rfl) ?_)
 exact ai_ (ar_ at_ (am_ _)) (ai_ (ar_ at_ (am_ _)) (ai_ (ar_ at_ (ad_ _)) ap_))


def zE (l : List Int) : List (List AV) := l.map fun n => [i64 n]
theorem dB_ (l : List Int) : ∀ e ∈ zE l, ∀ c ∈ e, Closed c := by
 intro e he c hc
 obtain ⟨n, _, rfl⟩ := List.mem_map.1 he
 rw [List.mem_singleton.1 hc]; exact ad_ _
def zR (l : List Int) : List Rat := l.map fun (n : Int) => (n : Rat)
def itS (l : List Int) : List Rat → Nat → AState
 | [], i => ⟨[(0, .arr (zE l)), (3, .emp), (4, i64 i)], [], 1, 20⟩
 | q :: Q, i => ⟨[(0, .arr (zE l)), (3, .lsl 1 0 (Q.length + 1) none 3), (4, i64 i)], [(1, some ⟨37, 3, pE (q :: Q)⟩)], 2, 20⟩
theorem hz_ (l : List Int) (i : Nat) : itS l [] i = ⟨[(0, .arr (zE l)), (3, .emp), (4, i64 i)], [], 1, 20⟩ := rfl
theorem eW_ (l : List Int) (q : Rat) (Q : List Rat) (i : Nat) : itS l (q :: Q) i = ⟨[(0, .arr (zE l)), (3, .lsl 1 0 (Q.length + 1) none 3), (4, i64 i)], [(1, some ⟨37, 3, pE (q :: Q)⟩)], 2, 20⟩ := rfl
theorem hJ_ (l : List Int) (hl : l.length ≤ 1099511627776) (hb : ∀ n ∈ l, -9223372036854775808 ≤ n ∧ n ≤ 9223372036854775807) : FSpec Tryz.prog 84 [.arr (zE l)] (.arr (pE (zR l))) := by
 refine f_n Tryz.func84 ?_ ?_
 ·exact aa_ (aw_ (dB_ l)) ab_
 refine r_z 1 ?_
 refine r_z 1 ?_
 refine ac_ (r_z 1 ?_)
 refine au_ (fun _ : Unit => itS l (zR l) l.length) (fun _ => True) ?_ ?_
 ·refine ah_ (ao_ (fun i : Nat => itS l (zR (l.take i)) i) (fun i => l.length - i) (fun i => i ≤ l.length) 0 (Nat.zero_le _) ?_ ?_)
  ·show SEnt _ (itS l [] 0)
   rw [hz_]
   have := (aw_ (dB_ l))
   exact s_f []
  rintro i hi
  have hlen : (zE l).length = l.length := by simp [zE]
  by_cases hlt : i < l.length
  ·obtain ⟨n, hn⟩ : ∃ n, l[i]? = some n := ⟨_, List.getElem?_eq_getElem hlt⟩
   have hgt : (zE l)[((i : Nat) : Int).toNat]? = some [i64 n] := by
    show (zE l)[i]? = _
    simp [zE, hn]
   have hnb := hb n (List.mem_of_getElem? hn)
   have htk : zR (l.take (i + 1)) = zR (l.take i) ++ [(n : Rat)] := by rw [bS_ hn]; simp [zR]
   have hQl : (zR (l.take i)).length = i := by simp [zR]; omega
   cases hQ : zR (l.take i) with
   | nil =>
    simp only [hz_]
    refine ac_ (r_z 4 ?_)
    refine af_ rfl (fun h => ?_) (fun h => ?_)
    rotate_left
    ·exact absurd h (by simp [zE]; omega)
    refine ag_ (ac_ (ah_ (r_m 9 ?_)))
    refine a_3 ?_
    refine i_x hgt ?_
    refine l_1 hgt ?_
    refine c_s (cu_ n hnb) ?_
    refine a_z ?_
    refine r_m 3 ?_
    refine a_z ?_
    refine ⟨i + 1, by omega, hlt, ?_⟩
    simp only [htk, hQ, List.nil_append, eW_]
    have := (aw_ (dB_ l))
    have := (aW_ [(n : Rat)])
    exact s_f [(1, 3)]
   | cons q Q =>
    rw [hQ] at hQl
    simp at hQl
    simp only [eW_]
    refine ac_ (r_z 4 ?_)
    refine af_ rfl (fun h => ?_) (fun h => ?_)
    rotate_left
    ·exact absurd h (by simp [zE]; omega)
    refine ag_ (ac_ (ah_ (r_m 9 ?_)))
    refine a_3 ?_
    refine i_x hgt ?_
    refine l_1 hgt ?_
    refine c_s (cu_ n hnb) ?_
    refine a_z ?_
    refine r_m 3 ?_
    refine a_z ?_
    refine ⟨i + 1, by omega, hlt, ?_⟩
    simp only [htk, hQ, List.cons_append, eW_]
    have e : pE (q :: Q) ++ [qC (n : Rat)] = pE (q :: (Q ++ [(n : Rat)])) := by simp [pE]
    refine ax_ [(1, 3)] rfl rfl rfl ?_ (fun hs => ?_) (fun hs => ?_)
    ·repeat' (first | exact ShrL.nil | refine ShrL.cons rfl rfl rfl rfl (by first | (simp) | rfl | (simp; done) | (simp <;> omega)) ?_)
    ·repeat' (first | exact aX_ | refine aL_ rfl ?_ ?_)
     all_goals (first | (exact ar_ hs (aw_ (dB_ l))) | exact au_c)
    ·repeat' (first | exact as_ | refine an_ rfl rfl rfl rfl ?_ ?_)
     all_goals (first | (exact az_ hs e (aW_ _)) | exact au_e | (refine aF_ ?_; repeat' (first | exact ap_ | refine ai_ ?_ ?_)))
     all_goals (first | (exact ar_ hs (aw_ (dB_ l))) | exact au_c)
  ·have hge : i = l.length := by omega
   subst hge
   simp only [List.take_length]
   cases hQ : zR l with
   | nil =>
    simp only [hz_]
    refine ac_ (r_z 4 ?_)
    refine af_ rfl (fun h => ?_) (fun h => ?_)
    ·exact absurd h (by simp [zE])
    ·refine al_ ⟨(), trivial, ?_⟩
     simp only [hQ, hz_]
     have := (aw_ (dB_ l))
     exact s_f []
   | cons q Q =>
    simp only [eW_]
    refine ac_ (r_z 4 ?_)
    refine af_ rfl (fun h => ?_) (fun h => ?_)
    ·exact absurd h (by simp [zE])
    ·refine al_ ⟨(), trivial, ?_⟩
     simp only [hQ, eW_]
     have := (aw_ (dB_ l))
     exact s_f []
 rintro _ _
 cases hQ : zR l with
 | nil =>
  simp only [hz_]
  refine r_z 2 ?_
  exact ae_ (Fin.tmpN rfl)
 | cons q Q =>
  simp only [eW_]
  refine r_z 2 ?_
  exact ae_ (Fin.tmpS rfl rfl rfl (by simp) (aW_ _))
def powQ (q : Rat) : Nat → Rat
 | 0 => q
 | k + 1 => powQ q k * q
theorem lK_ (q : Rat) : ∀ k, qs (powQ q k) ≤ (k + 1) * qs q
 | 0 => by simp [powQ]
 | k + 1 => by
  have h1 := c4_ (powQ q k) q
  have h2 := lK_ q k
  show qs (powQ q k * q) ≤ _
  rw [Nat.add_mul (k + 1), Nat.one_mul]
  omega
def dNum (D : Int) : Int := if D = 0 then 1 else D
def numV (N D : Int) (p : Nat) : Rat := powQ (Rat.divInt N (dNum D)) (p % 4)
def nuC (N D : Int) (p : Nat) : List AV := [i64 N, i64 D, .v (.int .u8 p)]
def i64r (n : Int) : Prop := -9223372036854775808 ≤ n ∧ n ≤ 9223372036854775807
theorem cH_ (N D : Int) (p : Nat) : ∀ c ∈ nuC N D p, Closed c := aa_ (ad_ _) (aa_ (ad_ _) (aa_ (ad_ _) ab_))
theorem div_cast (n d : Int) : (n : Rat) / (d : Rat) = Rat.divInt n d := (Rat.divInt_eq_div n d).symm
def boT (N : Int) (D : Int) (p : Nat) (q : Rat) : Nat → AState
 | k => ⟨[(1, .lptr 1 0 0), (2, .lptr 2 0 0), (3, .lptr 3 0 0), (4, .lptr 4 0 0), (6, .lptr 5 0 0), (7, .lptr 6 0 0), (8, .lptr 7 0 0), (9, .v (.int .u8 k))],
  [(1, some ⟨82, 3, [nuC N D p]⟩), (2, some ⟨37, 3, [zC]⟩), (3, some ⟨75, 4, [[i64 0, .emp, i64 0, .emp]]⟩), (4, some ⟨37, 3, [qC q]⟩), (5, some ⟨75, 4, [rC (rq q)]⟩), (6, some ⟨37, 3, [qC (powQ q k)]⟩), (7, some ⟨75, 4, [rC (rq (powQ q k))]⟩)], 8, 44⟩
theorem nw_ (N : Int) (D : Int) (p : Nat) (q : Rat) (k : Nat) : boT N D p q k = ⟨[(1, .lptr 1 0 0), (2, .lptr 2 0 0), (3, .lptr 3 0 0), (4, .lptr 4 0 0), (6, .lptr 5 0 0), (7, .lptr 6 0 0), (8, .lptr 7 0 0), (9, .v (.int .u8 k))],
   [(1, some ⟨82, 3, [nuC N D p]⟩), (2, some ⟨37, 3, [zC]⟩), (3, some ⟨75, 4, [[i64 0, .emp, i64 0, .emp]]⟩), (4, some ⟨37, 3, [qC q]⟩), (5, some ⟨75, 4, [rC (rq q)]⟩), (6, some ⟨37, 3, [qC (powQ q k)]⟩), (7, some ⟨75, 4, [rC (rq (powQ q k))]⟩)], 8, 44⟩ := rfl
theorem jR_ (N D : Int) (p : Nat) (hN : i64r N) (hD : i64r D) (hp : p ≤ 255) : FSpec Tryz.prog 41 [.agg (nuC N D p)] (.tup [.agg (qC (numV N D p)), .agg (rC (rq (numV N D p)))]) := by
 obtain ⟨d, hd⟩ : ∃ d, d = dNum D := ⟨_, rfl⟩
 have hd0 : d ≠ 0 := by rw [hd]; unfold dNum; split <;> omega
 have hdr : i64r d := by
  rw [hd]; unfold dNum i64r; unfold i64r at hD; split <;> omega
 unfold i64r at hN hdr
 obtain ⟨q, hq⟩ : ∃ q, q = Rat.divInt N d := ⟨_, rfl⟩
 have hof := fs_Of N d hN hdr hd0
 rw [div_cast, ← hq] at hof
 have hro := fs_rOf N d hd0 hN hdr
 rw [← hq] at hro
 have hnv : numV N D p = powQ q (p % 4) := by unfold numV; rw [← hd, ← hq]
 rw [hnv]
 refine f_n Tryz.func41 ?_ ?_
 ·exact aa_ (aq_ (cH_ N D p)) ab_
 refine r_z 3 ?_
 refine aO_ (fun _ : Unit => ⟨[(1, .lptr 1 0 0), (2, .lptr 2 0 0), (3, .lptr 3 0 0)],
  [(1, some ⟨82, 3, [nuC N d p]⟩), (2, some ⟨37, 3, [zC]⟩), (3, some ⟨75, 4, [[i64 0, .emp, i64 0, .emp]]⟩)], 4, 44⟩) (fun _ => True) ?_ ?_
 ·refine r_z 3 ?_
  refine af_ rfl (fun h1 => ?_) (fun h1 => ?_)
  ·have h2 : D = 0 := by simpa using h1
   have h3 : d = 1 := by rw [hd]; unfold dNum; rw [if_pos h2]
   refine r_m 2 ?_
   refine a_z ?_
   refine ⟨(), trivial, ?_⟩
   rw [h3]
   have := cH_ N 1 p
   exact s_f []
  ·have h2 : ¬ D = 0 := by simpa using h1
   have h3 : d = D := by rw [hd]; unfold dNum; rw [if_neg h2]
   refine ag_ ⟨(), trivial, ?_⟩
   rw [h3]
   have := cH_ N D p
   exact s_f []
 rintro _ _
 refine r_c 11 (hof) ?_
 refine a_z ?_
 refine r_c 7 (hro) ?_
 refine a_z ?_
 refine ac_ (r_d hmix 6 ?_)
 refine a_6 ?_
 refine aj_ (n_k ?_)
 refine ac_ (r_z 1 ?_)
 have hqs : qs q ≤ 64 := by
  have hb : ∀ z : Int, -9223372036854775808 ≤ z ∧ z ≤ 9223372036854775808 → bl z.natAbs ≤ 64 := fun z h => bl_le (k := 64) (by omega)
  rw [hq]
  by_cases hn : d < 0
  ·rw [e3_ N d hn]
   exact cr_ (by omega) (hb (-N) (by omega)) (hb d (by omega))
  ·rw [e2_ N d (by omega)]
   exact cr_ (by omega) (hb N (by omega)) (hb d (by omega))
 have hm4 : (p : Int) % 4 = ((p % 4 : Nat) : Int) := by omega
 refine au_ (fun _ : Unit => boT N d p q (p % 4)) (fun _ => True) ?_ ?_
 ·refine ah_ (ao_ (boT N d p q) (fun k => p % 4 - k) (fun k => k ≤ p % 4) 0 (Nat.zero_le _) ?_ ?_)
  ·simp only [nw_, powQ]
   exact s_f [(4, 4), (5, 6), (6, 7), (7, 8)]
  rintro k hk
  rw [nw_]
  refine ac_ (r_z 5 ?_)
  refine af_ rfl (fun h => ?_) (fun h => ?_)
  ·refine ag_ ?_
   have hlt : k < p % 4 := by
    have h2 : (k : Int) < (p : Int) % 4 := by simpa using h
    omega
   have hpk := lK_ q k
   have hpk2 : (k + 1) * qs q ≤ 4 * 64 := Nat.mul_le_mul (by omega) hqs
   refine ac_ (ah_ (r_d hmix 8 ?_))
   refine c_s (cf_ (powQ q k) q (by omega)) ?_
   refine c_s (hH_ (rq (powQ q k)) (rq q) (bA_ _) (bA_ _) (by simp only [rq]; omega)) ?_
   refine a_2 ?_
   refine aj_ (n_k ?_)
   refine r_m 3 ?_
   refine a_z ?_
   refine ⟨k + 1, by omega, hlt, ?_⟩
   simp only [nw_]
   exact s_f []
  ·have hge : k = p % 4 := by
    have h2 : ¬ (k : Int) < (p : Int) % 4 := by simpa using h
    omega
   subst hge
   refine al_ ⟨(), trivial, ?_⟩
   exact s_f []
 rintro _ _
 rw [nw_]
 refine ac_ (r_d hmix 4 ?_)
 refine a_4 ?_
 refine aj_ (n_k ?_)
 refine ae_ (Fin.many ⟨_, _, rfl, ⟨_, _, _, _, _, rfl, rfl, rfl, .inl ⟨tg_37.h, _, ts_37.h, nle rfl, rfl⟩⟩, ⟨_, _, rfl, ⟨_, _, _, _, _, rfl, rfl, rfl, .inl ⟨tg_75.h, _, ts_75.h, nle rfl, rfl⟩⟩, rfl⟩⟩ (nle rfl) ?_)
 exact ai_ (ar_ at_ (ak_ _)) (ai_ (ar_ at_ (aV_ _)) ap_)
def twP : List Rat := aI_ [0, 1] 2
def fmC (p : List Rat) (g : Nat) (cap : List AV) : List AV := [.arr (pE p), .clos g [] cap]
def u8v (k : Int) : Value := .int .u8 k
def famK : List Value := [u8v 1, u8v 2, u8v 3, u8v 4, u8v 5]
def famV : List AV := [.agg (fmC [0, 1] 264 [bP twP]), .agg (fmC twP 264 [bP twP]), .agg (fmC [0, 1] 265 []), .agg (fmC [1, -1] 266 []), .agg (fmC twP 267 [bP twP])]
abbrev famA : AV := .mp famK famV
theorem bV_ (p : List Rat) (g : Nat) {cap : List AV} (h : ∀ c ∈ cap, Closed c) : ∀ c ∈ fmC p g cap, Closed c := aa_ (am_ p) (aa_ (aJ_ ab_ h) ab_)
theorem l2_ : ∀ c ∈ famV, Closed c := by
 have c1 : ∀ c ∈ [bP twP], Closed c := aa_ (ba_ _) ab_
 exact aa_ (aq_ (bV_ _ _ c1)) (aa_ (aq_ (bV_ _ _ c1)) (aa_ (aq_ (bV_ _ _ ab_)) (aa_ (aq_ (bV_ _ _ ab_)) (aa_ (aq_ (bV_ _ _ c1)) ab_))))
def famTab : MapTab := ⟨244, .u8, 0, 7, [(4, 1, 10, 3), (8, 2, 13, 7), (11, 3, 15, 10), (16, 4, 19, 15), (20, 5, 22, 19)], [(21, 23), (22, 0)]⟩
theorem lZ_ : FSpec Tryz.prog 230 [] famA := by
 refine f_n Tryz.func230 ?_ ?_
 ·exact ab_
 refine r_z 1 ?_
 refine r_c 5 (fs_x) ?_
 refine c_s (cu_ 2 (by decide)) ?_
 refine c_s (eX_ [0, 1] 2 (by decide) (by decide) (by decide)) ?_
 refine a_z ?_
 refine AWp.ent (st' := ⟨[(1, bP twP)], [], 2, 24⟩) ?_ ?_
 ·exact s_f []
 refine r_z 2 ?_
 refine ac_ (AWp.mapRegion famTab (vs := famV) (d := 0) hmix tm_244.h tu_5.h (by kernel_rfl) (by kernel_rfl) (by kernel_rfl) ⟨22, by simp [famTab], by decide⟩ (by decide) ?_ ?_)
 ·refine AX.sp rfl rfl ?_
  refine AX.op0 (.call rfl rfl rfl (fs_x)) rfl rfl ?_
  refine AX.op0 (.move rfl) rfl rfl ?_
  refine AX.op0 (.build tz_243.h tp_243.h rfl rfl) rfl rfl ?_
  refine AX.spn rfl ?_
  first | refine AX.op0 (.load_l1 rfl rfl rfl tg_25.h rfl) rfl rfl ?_ | refine AX.op0 (.load_a1 rfl rfl tg_25.h rfl) rfl rfl ?_
  refine AX.op0 (.move rfl) rfl rfl ?_
  refine AX.op0 (.build tz_243.h tp_243.h rfl rfl) rfl rfl ?_
  refine AX.spn rfl ?_
  refine AX.op0 (.call rfl rfl rfl (fs_x)) rfl rfl ?_
  refine AX.op0 (.build tz_243.h tp_243.h rfl rfl) rfl rfl ?_
  refine AX.spn rfl ?_
  refine AX.op0 (.call rfl rfl rfl (cu_ 1 (by decide))) rfl rfl ?_
  refine AX.op0 (.call rfl rfl rfl (cu_ (-1) (by decide))) rfl rfl ?_
  refine AX.op1 (.buildSlice te_25.h tz_37.h rfl (by decide) rfl rfl rfl (by first | (simp; done) | (simp [a7_, ofV]; done) | rfl)) rfl rfl ?_
  refine AX.op0 (.build tz_243.h tp_243.h rfl rfl) rfl rfl ?_
  refine AX.spn rfl ?_
  first | refine AX.op0 (.load_l1 rfl rfl rfl tg_25.h rfl) rfl rfl ?_ | refine AX.op0 (.load_a1 rfl rfl tg_25.h rfl) rfl rfl ?_
  refine AX.op0 (.makeFunc rfl rfl) rfl rfl ?_
  refine AX.op0 (.build tz_243.h tp_243.h rfl rfl) rfl rfl ?_
  refine AX.spn rfl ?_
  refine AX.sp rfl rfl ?_
  refine AX.sp rfl rfl ?_
  refine AX.nil ⟨by kernel_rfl, ?_⟩
  have c1 : ∀ c ∈ [bP twP], Closed c := aa_ (ba_ _) ab_
  refine CvS.cons rfl (ar_ at_ (aq_ (bV_ _ _ c1))) (CvS.cons rfl (ar_ at_ (aq_ (bV_ _ _ c1))) (CvS.cons rfl (ar_ at_ (aq_ (bV_ _ _ ab_))) (CvS.cons rfl ?_ (CvS.cons rfl (ar_ at_ (aq_ (bV_ _ _ c1))) CvS.nil))))
  exact Cv.agg (ai_ (Cv.sealE at_ rfl (fun _ _ h => by cases h) rfl rfl (aW_ _)) (ai_ (ar_ at_ (aJ_ ab_ ab_)) ap_))
 exact ae_ (t_e (qf_ l2_))
theorem fs_fam1 (n : Int) (p last : List Rat) (h : okMul twP p) (hl : smL last) (h1 : (mulP twP p).length ≤ 274877906944) (h2 : last.length ≤ 274877906944) : FSpec Tryz.prog 264 [i64 n, .arr (pE p), .arr (pE last), bP twP] (.arr (pE (subP (mulP twP p) last))) := by
 refine f_n Tryz.func264 ?_ ?_
 ·exact aa_ (ad_ _) (aa_ (am_ _) (aa_ (am_ _) (aa_ (ba_ _) ab_)))
 refine r_z 1 ?_
 refine r_c 6 (fs_Mul twP p (mxL twP) (mxL p) (cv_ _) (cv_ _) (cb_ _) (cb_ _) h.1 h.2.1 h.2.2.1 h.2.2.2) ?_
 refine c_s (pJ_ (mulP twP p) last (okMul_sm h) hl (by omega) (by omega)) ?_
 refine a_z ?_
 exact ae_ (t_e (am_ _))
def chP : Nat → List Rat × List Rat
 | 0 => (gB_ 1, [0, 1])
 | k + 1 => ((chP k).2, subP (mulP twP (chP k).2) (chP k).1)
def okCh (k : Nat) : Prop := okMul twP (chP k).2 ∧ smL (chP k).1 ∧ (mulP twP (chP k).2).length ≤ 274877906944 ∧ (chP k).1.length ≤ 274877906944
instance (k : Nat) : Decidable (okCh k) := inferInstanceAs (Decidable (_ ∧ _ ∧ _ ∧ _))
def chT (k : Nat) : Option (List AV) := some [.arr (pE (chP k).1)]
abbrev bF : AV := .aptr [fmC [0, 1] 264 [bP twP]] 0 0
theorem eJ_ : Closed bF := aP_ (bV_ _ _ (aa_ (ba_ _) ab_))
theorem nT_ (K : Nat) (hK : K ≤ 1000000) (hok : ∀ k, k < K → okCh k) : GSpecB Tryz.prog 268 [bF] chT K := by
 refine GSpecB.enter Tryz.func268 rfl (by kernel_rfl) rfl rfl rfl ?_ ?_ rfl ?_
 ·exact aa_ eJ_ ab_
 ·intro k xs h
  cases h
  exact aa_ (am_ _) ab_
 intro ll N hN E
 refine GWp.seq ?_
 refine GWp.lift ?_
 refine r_d hmix 6 ?_
 refine c_s (cu_ 1 (by decide)) ?_
 refine c_s (hK_ 1) ?_
 refine a_4 ?_
 refine aj_ (n_k ?_)
 refine GWp.seq ?_
 refine GWp.lift ?_
 refine r_m 1 ?_
 refine a_z ?_
 refine GWp.block ?_
 refine GWp.loopS (fun k : Nat => ⟨[(0, .v (.func (.yield ll) #[] #[])), (1, bF), (3, .arr (pE (chP k).1)), (4, .arr (pE (chP k).2)), (5, i64 ((k : Int) + 1))], [], 1, 22⟩) (fun k => k) (fun k => N + 1 - k) (fun k => k ≤ N) 0 (Nat.zero_le _) rfl ?_ ?_
 ·exact s_f []
 intro k hk
 refine GWp.seq ?_
 refine GWp.seq ?_
 refine GWp.regY (fr2 := [(0, .v (.func (.yield ll) #[] #[])), (1, bF), (3, .arr (pE (chP k).1)), (4, .arr (pE (chP k).2)), (5, i64 ((k : Int) + 1)), (10, .v (.func (.yield ll) #[] #[])), (11, .arr (pE (chP k).1))]) (hp2 := []) (nx2 := 2) 2 rfl rfl rfl rfl rfl rfl ?_ rfl rfl rfl ?_ ?_ ?_
 ·refine o_0 (.move rfl) ?_
  refine o_0 (.move rfl) ?_
  refine aj_ ?_
  refine SEntT.to [] rfl rfl rfl au_r (fun hs => au_f) (fun hs => au_h)
 rotate_left 2
 intro go
 refine aj_ ?_
 rotate_left
 ·rfl
 ·exact aa_ (am_ _) ab_
 cases go with
 | false =>
  refine GWp.cond rfl (fun h => ?_) (fun h => ?_)
  ·cases h
  ·exact GWp.exit ⟨.inl rfl, fun h => by cases h⟩
 | true =>
  refine GWp.bound fun hk1 => ?_
  refine GWp.cond rfl (fun h => ?_) (fun h => ?_)
  rotate_left
  ·cases h
  refine GWp.skip ?_
  obtain ⟨o1, o2, o3, o4⟩ := hok k (by omega)
  refine GWp.lift ?_
  refine ac_ (ah_ (r_m 9 ?_))
  refine c_s (fs_fam1 ((k : Int) + 1) (chP k).2 (chP k).1 o1 o2 o3 o4) ?_
  refine a_z ?_
  refine r_m 3 ?_
  refine a_z ?_
  refine ⟨rfl, k + 1, by omega, hk1, rfl, ?_⟩
  exact s_f []
theorem nV_ : FSpec Tryz.prog 231 [.agg (fmC [0, 1] 264 [bP twP])] (.clos 268 [] [bF]) := by
 have hc : ∀ c ∈ fmC [0, 1] 264 [bP twP], Closed c := bV_ _ _ (aa_ (ba_ _) ab_)
 refine f_n Tryz.func231 ?_ ?_
 ·exact aa_ (aq_ hc) ab_
 refine r_z 2 ?_
 refine r_z 2 ?_
 refine ae_ (⟨.inr rfl, [_], ⟨_, [], rfl, rfl, rfl⟩, ?_⟩)
 exact Cv.clos ap_ (ai_ (Cv.boxp at_ rfl (fun _ _ h => by cases h) rfl hc) ap_)
def chL2 (n : Nat) : List (List Rat) := (List.range n).map fun k => (chP k).1
theorem lr_ (n : Nat) : chL2 (n + 1) = chL2 n ++ [(chP n).1] := by simp [chL2, List.range_succ]
@[simp] theorem chL2_length (n : Nat) : (chL2 n).length = n := by simp [chL2]
def fi0 (n : Int) : Unit → AState
 | u => ⟨[(1, .lptr 1 0 0), (3, .lptr 2 0 0), (7, .clos 268 [] [bF])], [(1, some ⟨3, 1, [[i64 n]]⟩), (2, some ⟨189, 1, [[.emp]]⟩)], 4, 18⟩
theorem fi0_mk (n : Int) (u : Unit) : fi0 n u = ⟨[(1, .lptr 1 0 0), (3, .lptr 2 0 0), (7, .clos 268 [] [bF])], [(1, some ⟨3, 1, [[i64 n]]⟩), (2, some ⟨189, 1, [[.emp]]⟩)], 4, 18⟩ := rfl
def fi1 (n : Int) : Nat → AState
 | k => ⟨[(1, .lptr 1 0 0), (3, .lptr 2 0 0), (7, .clos 268 [] [bF])], [(1, some ⟨3, 1, [[i64 n]]⟩), (2, some ⟨189, 1, [[.lsl 3 0 (k + 1) none 1]]⟩), (3, some ⟨25, 1, cE (chL2 (k + 1))⟩)], 4, 18⟩
def fiX (z : Nat) : Unit → AState
 | u => ⟨[(3, .lptr 1 0 0)], [(1, some ⟨189, 1, [[.lsl 2 0 (z + 1) none 1]]⟩), (2, some ⟨25, 1, cE (chL2 (z + 1))⟩)], 4, 18⟩
theorem fiX_mk (z : Nat) (u : Unit) : fiX z u = ⟨[(3, .lptr 1 0 0)], [(1, some ⟨189, 1, [[.lsl 2 0 (z + 1) none 1]]⟩), (2, some ⟨25, 1, cE (chL2 (z + 1))⟩)], 4, 18⟩ := rfl
def fiS (n : Int) : Nat → AState
 | 0 => fi0 n ()
 | k + 1 => fi1 n k
theorem d2_ : Closed (.clos 268 [] [bF]) := aJ_ ab_ (aa_ eJ_ ab_)
theorem pD_ (n : Nat) (hn : n ≤ 1000) (hok : ∀ k, k < n → okCh k) : FSpec Tryz.prog 170 [i64 n] (.arr (cE (chL2 (n + 1)))) := by
 have hgs := nT_ n (by omega) hok
 refine f_n Tryz.func170 ?_ ?_
 ·exact aa_ (ad_ _) ab_
 refine r_z 2 ?_
 refine r_z 1 ?_
 refine ac_ (r_c 3 (lZ_) ?_)
 refine c_s (nV_) ?_
 refine aj_ ?_
 refine au_ (fiX n) (fun _ => True) ?_ ?_
 ·refine ah_ (AWp.rangeFuncB (α := Nat) (γ := Unit) n (fiS n) (fun k => k) (fun k => k ≤ n) (fiX n) (fun e _ => e = .exit 0) 0 rfl hgs rfl rfl ?_ (fun k => by cases k <;> exact ⟨rfl, rfl⟩) (fun _ => rfl) (Nat.zero_le _) rfl (fun _ h => h) ?_ ?_ ?_ ?_ ?_)
  ·intro k xs hT; cases hT; rfl
  ·show SEntT _ (fi0 n ())
   rw [fi0_mk]
   refine SEntT.to [(2, 3)] rfl rfl rfl au_r (fun hs => ?_) (fun hs => ?_)
   ·repeat' (first | exact aX_ | refine aL_ rfl ?_ ?_)
    all_goals (first | (exact ar_ hs d2_) | exact au_c)
   ·repeat' (first | exact as_ | refine an_ rfl rfl rfl rfl ?_ ?_)
    all_goals (first | exact au_e | (refine aF_ ?_; repeat' (first | exact ap_ | refine ai_ ?_ ?_)))
    all_goals (first | (exact ar_ hs d2_) | exact au_c)
  ·exact aa_ eJ_ ab_
  ·intro l k xs hk hT
   cases hT
   cases k with
   | zero =>
    show AWp _ _ _ _ ⟨setPs (fi0 n ()).fr _ _ ++ bT_ (fi0 n ()).fr, _, _, _⟩
    show AWp _ _ _ _ ⟨[(8, .arr (pE (chP 0).1)), (1, .lptr 1 0 0), (3, .lptr 2 0 0), (7, .clos 268 [] [bF]), (1001, .lptr 1 0 0), (1003, .lptr 2 0 0), (1007, .clos 268 [] [bF])], [(1, some ⟨3, 1, [[i64 n]]⟩), (2, some ⟨189, 1, [[.emp]]⟩)], 4, 18⟩
    refine r_m 1 ?_
    refine a_z ?_
    refine ah_ (s_r 5 ?_)
    refine a_3 ?_
    refine o_1 (.append_e rfl rfl rfl te_189.h rfl rfl rfl (.lsl rfl (nle rfl)) (by first | assumption | (simp; done)) tz_25.h rfl tb_25.h d_o (by first | (simp [maxLen]; done) | (simp [maxLen]; omega))) ?_
    refine a_z ?_
    refine r_z 4 ?_
    refine af_ rfl (fun h1 => ?_) (fun h1 => ?_)
    ·have h2 : n = 0 := by
      simp at h1; omega
     subst h2
     refine al_ (⟨rfl, (), rfl, ?_⟩)
     show SEntT _ ⟨[(1003, .lptr 1 0 0)], [(1, some ⟨189, 1, [[.lsl 2 0 (0 + 1) none 1]]⟩), (2, some ⟨25, 1, cE (chL2 (0 + 1))⟩)], 4, 18⟩
     have := (cz_ [(chP 0).1])
     exact s_t [(1, 1003), (2, 12)]
    ·have h2 : ¬ n = 0 := by
      simp at h1; omega
     refine ag_ (⟨0 + 1, ⟨by omega, rfl⟩, ?_⟩)
     show SEntT _ ⟨[(1001, .lptr 1 0 0), (1003, .lptr 2 0 0), (1007, .clos 268 [] [bF])], [(1, some ⟨3, 1, [[i64 n]]⟩), (2, some ⟨189, 1, [[.lsl 3 0 (0 + 1) none 1]]⟩), (3, some ⟨25, 1, cE (chL2 (0 + 1))⟩)], 4, 18⟩
     refine SEntT.to [(3, 12)] rfl rfl rfl au_r (fun hs => ?_) (fun hs => ?_)
     ·repeat' (first | exact aX_ | refine aL_ rfl ?_ ?_)
      all_goals (first | (exact ar_ hs d2_) | exact au_c)
     ·repeat' (first | exact as_ | refine an_ rfl rfl rfl rfl ?_ ?_)
      all_goals (first | (exact bl_ hs (cz_ [(chP 0).1])) | exact au_e | (refine aF_ ?_; repeat' (first | exact ap_ | refine ai_ ?_ ?_)))
      all_goals (first | (exact ar_ hs d2_) | exact au_c)
   | succ k =>
    show AWp _ _ _ _ ⟨setPs (fi1 n k).fr _ _ ++ bT_ (fi1 n k).fr, _, _, _⟩
    show AWp _ _ _ _ ⟨[(8, .arr (pE (chP (k + 1)).1)), (1, .lptr 1 0 0), (3, .lptr 2 0 0), (7, .clos 268 [] [bF]), (1001, .lptr 1 0 0), (1003, .lptr 2 0 0), (1007, .clos 268 [] [bF])], [(1, some ⟨3, 1, [[i64 n]]⟩), (2, some ⟨189, 1, [[.lsl 3 0 (k + 1) none 1]]⟩), (3, some ⟨25, 1, cE (chL2 (k + 1))⟩)], 4, 18⟩
    refine r_m 1 ?_
    refine a_z ?_
    refine ah_ (r_z 5 ?_)
    refine r_z 4 ?_
    refine af_ rfl (fun h1 => ?_) (fun h1 => ?_)
    ·have h2 : n = k + 1 := by
      simp at h1; omega
     subst h2
     refine al_ (⟨rfl, (), rfl, ?_⟩)
     show SEntT _ ⟨[(1003, .lptr 1 0 0)], [(1, some ⟨189, 1, [[.lsl 2 0 ((k + 1) + 1) none 1]]⟩), (2, some ⟨25, 1, cE (chL2 ((k + 1) + 1))⟩)], 4, 18⟩
     refine SEntT.to [(1, 1003), (2, 12)] rfl rfl rfl au_r (fun hs => au_f) (fun hs => ?_)
     ·repeat' (first | exact as_ | refine an_ rfl rfl rfl rfl ?_ ?_)
      all_goals (first | (exact az_ hs (by rw [lr_ (k + 1), mi_]; rfl) (cz_ _)) | exact au_e)
    ·have h2 : ¬ n = k + 1 := by
      simp at h1; omega
     refine ag_ (⟨k + 1 + 1, ⟨by omega, rfl⟩, ?_⟩)
     show SEntT _ ⟨[(1001, .lptr 1 0 0), (1003, .lptr 2 0 0), (1007, .clos 268 [] [bF])], [(1, some ⟨3, 1, [[i64 n]]⟩), (2, some ⟨189, 1, [[.lsl 3 0 ((k + 1) + 1) none 1]]⟩), (3, some ⟨25, 1, cE (chL2 ((k + 1) + 1))⟩)], 4, 18⟩
     refine SEntT.to [(3, 12)] rfl rfl rfl au_r (fun hs => ?_) (fun hs => ?_)
     ·repeat' (first | exact aX_ | refine aL_ rfl ?_ ?_)
      all_goals (first | (exact ar_ hs d2_) | exact au_c)
     ·repeat' (first | exact as_ | refine an_ rfl rfl rfl rfl ?_ ?_)
      all_goals (first | (exact az_ hs (by rw [lr_ (k + 1), mi_]; rfl) (cz_ _)) | exact au_e | (refine aF_ ?_; repeat' (first | exact ap_ | refine ai_ ?_ ?_)))
      all_goals (first | (exact ar_ hs d2_) | exact au_c)
  ·intro k hk hT; cases hT
  ·rintro e u rfl
   exact ⟨u, trivial, SEnt.refl _⟩
 rintro u _
 rw [fiX_mk]
 refine r_z 2 ?_
 exact ae_ (Fin.tmpS rfl rfl rfl (by simp) (cz_ _))
def okTo (L : Nat) (p t : List Rat) (k : Rat) (n : Nat) : Prop := n < L ∧ smL p ∧ smL t ∧ leadP t ≠ 0 ∧ sm k ∧ smL (aI_ t k) ∧ p.length ≤ 274877906944 ∧ t.length ≤ 274877906944
instance (L : Nat) (p t : List Rat) (k : Rat) (n : Nat) : Decidable (okTo L p t k n) := inferInstanceAs (Decidable (_ ∧ _ ∧ _ ∧ _ ∧ _ ∧ _ ∧ _ ∧ _))
def toM : Nat → List Rat → List Rat → Option (List Rat)
 | 0, _, _ => none
 | f + 1, p, out => if trimQ p = [] then (if p.length ≤ 1099511627776 then some out else none) else
  let n := (trimQ p).length - 1
  let t := (chP n).1
  let k := leadP p / leadP t
  if okTo out.length p t k n then toM f (subP p (aI_ t k)) (out.set n k) else none
def iY_ (f : Nat) (p : List Rat) : Option (List Rat) :=
 if p.length ≤ 1000 ∧ (trimQ p).length ≤ 41 ∧ (∀ k, k < (trimQ p).length → okCh k) then toM f (trimQ p) (List.replicate (trimQ p).length 0) else none
def toS (ts : List (List Rat)) : List Rat × List Rat → AState
 | (p, out) => ⟨[(0, .arr (pE p)), (4, .lsl 1 0 out.length (some out.length) 3), (5, .arr (cE ts)), (6, i64 (degP p))], [(1, some ⟨37, 3, pE out⟩)], 2, 47⟩
theorem ov_ (ts : List (List Rat)) (p : List Rat) (out : List Rat) : toS ts (p, out) = ⟨[(0, .arr (pE p)), (4, .lsl 1 0 out.length (some out.length) 3), (5, .arr (cE ts)), (6, i64 (degP p))], [(1, some ⟨37, 3, pE out⟩)], 2, 47⟩ := rfl
theorem n0_ (f : Nat) (p r : List Rat) (h : iY_ f p = some r) : FSpec Tryz.prog 86 [.arr (pE p)] (.tup [.arr (pE r), i64 0]) := by
 unfold iY_ at h
 split at h
 case isFalse => cases h
 case isTrue hp =>
 obtain ⟨hp1, hp2, hp3⟩ := hp
 have htl := aU_ p
 obtain ⟨q, hq⟩ : ∃ q, q = trimQ p := ⟨_, rfl⟩
 rw [← hq] at h hp2 hp3 htl
 have hql : q.length ≤ 41 := hp2
 refine f_n Tryz.func86 ?_ ?_
 ·exact aa_ (am_ p) ab_
 refine r_z 2 ?_
 have htr := cl_ p (by omega)
 rw [← hq] at htr
 refine r_c 3 (htr) ?_
 refine a_z ?_
 refine ac_ (r_c 3 (br_ q (by omega)) ?_)
 refine a_z ?_
 refine af_ rfl (fun h1 => ?_) (fun h1 => ?_)
 ·have h2 : (40 : Int) < degP q := by simpa using h1
  have h3 := aU_ q
  unfold degP at h2
  omega
 refine ag_ (s_r 4 ?_)
 refine a_2 ?_
 refine o_1 (.makeSlice (l := q.length) (c := q.length) rfl rfl te_24.h tz_37.h rfl tb_37.h (by first | omega | (simp; done) | (simp; omega)) (by first | omega | (simp; done) | (simp; omega)) (by unfold maxLen; first | omega | (simp; done) | (simp; omega))) ?_
 refine a_z ?_
 refine r_c 4 (pD_ q.length (by omega) hp3) ?_
 refine a_z ?_
 refine ac_ (r_c 3 (br_ q (by omega)) ?_)
 refine a_z ?_
 refine au_ (fun _ : Unit => ⟨[(4, .lsl 1 0 r.length (some r.length) 3)], [(1, some ⟨37, 3, pE r⟩)], 2, 47⟩) (fun _ => True) ?_ ?_
 ·refine ah_ (ao_ (fun x : Nat × List Rat × List Rat => toS (chL2 (q.length + 1)) x.2) (fun x => x.1) (fun x => toM x.1 x.2.1 x.2.2 = some r ∧ x.2.2.length = q.length ∧ x.2.1.length ≤ 1099511627776) (f, q, List.replicate q.length 0) ⟨h, by simp, by simp only; omega⟩ ?_ ?_)
  ·simp only [ov_, List.length_replicate]
   refine ax_ [(1, 4)] rfl rfl rfl au_r (fun hs => ?_) (fun hs => ?_)
   ·repeat' (first | exact aX_ | refine aL_ rfl ?_ ?_)
    all_goals (first | (exact ar_ hs (da_ _)) | exact au_c)
   ·repeat' (first | exact as_ | refine an_ rfl rfl rfl rfl ?_ ?_)
    all_goals (first | (exact CvLL.zeros hs _) | exact au_e | (refine aF_ ?_; repeat' (first | exact ap_ | refine ai_ ?_ ?_)))
    all_goals (first | (exact ar_ hs (da_ _)) | exact au_c)
  rintro ⟨k, p, out⟩ ⟨h, ho, hpl⟩
  simp only at h ho hpl
  simp only [ov_]
  cases k with
  | zero => cases h
  | succ k =>
   rw [toM] at h
   refine ac_ (r_z 2 ?_)
   refine af_ rfl (fun h1 => ?_) (fun h1 => ?_)
   ·have h0 : trimQ p ≠ [] := by
     intro e
     have e2 := degP_neg.2 e
     simp at h1; omega
    rw [if_neg h0] at h
    simp only at h
    split at h
    case isFalse => cases h
    case isTrue hk =>
    obtain ⟨n, hn⟩ : ∃ n, n = (trimQ p).length - 1 := ⟨_, rfl⟩
    obtain ⟨t, ht⟩ : ∃ t, t = (chP n).1 := ⟨_, rfl⟩
    obtain ⟨x, hx⟩ : ∃ x, x = leadP p / leadP t := ⟨_, rfl⟩
    rw [← hn, ← ht, ← hx] at h hk
    obtain ⟨k1, k2, k3, k4, k5, k6, k7, k8⟩ := hk
    have hdn : degP p = (n : Int) := by
     unfold degP
     have := List.length_pos_iff.2 h0
     omega
    have hov := dk_ (leadP p) (leadP t) k4 (by have e1 := jC_ k2; have e2 := jC_ k3; unfold sm at e1 e2; omega)
    rw [← hx] at hov
    have hgt : (cE (chL2 (q.length + 1)))[((n : Nat) : Int).toNat]? = some [.arr (pE t)] := by
     refine nv_ ?_
     rw [Int.toNat_natCast, ht, chL2, List.getElem?_map, List.getElem?_range (by omega)]; rfl
    have hsl := b7_ t x
    have hgo : (pE (out.set n x))[0 + ((n : Nat) : Int).toNat]? = some (qC x) := by
     rw [show 0 + ((n : Nat) : Int).toNat = n by omega]
     exact cj_ (by rw [List.getElem?_set, if_pos rfl, if_pos k1])
    have hst : (pE out).set (0 + ((n : Nat) : Int).toNat) (qC x) = pE (out.set n x) := by
     rw [show 0 + ((n : Nat) : Int).toNat = n by omega, iv_]
    have hlo : (out.set n x).length = out.length := by simp
    have hg0 : (pE out)[0 + ((n : Nat) : Int).toNat]? = some (qC (coP out n)) := by
     rw [show 0 + ((n : Nat) : Int).toNat = n by omega]; exact cj_ (bn_ k1)
    have hsb : (subP p (aI_ t x)).length ≤ 1099511627776 := by
     have h1 := j6_ p (aI_ (aI_ t x) (-1))
     have h2 := b7_ (aI_ t x) (-1)
     unfold subP; omega
    rw [hdn]
    refine ag_ (ac_ (ah_ (ac_ (r_d hmix 12 ?_))))
    refine c_s (eB_ p (by omega)) ?_
    refine a_2 ?_
    refine i_x hgt ?_
    refine l_1 hgt ?_
    refine c_s (eB_ t (by omega)) ?_
    refine c_s (hov) ?_
    refine a_1 ?_
    refine o_1n (.store rfl rfl hg0 rfl rfl rfl ts_37.h (nle rfl)) ?_
    refine aj_ (n_k ?_)
    refine AWp.ent (st' := ⟨[(0, .arr (pE p)), (4, .lsl 1 0 out.length (some out.length) 3), (5, .arr (cE (chL2 (q.length + 1)))), (6, i64 n)], [(1, some ⟨37, 3, pE (out.set n x)⟩)], 2, 47⟩) ?_ ?_
    ·refine ax_ [] rfl rfl rfl ?_ (fun hs => ?_) (fun hs => ?_)
     ·repeat' (first | exact ShrL.nil | refine ShrL.cons rfl rfl rfl rfl (by first | (simp) | rfl | (simp; done) | (simp <;> omega)) ?_)
     ·repeat' (first | exact aX_ | refine aL_ rfl ?_ ?_)
      all_goals (first | (exact ar_ hs (da_ _)) | exact au_c)
     ·repeat' (first | exact as_ | refine an_ rfl rfl rfl rfl ?_ ?_)
      all_goals (first | (exact az_ hs hst (aW_ _)) | exact au_e | (refine aF_ ?_; repeat' (first | exact ap_ | refine ai_ ?_ ?_)))
      all_goals (first | (exact ar_ hs (da_ _)) | exact au_c)
    refine r_d hmix 12 ?_
    refine a_3 ?_
    refine i_x hgt ?_
    refine l_1 hgt ?_
    refine a_3 ?_
    first | refine aG_ (.load_l rfl rfl hgo tg_37.h ts_37.h (nle rfl)) rfl rfl ?_ | refine aG_ (.load_a rfl hgo tg_37.h ts_37.h (nle rfl)) rfl rfl ?_
    refine c_s (eX_ t x k3 k5 (by omega)) ?_
    refine c_s (pJ_ p (aI_ t x) k2 k6 (by omega) (by omega)) ?_
    refine a_1 ?_
    refine aj_ (n_k ?_)
    refine r_m 3 ?_
    refine c_s (br_ (subP p (aI_ t x)) hsb) ?_
    refine a_z ?_
    refine ⟨(k, subP p (aI_ t x), out.set n x), Nat.lt_succ_self k, ⟨h, by simp only; omega, hsb⟩, ?_⟩
    simp only [ov_, hlo]
    exact s_f []
   ·have h0 : trimQ p = [] := by
     refine degP_neg.1 ?_
     simp at h1; omega
    rw [if_pos h0, if_pos hpl] at h
    cases h
    refine al_ ⟨(), trivial, ?_⟩
    exact s_e []
 rintro _ _
 refine r_z 3 ?_
 refine ae_ (Fin.many ⟨_, _, rfl, rfl, ⟨_, _, rfl, rfl, rfl⟩⟩ (nle rfl) ?_)
 exact ai_ (Cv.sealE at_ rfl (fun _ _ h => by cases h) rfl (by simp) (aW_ r)) (ai_ (ar_ at_ (ad_ _)) ap_)
def twoP : List Rat := [-2, 0, 1]
theorem w_text1 : textP [1, mkRat (-3) 2, 0, 1] = [120, 94, 51, 32, 45, 32, 51, 47, 50, 32, 120, 32, 43, 32, 49] ∧ okPT [1, mkRat (-3) 2, 0, 1] := by decide +kernel
theorem w_div : divP [-1, 0, 1] [2, 1] = ([-2, 1], [3]) ∧ okDiv [-1, 0, 1] [2, 1] ∧ trimQ [2, 1] ≠ [] := by decide +kernel
theorem w_text2 : textP [-2, 1] = [120, 32, 45, 32, 50] ∧ okPT [-2, 1] := by decide +kernel
theorem w_text3 : textP [3] = [51] ∧ okPT [3] := by decide +kernel
theorem w_first : iY_ 10 [0, 0, 1] = some [mkRat 1 2, 0, mkRat 1 2] := by decide +kernel
theorem w_res : resM 10 1 twoP [-3, 0, 1] = some 1 := by decide +kernel
theorem w_q : textQ (mkRat 1 2) = [49, 47, 50] ∧ okT (mkRat 1 2) ∧ textQ 1 = [49] ∧ okT 1 := by decide +kernel
def oH_ : Bool := match kC_ 40 twoP with
 | some c => decide (1 < allV c ∧ spanM 40 c 1 4 = some (mkRat 11 8, mkRat 23 16))
 | none => false
theorem w_span : oH_ = true := by decide +kernel
theorem w_range : oY_ 40 40 twoP (-1, 2) 0 = some (-2, 2) := by decide +kernel
theorem w_sp : ox_ (mkRat 11 8, mkRat 23 16) = [91, 49, 49, 47, 56, 32, 50, 51, 47, 49, 54, 93] ∧ okT (mkRat 11 8) ∧ okT (mkRat 23 16) ∧ ox_ (-2, 2) = [91, 45, 50, 32, 50, 93] ∧ okT (-2) ∧ okT 2 := by decide +kernel
end Go.Proofs.YtdhedjbmdnnbkaaGreatDoor
