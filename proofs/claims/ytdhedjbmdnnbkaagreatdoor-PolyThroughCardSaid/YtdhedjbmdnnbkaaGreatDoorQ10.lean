/- Part 10 of the proof. -/
import Derived.Test.YtdhedjbmdnnbkaaGreatDoorQ09
set_option linter.all false
namespace Go.Proofs.YtdhedjbmdnnbkaaGreatDoor
open Go.Abs
set_option maxRecDepth 20000
set_option maxHeartbeats 1000000
def ovS (s : Nat) (V : List Nat) (L : Nat) : List Nat × List Nat × Nat → AState
 | (R, T, k) => ⟨[(4, .lptr 1 0 0), (5, .lptr 2 0 0), (6, .lptr 3 0 0), (7, .arr (dE V)), (8, i64 V.length), (9, .lsl 4 0 L (some L) 1), (10, .lsl 5 0 (L - V.length) (some (L - V.length)) 1), (11, i64 ((k : Int) - 1))],
  [(1, some ⟨33, 1, [[.emp]]⟩), (2, some ⟨33, 1, [[.emp]]⟩), (3, some ⟨33, 1, [[mag s]]⟩), (4, some ⟨206, 1, dE R⟩), (5, some ⟨206, 1, dE (List.replicate k 0 ++ T)⟩)], 6, 142⟩
theorem ovS_mk (s : Nat) (V : List Nat) (L : Nat) (R : List Nat) (T : List Nat) (k : Nat) : ovS s V L (R, T, k) = ⟨[(4, .lptr 1 0 0), (5, .lptr 2 0 0), (6, .lptr 3 0 0), (7, .arr (dE V)), (8, i64 V.length), (9, .lsl 4 0 L (some L) 1), (10, .lsl 5 0 (L - V.length) (some (L - V.length)) 1), (11, i64 ((k : Int) - 1))],
   [(1, some ⟨33, 1, [[.emp]]⟩), (2, some ⟨33, 1, [[.emp]]⟩), (3, some ⟨33, 1, [[mag s]]⟩), (4, some ⟨206, 1, dE R⟩), (5, some ⟨206, 1, dE (List.replicate k 0 ++ T)⟩)], 6, 142⟩ := rfl
def ovM (s : Nat) (V : List Nat) (L : Nat) (T : List Nat) (pre : List Nat) (post : List Nat) (j : Nat) (n : Nat) : List Nat × Nat × Bool → AState
 | (A, g, made) => ⟨[(4, .lptr 1 0 0), (5, .lptr 2 0 0), (6, .lptr 3 0 0), (7, .arr (dE V)), (8, i64 V.length), (9, .lsl 4 0 L (some L) 1), (10, .lsl 5 0 (L - V.length) (some (L - V.length)) 1), (11, i64 (((j + 1 : Nat) : Int) - 1)), (13, u64 g), (14, .lsl 4 j n (some n) 1), (15, bln made)],
  [(1, some ⟨33, 1, [[.emp]]⟩), (2, some ⟨33, 1, [[.emp]]⟩), (3, some ⟨33, 1, [[mag s]]⟩), (4, some ⟨206, 1, dE (pre ++ A ++ post)⟩), (5, some ⟨206, 1, dE (List.replicate (j + 1) 0 ++ T)⟩)], 6, 142⟩
theorem ovM_mk (s : Nat) (V : List Nat) (L : Nat) (T : List Nat) (pre : List Nat) (post : List Nat) (j : Nat) (n : Nat) (A : List Nat) (g : Nat) (made : Bool) : ovM s V L T pre post j n (A, g, made) = ⟨[(4, .lptr 1 0 0), (5, .lptr 2 0 0), (6, .lptr 3 0 0), (7, .arr (dE V)), (8, i64 V.length), (9, .lsl 4 0 L (some L) 1), (10, .lsl 5 0 (L - V.length) (some (L - V.length)) 1), (11, i64 (((j + 1 : Nat) : Int) - 1)), (13, u64 g), (14, .lsl 4 j n (some n) 1), (15, bln made)],
   [(1, some ⟨33, 1, [[.emp]]⟩), (2, some ⟨33, 1, [[.emp]]⟩), (3, some ⟨33, 1, [[mag s]]⟩), (4, some ⟨206, 1, dE (pre ++ A ++ post)⟩), (5, some ⟨206, 1, dE (List.replicate (j + 1) 0 ++ T)⟩)], 6, 142⟩ := rfl
theorem over_aux (a b : Nat) (h : bl a + bl b ≤ 8796093022208) (hb : 0 < b)
    (hrec : 2 ≤ (digs MB b).length → ∀ r s, 0 < s → s < 1000000000 → bl r ≤ bl b + 30 → FSpec Tryz.prog 182 [.agg [mag r], .agg [mag s]] (.tup [.agg [mag (r / s)], .agg [mag (r % s)]])) :
    FSpec Tryz.prog 182 [.agg [mag a], .agg [mag b]] (.tup [.agg [mag (a / b)], .agg [mag (a % b)]]) := by
 have hla := digs_length (b := MB) (by decide) a
 have hlb := digs_length (b := MB) (by decide) b
 have va := ofD_digs (b := MB) (by decide) a
 have vb := ofD_digs (b := MB) (by decide) b
 refine FSpec.enter Tryz.func182 rfl (by kernel_rfl) rfl rfl rfl ?_ rfl ?_
 ·exact closed_cons (closed_agg (closed_cons (closed_mag a) closed_nil)) (closed_cons (closed_agg (closed_cons (closed_mag b) closed_nil)) closed_nil)
 refine r_z 4 ?_
 refine AWp.seq ?_
 refine AWp.block ?_
 refine r_c 5 (fs_against a b (by omega)) ?_
 refine a_z ?_
 refine AWp.cond rfl (fun h => ?_) (fun h => ?_)
 ·have hlt : a < b := by
   have h1 := of_decide_eq_true h
   unfold cmpZ at h1
   split at h1
   ·omega
   ·split at h1 <;> omega
  refine AWp.seq ?_
  refine AWp.regD hmix (m := 4) rfl ?_
  refine a_4 ?_
  refine AR.nil ⟨by kernel_rfl, ?_⟩
  refine AWp.ret ?_
  rw [Nat.div_eq_of_lt hlt, Nat.mod_eq_of_lt hlt]
  refine Fin.many ⟨_, _, rfl, ⟨_, _, _, _, _, rfl, rfl, rfl, .inl ⟨tg_33.h, _, ts_33.h, nle rfl, rfl⟩⟩, _, _, rfl, ⟨_, _, _, _, _, rfl, rfl, rfl, .inl ⟨tg_33.h, _, ts_33.h, nle rfl, rfl⟩⟩, rfl⟩ (nle rfl) ?_
  refine CvL.cons (Cv.agg (CvL.cons (Cv.emp _ ?_) CvL.nil)) (CvL.cons (Cv.clo shr_nil (closed_agg (closed_cons (closed_mag a) closed_nil))) CvL.nil)
  unfold mag; rw [digs_zero]; rfl
 have hge : b ≤ a := by
  have h1 := of_decide_eq_false h
  refine Nat.le_of_not_lt fun hlt => h1 ?_
  rw [cmpZ_lt (by omega)]; decide
 refine r_z 5 ?_
 refine AWp.cond rfl (fun h2 => ?_) (fun h2 => ?_)
 ·have hl1 : (digs MB b).length = 1 := by simp at h2; omega
  have hbm : b < 1000000000 := by
   have := ofD_lt (b := MB) (digs_lt (by decide) b)
   rw [vb, hl1] at this; simpa using this
  have hg : (dE (digs MB b))[(0 : Int).toNat]? = some [u32 b] := by rw [digs_small hb hbm]; rfl
  refine AWp.seq ?_
  refine AWp.regD hmix (m := 10) rfl ?_
  refine a_3 ?_
  first | refine AR.op0 (.index_l rfl rfl (by omega) (by omega) te_31.h) rfl rfl ?_ | refine AR.op0 (.index_a rfl rfl (by omega) hg rfl te_31.h) rfl rfl ?_
  first | refine AR.op0 (.load_l1 rfl rfl hg tg_206.h rfl) rfl rfl ?_ | refine AR.op0 (.load_a1 rfl hg tg_206.h rfl) rfl rfl ?_
  refine c_s (fs_simple a b (by omega) hb (by omega)) ?_
  refine a_4 ?_
  refine AR.nil ⟨by kernel_rfl, ?_⟩
  refine AWp.ret ?_
  refine Fin.many ⟨_, _, rfl, ⟨_, _, _, _, _, rfl, rfl, rfl, .inl ⟨tg_33.h, _, ts_33.h, nle rfl, rfl⟩⟩, _, _, rfl, ⟨_, _, _, _, _, rfl, rfl, rfl, .inl ⟨tg_33.h, _, ts_33.h, nle rfl, rfl⟩⟩, rfl⟩ (nle rfl) ?_
  exact CvL.cons (Cv.clo shr_nil (closed_agg (closed_cons (closed_mag _) closed_nil))) (CvL.cons (Cv.clo shr_nil (closed_agg (closed_cons (closed_mag _) closed_nil))) CvL.nil)
 have hl2 : 2 ≤ (digs MB b).length := by
  have h1 : ¬ (digs MB b).length = 1 := by simp at h2; omega
  have h0 : (digs MB b).length ≠ 0 := fun e => by
   rw [List.length_eq_zero_iff] at e
   have := (digs_eq_nil (b := MB) (by decide)).1 e; omega
  omega
 refine AWp.skip ?_
 -- the leading digit, the factor
 obtain ⟨vt, hvt⟩ : ∃ d, (digs MB b)[(digs MB b).length - 1]? = some d := ⟨_, List.getElem?_eq_getElem (by omega)⟩
 have hvt1 : vt < 1000000000 := digs_get_lt (by decide) hvt
 have hvt0 : 1 ≤ vt := by
  have := digs_last (b := MB) (by decide) b
  rw [List.getLast?_eq_getElem?, hvt] at this
  simp at this; omega
 have hvt' : (dE (digs MB b))[(((digs MB b).length : Int) - 1).toNat]? = some [u32 vt] := by rw [show (((digs MB b).length : Int) - 1).toNat = (digs MB b).length - 1 by omega]; exact dE_get hvt
 obtain ⟨sc1, sc2, sc3⟩ := scale_top hvt0 hvt1
 have hsI : (1000000000 : Int) / ((vt : Int) + 1) = ((1000000000 / (vt + 1) : Nat) : Int) := by rw [show ((vt : Int) + 1) = ((vt + 1 : Nat) : Int) by omega]; exact (Int.natCast_ediv _ _).symm
 have hs9 : 1000000000 / (vt + 1) ≤ 500000000 := by
  have : 1000000000 / (vt + 1) ≤ 1000000000 / 2 := Nat.div_le_div_left (by omega) (by omega)
  omega
 obtain ⟨s, hs⟩ : ∃ s, s = 1000000000 / (vt + 1) := ⟨_, rfl⟩
 rw [← hs] at sc1 sc2 sc3 hsI hs9
 have hsm : FSpec Tryz.prog 177 [.v (.int .u64 ((1000000000 : Int) / ((vt : Int) + 1)))] (.agg [mag s]) := by rw [hsI]; exact fs_small s (by omega)
 have hbls : bl s ≤ 30 := bl_le (by omega)
 have hbs := bl_mul b s
 have has := bl_mul a s
 refine s_r 14 ?_
 refine a_6 ?_
 first | refine AR.op0 (.index_l rfl rfl (by omega) (by omega) te_31.h) rfl rfl ?_ | refine AR.op0 (.index_a rfl rfl (by omega) hvt' rfl te_31.h) rfl rfl ?_
 first | refine AR.op0 (.load_l1 rfl rfl hvt' tg_206.h rfl) rfl rfl ?_ | refine AR.op0 (.load_a1 rfl hvt' tg_206.h rfl) rfl rfl ?_
 refine a_1 ?_
 refine o_0 (.bin rfl rfl (bU32_quo (by omega))) ?_
 refine o_0 (.conv rfl (cU64 (by rw [hsI]; omega) tu_206.h tu_207.h)) ?_
 refine c_s (hsm) ?_
 refine a_z ?_
 obtain ⟨k, hk⟩ : ∃ k, (digs MB b).length = k + 1 := ⟨(digs MB b).length - 1, by omega⟩
 obtain ⟨hVl, hb1, hv2, v1, lw, hv1, hvw, hlw, hv500, hv1b⟩ := divisor_ok (s := s) hk (by rw [hk] at hvt; exact hvt) hvt0 sc1 sc2
 have hv1' : (dE (digs MB (b * s)))[(((digs MB (b * s)).length : Int) - 1).toNat]? = some [u32 v1] := by rw [show (((digs MB (b * s)).length : Int) - 1).toNat = k by omega]; exact dE_get hv1
 have hab := len_mono (b := MB) (by decide) hge
 have hU1 : a * s < MB ^ (digs MB a).length * s := by
  have := ofD_lt (b := MB) (digs_lt (by decide) a)
  rw [va] at this
  exact Nat.mul_lt_mul_of_pos_right this sc3
 have hUl : (digs MB (a * s)).length ≤ (digs MB a).length + 1 := by
  refine digs_length_lt (by decide) ?_
  rw [Nat.pow_succ]
  have : MB ^ (digs MB a).length * s ≤ MB ^ (digs MB a).length * MB := Nat.mul_le_mul_left _ (by show s ≤ 1000000000; omega)
  omega
 have hcp : setAt (List.replicate ((digs MB a).length + 1) [ofV (Value.int IntKind.u32 0)]) 0 (List.take (Nat.min (dE (digs MB (a * s))).length ((digs MB a).length + 1)) (dE (digs MB (a * s)))) = dE (padD MB ((digs MB a).length + 1) (a * s)) := by
  rw [List.take_of_length_le (by rw [dE_length]; exact Nat.le_min.2 ⟨Nat.le_refl _, hUl⟩), setAt_front (by rw [dE_length, List.length_replicate]; exact hUl)]
  rw [← eq_padD (l := digs MB (a * s) ++ List.replicate ((digs MB a).length + 1 - (digs MB (a * s)).length) 0) ?_ ?_ ?_]
  ·rw [dE_append, ← dE_replicate]; simp [u32, ofV]
  ·intro d hd
   rcases List.mem_append.1 hd with hd | hd
   ·exact digs_lt (by decide) _ d hd
   ·simp at hd; rw [hd.2]; decide
  ·simp; omega
  ·rw [ofD_append, ofD_zeros, ofD_digs (by decide)]; simp
 refine r_c 5 (fs_times b s (by omega)) ?_
 refine a_z ?_
 refine r_z 3 ?_
 have hL0 : ((digs MB a).length : Int) + 1 = (((digs MB a).length + 1 : Nat) : Int) := by omega
 refine s_r 6 ?_
 refine a_4 ?_
 refine o_1 (.makeSlice (congrArg (fun z => some (AV.v (.int .i64 z))) hL0) (congrArg (fun z => some (AV.v (.int .i64 z))) hL0) te_31.h tz_206.h rfl tb_206.h (by first | omega | (simp; done) | (simp; omega)) (by first | omega | (simp; done) | (simp; omega)) (by unfold maxLen; first | omega | (simp; done) | (simp; omega))) ?_
 refine a_z ?_
 refine r_c 6 (fs_times a s (by omega)) ?_
 refine a_1 ?_
 refine o_1 (.copy rfl rfl rfl te_31.h rfl rfl rfl (by first | (simp; done) | (simp; omega)) (by first | exact dE_one _ | exact iE_one _ | exact pE_one _ | exact cE_one _ | exact rE_one _ | rfl | simp) rfl (.arr (dE_len1 _))) ?_
 refine AR.nil ?_
 have hLI : (((digs MB a).length + 1 : Nat) : Int) - ((digs MB (b * s)).length : Nat) = (((digs MB a).length + 1 - (digs MB (b * s)).length : Nat) : Int) := by omega
 refine s_r 6 ?_
 refine a_4 ?_
 refine o_1 (.makeSlice (congrArg (fun z => some (AV.v (.int .i64 z))) hLI) (congrArg (fun z => some (AV.v (.int .i64 z))) hLI) te_31.h tz_206.h rfl tb_206.h (by first | omega | (simp; done) | (simp; omega)) (by first | omega | (simp; done) | (simp; omega)) (by unfold maxLen; first | omega | (simp; done) | (simp; omega))) ?_
 refine a_z ?_
 refine AWp.seq ?_
 refine r_z 4 ?_
 have hst : DivI (a * s) (b * s) (k + 1) ((digs MB a).length + 1) (padD MB ((digs MB a).length + 1) (a * s)) [] ((digs MB a).length + 1 - (k + 1)) := by
  have hUL : a * s < MB ^ ((digs MB a).length + 1) := by
   rw [Nat.pow_succ]
   have : MB ^ (digs MB a).length * s ≤ MB ^ (digs MB a).length * MB := Nat.mul_le_mul_left _ (by show s ≤ 1000000000; omega)
   omega
  exact DivI.start (by simp) (padD_lt (by decide) _ _) (ofD_padD (by decide) hUL) (by omega) (by simpa using hb1) (by omega) rfl (by simpa using hU1)
 refine AWp.cutT (ovS s (digs MB (b * s)) ((digs MB a).length + 1)) (fun x => DivI (a * s) (b * s) (k + 1) ((digs MB a).length + 1) x.1 x.2.1 x.2.2 ∧ x.2.2 = 0) ?_ ?_
 ·refine AWp.block ?_
  refine AWp.loopS (ovS s (digs MB (b * s)) ((digs MB a).length + 1)) (fun x => x.2.2) (fun x => DivI (a * s) (b * s) (k + 1) ((digs MB a).length + 1) x.1 x.2.1 x.2.2) (padD MB ((digs MB a).length + 1) (a * s), [], (digs MB a).length + 1 - (digs MB (b * s)).length) (by rw [hVl]; exact hst) ?_ ?_
  ·rw [ovS_mk]
   refine SEnt.to [(1, 4), (2, 5), (3, 6), (4, 9), (5, 10)] rfl rfl rfl ?_ (fun hs => au_f) (fun hs => ?_)
   ·repeat' (first | exact ShrL.nil | refine ShrL.cons rfl rfl rfl rfl (by first | (exact (congrArg List.length hcp).trans (by simp)) | rfl | (simp; done) | (simp <;> omega)) ?_)
   ·repeat' (first | exact CvH.nil | refine CvH.cons rfl rfl rfl rfl ?_ ?_)
    all_goals (first | (exact CvLL.cloE hs hcp (closed_dE _)) | exact au_e)
  rintro ⟨R, T, j1⟩ hinv
  simp only at hinv
  rw [ovS_mk]
  refine AWp.seq ?_
  refine r_z 2 ?_
  refine AWp.cond rfl (fun h3 => ?_) (fun h3 => ?_)
  ·have hj1 : 0 < j1 := by have := of_decide_eq_true h3; omega
   obtain ⟨j, rfl⟩ : ∃ j, j1 = j + 1 := ⟨j1 - 1, by omega⟩
   have hRl := hinv.len
   have hkl := hinv.k_le
   obtain ⟨p1, p2, p3, p4, p5⟩ := hinv.parts hv2
   have hnext := hinv.next hv2 (Nat.mul_pos hb sc3) rfl
   obtain ⟨A, hA⟩ : ∃ A, A = (R.drop j).take (k + 1 + 1) := ⟨_, rfl⟩
   obtain ⟨pre, hpre⟩ : ∃ x, x = R.take j := ⟨_, rfl⟩
   obtain ⟨post, hpost⟩ : ∃ x, x = R.drop (j + (k + 1) + 1) := ⟨_, rfl⟩
   obtain ⟨p, hp⟩ : ∃ p, p = ofD MB (R.drop j) := ⟨_, rfl⟩
   have hprel : pre.length = j := by rw [hpre]; simp; omega
   rw [← hA, ← hp] at p2
   rw [← hp] at p3 hnext
   rw [← hA] at p4
   rw [← hA, ← hpre, ← hpost] at p5
   rw [← hpre, ← hpost] at hnext
   have hAd : ∀ d ∈ A, d < MB := fun d hd => hinv.dig d (List.mem_of_mem_drop (List.mem_of_mem_take (by rw [hA] at hd; exact hd)))
   obtain ⟨x0, hx0⟩ : ∃ x, A[k]? = some x := ⟨_, List.getElem?_eq_getElem (by omega)⟩
   obtain ⟨x1, hx1⟩ : ∃ x, A[k + 1]? = some x := ⟨_, List.getElem?_eq_getElem (by omega)⟩
   have hx0b : x0 < 1000000000 := hAd x0 (List.mem_of_getElem? hx0)
   have hx1b : x1 < 1000000000 := hAd x1 (List.mem_of_getElem? hx1)
   obtain ⟨lo, hlo, hlob⟩ := part_two p4 hx0 hx1 hAd
   rw [p2] at hlo
   obtain ⟨gu1, gu2⟩ := guess_ok (b := MB) (by decide) hlo hlob hvw hlw (by show 1000000000 ≤ 2 * v1; omega) hv1b p3
   have hgR : ∀ i x, A[i]? = some x → (dE R)[0 + (j + i)]? = some [u32 x] := by
    intro i x hx
    rw [Nat.zero_add]
    refine dE_get ?_
    rw [p5, List.append_assoc, List.getElem?_append_right (by omega), List.getElem?_append_left (by have := (List.getElem?_eq_some_iff.1 hx).1; omega)]
    rw [show j + i - pre.length = i by omega]; exact hx
   have hgN : (dE R)[0 + ((((j + 1 : Nat) : Int) - 1) + ((digs MB (b * s)).length : Nat)).toNat]? = some [u32 x1] := by
    rw [show ((((j + 1 : Nat) : Int) - 1) + ((digs MB (b * s)).length : Nat)).toNat = j + (k + 1) by omega]; exact hgR _ _ hx1
   have hgM : (dE R)[0 + ((((j + 1 : Nat) : Int) - 1) + ((digs MB (b * s)).length : Nat) - 1).toNat]? = some [u32 x0] := by
    rw [show ((((j + 1 : Nat) : Int) - 1) + ((digs MB (b * s)).length : Nat) - 1).toNat = j + k by omega]; exact hgR _ _ hx0
   obtain ⟨g, hg⟩ : ∃ g, g = min ((x1 * 1000000000 + x0) / v1) 999999999 := ⟨_, rfl⟩
   have hg9 : g ≤ 999999999 := by rw [hg]; exact Nat.min_le_right _ _
   have hgI : (if (999999999 : Int) < ((x1 : Int) * 1000000000 + x0) / (v1 : Int) then (999999999 : Int) else ((x1 : Int) * 1000000000 + x0) / (v1 : Int)) = (g : Int) := by
    have e1 : ((x1 : Int) * 1000000000 + x0) / (v1 : Int) = (((x1 * 1000000000 + x0) / v1 : Nat) : Int) := by
     rw [show (x1 : Int) * 1000000000 + x0 = ((x1 * 1000000000 + x0 : Nat) : Int) by omega]; exact (Int.natCast_ediv _ _).symm
    rw [e1, hg]
    generalize (x1 * 1000000000 + x0) / v1 = Q
    by_cases hQ : Q ≤ 999999999
    ·rw [if_neg (by omega), Nat.min_eq_left hQ]
    ·rw [if_pos (by omega), Nat.min_eq_right (by omega)]; rfl
   rw [show MB - 1 = 999999999 from rfl, ← hg] at gu1 gu2
   refine AWp.skip ?_
   refine AWp.seq ?_
   refine AWp.block ?_
   refine AWp.seq ?_
   refine AWp.regD hmix (m := 18) rfl ?_
   refine a_5 ?_
   first | refine AR.op0 (.load_l1 rfl rfl hgN tg_206.h rfl) rfl rfl ?_ | refine AR.op0 (.load_a1 rfl hgN tg_206.h rfl) rfl rfl ?_
   refine a_8 ?_
   first | refine AR.op0 (.load_l1 rfl rfl hgM tg_206.h rfl) rfl rfl ?_ | refine AR.op0 (.load_a1 rfl hgM tg_206.h rfl) rfl rfl ?_
   refine a_3 ?_
   refine AR.nil ⟨by kernel_rfl, ?_⟩
   refine s_r 10 ?_
   refine a_4 ?_
   first | refine AR.op0 (.index_l rfl rfl (by omega) (by omega) te_31.h) rfl rfl ?_ | refine AR.op0 (.index_a rfl rfl (by omega) hv1' rfl te_31.h) rfl rfl ?_
   first | refine AR.op0 (.load_l1 rfl rfl hv1' tg_206.h rfl) rfl rfl ?_ | refine AR.op0 (.load_a1 rfl hv1' tg_206.h rfl) rfl rfl ?_
   refine a_z ?_
   refine s_r 12 ?_
   refine a_8 ?_
   refine a_2 ?_
   refine o_0 (.sl_lhm rfl rfl (l := j) (by omega) rfl (h := j + (k + 1) + 1) (by omega) rfl (m := j + (k + 1) + 1) (by omega) (by omega) te_31.h) ?_
   refine a_z ?_
   refine AWp.ent (st' := ⟨[(4, .lptr 1 0 0), (5, .lptr 2 0 0), (6, .lptr 3 0 0), (7, .arr (dE (digs MB (b * s)))), (8, i64 (digs MB (b * s)).length), (9, .lsl 4 0 ((digs MB a).length + 1) (some ((digs MB a).length + 1)) 1), (10, .lsl 5 0 ((digs MB a).length + 1 - (digs MB (b * s)).length) (some ((digs MB a).length + 1 - (digs MB (b * s)).length)) 1), (11, i64 (((j + 1 : Nat) : Int) - 1)), (13, u64 g), (14, .lsl 4 j (k + 1 + 1) (some (k + 1 + 1)) 1)],
    [(1, some ⟨33, 1, [[.emp]]⟩), (2, some ⟨33, 1, [[.emp]]⟩), (3, some ⟨33, 1, [[mag s]]⟩), (4, some ⟨206, 1, dE (pre ++ A ++ post)⟩), (5, some ⟨206, 1, dE (List.replicate (j + 1) 0 ++ T)⟩)], 6, 142⟩) ?_ ?_
   ·refine SEnt.to [] rfl rfl rfl ?_ (fun hs => ?_) (fun hs => ?_)
    ·repeat' (first | exact ShrL.nil | refine ShrL.cons rfl rfl rfl rfl (by first | (simp [← p5]) | rfl | (simp; done) | (simp <;> omega)) ?_)
    ·repeat' (first | exact CvF.nil | refine CvF.cons rfl ?_ ?_)
     all_goals (first | (exact Cv.loE hs (congrArg (fun z => AV.v (.int .u64 z)) hgI) (closed_v _)) | exact au_c)
    ·repeat' (first | exact CvH.nil | refine CvH.cons rfl rfl rfl rfl ?_ ?_)
     all_goals (first | (exact CvLL.cloE hs (congrArg dE p5) (closed_dE _)) | exact au_e | (refine CvLL.box ?_; repeat' (first | exact CvL.nil | refine CvL.cons ?_ ?_)))
     all_goals (first | (exact Cv.loE hs (congrArg (fun z => AV.v (.int .u64 z)) hgI) (closed_v _)) | exact au_c)
   have hV := ofD_digs (b := MB) (by decide) (b * s)
   have hVd := digs_lt (b := MB) (by decide) (b * s)
   have hsub : ∀ D q, D + g * (b * s) = p + MB ^ (k + 1 + 1) * q → D < MB ^ (k + 1 + 1) → q ≤ 1 → ESpec Tryz.prog 239 206 1 (dE (pre ++ A ++ post)) (dE (pre ++ padD MB (k + 1 + 1) D ++ post)) j (k + 1 + 1) (some (k + 1 + 1)) [.arr (dE (digs MB (b * s))), u64 g] (.bool (q != 0)) := by
    intro D q h1 h2 h3
    have := es_subtract pre A post (digs MB (b * s)) g D q (some (k + 1 + 1)) hAd hVd (Nat.lt_of_le_of_lt hg9 (by decide)) (by omega) (by omega) h3 (by rw [hV, p2, p4]; exact h1) (by rw [p4]; exact h2)
    rw [hprel, p4] at this; exact this
   have hgive : ∀ D D' q, D' + MB ^ (k + 1 + 1) * q = D + b * s → D < MB ^ (k + 1 + 1) → D' < MB ^ (k + 1 + 1) → q ≤ 1 → ESpec Tryz.prog 240 206 1 (dE (pre ++ padD MB (k + 1 + 1) D ++ post)) (dE (pre ++ padD MB (k + 1 + 1) D' ++ post)) j (k + 1 + 1) (some (k + 1 + 1)) [.arr (dE (digs MB (b * s)))] (.bool (q != 0)) := by
    intro D D' q h1 h2 h3 h4
    have := es_giveBack pre (padD MB (k + 1 + 1) D) post (digs MB (b * s)) D' q (some (k + 1 + 1)) (padD_lt (by decide) _ _) hVd (by simp; omega) (by simp; omega) h4 (by rw [hV, padD_length, ofD_padD (by decide) h2]; exact h1) (by rw [padD_length]; exact h3)
    rw [hprel, padD_length] at this; exact this
   have hvp : 0 < b * s := Nat.mul_pos hb sc3
   have m1 := Nat.mod_add_div p (b * s)
   have m2 := Nat.mod_lt p hvp
   have hBv : MB * (b * s) < MB ^ (k + 1 + 1) := by
    rw [Nat.pow_succ MB (k + 1), Nat.mul_comm MB]
    exact Nat.mul_lt_mul_of_pos_right hv2 (by decide)
   have hgv : g * (b * s) ≤ MB * (b * s) := Nat.mul_le_mul_right _ (Nat.le_trans hg9 (by decide))
   obtain ⟨W, hW⟩ : ∃ W, W = MB ^ (k + 1 + 1) := ⟨_, rfl⟩
   simp only [← hW] at hsub hgive hBv
   have hvW : b * s < W := by
    have : 1 * (b * s) ≤ MB * (b * s) := Nat.mul_le_mul_right _ (by decide)
    omega
   refine AWp.cut (fun _ : Unit => ⟨[(4, .lptr 1 0 0), (5, .lptr 2 0 0), (6, .lptr 3 0 0), (7, .arr (dE (digs MB (b * s)))), (8, i64 (digs MB (b * s)).length), (9, .lsl 4 0 ((digs MB a).length + 1) (some ((digs MB a).length + 1)) 1), (10, .lsl 5 0 ((digs MB a).length + 1 - (digs MB (b * s)).length) (some ((digs MB a).length + 1 - (digs MB (b * s)).length)) 1), (11, i64 (((j + 1 : Nat) : Int) - 1)), (13, u64 (p / (b * s) : Nat))],
    [(1, some ⟨33, 1, [[.emp]]⟩), (2, some ⟨33, 1, [[.emp]]⟩), (3, some ⟨33, 1, [[mag s]]⟩), (4, some ⟨206, 1, dE (pre ++ padD MB (k + 1 + 1) (p % (b * s)) ++ post)⟩), (5, some ⟨206, 1, dE (List.replicate (j + 1) 0 ++ T)⟩)], 6, 142⟩) (fun _ => True) ?_ ?_
   ·by_cases hc : g * (b * s) ≤ p
    ·have hgq : g = p / (b * s) := Nat.le_antisymm ((Nat.le_div_iff_mul_le hvp).2 hc) gu1
     have e1 : p % (b * s) + g * (b * s) = p + W * 0 := by rw [hgq, Nat.mul_comm (p / (b * s))]; omega
     have hs1 := hsub (p % (b * s)) 0 e1 (by omega) (by omega)
     refine s_r 4 ?_
     refine a_3 ?_
     refine o_1 (.callE2 rfl rfl rfl rfl rfl rfl (hs1)) ?_
     refine AR.nil ?_
     refine AWp.cond rfl (fun h4 => ?_) (fun h4 => ?_)
     ·cases h4
     refine AWp.skip ⟨(), trivial, ?_⟩
     have hgI2 : u64 g = u64 (p / (b * s) : Nat) := by rw [← hgq]
     refine SEnt.to [] rfl rfl rfl au_r (fun hs => ?_) (fun hs => ?_)
     ·repeat' (first | exact CvF.nil | refine CvF.cons rfl ?_ ?_)
      all_goals (first | (exact Cv.loE hs hgI2 (closed_v _)) | exact au_c)
     ·repeat' (first | exact CvH.nil | refine CvH.cons rfl rfl rfl rfl ?_ ?_)
      all_goals (first | exact au_e | (refine CvLL.box ?_; repeat' (first | exact CvL.nil | refine CvL.cons ?_ ?_)))
      all_goals (first | (exact Cv.loE hs hgI2 (closed_v _)) | exact au_c)
    ·have hc1 : p < g * (b * s) := by omega
     have e1 : (p + W - g * (b * s)) + g * (b * s) = p + W * 1 := by omega
     have hs1 := hsub (p + W - g * (b * s)) 1 e1 (by omega) (by omega)
     have hgt : p / (b * s) < g := by
      rw [Nat.div_lt_iff_lt_mul hvp]; exact hc1
     refine s_r 4 ?_
     refine a_3 ?_
     refine o_1 (.callE2 rfl rfl rfl rfl rfl rfl (hs1)) ?_
     refine AR.nil ?_
     refine AWp.cond rfl (fun h4 => ?_) (fun h4 => ?_)
     ·refine r_z 1 ?_
      refine AWp.block ?_
      refine AWp.loopS (ovM s (digs MB (b * s)) ((digs MB a).length + 1) T pre post j (k + 1 + 1)) (fun x => if x.2.2 then 0 else x.2.1 + 1)
       (fun x => (x.2.2 = true ∧ x.2.1 = p / (b * s) ∧ x.1 = padD MB (k + 1 + 1) (p % (b * s))) ∨ (x.2.2 = false ∧ p / (b * s) < x.2.1 ∧ x.2.1 ≤ 999999999 ∧ ∃ D, x.1 = padD MB (k + 1 + 1) D ∧ D + x.2.1 * (b * s) = p + W ∧ D < W))
       (padD MB (k + 1 + 1) (p + W - g * (b * s)), g, false) (.inr ⟨rfl, hgt, hg9, _, rfl, by simp only; omega, by omega⟩) ?_ ?_
      ·rw [ovM_mk]
       exact s_e []
      rintro ⟨A', g', made⟩ hin
      rw [ovM_mk]
      refine AWp.seq ?_
      refine r_z 2 ?_
      refine AWp.cond rfl (fun h5 => ?_) (fun h5 => ?_)
      ·have hm : made = false := by simpa using h5
       subst hm
       rcases hin with ⟨h6, _⟩ | ⟨_, h6, h7, D, h8, h9, h10⟩
       ·cases h6
       simp only at h6 h7 h8 h9
       subst h8
       have hg0 : 1 ≤ g' := Nat.lt_of_le_of_lt (Nat.zero_le _) h6
       refine AWp.skip ?_
       have hI : (g' : Int) - 1 = ((g' - 1 : Nat) : Int) := by omega
       have hq1 : b * s * (p / (b * s)) = p - p % (b * s) := by omega
       by_cases hlast : g' = p / (b * s) + 1
       ·have e2 : p % (b * s) + W * 1 = D + b * s := by
         rw [hlast, Nat.add_mul, Nat.one_mul, Nat.mul_comm (p / (b * s))] at h9; omega
        have hg1 := hgive D (p % (b * s)) 1 e2 h10 (by omega) (by omega)
        refine AWp.seq ?_
        refine AWp.block ?_
        refine AWp.reg (m := 4) rfl ?_
        refine a_2 ?_
        refine o_1 (.callE2 rfl rfl rfl rfl rfl rfl (hg1)) ?_
        refine a_z ?_
        refine AWp.reg (m := 3) rfl ?_
        refine a_z ?_
        refine ⟨(padD MB (k + 1 + 1) (p % (b * s)), g' - 1, true), by simp, .inl ⟨rfl, by simp only; omega, rfl⟩, ?_⟩
        rw [ovM_mk]
        refine SEnt.to [] rfl rfl rfl au_r (fun hs => ?_) (fun hs => ?_)
        ·repeat' (first | exact CvF.nil | refine CvF.cons rfl ?_ ?_)
         all_goals (first | (exact Cv.loE hs (congrArg (fun z => AV.v (.int .u64 z)) hI) (closed_v _)) | exact au_c)
        ·repeat' (first | exact CvH.nil | refine CvH.cons rfl rfl rfl rfl ?_ ?_)
         all_goals (first | exact au_e | (refine CvLL.box ?_; repeat' (first | exact CvL.nil | refine CvL.cons ?_ ?_)))
         all_goals (first | (exact Cv.loE hs (congrArg (fun z => AV.v (.int .u64 z)) hI) (closed_v _)) | exact au_c)
       ·have hgt2 : p / (b * s) < g' - 1 := by omega
        have h11 : (g' - 1) * (b * s) + b * s = g' * (b * s) := by
         conv => rhs; rw [show g' = (g' - 1) + 1 by omega, Nat.add_mul, Nat.one_mul]
        have h12 : p < (g' - 1) * (b * s) := by
         rw [Nat.div_lt_iff_lt_mul hvp] at hgt2; exact hgt2
        have hg1 := hgive D (D + b * s) 0 (by omega) h10 (by omega) (by omega)
        refine AWp.seq ?_
        refine AWp.block ?_
        refine AWp.reg (m := 4) rfl ?_
        refine a_2 ?_
        refine o_1 (.callE2 rfl rfl rfl rfl rfl rfl (hg1)) ?_
        refine a_z ?_
        refine AWp.reg (m := 3) rfl ?_
        refine a_z ?_
        refine ⟨(padD MB (k + 1 + 1) (D + b * s), g' - 1, false), by simp; omega, .inr ⟨rfl, hgt2, by simp only; omega, _, rfl, by simp only; omega, by omega⟩, ?_⟩
        rw [ovM_mk]
        refine SEnt.to [] rfl rfl rfl au_r (fun hs => ?_) (fun hs => ?_)
        ·repeat' (first | exact CvF.nil | refine CvF.cons rfl ?_ ?_)
         all_goals (first | (exact Cv.loE hs (congrArg (fun z => AV.v (.int .u64 z)) hI) (closed_v _)) | exact au_c)
        ·repeat' (first | exact CvH.nil | refine CvH.cons rfl rfl rfl rfl ?_ ?_)
         all_goals (first | exact au_e | (refine CvLL.box ?_; repeat' (first | exact CvL.nil | refine CvL.cons ?_ ?_)))
         all_goals (first | (exact Cv.loE hs (congrArg (fun z => AV.v (.int .u64 z)) hI) (closed_v _)) | exact au_c)
      ·have hm : made = true := by simpa using h5
       subst hm
       rcases hin with ⟨_, h6, h7⟩ | ⟨h6, _⟩
       ·simp only at h6 h7
        subst h6 h7
        refine AWp.exit ⟨(), trivial, ?_⟩
        exact s_e []
       ·cases h6
     ·cases h4
   rintro _ _
   have hq9 : p / (b * s) ≤ 999999999 := Nat.le_trans gu1 hg9
   obtain ⟨q, hq⟩ : ∃ q, q = p / (b * s) := ⟨_, rfl⟩
   rw [← hq] at hq9 hnext ⊢
   have hrep : List.replicate (j + 1) 0 ++ T = List.replicate j 0 ++ 0 :: T := by rw [List.replicate_succ']; simp
   have hgT : (dE (List.replicate (j + 1) 0 ++ T))[0 + (((j + 1 : Nat) : Int) - 1).toNat]? = some [u32 0] := by
    rw [show 0 + (((j + 1 : Nat) : Int) - 1).toNat = j by omega, hrep]; exact dE_get (get_mid _ _ _ _ (by simp))
   have hsetT : (dE (List.replicate (j + 1) 0 ++ T)).set (0 + (((j + 1 : Nat) : Int) - 1).toNat) [u32 q] = dE (List.replicate j 0 ++ (q :: T)) := by
    rw [show 0 + (((j + 1 : Nat) : Int) - 1).toNat = j by omega, dE_set, hrep, set_mid _ _ _ _ _ (by simp)]; simp
   refine AWp.reg (m := 6) rfl ?_
   refine a_5 ?_
   refine o_1n (.store rfl rfl hgT rfl rfl rfl ts_206.h (nle rfl)) ?_
   refine AR.nil ?_
   refine AWp.reg (m := 3) rfl ?_
   refine a_z ?_
   refine ⟨(pre ++ padD MB (k + 1 + 1) (p % (b * s)) ++ post, q :: T, j), by simp only; omega, hnext, ?_⟩
   rw [ovS_mk]
   refine SEnt.to [] rfl rfl rfl ?_ (fun hs => au_f) (fun hs => ?_)
   ·repeat' (first | exact ShrL.nil | refine ShrL.cons rfl rfl rfl rfl (by first | (exact (congrArg List.length hsetT)) | rfl | (simp; done) | (simp <;> omega)) ?_)
   ·repeat' (first | exact CvH.nil | refine CvH.cons rfl rfl rfl rfl ?_ ?_)
    all_goals (first | (exact CvLL.cloE hs hsetT (closed_dE _)) | exact au_e)
  ·have hj : j1 = 0 := by have := of_decide_eq_false h3; omega
   subst hj
   refine AWp.exit ⟨(R, T, 0), ⟨hinv, rfl⟩, ?_⟩
   rw [ovS_mk]
   exact s_e []
 rintro ⟨R, T, j1⟩ ⟨hinv, hj⟩
 simp only at hinv hj
 subst hj
 obtain ⟨hq, hr⟩ := hinv.last rfl rfl hb sc3
 rw [ovS_mk]
 refine AWp.ent (st' := ⟨[(4, .lptr 1 0 0), (5, .lptr 2 0 0), (6, .lptr 3 0 0), (9, .arr (dE R)), (10, .arr (dE T))],
  [(1, some ⟨33, 1, [[.emp]]⟩), (2, some ⟨33, 1, [[.emp]]⟩), (3, some ⟨33, 1, [[mag s]]⟩)], 4, 142⟩) ?_ ?_
 ·have hlen := hinv.len
  have hkl := hinv.k_le
  refine SEnt.to [] rfl rfl rfl au_r (fun hs => ?_) (fun hs => ?_)
  ·repeat' (first | exact CvF.nil | refine CvF.cons rfl ?_ ?_)
   all_goals (first | (exact Cv.sealE hs rfl (dead_of rfl) rfl (by simp; omega) (closed_dE _)) | exact au_c)
  ·repeat' (first | exact CvH.nil | refine CvH.cons rfl rfl rfl rfl ?_ ?_)
   all_goals (first | exact au_e | (refine CvLL.box ?_; repeat' (first | exact CvL.nil | refine CvL.cons ?_ ?_)))
   all_goals (first | (exact Cv.sealE hs rfl (dead_of rfl) rfl (by simp; omega) (closed_dE _)) | exact au_c)
 have hRl := hinv.len
 have hkl := hinv.k_le
 have hRt : FSpec Tryz.prog 175 [.arr (dE R)] (.agg [mag (ofD MB R)]) := by
  have := fs_trimmed R (by omega)
  rwa [trimD_eq (b := MB) (by decide) hinv.dig] at this
 have hTt : FSpec Tryz.prog 175 [.arr (dE T)] (.agg [mag (ofD MB T)]) := by
  have := fs_trimmed T (by omega)
  rwa [trimD_eq (b := MB) (by decide) hinv.digT] at this
 have hblr : bl (ofD MB R) ≤ bl b + 30 := by
  have h1 := hinv.top
  rw [List.drop_zero] at h1
  have h2 := bl_mono (Nat.le_of_lt h1)
  omega
 have hov := hrec hl2 (ofD MB R) s (by omega) (by omega) hblr
 rw [hr] at hov
 refine AWp.seq ?_
 refine AWp.regD hmix (m := 11) rfl ?_
 refine c_s (hRt) ?_
 refine c_s (hov) ?_
 refine a_7 ?_
 refine AR.nil ⟨by kernel_rfl, ?_⟩
 refine AWp.seq ?_
 refine AWp.regD hmix (m := 5) rfl ?_
 refine c_s (hTt) ?_
 refine a_3 ?_
 refine AR.nil ⟨by kernel_rfl, ?_⟩
 refine AWp.ret ?_
 refine Fin.many ⟨_, _, rfl, ⟨_, _, _, _, _, rfl, rfl, rfl, .inl ⟨tg_33.h, _, ts_33.h, nle rfl, rfl⟩⟩, _, _, rfl, ⟨_, _, _, _, _, rfl, rfl, rfl, .inl ⟨tg_33.h, _, ts_33.h, nle rfl, rfl⟩⟩, rfl⟩ (nle rfl) ?_
 rw [← hq]
 exact CvL.cons (Cv.clo shr_nil (closed_agg (closed_cons (closed_mag _) closed_nil))) (CvL.cons (Cv.clo shr_nil (closed_agg (closed_cons (closed_mag _) closed_nil))) CvL.nil)
theorem len1 {b : Nat} (hb : b < 1000000000) : (digs MB b).length ≤ 1 := digs_length_lt (by decide) (by simpa using hb)
theorem fs_over (a b : Nat) (h : bl a + bl b ≤ 4398046511104) (hb : 0 < b) : FSpec Tryz.prog 182 [.agg [mag a], .agg [mag b]] (.tup [.agg [mag (a / b)], .agg [mag (a % b)]]) :=
 over_aux a b (by omega) hb fun _ r s hs hs1 hr => over_aux r s (by have := bl_le (n := s) (k := 30) (by omega); omega) hs fun h2 => absurd h2 (by have := len1 hs1; omega)
def backT (l : List Nat) (k : Nat) : Option (List AV) := if k < l.length then some [i64 ((l.length - 1 - k : Nat) : Int), u32 (l.getD (l.length - 1 - k) 0)] else none
theorem gs_Backward_u (l : List Nat) (hl : l.length ≤ 281474976710656) : GSpec Tryz.prog 269 [.aptr [[.arr (dE l)]] 0 0] (backT l) := by
 have hcl : Closed (.aptr [[.arr (dE l)]] 0 0) := closed_aptr (fun e he c hc => by simp at he; subst he; simp at hc; subst hc; exact closed_arrD l)
 refine GSpec.enter Tryz.func269 rfl (by kernel_rfl) rfl rfl rfl ?_ ?_ rfl ?_
 ·exact closed_cons hcl closed_nil
 ·intro k xs h
  unfold backT at h
  split at h
  ·cases h; exact closed_cons (closed_v _) (closed_cons (closed_v _) closed_nil)
  ·cases h
 intro ll N E
 refine GWp.seq ?_
 refine GWp.lift ?_
 refine AWp.reg (m := 4) rfl ?_
 refine a_z ?_
 refine GWp.block ?_
 refine GWp.loopS (fun m : Nat => ⟨[(0, .v (.func (.yield ll) #[] #[])), (1, .aptr [[.arr (dE l)]] 0 0), (3, i64 ((m : Int) - 1))], [], 1, 19⟩) (fun m => l.length - m) (fun m => m) (fun m => m ≤ l.length) l.length (Nat.le_refl _) (by simp) ?_ ?_
 ·exact s_e []
 intro m hm
 refine GWp.seq ?_
 refine GWp.seq ?_
 refine GWp.lift ?_
 refine AWp.reg (m := 2) rfl ?_
 refine a_z ?_
 refine GWp.cond rfl (fun h => ?_) (fun h => ?_)
 ·refine GWp.skip ?_
  have hm1 : 1 ≤ m := by have := of_decide_eq_true h; omega
  obtain ⟨x, hx⟩ : ∃ x, l[m - 1]? = some x := ⟨_, List.getElem?_eq_getElem (by omega)⟩
  have hx' : (dE l)[((m : Int) - 1).toNat]? = some [u32 x] := by rw [show ((m : Int) - 1).toNat = m - 1 by omega]; exact dE_get hx
  refine GWp.seq ?_
  refine GWp.block ?_
  refine GWp.seq ?_
  refine GWp.regY (fr2 := [(0, .v (.func (.yield ll) #[] #[])), (1, .aptr [[.arr (dE l)]] 0 0), (3, i64 ((m : Int) - 1)), (11, .v (.func (.yield ll) #[] #[])), (12, i64 ((m : Int) - 1)), (16, u32 x)]) (hp2 := []) (nx2 := 1) 6 rfl rfl rfl rfl rfl rfl ?_ rfl rfl rfl ?_ ?_ ?_
  ·refine o_0 (.move rfl) ?_
   refine o_0 (.move rfl) ?_
   first | refine AR.op0 (.load_l1 rfl rfl rfl tg_31.h rfl) rfl rfl ?_ | refine AR.op0 (.load_a1 rfl rfl tg_31.h rfl) rfl rfl ?_
   refine o_0 (.move rfl) ?_
   first | refine AR.op0 (.index_l rfl rfl (by omega) (by omega) te_31.h) rfl rfl ?_ | refine AR.op0 (.index_a rfl rfl (by omega) hx' rfl te_31.h) rfl rfl ?_
   first | refine AR.op0 (.load_l1 rfl rfl hx' tg_206.h rfl) rfl rfl ?_ | refine AR.op0 (.load_a1 rfl hx' tg_206.h rfl) rfl rfl ?_
   refine AR.nil ?_
   refine SEntT.to [] rfl rfl rfl au_r (fun hs => au_f) (fun hs => au_h)
  rotate_left 2
  intro go
  refine o_0 (.un rfl un_not) ?_
  refine AR.nil ?_
  rotate_left
  ·unfold backT
   rw [if_pos (by omega)]
   simp only [List.map_cons, List.map_nil, coe, i64, u32, Option.some.injEq, List.cons.injEq, AV.v.injEq, Value.int.injEq, true_and, and_true]
   refine ⟨by omega, ?_⟩
   rw [show l.length - 1 - (l.length - m) = m - 1 by omega, List.getD_eq_getElem?_getD, hx]; rfl
  ·exact closed_cons (closed_v _) (closed_cons (closed_v _) closed_nil)
  cases go with
  | false =>
   refine GWp.cond rfl (fun h => ?_) (fun h => ?_)
   ·exact GWp.ret ⟨.inr rfl, fun h => by cases h⟩
   ·cases h
  | true =>
   refine GWp.cond rfl (fun h => ?_) (fun h => ?_)
   ·cases h
   ·refine GWp.skip ?_
    refine GWp.lift ?_
    refine AWp.reg (m := 3) rfl ?_
    refine a_z ?_
    refine ⟨rfl, m - 1, by omega, by omega, by omega, ?_⟩
    exact s_e []
 ·refine GWp.exit ⟨.inl rfl, fun _ => ?_⟩
  have : m = 0 := by have := of_decide_eq_false h; omega
  subst this
  unfold backT
  rw [if_neg (by omega)]
theorem fs_Backward_u (l : List Nat) : FSpec Tryz.prog 233 [.arr (dE l)] (.clos 269 [] [.aptr [[.arr (dE l)]] 0 0]) := by
 refine FSpec.enter Tryz.func233 rfl (by kernel_rfl) rfl rfl rfl ?_ rfl ?_
 ·exact closed_cons (closed_arrD l) closed_nil
 refine r_z 2 ?_
 refine r_z 2 ?_
 refine AWp.ret ?_
 refine ⟨.inr rfl, [_], ⟨_, [], rfl, rfl, rfl⟩, ?_⟩
 exact Cv.clos CvL.nil (CvL.cons (Cv.sealp shr_nil rfl (fun _ _ h => by cases h) (by simp) (CvLL.box (CvL.cons (Cv.clo shr_nil (closed_arrD l)) CvL.nil))) CvL.nil)
def wordS (n : Nat) : Nat → AState
 | k => ⟨[(3, .lptr 1 0 0), (8, .clos 269 [] [.aptr [[.arr (dE (digs MB n))]] 0 0])], [(1, some ⟨207, 1, [[u64 (ofD MB ((digs MB n).drop ((digs MB n).length - k)))]]⟩)], 2, 17⟩
theorem wordS_mk (n : Nat) (k : Nat) : wordS n k = ⟨[(3, .lptr 1 0 0), (8, .clos 269 [] [.aptr [[.arr (dE (digs MB n))]] 0 0])], [(1, some ⟨207, 1, [[u64 (ofD MB ((digs MB n).drop ((digs MB n).length - k)))]]⟩)], 2, 17⟩ := rfl
theorem fs_word (n : Nat) (h : (digs MB n).length ≤ 2) : FSpec Tryz.prog 237 [.agg [mag n]] (u64 n) := by
 have hb := fs_Backward_u (digs MB n)
 have hg := gs_Backward_u (digs MB n) (by omega)
 have hcl : Closed (.aptr [[.arr (dE (digs MB n))]] 0 0) := closed_aptr (fun e he c hc => by simp at he; subst he; simp at hc; subst hc; exact closed_arrD _)
 have hcl2 : Closed (.clos 269 [] [.aptr [[.arr (dE (digs MB n))]] 0 0]) := closed_clos closed_nil (closed_cons hcl closed_nil)
 refine FSpec.enter Tryz.func237 rfl (by kernel_rfl) rfl rfl rfl ?_ rfl ?_
 ·exact closed_cons (closed_agg (closed_cons (closed_mag n) closed_nil)) closed_nil
 refine r_z 2 ?_
 refine r_z 2 ?_
 refine AWp.seq ?_
 refine r_c 3 (hb) ?_
 refine AR.nil ?_
 refine AWp.cutT (fun _ : Unit => ⟨[(3, .lptr 1 0 0)], [(1, some ⟨207, 1, [[u64 n]]⟩)], 2, 17⟩) (fun _ => True) ?_ ?_
 ·refine AWp.block ?_
  refine AWp.rangeFunc (α := Nat) (γ := Empty) (digs MB n).length (wordS n) (fun k => k) (fun k => k ≤ (digs MB n).length) (fun e => nomatch e) (fun _ e => nomatch e) 0 rfl hg rfl rfl ?_ (fun _ => ⟨rfl, rfl⟩) (fun e => nomatch e) (Nat.zero_le _) rfl (fun _ h => h) ?_ ?_ ?_ ?_ (fun _ e => nomatch e)
  ·intro k xs hT
   unfold backT at hT
   split at hT
   ·cases hT; rfl
   ·cases hT
  ·rw [wordS_mk]
   have h0 : AV.v (.int .u64 0) = u64 ((ofD MB ((digs MB n).drop ((digs MB n).length - 0)) : Nat) : Int) := by simp [ofD, u64]
   refine SEntT.to [(1, 3)] rfl rfl rfl au_r (fun hs => ?_) (fun hs => ?_)
   ·repeat' (first | exact CvF.nil | refine CvF.cons rfl ?_ ?_)
    all_goals (first | (exact Cv.loE hs h0 (closed_v _)) | exact au_c)
   ·repeat' (first | exact CvH.nil | refine CvH.cons rfl rfl rfl rfl ?_ ?_)
    all_goals (first | exact au_e | (refine CvLL.box ?_; repeat' (first | exact CvL.nil | refine CvL.cons ?_ ?_)))
    all_goals (first | (exact Cv.loE hs h0 (closed_v _)) | exact au_c)
  ·exact closed_cons hcl closed_nil
  ·intro l k xs hk hT
   unfold backT at hT
   split at hT
   rotate_left
   ·cases hT
   rename_i hlt
   cases hT
   obtain ⟨x, hx⟩ : ∃ x, (digs MB n)[(digs MB n).length - 1 - k]? = some x := ⟨_, List.getElem?_eq_getElem (by omega)⟩
   have hx1 : x < 1000000000 := digs_get_lt (by decide) hx
   have hxd : (digs MB n).getD ((digs MB n).length - 1 - k) 0 = x := by rw [List.getD_eq_getElem?_getD, hx]; rfl
   rw [hxd]
   have hv := ofD_drop MB hx
   rw [show (digs MB n).length - 1 - k + 1 = (digs MB n).length - k by omega] at hv
   have hlt2 : ofD MB ((digs MB n).drop ((digs MB n).length - k)) < 1000000000 := by
    have h1 := ofD_lt (b := MB) (l := (digs MB n).drop ((digs MB n).length - k)) fun d hd => digs_lt (by decide) n d (List.mem_of_mem_drop hd)
    have h2 : ((digs MB n).drop ((digs MB n).length - k)).length ≤ 1 := by simp; omega
    exact Nat.lt_of_lt_of_le h1 (Nat.pow_le_pow_right (by decide) h2)
   show AWp _ _ _ _ ⟨[(10, u32 x), (9, i64 ((digs MB n).length - 1 - k : Nat)), (3, .lptr 1 0 0), (8, .clos 269 [] [.aptr [[.arr (dE (digs MB n))]] 0 0]), (1003, .lptr 1 0 0), (1008, .clos 269 [] [.aptr [[.arr (dE (digs MB n))]] 0 0])], [(1, some ⟨207, 1, [[u64 (ofD MB ((digs MB n).drop ((digs MB n).length - k)))]]⟩)], 2, 17⟩
   refine AWp.reg (m := 1) rfl ?_
   refine a_z ?_
   refine AWp.block ?_
   refine AWp.reg (m := 6) rfl ?_
   refine a_z ?_
   refine ⟨k + 1, ⟨by omega, rfl⟩, ?_⟩
   show SEntT _ ⟨[(1003, .lptr 1 0 0), (1008, .clos 269 [] [.aptr [[.arr (dE (digs MB n))]] 0 0])], [(1, some ⟨207, 1, [[u64 (ofD MB ((digs MB n).drop ((digs MB n).length - (k + 1))))]]⟩)], 2, 17⟩
   have h1 : AV.v (.int .u64 ((ofD MB ((digs MB n).drop ((digs MB n).length - k)) : Nat) * 1000000000 + (x : Int))) = u64 ((ofD MB ((digs MB n).drop ((digs MB n).length - (k + 1))) : Nat) : Int) := by
    rw [show (digs MB n).length - (k + 1) = (digs MB n).length - 1 - k by omega, hv]
    simp [u64]; omega
   refine SEntT.to [] rfl rfl rfl au_r (fun hs => ?_) (fun hs => ?_)
   ·repeat' (first | exact CvF.nil | refine CvF.cons rfl ?_ ?_)
    all_goals (first | (exact Cv.loE hs h1 (closed_v _)) | exact au_c)
   ·repeat' (first | exact CvH.nil | refine CvH.cons rfl rfl rfl rfl ?_ ?_)
    all_goals (first | exact au_e | (refine CvLL.box ?_; repeat' (first | exact CvL.nil | refine CvL.cons ?_ ?_)))
    all_goals (first | (exact Cv.loE hs h1 (closed_v _)) | exact au_c)
  ·intro k hk hT
   unfold backT at hT
   split at hT
   ·cases hT
   refine ⟨(), trivial, ?_⟩
   rw [wordS_mk]
   have h1 : ofD MB ((digs MB n).drop ((digs MB n).length - k)) = n := by
    rw [show (digs MB n).length - k = 0 by omega, List.drop_zero, ofD_digs (by decide)]
   rw [h1]
   exact s_e []
 rintro _ _
 refine r_z 2 ?_
 refine AWp.ret (Fin.tmpE rfl rfl (closed_v _))
def commonS  : Nat × Nat → AState
 | (p, q) => ⟨[(2, .lptr 1 0 0), (3, .lptr 2 0 0), (4, .lptr 3 0 0)], [(1, some ⟨33, 1, [[mag p]]⟩), (2, some ⟨33, 1, [[mag q]]⟩), (3, some ⟨33, 1, [[.emp]]⟩)], 4, 43⟩
theorem commonS_mk  (p : Nat) (q : Nat) : commonS  (p, q) = ⟨[(2, .lptr 1 0 0), (3, .lptr 2 0 0), (4, .lptr 3 0 0)], [(1, some ⟨33, 1, [[mag p]]⟩), (2, some ⟨33, 1, [[mag q]]⟩), (3, some ⟨33, 1, [[.emp]]⟩)], 4, 43⟩ := rfl
def wordsS  : Nat × Nat → AState
 | (x, y) => ⟨[(4, .lptr 3 0 0), (5, u64 x), (6, u64 y)], [(3, some ⟨33, 1, [[.emp]]⟩)], 4, 43⟩
theorem wordsS_mk  (x : Nat) (y : Nat) : wordsS  (x, y) = ⟨[(4, .lptr 3 0 0), (5, u64 x), (6, u64 y)], [(3, some ⟨33, 1, [[.emp]]⟩)], 4, 43⟩ := rfl
theorem gcd_step (p q : Nat) : Nat.gcd q (p % q) = Nat.gcd p q := by
 rw [Nat.gcd_comm p q, Nat.gcd_rec q p, Nat.gcd_comm]
theorem word_lt {n : Nat} (h : (digs MB n).length ≤ 2) : n < 1000000000000000000 := by
 have h1 := ofD_lt (b := MB) (digs_lt (by decide) n)
 rw [ofD_digs (by decide)] at h1
 exact Nat.lt_of_lt_of_le h1 (Nat.pow_le_pow_right (by decide) h)
theorem fs_common (a b : Nat) (h : bl a + bl b ≤ 4398046511104) : FSpec Tryz.prog 180 [.agg [mag a], .agg [mag b]] (.agg [mag (Nat.gcd a b)]) := by
 refine FSpec.enter Tryz.func180 rfl (by kernel_rfl) rfl rfl rfl ?_ rfl ?_
 ·exact closed_cons (closed_agg (closed_cons (closed_mag a) closed_nil)) (closed_cons (closed_agg (closed_cons (closed_mag b) closed_nil)) closed_nil)
 refine r_z 3 ?_
 refine AWp.cut commonS (fun x => x.1 = Nat.gcd a b) ?_ ?_
 ·refine AWp.block ?_
  refine AWp.loopS commonS (fun x => x.2) (fun x => Nat.gcd x.1 x.2 = Nat.gcd a b ∧ bl x.1 + bl x.2 ≤ 4398046511104) (a, b) ⟨rfl, h⟩ ?_ ?_
  ·rw [commonS_mk]
   exact s_e []
  rintro ⟨p, q⟩ ⟨hg, hb⟩
  simp only at hg hb
  rw [commonS_mk]
  have hz := fs_zero (digs MB q)
  refine AWp.seq ?_
  refine r_c 3 (hz) ?_
  refine a_z ?_
  refine AWp.cond rfl (fun h0 => ?_) (fun h0 => ?_)
  ·have hq : 0 < q := by
    rcases Nat.eq_zero_or_pos q with e | e
    ·subst e; rw [digs_zero] at h0; simp at h0
    ·exact e
   refine AWp.skip ?_
   refine AWp.block ?_
   refine AWp.cut (fun _ : Unit => ⟨[(2, .lptr 1 0 0), (3, .lptr 2 0 0), (4, .lptr 3 0 0)], [(1, some ⟨33, 1, [[mag p]]⟩), (2, some ⟨33, 1, [[mag q]]⟩), (3, some ⟨33, 1, [[.emp]]⟩)], 4, 43⟩) (fun _ => True) ?_ ?_
   ·by_cases hl : (digs MB p).length ≤ 2
    ·by_cases hl2 : (digs MB q).length ≤ 2
     ·have hwp := word_lt hl
      have hwq := word_lt hl2
      refine s_r 10 ?_
      refine a_5 ?_
      first | refine AR.op0y rfl rfl (gy (by simp; omega)) (.fieldAddr_l rfl tf_33_0.h (by decide)) rfl rfl ?_ | refine AR.op0y rfl rfl (gy (by simp; omega)) (.fieldAddr_a rfl tf_33_0.h (by decide)) rfl rfl ?_
      first | refine AR.op0y rfl rfl (gy (by simp; omega)) (.load_l1 rfl rfl rfl tg_31.h rfl) rfl rfl ?_ | refine AR.op0y rfl rfl (gy (by simp; omega)) (.load_a1 rfl rfl tg_31.h rfl) rfl rfl ?_
      first | refine AR.op0y rfl rfl (gy (by simp; omega)) (.lenD rfl rfl rfl rfl te_31.h) rfl rfl ?_ | refine AR.op0y rfl rfl (gy (by simp; omega)) (.lenI rfl rfl rfl rfl te_31.h) rfl rfl ?_ | refine AR.op0y rfl rfl (gy (by simp; omega)) (.lenP rfl rfl rfl rfl te_31.h) rfl rfl ?_ | refine AR.op0y rfl rfl (gy (by simp; omega)) (.lenC rfl rfl rfl rfl te_31.h) rfl rfl ?_ | refine AR.op0y rfl rfl (gy (by simp; omega)) (.lenR rfl rfl rfl rfl te_31.h) rfl rfl ?_ | refine AR.op0y rfl rfl (gy (by simp; omega)) (.len rfl rfl rfl rfl rfl te_31.h) rfl rfl ?_
      refine AR.op0y rfl rfl (gy (by simp; omega)) (.bin rfl rfl binI_leq) rfl rfl ?_
      refine o_0 (.pickT rfl (by simp; omega) rfl) ?_
      refine AR.nil ?_
      refine AWp.cond rfl (fun h1 => ?_) (fun h1 => ?_)
      ·refine AWp.seq ?_
       refine AWp.regD hmix (m := 6) rfl ?_
       refine c_s (fs_word p hl) ?_
       refine c_s (fs_word q hl2) ?_
       refine a_2 ?_
       refine AR.nil ⟨by kernel_rfl, ?_⟩
       refine AWp.cut (fun x : Nat => ⟨[(4, .lptr 3 0 0), (5, u64 x)], [(3, some ⟨33, 1, [[.emp]]⟩)], 4, 43⟩) (fun x => x = Nat.gcd a b) ?_ ?_
       ·refine AWp.block ?_
        refine AWp.loopS wordsS (fun x => x.2) (fun x => Nat.gcd x.1 x.2 = Nat.gcd a b ∧ x.1 < 1000000000000000000 ∧ x.2 < 1000000000000000000) (p, q) ⟨hg, hwp, hwq⟩ ?_ ?_
        ·rw [wordsS_mk]
         exact s_e []
        rintro ⟨x, y⟩ ⟨hxy, hx, hy⟩
        simp only at hxy hx hy
        rw [wordsS_mk]
        refine AWp.seq ?_
        refine r_z 2 ?_
        refine AWp.cond rfl (fun h2 => ?_) (fun h2 => ?_)
        ·have hy0 : 0 < y := by simp at h2; omega
         refine AWp.skip ?_
         refine AWp.block ?_
         refine AWp.regD hmix (m := 6) rfl ?_
         refine a_6 ?_
         refine AR.nil ⟨by kernel_rfl, ?_⟩
         refine ⟨(y, x % y), Nat.mod_lt _ hy0, ⟨(gcd_step x y).trans hxy, hy, Nat.lt_trans (Nat.mod_lt _ hy0) hy⟩, ?_⟩
         rw [wordsS_mk]
         exact s_e []
        ·have hy0 : y = 0 := by simp at h2; omega
         subst hy0
         refine AWp.exit ⟨x, by simpa using hxy, ?_⟩
         exact s_e []
       rintro x rfl
       have hx64 : Nat.gcd a b < 18446744073709551616 := by
        rw [← hg]
        have h1 : Nat.gcd p q ≤ q := Nat.gcd_le_right _ hq
        omega
       refine r_c 3 (fs_small _ hx64) ?_
       refine a_z ?_
       refine AWp.ret ?_
       exact Fin.cellE rfl rfl rfl tg_33.h ts_33.h (nle rfl) rfl (closed_agg (closed_cons (closed_mag _) closed_nil))
      ·exact absurd h1 (by simp; omega)
     ·refine s_r 10 ?_
      refine a_5 ?_
      first | refine AR.op0y rfl rfl (gy (by simp; omega)) (.fieldAddr_l rfl tf_33_0.h (by decide)) rfl rfl ?_ | refine AR.op0y rfl rfl (gy (by simp; omega)) (.fieldAddr_a rfl tf_33_0.h (by decide)) rfl rfl ?_
      first | refine AR.op0y rfl rfl (gy (by simp; omega)) (.load_l1 rfl rfl rfl tg_31.h rfl) rfl rfl ?_ | refine AR.op0y rfl rfl (gy (by simp; omega)) (.load_a1 rfl rfl tg_31.h rfl) rfl rfl ?_
      first | refine AR.op0y rfl rfl (gy (by simp; omega)) (.lenD rfl rfl rfl rfl te_31.h) rfl rfl ?_ | refine AR.op0y rfl rfl (gy (by simp; omega)) (.lenI rfl rfl rfl rfl te_31.h) rfl rfl ?_ | refine AR.op0y rfl rfl (gy (by simp; omega)) (.lenP rfl rfl rfl rfl te_31.h) rfl rfl ?_ | refine AR.op0y rfl rfl (gy (by simp; omega)) (.lenC rfl rfl rfl rfl te_31.h) rfl rfl ?_ | refine AR.op0y rfl rfl (gy (by simp; omega)) (.lenR rfl rfl rfl rfl te_31.h) rfl rfl ?_ | refine AR.op0y rfl rfl (gy (by simp; omega)) (.len rfl rfl rfl rfl rfl te_31.h) rfl rfl ?_
      refine AR.op0y rfl rfl (gy (by simp; omega)) (.bin rfl rfl binI_leq) rfl rfl ?_
      refine o_0 (.pickT rfl (by simp; omega) rfl) ?_
      refine AR.nil ?_
      refine AWp.cond rfl (fun h => ?_) (fun _ => AWp.skip ⟨(), trivial, ?_⟩)
      ·exact absurd h (by simp; omega)
      ·exact s_e []
    ·refine s_r 10 ?_
     refine a_5 ?_
     refine AR.opN rfl rfl (gn (by simp; omega)) rfl rfl ?_
     refine AR.opN rfl rfl (gn (by simp; omega)) rfl rfl ?_
     refine AR.opN rfl rfl (gn (by simp; omega)) rfl rfl ?_
     refine AR.opN rfl rfl (gn (by simp; omega)) rfl rfl ?_
     refine o_0 (.pickF rfl (by simp; omega) rfl) ?_
     refine AR.nil ?_
     refine AWp.cond rfl (fun h => ?_) (fun _ => AWp.skip ⟨(), trivial, ?_⟩)
     ·cases h
     ·exact s_e []
   rintro _ _
   refine r_c 10 (fs_over p q hb hq) ?_
   refine a_z ?_
   refine AWp.regD hmix (m := 4) rfl ?_
   refine a_4 ?_
   refine AR.nil ⟨by kernel_rfl, ?_⟩
   refine ⟨(q, p % q), Nat.mod_lt _ hq, ⟨(gcd_step p q).trans hg, ?_⟩, ?_⟩
   ·have := bl_mono (Nat.mod_le p q)
    simp only; omega
   ·rw [commonS_mk]
    exact s_e []
  ·have hq : q = 0 := by
    rcases Nat.eq_zero_or_pos q with e | e
    ·exact e
    ·have : (digs MB q).length ≠ 0 := fun e' => by
      rw [List.length_eq_zero_iff] at e'
      have := (digs_eq_nil (b := MB) (by decide)).1 e'; omega
     simp [this] at h0
   subst hq
   refine AWp.exit ⟨(p, 0), ?_, ?_⟩
   ·simpa using hg
   ·rw [commonS_mk]
    exact s_e []
 rintro ⟨p, q⟩ hp
 simp only at hp
 subst hp
 rw [commonS_mk]
 refine r_z 2 ?_
 refine AWp.ret ?_
 refine Fin.cellE rfl rfl rfl tg_33.h ts_33.h (nle rfl) rfl (closed_agg (closed_cons (closed_mag _) closed_nil))
end Go.Proofs.YtdhedjbmdnnbkaaGreatDoor
namespace Go.Abs
def zI (z : Int) : List AV := [mag z.natAbs, bln (decide (z < 0))]
def qC (q : Rat) : List AV := [mag q.num.natAbs, bln (decide (q.num < 0)), mag (q.den - 1)]
def sgn (b : Bool) (m : Nat) : Int := if b then -(m : Int) else m
theorem closed_zI (z : Int) : ∀ c ∈ zI z, Closed c := closed_cons (closed_mag _) (closed_cons (closed_v _) closed_nil)
theorem closed_qC (q : Rat) : ∀ c ∈ qC q, Closed c := closed_cons (closed_mag _) (closed_cons (closed_v _) (closed_cons (closed_mag _) closed_nil))
theorem closed_zA (z : Int) : Closed (.agg (zI z)) := closed_agg (closed_zI z)
theorem closed_qA (q : Rat) : Closed (.agg (qC q)) := closed_agg (closed_qC q)
theorem closed_mA (n : Nat) : Closed (.agg [mag n]) := closed_agg (closed_cons (closed_mag n) closed_nil)
theorem sgn_natAbs (b : Bool) (m : Nat) : (sgn b m).natAbs = m := by unfold sgn; split <;> omega
theorem sgn_neg (b : Bool) (m : Nat) : decide (sgn b m < 0) = (b && !(m == 0)) := by
 unfold sgn
 rw [Bool.eq_iff_iff]
 cases b
 ·simp
 ·simp; omega
theorem sgn_self (z : Int) : sgn (decide (z < 0)) z.natAbs = z := by
 unfold sgn; split
 ·rename_i h; have := of_decide_eq_true h; omega
 ·rename_i h; have := of_decide_eq_false (by simpa using h : decide (z < 0) = false); omega
def qs (q : Rat) : Nat := max (bl q.num.natAbs) (bl q.den)
theorem mkRat_num {n : Int} {d : Nat} (hd : 0 < d) : (mkRat n d).num = n / (Nat.gcd n.natAbs d : Int) ∧ (mkRat n d).den = d / Nat.gcd n.natAbs d := by
 unfold mkRat
 rw [dif_neg (by omega), Rat.normalize_eq]
 exact ⟨rfl, rfl⟩
theorem mkRat_sgn {n : Int} {d : Nat} (hd : 0 < d) : (mkRat n d).num = sgn (decide (n < 0)) (n.natAbs / Nat.gcd n.natAbs d) := by
 rw [(mkRat_num hd).1]
 have hg : 0 < Nat.gcd n.natAbs d := Nat.gcd_pos_of_pos_right _ hd
 obtain ⟨k, hk⟩ := Nat.gcd_dvd_left n.natAbs d
 generalize Nat.gcd n.natAbs d = g at hg hk ⊢
 rw [hk, Nat.mul_div_cancel_left _ hg]
 unfold sgn
 split
 ·rename_i h
  have := of_decide_eq_true h
  have e : n = (g : Int) * (-(k : Int)) := by rw [Int.mul_neg, ← Int.natCast_mul, ← hk]; omega
  rw [e, Int.mul_ediv_cancel_left _ (by omega)]
 ·rename_i h
  have := of_decide_eq_false (by simpa using h : decide (n < 0) = false)
  have e : n = (g : Int) * (k : Int) := by rw [← Int.natCast_mul, ← hk]; omega
  rw [e, Int.mul_ediv_cancel_left _ (by omega)]
theorem bl_div_le (a b : Nat) : bl (a / b) ≤ bl a := bl_mono (Nat.div_le_self _ _)
theorem qs_mkRat {n : Int} {d : Nat} (hd : 0 < d) {k : Nat} (h1 : bl n.natAbs ≤ k) (h2 : bl d ≤ k) : qs (mkRat n d) ≤ k := by
 unfold qs
 rw [mkRat_sgn hd, sgn_natAbs, (mkRat_num hd).2]
 exact Nat.max_le.2 ⟨Nat.le_trans (bl_div_le _ _) h1, Nat.le_trans (bl_div_le _ _) h2⟩
theorem add_mkRat (a b : Rat) : a + b = mkRat (a.num * b.den + b.num * a.den) (a.den * b.den) := by
 rw [Rat.add_def]; unfold mkRat; rw [dif_neg (Nat.mul_ne_zero a.den_nz b.den_nz)]
theorem mul_mkRat (a b : Rat) : a * b = mkRat (a.num * b.num) (a.den * b.den) := by
 rw [Rat.mul_def]; unfold mkRat; rw [dif_neg (Nat.mul_ne_zero a.den_nz b.den_nz)]
theorem qs_num (a : Rat) : bl a.num.natAbs ≤ qs a := Nat.le_max_left _ _
theorem qs_den (a : Rat) : bl a.den ≤ qs a := Nat.le_max_right _ _
theorem bl_sum_le {x y : Int} {k : Nat} (hx : bl x.natAbs ≤ k) (hy : bl y.natAbs ≤ k) : bl (x + y).natAbs ≤ k + 1 := by
 have h1 := bl_mono (Int.natAbs_add_le x y)
 have h2 := bl_add x.natAbs y.natAbs
 omega
theorem bl_prod_le {x y : Int} {j k : Nat} (hx : bl x.natAbs ≤ j) (hy : bl y.natAbs ≤ k) : bl (x * y).natAbs ≤ j + k := by
 rw [Int.natAbs_mul]
 have := bl_mul x.natAbs y.natAbs
 omega
theorem add_parts (a b : Rat) : bl (a.num * b.den + b.num * a.den).natAbs ≤ qs a + qs b + 1 ∧ bl (a.den * b.den) ≤ qs a + qs b := by
 have h1 := qs_num a; have h2 := qs_den a; have h3 := qs_num b; have h4 := qs_den b
 refine ⟨bl_sum_le (bl_prod_le h1 (by simpa using h4)) ?_, ?_⟩
 ·have := bl_prod_le (x := b.num) (y := a.den) h3 (by simpa using h2); omega
 ·have := bl_mul a.den b.den; omega
theorem mul_parts (a b : Rat) : bl (a.num * b.num).natAbs ≤ qs a + qs b ∧ bl (a.den * b.den) ≤ qs a + qs b := by
 have h1 := qs_num a; have h2 := qs_den a; have h3 := qs_num b; have h4 := qs_den b
 refine ⟨bl_prod_le h1 h3, ?_⟩
 have := bl_mul a.den b.den; omega
theorem den_pos2 (a b : Rat) : 0 < a.den * b.den := Nat.mul_pos a.den_pos b.den_pos
theorem qs_add (a b : Rat) : qs (a + b) ≤ qs a + qs b + 1 := by
 rw [add_mkRat]
 have h := add_parts a b
 exact qs_mkRat (den_pos2 a b) h.1 (by omega)
theorem qs_mul (a b : Rat) : qs (a * b) ≤ qs a + qs b := by
 rw [mul_mkRat]
 have h := mul_parts a b
 exact qs_mkRat (den_pos2 a b) h.1 h.2
theorem qs_neg (a : Rat) : qs (-a) = qs a := by unfold qs; rw [Rat.neg_num, Rat.neg_den, Int.natAbs_neg]
theorem qs_sub (a b : Rat) : qs (a - b) ≤ qs a + qs b + 1 := by
 rw [Rat.sub_eq_add_neg]
 have := qs_add a (-b)
 rwa [qs_neg] at this
theorem div_mkRat (a b : Rat) (hb : b ≠ 0) : a / b = mkRat (a.num * sgn (decide (b.num < 0)) b.den) (a.den * b.num.natAbs) := by
 have hn : b.num ≠ 0 := fun h => hb (Rat.num_eq_zero.1 h)
 rw [Rat.div_def, Rat.inv_def]
 conv => lhs; rw [← Rat.num_divInt_den a]
 rw [Rat.divInt_mul_divInt]
 unfold sgn
 split
 ·rename_i h
  have h' := of_decide_eq_true h
  have hp : 0 < a.den * b.num.natAbs := Nat.mul_pos a.den_pos (by omega)
  have e : (a.den : Int) * b.num = -((a.den * b.num.natAbs : Nat) : Int) := by
   rw [Int.natCast_mul, ← Int.mul_neg]; congr 1; omega
  rw [e, Int.mul_neg]
  generalize a.den * b.num.natAbs = d at hp ⊢
  cases d with
  | zero => omega
  | succ d =>
   rw [show -((d + 1 : Nat) : Int) = Int.negSucc d by omega]
   simp only [Rat.divInt, mkRat]
   rfl
 ·rename_i h
  have h' := of_decide_eq_false (by simpa using h : decide (b.num < 0) = false)
  have e : (a.den : Int) * b.num = ((a.den * b.num.natAbs : Nat) : Int) := by
   rw [Int.natCast_mul, show (b.num.natAbs : Int) = b.num by omega]
  rw [e]; rfl
theorem div_parts (a b : Rat) : bl (a.num * sgn (decide (b.num < 0)) b.den).natAbs ≤ qs a + qs b ∧ bl (a.den * b.num.natAbs) ≤ qs a + qs b := by
 have h1 := qs_num a; have h2 := qs_den a; have h3 := qs_num b; have h4 := qs_den b
 refine ⟨bl_prod_le h1 (by rw [sgn_natAbs]; exact h4), ?_⟩
 have := bl_mul a.den b.num.natAbs; omega
theorem qs_div (a b : Rat) : qs (a / b) ≤ qs a + qs b := by
 by_cases hb : b = 0
 ·subst hb
  rw [Rat.div_def, Rat.inv_zero, Rat.mul_zero]
  have : qs 0 = 1 := by decide
  have h2 : 1 ≤ qs 0 := by decide
  omega
 ·rw [div_mkRat a b hb]
  have h := div_parts a b
  have hn : b.num ≠ 0 := fun h => hb (Rat.num_eq_zero.1 h)
  exact qs_mkRat (Nat.mul_pos a.den_pos (by omega)) h.1 h.2
def sm (q : Rat) : Prop := qs q ≤ 137438953472
instance (q : Rat) : Decidable (sm q) := inferInstanceAs (Decidable (_ ≤ _))
def ck (q : Rat) : Option Rat := if qs q ≤ 137438953472 then some q else none
theorem sm2 {a b : Rat} (ha : sm a) (hb : sm b) : qs a + qs b ≤ 549755813888 := by unfold sm at ha hb; omega
def sgZ (z : Int) : Int := if z = 0 then 0 else if z < 0 then -1 else 1
def cmpQ (a b : Rat) : Int := if a < b then -1 else if a = b then 0 else 1
theorem sgZ_num_lt {q : Rat} : sgZ q.num < 0 ↔ q < 0 := by
 unfold sgZ
 have h1 : q.num = 0 ↔ q = 0 := Rat.num_eq_zero
 have h2 : 0 ≤ q.num ↔ 0 ≤ q := Rat.num_nonneg
 have h3 : q < 0 ↔ ¬ 0 ≤ q := Rat.not_le.symm
 rw [h3, ← h2]
 split
 ·omega
 ·split <;> omega
theorem sgZ_num_eq {q : Rat} : sgZ q.num = 0 ↔ q = 0 := by
 unfold sgZ
 rw [← Rat.num_eq_zero]
 split
 ·simp [*]
 ·split <;> simp [*]
theorem cmpQ_eq (a b : Rat) : cmpQ a b = if a.num * b.den < b.num * a.den then -1 else if a.num * b.den = b.num * a.den then 0 else 1 := by
 unfold cmpQ
 have h1 := Rat.lt_iff a b
 have h2 : a = b ↔ a.num * b.den = b.num * a.den := by
  constructor
  ·rintro rfl; rfl
  ·intro h
   have := (Rat.mkRat_eq_iff (n₁ := a.num) (n₂ := b.num) a.den_nz b.den_nz).2 h
   rwa [Rat.mkRat_self, Rat.mkRat_self] at this
 by_cases h : a < b
 ·rw [if_pos h, if_pos (h1.1 h)]
 ·rw [if_neg h, if_neg (fun x => h (h1.2 x))]
  by_cases h' : a = b
  ·rw [if_pos h', if_pos (h2.1 h')]
  ·rw [if_neg h', if_neg (fun x => h' (h2.2 x))]
def fineQ (k : Nat) : Rat := mkRat 1 (2 ^ k)
theorem num_neg (q : Rat) : q.num < 0 ↔ q < 0 := by
 rw [← sgZ_num_lt]; unfold sgZ
 split
 ·omega
 ·split <;> omega
def absQ (q : Rat) : Rat := mkRat q.num.natAbs q.den
theorem absQ_eq (q : Rat) : absQ q = if q < 0 then -q else q := by
 unfold absQ
 by_cases h : q < 0
 ·have hn : q.num < 0 := (num_neg q).2 h
  rw [if_pos h]
  have e : (q.num.natAbs : Int) = (-q).num := by rw [Rat.neg_num]; omega
  rw [e, ← Rat.neg_den, Rat.mkRat_self]
 ·have hn : ¬ q.num < 0 := fun e => h ((num_neg q).1 e)
  rw [if_neg h]
  have e : (q.num.natAbs : Int) = q.num := by omega
  rw [e, Rat.mkRat_self]
theorem absQ_num (q : Rat) : (absQ q).num = (q.num.natAbs : Int) := by
 rw [absQ_eq]
 by_cases h : q < 0
 ·rw [if_pos h, Rat.neg_num]; have hn : q.num < 0 := (num_neg q).2 h; omega
 ·rw [if_neg h]; have hn : ¬ q.num < 0 := fun e => h ((num_neg q).1 e); omega
theorem absQ_den (q : Rat) : (absQ q).den = q.den := by
 rw [absQ_eq]; split
 ·exact Rat.neg_den ..
 ·rfl
theorem qC_abs (q : Rat) : qC (absQ q) = zI (sgn false q.num.natAbs) ++ [mag (q.den - 1)] := by
 unfold qC zI
 rw [absQ_num, absQ_den]
 rfl
end Go.Abs
namespace Go.Proofs.YtdhedjbmdnnbkaaGreatDoor
open Go.Abs
set_option maxRecDepth 20000
theorem digs_len0 (n : Nat) : ((digs MB n).length == 0) = (n == 0) := by
 rw [Bool.eq_iff_iff]
 simp only [beq_iff_eq, List.length_eq_zero_iff]
 exact digs_eq_nil (by decide)
theorem fs_mzero (n : Nat) : FSpec Tryz.prog 173 [.agg [mag n]] (bln (n == 0)) := by
 rw [← digs_len0]; exact fs_zero _
theorem fs_signed (b : Bool) (m : Nat) : FSpec Tryz.prog 174 [bln b, .agg [mag m]] (.agg (zI (sgn b m))) := by
 have e : AV.agg (zI (sgn b m)) = .agg [mag m, bln (b && !(m == 0))] := by unfold zI; rw [sgn_natAbs, sgn_neg]
 rw [e]
 refine FSpec.enter Tryz.func174 rfl (by kernel_rfl) rfl rfl rfl ?_ rfl ?_
 ·exact closed_cons (closed_v _) (closed_cons (closed_mA m) closed_nil)
 cases b with
 | true =>
  refine r_z 2 ?_
  refine AWp.seq ?_
  refine AWp.regD hmix (m := 9) rfl ?_
  refine a_3 ?_
  first | refine AR.op0y rfl rfl (gy (by first | rfl | assumption | exact decide_eq_true (by omega) | (simp; done) | (simp; omega))) (.load_l rfl rfl rfl tg_33.h ts_33.h (nle rfl)) rfl rfl ?_ | refine AR.op0y rfl rfl (gy (by first | rfl | assumption | exact decide_eq_true (by omega) | (simp; done) | (simp; omega))) (.load_a rfl rfl tg_33.h ts_33.h (nle rfl)) rfl rfl ?_
  refine AR.op0y rfl rfl (gy (by first | rfl | assumption | exact decide_eq_true (by omega) | (simp; done) | (simp; omega))) (.call rfl rfl rfl (fs_mzero m)) rfl rfl ?_
  refine AR.op0y rfl rfl (gy (by first | rfl | assumption | exact decide_eq_true (by omega) | (simp; done) | (simp; omega))) (.un rfl un_not) rfl rfl ?_
  refine o_0 (.pickT rfl (by first | rfl | assumption | exact decide_eq_true (by omega) | (simp; done) | (simp; omega)) rfl) ?_
  refine a_2 ?_
  refine AR.nil ⟨by kernel_rfl, ?_⟩
  refine AWp.ret ?_
  refine Fin.cellE rfl rfl rfl tg_35.h ts_35.h (nle rfl) ?_ ?_
  ·rfl
  ·exact closed_agg (closed_cons (closed_mag m) (closed_cons (closed_v _) closed_nil))
 | false =>
  refine r_z 2 ?_
  refine AWp.seq ?_
  refine AWp.regD hmix (m := 9) rfl ?_
  refine a_3 ?_
  refine AR.opN rfl rfl (gn (by first | rfl | assumption | exact decide_eq_false (by omega) | (simp; done) | (simp; omega))) rfl rfl ?_
  refine AR.opN rfl rfl (gn (by first | rfl | assumption | exact decide_eq_false (by omega) | (simp; done) | (simp; omega))) rfl rfl ?_
  refine AR.opN rfl rfl (gn (by first | rfl | assumption | exact decide_eq_false (by omega) | (simp; done) | (simp; omega))) rfl rfl ?_
  refine o_0 (.pickF rfl (by first | rfl | assumption | exact decide_eq_false (by omega) | (simp; done) | (simp; omega)) rfl) ?_
  refine a_2 ?_
  refine AR.nil ⟨by kernel_rfl, ?_⟩
  refine AWp.ret ?_
  refine Fin.cellE rfl rfl rfl tg_35.h ts_35.h (nle rfl) ?_ ?_
  ·rfl
  ·exact closed_agg (closed_cons (closed_mag m) (closed_cons (closed_v _) closed_nil))
theorem fs_isign (z : Int) : FSpec Tryz.prog 93 [.agg (zI z)] (i64 (sgZ z)) := by
 refine FSpec.enter Tryz.func93 rfl (by kernel_rfl) rfl rfl rfl ?_ rfl ?_
 ·exact closed_cons (closed_zA z) closed_nil
 refine r_z 2 ?_
 refine AWp.cut (fun _ : Unit => ⟨[], [], 1, 10⟩) (fun _ => 0 < z) ?_ ?_
 ·refine AWp.block ?_
  refine r_c 4 (fs_mzero z.natAbs) ?_
  refine a_z ?_
  refine AWp.cond rfl (fun h => ?_) (fun h => ?_)
  ·refine r_z 1 ?_
   refine AWp.ret (Fin.tmpE rfl ?_ (closed_v _))
   have : z = 0 := by simpa using h
   simp [i64, sgZ, this, ofV]
  ·have h0 : z ≠ 0 := by simpa using h
   refine r_z 3 ?_
   refine AWp.cond rfl (fun h1 => ?_) (fun h1 => ?_)
   ·refine r_z 1 ?_
    refine AWp.ret (Fin.tmpE rfl ?_ (closed_v _))
    have : z < 0 := by simpa using h1
    simp [i64, sgZ, this, h0, ofV]
   ·have : ¬ z < 0 := by simpa using h1
    refine AWp.skip ⟨(), by omega, ?_⟩
    exact s_e []
 rintro _ h1
 refine r_z 1 ?_
 refine AWp.ret (Fin.tmpE rfl ?_ (closed_v _))
 simp only [i64, sgZ]
 rw [if_neg (by omega), if_neg (by omega)]
 rfl
theorem fs_Sign (q : Rat) : FSpec Tryz.prog 18 [.agg (qC q)] (i64 (sgZ q.num)) := by
 refine FSpec.enter Tryz.func18 rfl (by kernel_rfl) rfl rfl rfl ?_ rfl ?_
 ·exact closed_cons (closed_qA q) closed_nil
 refine r_z 2 ?_
 refine r_c 4 (fs_isign q.num) ?_
 refine a_z ?_
 refine AWp.ret ?_
 refine Fin.tmpE rfl ?_ ?_
 ·rfl
 ·exact closed_v _
theorem sgn_mul (a b : Bool) (m n : Nat) : sgn a m * sgn b n = sgn (a != b) (m * n) := by
 cases a <;> cases b <;> simp [sgn, Int.neg_mul, Int.mul_neg]
theorem sgn_add_same (a : Bool) (m n : Nat) : sgn a m + sgn a n = sgn a (m + n) := by
 cases a <;> simp [sgn] <;> omega
theorem sgn_add_lt {a b : Bool} (h : a ≠ b) {m n : Nat} (hl : m ≤ n) : sgn a m + sgn b n = sgn b (n - m) := by
 cases a <;> cases b <;> simp [sgn] at h ⊢ <;> omega
theorem sgn_add_ge {a b : Bool} (h : a ≠ b) {m n : Nat} (hl : n ≤ m) : sgn a m + sgn b n = sgn a (m - n) := by
 cases a <;> cases b <;> simp [sgn] at h ⊢ <;> omega
theorem fs_imul (x y : Int) (h : bl x.natAbs + bl y.natAbs ≤ 17592186044416) : FSpec Tryz.prog 99 [.agg (zI x), .agg (zI y)] (.agg (zI (x * y))) := by
 have e : x * y = sgn (decide (x < 0) != decide (y < 0)) (x.natAbs * y.natAbs) := by
  rw [← sgn_mul, sgn_self, sgn_self]
 rw [e]
 refine FSpec.enter Tryz.func99 rfl (by kernel_rfl) rfl rfl rfl ?_ rfl ?_
 ·exact closed_cons (closed_zA x) (closed_cons (closed_zA y) closed_nil)
 refine r_z 3 ?_
 refine AWp.seq ?_
 refine AWp.regD hmix (m := 12) rfl ?_
 refine c_s (fs_times x.natAbs y.natAbs h) ?_
 refine c_s (fs_signed (decide (x < 0) != decide (y < 0)) (x.natAbs * y.natAbs)) ?_
 refine a_1 ?_
 refine AR.nil ⟨by kernel_rfl, ?_⟩
 refine AWp.ret ?_
 refine Fin.cellE rfl rfl rfl tg_35.h ts_35.h (nle rfl) ?_ ?_
 ·rfl
 ·exact closed_zA _
theorem fs_iadd (x y : Int) (h : bl x.natAbs + bl y.natAbs ≤ 17592186044416) : FSpec Tryz.prog 156 [.agg (zI x), .agg (zI y)] (.agg (zI (x + y))) := by
 obtain ⟨a, ha⟩ : ∃ a, a = decide (x < 0) := ⟨_, rfl⟩
 obtain ⟨b, hb⟩ : ∃ b, b = decide (y < 0) := ⟨_, rfl⟩
 have ex : x = sgn a x.natAbs := by rw [ha, sgn_self]
 have ey : y = sgn b y.natAbs := by rw [hb, sgn_self]
 refine FSpec.enter Tryz.func156 rfl (by kernel_rfl) rfl rfl rfl ?_ rfl ?_
 ·exact closed_cons (closed_zA x) (closed_cons (closed_zA y) closed_nil)
 refine r_z 3 ?_
 refine AWp.cut (fun _ : Unit => ⟨[(2, .lptr 1 0 0), (3, .lptr 2 0 0), (4, .lptr 3 0 0)], [(1, some ⟨35, 2, [zI x]⟩), (2, some ⟨35, 2, [zI y]⟩), (3, some ⟨35, 2, [[.emp, bln false]]⟩)], 4, 42⟩) (fun _ => a ≠ b ∧ y.natAbs ≤ x.natAbs) ?_ ?_
 ·refine AWp.block ?_
  refine r_z 6 ?_
  refine AWp.cond rfl (fun h1 => ?_) (fun h1 => ?_)
  ·have hab : a = b := by rw [ha, hb]; simpa using h1
   have e : x + y = sgn (decide (x < 0)) (x.natAbs + y.natAbs) := by
    conv => lhs; rw [ex, ey, ← hab]
    rw [sgn_add_same, ha]
   rw [e]
   refine AWp.seq ?_
   refine AWp.regD hmix (m := 9) rfl ?_
   refine c_s (fs_plus x.natAbs y.natAbs h) ?_
   refine c_s (fs_signed (decide (x < 0)) (x.natAbs + y.natAbs)) ?_
   refine a_1 ?_
   refine AR.nil ⟨by kernel_rfl, ?_⟩
   refine AWp.ret ?_
   refine Fin.cellE rfl rfl rfl tg_35.h ts_35.h (nle rfl) ?_ ?_
   ·rfl
   ·exact closed_zA _
  ·have hab : a ≠ b := by rw [ha, hb]; simpa using h1
   refine r_c 7 (fs_against x.natAbs y.natAbs h) ?_
   refine a_z ?_
   refine AWp.cond rfl (fun h2 => ?_) (fun h2 => ?_)
   ·have hlt : x.natAbs < y.natAbs := by
     have := of_decide_eq_true h2
     unfold cmpZ at this; split at this
     ·omega
     ·split at this <;> omega
    have e : x + y = sgn (decide (y < 0)) (y.natAbs - x.natAbs) := by
     conv => lhs; rw [ex, ey]
     rw [sgn_add_lt hab (Nat.le_of_lt hlt), hb]
    rw [e]
    refine AWp.seq ?_
    refine AWp.regD hmix (m := 9) rfl ?_
    refine c_s (fs_less y.natAbs x.natAbs (by omega) (Nat.le_of_lt hlt)) ?_
    refine c_s (fs_signed (decide (y < 0)) (y.natAbs - x.natAbs)) ?_
    refine a_1 ?_
    refine AR.nil ⟨by kernel_rfl, ?_⟩
    refine AWp.ret ?_
    refine Fin.cellE rfl rfl rfl tg_35.h ts_35.h (nle rfl) ?_ ?_
    ·rfl
    ·exact closed_zA _
   ·have hge : y.natAbs ≤ x.natAbs := by
     have := of_decide_eq_false h2
     unfold cmpZ at this; split at this
     ·omega
     ·split at this <;> omega
    refine AWp.skip ⟨(), ⟨hab, hge⟩, ?_⟩
    exact s_e []
 rintro _ ⟨hab, hge⟩
 have e : x + y = sgn (decide (x < 0)) (x.natAbs - y.natAbs) := by
  conv => lhs; rw [ex, ey]
  rw [sgn_add_ge hab hge, ha]
 rw [e]
 refine AWp.seq ?_
 refine AWp.regD hmix (m := 9) rfl ?_
 refine c_s (fs_less x.natAbs y.natAbs (by omega) hge) ?_
 refine c_s (fs_signed (decide (x < 0)) (x.natAbs - y.natAbs)) ?_
 refine a_1 ?_
 refine AR.nil ⟨by kernel_rfl, ?_⟩
 refine AWp.ret ?_
 refine Fin.cellE rfl rfl rfl tg_35.h ts_35.h (nle rfl) ?_ ?_
 ·rfl
 ·exact closed_zA _
theorem fs_ofInt (n : Int) (h : -9223372036854775808 ≤ n ∧ n ≤ 9223372036854775807) : FSpec Tryz.prog 169 [i64 n] (.agg (zI n)) := by
 refine FSpec.enter Tryz.func169 rfl (by kernel_rfl) rfl rfl rfl ?_ rfl ?_
 ·exact closed_cons (closed_v _) closed_nil
 refine r_z 1 ?_
 refine AWp.seq ?_
 refine r_z 2 ?_
 refine AWp.cond rfl (fun h1 => ?_) (fun h1 => ?_)
 ·have hn : n < 0 := of_decide_eq_true h1
  have e : n = sgn true n.natAbs := by simp [sgn]; omega
  have hI : 18446744073709551616 - (n + 18446744073709551616) = ((n.natAbs : Nat) : Int) := by omega
  have hs : FSpec Tryz.prog 177 [.v (.int .u64 (18446744073709551616 - (n + 18446744073709551616)))] (.agg [mag n.natAbs]) := by rw [hI]; exact fs_small _ (by omega)
  refine s_r 6 ?_
  refine a_1 ?_
  refine o_0 (.conv rfl (cU64n (by omega) tu_2.h tu_207.h)) ?_
  refine o_0 (.un rfl (uU64_neg (by omega))) ?_
  refine c_s (hs) ?_
  refine c_s (fs_signed true n.natAbs) ?_
  refine a_z ?_
  refine AWp.ret ?_
  refine Fin.cellE rfl rfl rfl tg_35.h ts_35.h (nle rfl) ?_ ?_
  ·show _ = AV.agg (zI n)
   conv => rhs; rw [e]
   rfl
  ·exact closed_zA _
 ·refine AWp.skip ?_
  have hn : 0 ≤ n := by have := of_decide_eq_false h1; omega
  have e : n = sgn false n.natAbs := by simp [sgn]; omega
  have hI : n = ((n.natAbs : Nat) : Int) := by omega
  have hs : FSpec Tryz.prog 177 [.v (.int .u64 n)] (.agg [mag n.natAbs]) := by
   have := fs_small n.natAbs (by omega)
   rwa [u64, ← hI] at this
  refine s_r 5 ?_
  refine a_1 ?_
  refine o_0 (.conv rfl (cU64 (by omega) tu_2.h tu_207.h)) ?_
  refine c_s (hs) ?_
  refine c_s (fs_signed false n.natAbs) ?_
  refine a_z ?_
  refine AWp.ret ?_
  refine Fin.cellE rfl rfl rfl tg_35.h ts_35.h (nle rfl) ?_ ?_
  ·show _ = AV.agg (zI n)
   conv => rhs; rw [e]
   rfl
  ·exact closed_zA _
theorem mag_zero : mag 0 = .arr [] := by unfold mag; rw [digs_zero]; rfl
theorem fs_whole (n : Int) : FSpec Tryz.prog 168 [.agg (zI n)] (.agg (qC n)) := by
 have e : qC (n : Rat) = [mag n.natAbs, bln (decide (n < 0)), mag 0] := rfl
 rw [e]
 refine FSpec.enter Tryz.func168 rfl (by kernel_rfl) rfl rfl rfl ?_ rfl ?_
 ·exact closed_cons (closed_zA n) closed_nil
 refine r_z 2 ?_
 refine r_z 3 ?_
 refine AWp.ret ?_
 refine Fin.cell rfl rfl rfl tg_37.h ts_37.h (nle rfl) (Cv.agg (CvL.cons (Cv.clo shr_nil (closed_mag _)) (CvL.cons (Cv.clo shr_nil (closed_v _)) (CvL.cons (Cv.emp _ mag_zero) CvL.nil))))
theorem fs_Int (n : Int) (h : -9223372036854775808 ≤ n ∧ n ≤ 9223372036854775807) : FSpec Tryz.prog 85 [i64 n] (.agg (qC n)) := by
 refine FSpec.enter Tryz.func85 rfl (by kernel_rfl) rfl rfl rfl ?_ rfl ?_
 ·exact closed_cons (closed_v _) closed_nil
 refine r_z 1 ?_
 refine r_c 4 (fs_ofInt n h) ?_
 refine c_s (fs_whole n) ?_
 refine a_z ?_
 refine AWp.ret ?_
 refine Fin.cellE rfl rfl rfl tg_37.h ts_37.h (nle rfl) ?_ ?_
 ·rfl
 ·exact closed_qA _
theorem fs_bottom (q : Rat) (h : qs q ≤ 1099511627776) : FSpec Tryz.prog 96 [.agg (qC q)] (.agg [mag q.den]) := by
 have hp := q.den_pos
 have hd := qs_den q
 have e : q.den = q.den - 1 + 1 := by omega
 have hb1 := bl_mono (show q.den - 1 ≤ q.den by omega)
 have h1 : bl 1 = 1 := bl_one
 refine FSpec.enter Tryz.func96 rfl (by kernel_rfl) rfl rfl rfl ?_ rfl ?_
 ·exact closed_cons (closed_qA q) closed_nil
 refine r_z 2 ?_
 refine AWp.seq ?_
 refine AWp.regD hmix (m := 5) rfl ?_
 refine c_s (fs_small 1 (by decide)) ?_
 refine c_s (fs_plus (q.den - 1) 1 (by omega)) ?_
 refine a_1 ?_
 refine AR.nil ⟨by kernel_rfl, ?_⟩
 refine AWp.ret ?_
 refine Fin.cellE rfl rfl rfl tg_33.h ts_33.h (nle rfl) ?_ ?_
 ·show AV.agg [mag (q.den - 1 + 1)] = _
  rw [← e]
 ·exact closed_mA _
theorem fs_ratio (n : Int) (d : Nat) (hd : 0 < d) (h : bl n.natAbs + bl d ≤ 2199023255552) : FSpec Tryz.prog 98 [.agg (zI n), .agg [mag d]] (.agg (qC (mkRat n d))) := by
 obtain ⟨g, hg⟩ : ∃ g, g = Nat.gcd n.natAbs d := ⟨_, rfl⟩
 have hgp : 0 < g := by rw [hg]; exact Nat.gcd_pos_of_pos_right _ hd
 have hgd : g ≤ d := by rw [hg]; exact Nat.gcd_le_right _ hd
 have hbg := bl_mono hgd
 have hbn := bl_div_le n.natAbs g
 have hbd := bl_div_le d g
 have hqd : 0 < d / g := Nat.div_pos hgd hgp
 have hfin : AV.agg (qC (mkRat n d)) = .agg (zI (sgn (decide (n < 0)) (n.natAbs / g)) ++ [mag (d / g - 1)]) := by
  unfold qC
  rw [mkRat_sgn hd, (mkRat_num hd).2, ← hg]
  rfl
 rw [hfin]
 have hc := fs_common n.natAbs d (by omega)
 rw [← hg] at hc
 refine FSpec.enter Tryz.func98 rfl (by kernel_rfl) rfl rfl rfl ?_ rfl ?_
 ·exact closed_cons (closed_zA n) (closed_cons (closed_mA d) closed_nil)
 refine r_z 3 ?_
 refine AWp.seq ?_
 refine r_c 6 (hc) ?_
 refine a_z ?_
 refine r_c 3 (fs_one g) ?_
 refine a_z ?_
 refine AWp.cutT (fun _ : Unit => ⟨[(2, .lptr 1 0 0), (3, .lptr 2 0 0), (4, .lptr 3 0 0)], [(1, some ⟨35, 2, [[mag (n.natAbs / g), bln (decide (n < 0))]]⟩), (2, some ⟨33, 1, [[mag (d / g)]]⟩), (3, some ⟨37, 3, [[.emp, bln false, .emp]]⟩)], 4, 36⟩) (fun _ => True) ?_ ?_
 ·refine AWp.cond rfl (fun h1 => ?_) (fun h1 => ?_)
  ·refine r_c 9 (fs_over n.natAbs g (by omega) hgp) ?_
   refine a_z ?_
   refine AWp.reg (m := 7) rfl ?_
   refine c_s (fs_over d g (by omega) hgp) ?_
   refine a_z ?_
   refine ⟨(), trivial, ?_⟩
   exact s_e []
  ·have hg1 : g = 1 := by simpa using h1
   subst hg1
   refine AWp.skip ⟨(), trivial, ?_⟩
   rw [Nat.div_one, Nat.div_one]
   exact s_e []
 rintro _ _
 refine AWp.seq ?_
 refine AWp.regD hmix (m := 10) rfl ?_
 refine c_s (fs_signed (decide (n < 0)) (n.natAbs / g)) ?_
 refine c_s (fs_small 1 (by decide)) ?_
 refine c_s (fs_less (d / g) 1 (by omega) hqd) ?_
 refine a_2 ?_
 refine AR.nil ⟨by kernel_rfl, ?_⟩
 refine AWp.ret ?_
 refine Fin.cellE rfl rfl rfl tg_37.h ts_37.h (nle rfl) ?_ ?_
 ·rfl
 ·exact closed_agg (closed_cons (closed_mag _) (closed_cons (closed_v _) (closed_cons (closed_mag _) closed_nil)))
end Go.Proofs.YtdhedjbmdnnbkaaGreatDoor
