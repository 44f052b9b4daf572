/- Part U19 of the proof. -/
import Derived.Test.YtdhedjbmdnnbkaaGreatDoorU18
set_option linter.all false
namespace Go.Proofs.YtdhedjbmdnnbkaaGreatDoor
open Go.Abs
set_option maxRecDepth 100000
set_option maxHeartbeats 2000000
inductive LeLL : List (List AV) → List (List AV) → Prop
 | nil : LeLL [] []
 | cons {e e' es es'} : LeL e e' → LeLL es es' → LeLL (e :: es) (e' :: es')
theorem leL_len {xs ys : List AV} (h : LeL xs ys) : ys.length = xs.length := by
 induction h with
 | nil => rfl
 | cons _ _ ih => simp [ih]
theorem leL_cs {M : Nat → Prop} {β : Nat → Option (Nat × Nat)} {w : World} {b : Nat} {xs ys : List AV} (h : LeL xs ys) : ∀ {off : Nat}, RVcs M β w b xs off → RVcs M β w b ys off := by
 induction h with
 | nil => exact fun h => h
 | cons h1 _ ih => rintro off ⟨⟨x, hx, hr⟩, hs⟩; exact ⟨⟨x, hx, h1 M β w x hr⟩, ih hs⟩
theorem LeLL.ess {M : Nat → Prop} {β : Nat → Option (Nat × Nat)} {w : World} {b s : Nat} {es es' : List (List AV)} (h : LeLL es es') : ∀ {off : Nat}, RVess M β w b s es off → RVess M β w b s es' off := by
 induction h with
 | nil => exact fun h => h
 | cons h1 _ ih => rintro off ⟨h0, hc, hr⟩; exact ⟨(leL_len h1).trans h0, leL_cs h1 hc, ih hr⟩
theorem LeLL.length {es es' : List (List AV)} (h : LeLL es es') : es'.length = es.length := by
 induction h with
 | nil => rfl
 | cons _ _ ih => simp [ih]
theorem Le.arr {es es' : List (List AV)} (h : LeLL es es') : Le (.arr es) (.arr es') := by
 rintro M β w y ⟨a, c, rfl, h1, h2, h3⟩
 refine ⟨a, c, by rw [h.length], by rw [h.length]; exact h1, h2, h3.imp (fun e => ?_) ?_⟩
 ·subst e; cases h; rfl
 ·rintro ⟨b, off, s, rfl, hN, hm, hr⟩
  exact ⟨b, off, s, rfl, hN, hm, h.ess hr⟩
theorem LeLL.refl : ∀ es, LeLL es es
 | [] => .nil
 | e :: es => .cons (LeL.refl e) (LeLL.refl es)
section
variable {P : Go.Program} {T : Nat} {x y : Operand}
theorem binS_tt {s : ByteArray} : ∀ w, (do eqGuard .eql T x y (.string s) (.string s); binOp .eql T (.string s) (.string s) : Sem Value).run P w = .ok (.bool true) w := fun w => by
 rw [binS_eql]; simp
end
theorem fs_wakes : FSpec Tryz.prog 14 [] (.v (.bool true)) := by
 have i1 := fs_ints [-2, 0, 1] (by decide) (by decide)
 rw [show zR [-2, 0, 1] = twoP by decide] at i1
 have i2 := fs_ints [-1, 0, 1] (by decide) (by decide)
 rw [show zR [-1, 0, 1] = [-1, 0, 1] by decide] at i2
 have i3 := fs_ints [2, 1] (by decide) (by decide)
 rw [show zR [2, 1] = [2, 1] by decide] at i3
 have i4 := fs_ints [0, 0, 1] (by decide) (by decide)
 rw [show zR [0, 0, 1] = [0, 0, 1] by decide] at i4
 have i5 := fs_ints [-3, 0, 1] (by decide) (by decide)
 rw [show zR [-3, 0, 1] = [-3, 0, 1] by decide] at i5
 have hdiv := fs_Divide [-1, 0, 1] [2, 1] w_div.2.1 w_div.2.2
 rw [w_div.1] at hdiv
 obtain ⟨c, hc1, hc2, hc3⟩ : ∃ c, placeM 40 twoP = some c ∧ 1 < allV c ∧ spanM 40 c 1 4 = some (mkRat 11 8, mkRat 23 16) := by
  have h := w_span
  unfold spanChk at h
  split at h
  ·rename_i c hc; exact ⟨c, hc, of_decide_eq_true h⟩
  ·cases h
 have hspan := fs_RSpan 40 twoP 1 4 c (mkRat 11 8, mkRat 23 16) hc1 (by decide) (by decide) hc2 hc3
 have n1 := fs_Int (-1) (by decide)
 rw [show ((-1 : Int) : Rat) = -1 by decide] at n1
 have n2 := fs_Int 2 (by decide)
 rw [show ((2 : Int) : Rat) = 2 by decide] at n2
 have n3 := fs_Int 1 (by decide)
 rw [show ((1 : Int) : Rat) = 1 by decide] at n3
 have hrange := fs_Range 40 40 twoP (-1, 2) 0 (-2, 2) w_range (by decide)
 have hfirst := fs_ToFirst 10 [0, 0, 1] [mkRat 1 2, 0, mkRat 1 2] w_first
 have hof := fs_Of (-3) 2 (by decide) (by decide) (by decide)
 rw [show (((-3 : Int) : Rat) / ((2 : Int) : Rat)) = mkRat (-3) 2 by decide +kernel] at hof
 have t1 := fs_PText [1, mkRat (-3) 2, 0, 1] w_text1.2
 rw [w_text1.1] at t1
 have t1' : FSpec Tryz.prog 65 [.arr [qC 1, qC (mkRat (-3) 2), zC, qC 1]] (tx [120, 94, 51, 32, 45, 32, 51, 47, 50, 32, 120, 32, 43, 32, 49]) := by
  refine t1.weak (.cons (Le.arr (.cons (.refl _) (.cons (.refl _) (.cons le_zC (.cons (.refl _) .nil))))) .nil) ?_
  refine closed_cons (closed_arr ?_) closed_nil
  intro e he
  simp at he
  rcases he with rfl | rfl | rfl | rfl
  ·exact closed_qC _
  ·exact closed_qC _
  ·exact closed_zC
  ·exact closed_qC _
 have t2 := fs_PText [-2, 1] w_text2.2
 rw [w_text2.1] at t2
 have t3 := fs_PText [3] w_text3.2
 rw [w_text3.1] at t3
 have s1 := fs_SText (mkRat 11 8, mkRat 23 16) w_sp.2.1 w_sp.2.2.1
 rw [w_sp.1] at s1
 have s2 := fs_SText (-2, 2) w_sp.2.2.2.2.1 w_sp.2.2.2.2.2
 rw [w_sp.2.2.2.1] at s2
 have q1 := fs_QText (mkRat 1 2) w_q.2.1
 rw [w_q.1] at q1
 have q2 := fs_QText 1 w_q.2.2.2
 rw [w_q.2.2.1] at q2
 have hres := fs_Resultant 10 twoP [-3, 0, 1] 1 w_res
 refine FSpec.enter Tryz.func14 rfl (by kernel_rfl) rfl rfl rfl ?_ rfl ?_
 ·exact closed_nil
 refine r_z 1 ?_
 refine s_r 3 ?_
 refine a_1 ?_
 refine o_1 (.callS1 rfl rfl rfl (.shut rfl (by first | exact nle rfl | (simp; done) | (simp; omega)) (.nil)) rfl (i1)) ?_
 refine a_z ?_
 refine s_r 12 ?_
 refine a_1 ?_
 refine o_1 (.callS1 rfl rfl rfl (.shut rfl (by first | exact nle rfl | (simp; done) | (simp; omega)) (.nil)) rfl (i2)) ?_
 refine a_1 ?_
 refine o_1 (.callS1 rfl rfl rfl (.shut rfl (by first | exact nle rfl | (simp; done) | (simp; omega)) (.nil)) rfl (i3)) ?_
 refine c_s (hdiv) ?_
 refine a_z ?_
 refine r_c 9 (hspan) ?_
 refine a_z ?_
 refine r_c 11 (n1) ?_
 refine c_s (n2) ?_
 refine c_s (hrange) ?_
 refine a_z ?_
 refine s_r 8 ?_
 refine a_1 ?_
 refine o_1 (.callS1 rfl rfl rfl (.shut rfl (by first | exact nle rfl | (simp; done) | (simp; omega)) (.nil)) rfl (i4)) ?_
 refine c_s (hfirst) ?_
 refine a_z ?_
 refine r_c 7 (hof) ?_
 refine a_z ?_
 refine AWp.seq ?_
 refine AWp.regD hmix (m := 64) rfl ?_
 refine c_s (n3) ?_
 refine c_s (n3) ?_
 refine o_1 (.buildSlice te_25.h tz_37.h rfl (by decide) rfl rfl rfl (by simp [setAt_length, ofV])) ?_
 refine o_1 (.callS1 rfl rfl rfl (.shut rfl (by first | exact nle rfl | (simp; done) | (simp; omega)) (.nil)) rfl (t1')) ?_
 refine o_0 (.bin rfl rfl binS_tt) ?_
 refine a_1 ?_
 refine AR.op0y rfl rfl (gy rfl) (.move rfl) rfl rfl ?_
 refine AR.op0y rfl rfl (gy rfl) (.bin rfl rfl binI_eql) rfl rfl ?_
 refine o_0 (.pickT rfl rfl rfl) ?_
 refine a_1 ?_
 refine AR.op0y rfl rfl (gy rfl) (.move rfl) rfl rfl ?_
 refine AR.op0y rfl rfl (gy rfl) (.call rfl rfl rfl (t2)) rfl rfl ?_
 refine AR.op0y rfl rfl (gy rfl) (.bin rfl rfl binS_tt) rfl rfl ?_
 refine o_0 (.pickT rfl rfl rfl) ?_
 refine a_1 ?_
 refine AR.op0y rfl rfl (gy rfl) (.move rfl) rfl rfl ?_
 refine AR.op0y rfl rfl (gy rfl) (.call rfl rfl rfl (t3)) rfl rfl ?_
 refine AR.op0y rfl rfl (gy rfl) (.bin rfl rfl binS_tt) rfl rfl ?_
 refine o_0 (.pickT rfl rfl rfl) ?_
 refine a_1 ?_
 refine AR.op0y rfl rfl (gy rfl) (.move rfl) rfl rfl ?_
 refine AR.op0y rfl rfl (gy rfl) (.bin rfl rfl binI_eql) rfl rfl ?_
 refine o_0 (.pickT rfl rfl rfl) ?_
 refine a_1 ?_
 first | refine AR.op0y rfl rfl (gy rfl) (.load_l rfl rfl rfl tg_65.h ts_65.h (nle rfl)) rfl rfl ?_ | refine AR.op0y rfl rfl (gy rfl) (.load_a rfl rfl tg_65.h ts_65.h (nle rfl)) rfl rfl ?_
 refine AR.op0y rfl rfl (gy rfl) (.call rfl rfl rfl (s1)) rfl rfl ?_
 refine AR.op0y rfl rfl (gy rfl) (.bin rfl rfl binS_tt) rfl rfl ?_
 refine o_0 (.pickT rfl rfl rfl) ?_
 refine a_1 ?_
 refine AR.op0y rfl rfl (gy rfl) (.move rfl) rfl rfl ?_
 refine AR.op0y rfl rfl (gy rfl) (.bin rfl rfl binI_eql) rfl rfl ?_
 refine o_0 (.pickT rfl rfl rfl) ?_
 refine a_1 ?_
 first | refine AR.op0y rfl rfl (gy rfl) (.load_l rfl rfl rfl tg_65.h ts_65.h (nle rfl)) rfl rfl ?_ | refine AR.op0y rfl rfl (gy rfl) (.load_a rfl rfl tg_65.h ts_65.h (nle rfl)) rfl rfl ?_
 refine AR.op0y rfl rfl (gy rfl) (.call rfl rfl rfl (s2)) rfl rfl ?_
 refine AR.op0y rfl rfl (gy rfl) (.bin rfl rfl binS_tt) rfl rfl ?_
 refine o_0 (.pickT rfl rfl rfl) ?_
 refine a_1 ?_
 refine AR.op0y rfl rfl (gy rfl) (.move rfl) rfl rfl ?_
 refine AR.op0y rfl rfl (gy rfl) (.bin rfl rfl binI_eql) rfl rfl ?_
 refine o_0 (.pickT rfl rfl rfl) ?_
 refine a_1 ?_
 refine AR.op0y rfl rfl (gy rfl) (.move rfl) rfl rfl ?_
 first | refine AR.op0y rfl rfl (gy rfl) (.lenD rfl rfl rfl rfl te_24.h) rfl rfl ?_ | refine AR.op0y rfl rfl (gy rfl) (.lenI rfl rfl rfl rfl te_24.h) rfl rfl ?_ | refine AR.op0y rfl rfl (gy rfl) (.lenP rfl rfl rfl rfl te_24.h) rfl rfl ?_ | refine AR.op0y rfl rfl (gy rfl) (.lenC rfl rfl rfl rfl te_24.h) rfl rfl ?_ | refine AR.op0y rfl rfl (gy rfl) (.lenR rfl rfl rfl rfl te_24.h) rfl rfl ?_ | refine AR.op0y rfl rfl (gy rfl) (.len rfl rfl rfl rfl rfl te_24.h) rfl rfl ?_
 refine AR.op0y rfl rfl (gy rfl) (.bin rfl rfl binI_eql) rfl rfl ?_
 refine o_0 (.pickT rfl rfl rfl) ?_
 refine a_1 ?_
 refine AR.op0y rfl rfl (gy rfl) (.move rfl) rfl rfl ?_
 first | refine AR.op0y rfl rfl (gy rfl) (.index_l rfl rfl (by omega) (by omega) te_24.h) rfl rfl ?_ | refine AR.op0y rfl rfl (gy rfl) (.index_a rfl rfl (by omega) rfl rfl te_24.h) rfl rfl ?_
 first | refine AR.op0y rfl rfl (gy rfl) (.load_l rfl rfl rfl tg_37.h ts_37.h (nle rfl)) rfl rfl ?_ | refine AR.op0y rfl rfl (gy rfl) (.load_a rfl rfl tg_37.h ts_37.h (nle rfl)) rfl rfl ?_
 refine AR.op0y rfl rfl (gy rfl) (.call rfl rfl rfl (q1)) rfl rfl ?_
 refine AR.op0y rfl rfl (gy rfl) (.bin rfl rfl binS_tt) rfl rfl ?_
 refine o_0 (.pickT rfl rfl rfl) ?_
 refine a_1 ?_
 refine AR.op0y rfl rfl (gy rfl) (.move rfl) rfl rfl ?_
 refine AR.op1y rfl rfl (gy rfl) (.buildSlice te_200.h tz_2.h rfl (by decide) rfl rfl rfl (by first | (simp; done) | (simp [setAt_length, ofV]; done) | rfl)) rfl rfl ?_
 refine AR.op1y rfl rfl (gy rfl) (.callS1 rfl rfl rfl (.shut rfl (by first | exact nle rfl | (simp; done) | (simp; omega)) (.nil)) rfl (i5)) rfl rfl ?_
 refine AR.op0y rfl rfl (gy rfl) (.call rfl rfl rfl (hres)) rfl rfl ?_
 refine AR.op0y rfl rfl (gy rfl) (.call rfl rfl rfl (q2)) rfl rfl ?_
 refine AR.op0y rfl rfl (gy rfl) (.bin rfl rfl binS_tt) rfl rfl ?_
 refine o_0 (.pickT rfl rfl rfl) ?_
 refine a_1 ?_
 refine AR.nil ⟨by kernel_rfl, ?_⟩
 refine AWp.ret ?_
 refine Fin.tmpE rfl ?_ ?_
 ·rfl
 ·exact closed_v _
abbrev NRow := Int × Int × Nat
def nV (r : NRow) : Rat := numV r.1 r.2.1 r.2.2
def nR (l : List NRow) : List (List AV) := l.map fun r => nuC r.1 r.2.1 r.2.2
def nL (l : List NRow) : List Rat := l.map nV
abbrev rL (l : List Rat) : List (List AV) := rE (l.map rq)
def okR (l : List NRow) : Prop := ∀ r ∈ l, i64r r.1 ∧ i64r r.2.1 ∧ r.2.2 ≤ 255
theorem closed_nR (l : List NRow) : ∀ e ∈ nR l, ∀ c ∈ e, Closed c := by
 intro e he c hc
 obtain ⟨r, _, rfl⟩ := List.mem_map.1 he
 exact closed_nuC _ _ _ c hc
theorem closed_rL (l : List Rat) : ∀ e ∈ rL l, ∀ c ∈ e, Closed c := closed_rE _
theorem numV_qs {N D : Int} {p : Nat} (hN : i64r N) (hD : i64r D) : qs (numV N D p) ≤ 256 := by
 obtain ⟨d, hd⟩ : ∃ d, d = dNum D := ⟨_, rfl⟩
 have hd0 : d ≠ 0 := by rw [hd]; unfold dNum; split <;> omega
 have hdr : i64r d := by
  rw [hd]; unfold dNum i64r; unfold i64r at hD; split <;> omega
 unfold i64r at hN hdr
 obtain ⟨q, hq⟩ : ∃ q, q = Rat.divInt N d := ⟨_, rfl⟩
 have hnv : numV N D p = powQ q (p % 4) := by unfold numV; rw [← hd, ← hq]
 have hqs : qs q ≤ 64 := by
  have hb : ∀ z : Int, -9223372036854775808 ≤ z ∧ z ≤ 9223372036854775808 → bl z.natAbs ≤ 64 := fun z h => bl_le (k := 64) (by omega)
  rw [hq]
  by_cases hn : d < 0
  ·rw [divInt_neg N d hn]
   exact qs_mkRat (by omega) (hb (-N) (by omega)) (hb d (by omega))
  ·rw [divInt_pos N d (by omega)]
   exact qs_mkRat (by omega) (hb N (by omega)) (hb d (by omega))
 have h1 := powQ_qs q (p % 4)
 have h2 : (p % 4 + 1) * qs q ≤ 4 * 64 := Nat.mul_le_mul (by omega) hqs
 rw [hnv]; omega
theorem nL_qs {l : List NRow} (h : okR l) : ∀ q ∈ nL l, qs q ≤ 256 := by
 intro q hq
 obtain ⟨r, hr, rfl⟩ := List.mem_map.1 hq
 exact numV_qs (h r hr).1 (h r hr).2.1
def liS (l : List NRow) : List Rat → Nat → AState
 | [], i => ⟨[(0, .arr (nR l)), (4, .emp), (5, .emp), (6, i64 i)], [], 1, 33⟩
 | q :: Q, i => ⟨[(0, .arr (nR l)), (4, .lsl 1 0 (Q.length + 1) none 3), (5, .lsl 2 0 (Q.length + 1) none 4), (6, i64 i)], [(1, some ⟨37, 3, pE (q :: Q)⟩), (2, some ⟨75, 4, rL (q :: Q)⟩)], 3, 33⟩
theorem liS_nil (l : List NRow) (i : Nat) : liS l [] i = ⟨[(0, .arr (nR l)), (4, .emp), (5, .emp), (6, i64 i)], [], 1, 33⟩ := rfl
theorem liS_cons (l : List NRow) (q : Rat) (Q : List Rat) (i : Nat) : liS l (q :: Q) i = ⟨[(0, .arr (nR l)), (4, .lsl 1 0 (Q.length + 1) none 3), (5, .lsl 2 0 (Q.length + 1) none 4), (6, i64 i)], [(1, some ⟨37, 3, pE (q :: Q)⟩), (2, some ⟨75, 4, rL (q :: Q)⟩)], 3, 33⟩ := rfl
theorem fs_List (l : List NRow) (hl : l.length ≤ 1099511627776) (hb : okR l) : FSpec Tryz.prog 80 [.arr (nR l)] (.tup [.arr (pE (nL l)), .arr (rL (nL l))]) := by
 have hcr : ∀ q : Rat, ∀ e ∈ [rC (rq q)], ∀ c ∈ e, Closed c := fun q => closed_rL [q]
 refine FSpec.enter Tryz.func80 rfl (by kernel_rfl) rfl rfl rfl ?_ rfl ?_
 ·exact closed_cons (closed_arr (closed_nR l)) closed_nil
 refine r_z 2 ?_
 refine r_z 1 ?_
 refine r_z 1 ?_
 refine AWp.seq ?_
 refine r_z 1 ?_
 refine AWp.cutT (fun _ : Unit => liS l (nL l) l.length) (fun _ => True) ?_ ?_
 ·refine AWp.block ?_
  refine AWp.loopS (fun i : Nat => liS l (nL (l.take i)) i) (fun i => l.length - i) (fun i => i ≤ l.length) 0 (Nat.zero_le _) ?_ ?_
  ·show SEnt _ (liS l [] 0)
   rw [liS_nil]
   refine SEnt.to [] rfl rfl rfl au_r (fun hs => ?_) (fun hs => ?_)
   ·repeat' (first | exact CvF.nil | refine CvF.cons rfl ?_ ?_)
    all_goals (first | (exact Cv.clo hs (closed_arr (closed_nR l))) | exact au_c)
   ·repeat' (first | exact CvH.nil | refine CvH.cons rfl rfl rfl rfl ?_ ?_)
    all_goals (first | exact au_e | (refine CvLL.box ?_; repeat' (first | exact CvL.nil | refine CvL.cons ?_ ?_)))
    all_goals (first | (exact Cv.clo hs (closed_arr (closed_nR l))) | exact au_c)
  rintro i hi
  have hlen : (nR l).length = l.length := by simp [nR]
  by_cases hlt : i < l.length
  ·obtain ⟨n, hn⟩ : ∃ n, l[i]? = some n := ⟨_, List.getElem?_eq_getElem hlt⟩
   have hgt : (nR l)[((i : Nat) : Int).toNat]? = some (nuC n.1 n.2.1 n.2.2) := by
    show (nR l)[i]? = _
    simp [nR, hn]
   obtain ⟨hn1, hn2, hn3⟩ := hb n (List.mem_of_getElem? hn)
   have hbo := fs_Both1 n.1 n.2.1 n.2.2 hn1 hn2 hn3
   obtain ⟨v, hv⟩ : ∃ v, v = numV n.1 n.2.1 n.2.2 := ⟨_, rfl⟩
   rw [← hv] at hbo
   have htk : nL (l.take (i + 1)) = nL (l.take i) ++ [v] := by rw [take_snoc hn]; simp [nL, nV, hv]
   have hQl : (nL (l.take i)).length = i := by simp [nL]; omega
   cases hQ : nL (l.take i) with
   | nil =>
    simp only [liS_nil]
    refine AWp.seq ?_
    refine r_z 4 ?_
    refine AWp.cond rfl (fun h => ?_) (fun h => ?_)
    rotate_left
    ·exact absurd h (by simp [nR]; omega)
    refine AWp.skip ?_
    refine AWp.seq ?_
    refine AWp.block ?_
    refine s_r 12 ?_
    refine a_2 ?_
    first | refine AR.op0 (.index_l rfl rfl (by omega) (by omega) te_22.h) rfl rfl ?_ | refine AR.op0 (.index_a rfl rfl (by omega) hgt rfl te_22.h) rfl rfl ?_
    first | refine AR.op0 (.load_l rfl rfl hgt tg_82.h ts_82.h (nle rfl)) rfl rfl ?_ | refine AR.op0 (.load_a rfl hgt tg_82.h ts_82.h (nle rfl)) rfl rfl ?_
    refine c_s (hbo) ?_
    refine a_z ?_
    refine AWp.regD hmix (m := 10) rfl ?_
    refine a_8 ?_
    refine a_2 ?_
    refine AR.nil ⟨by kernel_rfl, ?_⟩
    refine AWp.reg (m := 3) rfl ?_
    refine a_z ?_
    refine ⟨i + 1, by omega, hlt, ?_⟩
    simp only [htk, hQ, List.nil_append, liS_cons]
    refine SEnt.to [(1, 4), (2, 5)] rfl rfl rfl au_r (fun hs => ?_) (fun hs => ?_)
    ·repeat' (first | exact CvF.nil | refine CvF.cons rfl ?_ ?_)
     all_goals (first | (exact Cv.clo hs (closed_arr (closed_nR l))) | exact au_c)
    ·repeat' (first | exact CvH.nil | refine CvH.cons rfl rfl rfl rfl ?_ ?_)
     all_goals (first | ((try exact CvLL.clo hs (closed_pE [v])); (try exact CvLL.clo hs (closed_rL [v]))) | exact au_e | (refine CvLL.box ?_; repeat' (first | exact CvL.nil | refine CvL.cons ?_ ?_)))
     all_goals (first | (exact Cv.clo hs (closed_arr (closed_nR l))) | exact au_c)
   | cons q Q =>
    rw [hQ] at hQl
    simp at hQl
    simp only [liS_cons]
    refine AWp.seq ?_
    refine r_z 4 ?_
    refine AWp.cond rfl (fun h => ?_) (fun h => ?_)
    rotate_left
    ·exact absurd h (by simp [nR]; omega)
    refine AWp.skip ?_
    refine AWp.seq ?_
    refine AWp.block ?_
    refine s_r 12 ?_
    refine a_2 ?_
    first | refine AR.op0 (.index_l rfl rfl (by omega) (by omega) te_22.h) rfl rfl ?_ | refine AR.op0 (.index_a rfl rfl (by omega) hgt rfl te_22.h) rfl rfl ?_
    first | refine AR.op0 (.load_l rfl rfl hgt tg_82.h ts_82.h (nle rfl)) rfl rfl ?_ | refine AR.op0 (.load_a rfl hgt tg_82.h ts_82.h (nle rfl)) rfl rfl ?_
    refine c_s (hbo) ?_
    refine a_z ?_
    refine AWp.regD hmix (m := 10) rfl ?_
    refine a_8 ?_
    refine a_2 ?_
    refine AR.nil ⟨by kernel_rfl, ?_⟩
    refine AWp.reg (m := 3) rfl ?_
    refine a_z ?_
    refine ⟨i + 1, by omega, hlt, ?_⟩
    simp only [htk, hQ, List.cons_append, liS_cons]
    have e : pE (q :: Q) ++ [qC v] = pE (q :: (Q ++ [v])) := by simp [pE]
    have e2 : rL (q :: Q) ++ [rC (rq v)] = rL (q :: (Q ++ [v])) := by simp [rE]
    refine SEnt.to [(1, 4), (2, 5)] rfl rfl rfl ?_ (fun hs => ?_) (fun hs => ?_)
    ·repeat' (first | exact ShrL.nil | refine ShrL.cons rfl rfl rfl rfl (by first | (simp) | rfl | (simp; done) | (simp <;> omega)) ?_)
    ·repeat' (first | exact CvF.nil | refine CvF.cons rfl ?_ ?_)
     all_goals (first | (exact Cv.clo hs (closed_arr (closed_nR l))) | exact au_c)
    ·repeat' (first | exact CvH.nil | refine CvH.cons rfl rfl rfl rfl ?_ ?_)
     all_goals (first | ((try exact CvLL.cloE hs e (closed_pE _)); (try exact CvLL.cloE hs e2 (closed_rL _))) | exact au_e | (refine CvLL.box ?_; repeat' (first | exact CvL.nil | refine CvL.cons ?_ ?_)))
     all_goals (first | (exact Cv.clo hs (closed_arr (closed_nR l))) | exact au_c)
  ·have hge : i = l.length := by omega
   subst hge
   simp only [List.take_length]
   cases hQ : nL l with
   | nil =>
    simp only [liS_nil]
    refine AWp.seq ?_
    refine r_z 4 ?_
    refine AWp.cond rfl (fun h => ?_) (fun h => ?_)
    ·exact absurd h (by simp [nR])
    ·refine AWp.exit ⟨(), trivial, ?_⟩
     simp only [hQ, liS_nil]
     refine SEnt.to [] rfl rfl rfl au_r (fun hs => ?_) (fun hs => ?_)
     ·repeat' (first | exact CvF.nil | refine CvF.cons rfl ?_ ?_)
      all_goals (first | (exact Cv.clo hs (closed_arr (closed_nR l))) | exact au_c)
     ·repeat' (first | exact CvH.nil | refine CvH.cons rfl rfl rfl rfl ?_ ?_)
      all_goals (first | exact au_e | (refine CvLL.box ?_; repeat' (first | exact CvL.nil | refine CvL.cons ?_ ?_)))
      all_goals (first | (exact Cv.clo hs (closed_arr (closed_nR l))) | exact au_c)
   | cons q Q =>
    simp only [liS_cons]
    refine AWp.seq ?_
    refine r_z 4 ?_
    refine AWp.cond rfl (fun h => ?_) (fun h => ?_)
    ·exact absurd h (by simp [nR])
    ·refine AWp.exit ⟨(), trivial, ?_⟩
     simp only [hQ, liS_cons]
     refine SEnt.to [] rfl rfl rfl au_r (fun hs => ?_) (fun hs => ?_)
     ·repeat' (first | exact CvF.nil | refine CvF.cons rfl ?_ ?_)
      all_goals (first | (exact Cv.clo hs (closed_arr (closed_nR l))) | exact au_c)
     ·repeat' (first | exact CvH.nil | refine CvH.cons rfl rfl rfl rfl ?_ ?_)
      all_goals (first | (exact CvLL.clo hs (closed_rL _)) | exact au_e | (refine CvLL.box ?_; repeat' (first | exact CvL.nil | refine CvL.cons ?_ ?_)))
      all_goals (first | (exact Cv.clo hs (closed_arr (closed_nR l))) | exact au_c)
 rintro _ _
 cases hQ : nL l with
 | nil =>
  simp only [liS_nil]
  refine r_z 4 ?_
  refine AWp.ret ?_
  refine Fin.many ⟨_, _, rfl, rfl, ⟨_, _, rfl, rfl, rfl⟩⟩ (nle rfl) ?_
  exact CvL.cons (Cv.emp _) (CvL.cons (Cv.emp _) CvL.nil)
 | cons q Q =>
  simp only [liS_cons]
  refine r_z 4 ?_
  refine AWp.ret ?_
  refine Fin.many ⟨_, _, rfl, rfl, ⟨_, _, rfl, rfl, rfl⟩⟩ (nle rfl) ?_
  exact CvL.cons (Cv.sealE shr_nil rfl (fun _ _ h => by cases h) rfl (by simp) (closed_pE _)) (CvL.cons (Cv.sealE shr_nil rfl (fun _ _ h => by cases h) rfl (by simp) (closed_rL _)) CvL.nil)
theorem fs_BothP (l : List NRow) (hl : l.length ≤ 1099511627776) (hb : okR l) : FSpec Tryz.prog 15 [.arr (nR l)] (.tup [.arr (pE (nL l)), .arr (rL (nL l))]) := by
 refine FSpec.enter Tryz.func15 rfl (by kernel_rfl) rfl rfl rfl ?_ rfl ?_
 ·exact closed_cons (closed_arr (closed_nR l)) closed_nil
 refine r_z 2 ?_
 refine r_c 7 (fs_List l hl hb) ?_
 refine a_z ?_
 refine r_z 4 ?_
 refine AWp.ret ?_
 refine Fin.many ⟨_, _, rfl, rfl, ⟨_, _, rfl, rfl, rfl⟩⟩ (nle rfl) ?_
 exact CvL.cons (Cv.clo shr_nil (closed_arr (closed_pE _))) (CvL.cons (Cv.clo shr_nil (closed_arr (closed_rL _))) CvL.nil)
theorem dec_one {n : Nat} (h : Lib.decDigits n = [49]) : n = 1 := by
 by_cases h1 : n < 10
 ·rw [Lib.decDigits_one h1] at h
  have : ∀ n, n < 10 → [UInt8.ofNat (48 + n)] = [49] → n = 1 := by decide
  exact this n h1 h
 ·have h2 := Lib.decDigits_length n
  rw [h, Lib.nDigits_big h1] at h2
  have := Lib.nDigits_pos (n / 10)
  simp at h2; omega
theorem ztx_nat (n : Nat) : ztx (n : Int) = Lib.decDigits n := by
 unfold ztx
 rw [if_neg (by omega), Int.natAbs_natCast]; rfl
theorem ztx_len (z : Int) : (ztx z).length ≤ bl z.natAbs + 2 := by
 have := dec_len_bl z.natAbs
 unfold ztx
 split <;> simp <;> omega
theorem fs_rText (x : RQ) (hx : rok x) (h : qs x.1 ≤ 68719476736) : FSpec Tryz.prog 143 [.agg (rC x)] (tx (qtx x.1)) := by
 have hn := Nat.le_trans (qs_num x.1) h
 have hd := Nat.le_trans (qs_den x.1) h
 have zn := fs_ZText x.1.num hn
 have zd := fs_ZText (x.1.den : Int) (by rw [Int.natAbs_natCast]; exact hd)
 have ln := ztx_len x.1.num
 have ld := ztx_len (x.1.den : Int)
 rw [Int.natAbs_natCast] at ld
 have hcx : Closed (.aptr [rC x] 0 0) := closed_box (closed_rC x)
 refine FSpec.enter Tryz.func143 rfl (by kernel_rfl) rfl rfl rfl ?_ rfl ?_
 ·exact closed_cons (closed_rA x) closed_nil
 refine r_z 2 ?_
 by_cases h1 : x.1.den = 1
 ·have e1 : decide (ztx (x.1.den : Int) = [49]) = true := decide_eq_true (by rw [h1]; decide +kernel)
  refine AWp.seq ?_
  refine r_c 4 (fs_rden x hx) ?_
  refine c_s (zd) ?_
  refine o_0 (.bin rfl rfl (vT binS_eqT e1)) ?_
  refine AR.nil ?_
  refine AWp.cond rfl (fun h2 => ?_) (fun h2 => ?_)
  rotate_left
  ·cases h2
  refine r_c 4 (zn) ?_
  refine a_z ?_
  refine AWp.ret ?_
  exact Fin.tmpE rfl (by rw [qtx_eq, if_pos h1, List.append_nil]) (closed_v _)
 ·have e1 : decide (ztx (x.1.den : Int) = [49]) = false := decide_eq_false fun e => h1 (dec_one (by rw [← ztx_nat]; exact e))
  refine AWp.seq ?_
  refine r_c 4 (fs_rden x hx) ?_
  refine c_s (zd) ?_
  refine o_0 (.bin rfl rfl (vF binS_eqT e1)) ?_
  refine AR.nil ?_
  refine AWp.cond rfl (fun h2 => ?_) (fun h2 => ?_)
  ·cases h2
  refine AWp.skip ?_
  refine AWp.seq ?_
  refine AWp.regD hmix (m := 9) rfl ?_
  refine c_s (zn) ?_
  refine o_0 (.bin rfl rfl (binS_add (m := [47]) (by simp; omega))) ?_
  refine c_s (fs_rden x hx) ?_
  refine c_s (zd) ?_
  refine o_0 (.bin rfl rfl (binS_add (by simp; omega))) ?_
  refine a_1 ?_
  refine AR.nil ⟨by kernel_rfl, ?_⟩
  refine AWp.ret ?_
  exact Fin.tmpE rfl (by rw [qtx_eq, if_neg h1, ztx_nat, List.append_assoc]; rfl) (closed_v _)
theorem fs_SameN (q : Rat) (x : RQ) (hx : rok x) (h : x.1 = q) (hs : qs q ≤ 68719476736) : FSpec Tryz.prog 62 [.agg (qC q), .agg (rC x)] (bln true) := by
 subst h
 have e1 : decide (qtx x.1 = qtx x.1) = true := decide_eq_true rfl
 refine FSpec.enter Tryz.func62 rfl (by kernel_rfl) rfl rfl rfl ?_ rfl ?_
 ·exact closed_cons (closed_qA _) (closed_cons (closed_rA x) closed_nil)
 refine r_z 3 ?_
 refine AWp.seq ?_
 refine AWp.regD hmix (m := 6) rfl ?_
 refine c_s (fs_QTextA x.1 hs) ?_
 refine c_s (fs_rText x hx hs) ?_
 refine o_0 (.bin rfl rfl (vT binS_eqT e1)) ?_
 refine a_1 ?_
 refine AR.nil ⟨by kernel_rfl, ?_⟩
 refine AWp.ret ?_
 exact Fin.tmpE rfl rfl (closed_v _)
def vR (x : List RQ) : List Rat := x.map (·.1)
def okX (x : List RQ) : Prop := ∀ y ∈ x, rok y
def trimR (x : List RQ) : List RQ := x.take (trimQ (vR x)).length
theorem vR_trim (x : List RQ) : vR (trimR x) = trimQ (vR x) := by
 unfold trimR
 rw [vR, List.map_take]
 exact (trimQ_pre (vR x)).symm
theorem okX_trim {x : List RQ} (h : okX x) : okX (trimR x) := fun y hy => h y (List.mem_of_mem_take hy)
@[simp] theorem vR_length (x : List RQ) : (vR x).length = x.length := by simp [vR]
def lkS (l : List Rat) (x : List RQ) : Nat → AState
 | i => ⟨[(0, .arr (pE l)), (1, .arr (rE x)), (5, i64 i)], [], 1, 27⟩
theorem lkS_mk (l : List Rat) (x : List RQ) (i : Nat) : lkS l x i = ⟨[(0, .arr (pE l)), (1, .arr (rE x)), (5, i64 i)], [], 1, 27⟩ := rfl
theorem fs_Alike (l : List Rat) (x : List RQ) (hx : okX x) (h : vR x = l) (hs : bdL l 68719476736) (hl : l.length ≤ 1099511627776) : FSpec Tryz.prog 31 [.arr (pE l), .arr (rE x)] (bln true) := by
 have hxl : x.length = l.length := by rw [← h]; simp
 refine FSpec.enter Tryz.func31 rfl (by kernel_rfl) rfl rfl rfl ?_ rfl ?_
 ·exact closed_cons (closed_pA l) (closed_cons (closed_rEA x) closed_nil)
 refine r_z 1 ?_
 refine AWp.seq ?_
 refine s_r 5 ?_
 refine a_4 ?_
 refine o_0 (.bin rfl rfl (vF binI_neq ((by rw [hxl]; simp)))) ?_
 refine AR.nil ?_
 refine AWp.cond rfl (fun h2 => ?_) (fun h2 => ?_)
 ·cases h2
 refine AWp.skip ?_
 refine AWp.seq ?_
 refine r_z 1 ?_
 refine AWp.cutT (fun _ : Unit => ⟨[(0, .arr (pE l)), (1, .arr (rE x))], [], 1, 27⟩) (fun _ => True) ?_ ?_
 ·refine AWp.block ?_
  refine AWp.loopS (lkS l x) (fun i => l.length - i) (fun i => i ≤ l.length) 0 (Nat.zero_le _) ?_ ?_
  ·simp only [lkS_mk]
   exact s_e []
  rintro i hi
  simp only [lkS_mk]
  by_cases hlt : i < l.length
  ·obtain ⟨y, hy⟩ : ∃ y, x[i]? = some y := ⟨_, List.getElem?_eq_getElem (by omega)⟩
   have hq : l[i]? = some y.1 := by rw [← h, vR, List.getElem?_map, hy]; rfl
   have g1 : (pE l)[((i : Nat) : Int).toNat]? = some (qC y.1) := pE_get hq
   have g2 : (rE x)[((i : Nat) : Int).toNat]? = some (rC y) := rE_get hy
   refine AWp.seq ?_
   refine s_r 4 ?_
   refine a_3 ?_
   refine o_0 (.bin rfl rfl (vT binI_lss (decide_eq_true (by omega)))) ?_
   refine AR.nil ?_
   refine AWp.cond rfl (fun h2 => ?_) (fun h2 => ?_)
   rotate_left
   ·cases h2
   refine AWp.skip ?_
   refine AWp.seq ?_
   refine AWp.block ?_
   refine AWp.seq ?_
   refine AWp.regD hmix (m := 10) rfl ?_
   refine a_2 ?_
   first | refine AR.op0 (.index_l rfl rfl (by omega) (by omega) te_24.h) rfl rfl ?_ | refine AR.op0 (.index_a rfl rfl (by omega) g1 rfl te_24.h) rfl rfl ?_
   first | refine AR.op0 (.load_l rfl rfl g1 tg_37.h ts_37.h (nle rfl)) rfl rfl ?_ | refine AR.op0 (.load_a rfl g1 tg_37.h ts_37.h (nle rfl)) rfl rfl ?_
   refine a_2 ?_
   first | refine AR.op0 (.index_l rfl rfl (by omega) (by omega) te_26.h) rfl rfl ?_ | refine AR.op0 (.index_a rfl rfl (by omega) g2 rfl te_26.h) rfl rfl ?_
   first | refine AR.op0 (.load_l rfl rfl g2 tg_75.h ts_75.h (nle rfl)) rfl rfl ?_ | refine AR.op0 (.load_a rfl g2 tg_75.h ts_75.h (nle rfl)) rfl rfl ?_
   refine c_s (fs_SameN y.1 y (hx y (List.mem_of_getElem? hy)) rfl (hs _ (List.mem_of_getElem? hq))) ?_
   refine a_1 ?_
   refine AR.nil ⟨by kernel_rfl, ?_⟩
   refine AWp.cond rfl (fun h2 => ?_) (fun h2 => ?_)
   ·cases h2
   refine AWp.skip ?_
   refine AWp.reg (m := 3) rfl ?_
   refine a_z ?_
   refine ⟨i + 1, by omega, hlt, ?_⟩
   exact s_e []
  ·refine AWp.seq ?_
   refine s_r 4 ?_
   refine a_3 ?_
   refine o_0 (.bin rfl rfl (vF binI_lss (decide_eq_false (by omega)))) ?_
   refine AR.nil ?_
   refine AWp.cond rfl (fun h2 => ?_) (fun h2 => ?_)
   ·cases h2
   refine AWp.exit ⟨(), trivial, ?_⟩
   exact s_e []
 rintro _ _
 refine r_z 1 ?_
 refine AWp.ret ?_
 exact Fin.tmpE rfl rfl (closed_v _)
def rtmS (x : List RQ) : Nat → AState
 | n => ⟨[(0, .arr (rE x)), (3, i64 n)], [], 1, 23⟩
theorem rtmS_mk (x : List RQ) (n : Nat) : rtmS x n = ⟨[(0, .arr (rE x)), (3, i64 n)], [], 1, 23⟩ := rfl
theorem fs_rTrim (x : List RQ) (hl : x.length ≤ 1099511627776) : FSpec Tryz.prog 100 [.arr (rE x)] (.arr (rE (trimR x))) := by
 obtain ⟨v, hv⟩ : ∃ v, v = vR x := ⟨_, rfl⟩
 have hvl : v.length = x.length := by rw [hv]; simp
 refine FSpec.enter Tryz.func100 rfl (by kernel_rfl) rfl rfl rfl ?_ rfl ?_
 ·exact closed_cons (closed_rEA x) closed_nil
 refine r_z 1 ?_
 refine r_z 3 ?_
 refine AWp.cut (rtmS x) (fun n => n ≤ v.length ∧ trimQ v = v.take n) ?_ ?_
 ·refine AWp.block ?_
  refine AWp.loopS (rtmS x) (fun n => n) (fun n => n ≤ v.length ∧ trimQ v = trimQ (v.take n)) v.length ⟨Nat.le_refl _, by rw [List.take_length]⟩ ?_ ?_
  ·simp only [rtmS_mk]
   rw [hvl]
   exact s_e []
  rintro n ⟨hn, ht⟩
  simp only [rtmS_mk]
  cases n with
  | zero =>
   refine AWp.seq ?_
   refine s_r 11 ?_
   refine a_1 ?_
   refine o_0 (.bin rfl rfl (vF binI_gtr ((by simp)))) ?_
   refine a_z ?_
   refine AWp.cond rfl (fun h1 => ?_) (fun h1 => ?_)
   ·cases h1
   refine AWp.exit ⟨0, ⟨Nat.zero_le _, ?_⟩, ?_⟩
   ·rw [ht]; rfl
   ·simp only [rtmS_mk]
    exact s_e []
  | succ n =>
   obtain ⟨y, hy⟩ : ∃ y, x[n]? = some y := ⟨_, List.getElem?_eq_getElem (by omega)⟩
   have hq : v[n]? = some y.1 := by rw [hv, vR, List.getElem?_map, hy]; rfl
   have g2 : (rE x)[(((n + 1 : Nat) : Int) - 1).toNat]? = some (rC y) := by
    rw [show (((n + 1 : Nat) : Int) - 1).toNat = n by omega]; exact rE_get hy
   have hs : trimQ (v.take (n + 1)) = if y.1 = 0 then trimQ (v.take n) else v.take (n + 1) := by
    rw [take_snoc hq, trimQ_snoc]
   by_cases h0 : y.1 = 0
   ·refine AWp.seq ?_
    refine s_r 11 ?_
    refine a_1 ?_
    refine o_0 (.bin rfl rfl (vT binI_gtr (decide_eq_true (by omega)))) ?_
    refine a_1 ?_
    first | refine AR.op0y rfl rfl rfl (.move rfl) rfl rfl ?_ | refine AR.opN rfl rfl (by simp [boolOf]) rfl rfl ?_
    first | refine AR.op0y rfl rfl rfl (.move rfl) rfl rfl ?_ | refine AR.opN rfl rfl (by simp [boolOf]) rfl rfl ?_
    first | refine AR.op0y rfl rfl rfl (.bin rfl rfl (bI64_sub (by omega))) rfl rfl ?_ | refine AR.opN rfl rfl (by simp [boolOf]) rfl rfl ?_
    first | refine AR.op0y rfl rfl rfl (.index_l rfl rfl (by omega) (by omega) te_27.h) rfl rfl ?_ | refine AR.op0y rfl rfl rfl (.index_a rfl rfl (by omega) g2 rfl te_27.h) rfl rfl ?_
    first | refine AR.op0y rfl rfl rfl (.load_l rfl rfl g2 tg_75.h ts_75.h (nle rfl)) rfl rfl ?_ | refine AR.op0y rfl rfl rfl (.load_a rfl g2 tg_75.h ts_75.h (nle rfl)) rfl rfl ?_
    refine c_s (fs_rSign y) ?_
    refine AR.op0y rfl rfl rfl (.bin rfl rfl (vT binI_eql ((by rw [h0]; decide)))) rfl rfl ?_
    refine a_z ?_
    refine AWp.cond rfl (fun h1 => ?_) (fun h1 => ?_)
    rotate_left
    ·cases h1
    refine AWp.skip ?_
    refine AWp.block ?_
    refine AWp.reg (m := 3) rfl ?_
    refine a_z ?_
    refine ⟨n, Nat.lt_succ_self n, ⟨by omega, ?_⟩, ?_⟩
    ·rw [ht, hs, if_pos h0]
    ·exact s_e []
   ·have hz : (sgZ y.1.num == (0 : Int)) = false := by
     rw [beq_eq_false_iff_ne]
     exact fun e => h0 (sgZ_num_eq.1 e)
    refine AWp.seq ?_
    refine s_r 11 ?_
    refine a_1 ?_
    refine o_0 (.bin rfl rfl (vT binI_gtr (decide_eq_true (by omega)))) ?_
    refine a_1 ?_
    first | refine AR.op0y rfl rfl rfl (.move rfl) rfl rfl ?_ | refine AR.opN rfl rfl (by simp [boolOf]) rfl rfl ?_
    first | refine AR.op0y rfl rfl rfl (.move rfl) rfl rfl ?_ | refine AR.opN rfl rfl (by simp [boolOf]) rfl rfl ?_
    first | refine AR.op0y rfl rfl rfl (.bin rfl rfl (bI64_sub (by omega))) rfl rfl ?_ | refine AR.opN rfl rfl (by simp [boolOf]) rfl rfl ?_
    first | refine AR.op0y rfl rfl rfl (.index_l rfl rfl (by omega) (by omega) te_27.h) rfl rfl ?_ | refine AR.op0y rfl rfl rfl (.index_a rfl rfl (by omega) g2 rfl te_27.h) rfl rfl ?_
    first | refine AR.op0y rfl rfl rfl (.load_l rfl rfl g2 tg_75.h ts_75.h (nle rfl)) rfl rfl ?_ | refine AR.op0y rfl rfl rfl (.load_a rfl g2 tg_75.h ts_75.h (nle rfl)) rfl rfl ?_
    refine c_s (fs_rSign y) ?_
    refine AR.op0y rfl rfl rfl (.bin rfl rfl (vF binI_eql (hz))) rfl rfl ?_
    refine a_z ?_
    refine AWp.cond rfl (fun h1 => ?_) (fun h1 => ?_)
    ·cases h1
    refine AWp.exit ⟨n + 1, ⟨hn, ?_⟩, ?_⟩
    ·rw [ht, hs, if_neg h0]
    ·simp only [rtmS_mk]
     exact s_e []
 rintro n ⟨hn, ht⟩
 simp only [rtmS_mk]
 have hnl : (trimQ v).length = n := by rw [ht]; simp; omega
 have htr : trimR x = x.take n := by unfold trimR; rw [← hv, hnl]
 cases n with
 | zero =>
  refine s_r 5 ?_
  refine a_2 ?_
  refine o_0 (.sa_h rfl rfl (h := 0) rfl (by simp) te_27.h (rE_len4 _)) ?_
  refine o_0 (.append0 rfl rfl rfl te_27.h rfl rfl rfl (.arr (es := []) (by simp))) ?_
  refine a_z ?_
  refine AWp.ret ?_
  rw [htr]
  exact Fin.tmpN rfl
 | succ n =>
  obtain ⟨X, hX⟩ : ∃ X, X = x.take (n + 1) := ⟨_, rfl⟩
  have hXl : X.length = n + 1 := by rw [hX]; simp; omega
  have hXn : rE X ≠ [] := fun e => by have := congrArg List.length e; simp [hXl] at this
  have e4 : (rE x).take (n + 1) = rE X := by rw [rE_take, hX]
  have hXn' : (rE x).take (n + 1) ≠ [] := by rw [e4]; exact hXn
  refine s_r 5 ?_
  refine a_2 ?_
  refine o_0 (.sa_h rfl rfl (h := n + 1) rfl (by simp; omega) te_27.h (rE_len4 _)) ?_
  refine o_1 (.append_e rfl rfl rfl te_27.h rfl rfl rfl (.arr (by rw [e4]; exact rE_len4 _)) (by first | assumption | (simp; done)) tz_75.h rfl tb_75.h (by first | rfl | assumption | (simp; done) | (simp; omega) | omega) (by first | (simp [maxLen]; done) | (simp [maxLen]; omega))) ?_
  refine a_z ?_
  refine AWp.ret ?_
  rw [htr, ← hX, ← e4]
  exact Fin.tmpS rfl rfl rfl rfl (by rw [e4]; exact closed_rE _)
theorem fs_SameP (l : List Rat) (x : List RQ) (hx : okX x) (h : trimQ (vR x) = l) (hs : bdL l 68719476736) (hl : x.length ≤ 1099511627776) : FSpec Tryz.prog 23 [.arr (pE l), .arr (rE x)] (bln true) := by
 have hll : l.length ≤ x.length := by rw [← h]; have := trimQ_len (vR x); simpa using this
 refine FSpec.enter Tryz.func23 rfl (by kernel_rfl) rfl rfl rfl ?_ rfl ?_
 ·exact closed_cons (closed_pA l) (closed_cons (closed_rEA x) closed_nil)
 refine r_z 1 ?_
 refine r_c 5 (fs_rTrim x hl) ?_
 refine c_s (fs_Alike l (trimR x) (okX_trim hx) ((vR_trim x).trans h) hs (by omega)) ?_
 refine a_z ?_
 refine AWp.ret ?_
 exact Fin.tmpE rfl rfl (closed_v _)
def oS (t n : Nat) (fr : Fr) : List RQ → AState
 | [] => ⟨(t, .emp) :: fr, [], 1, n⟩
 | y :: Y => ⟨(t, .lsl 1 0 (Y.length + 1) none 4) :: fr, [(1, some ⟨75, 4, rE (y :: Y)⟩)], 2, n⟩
theorem oS_nil (t n : Nat) (fr : Fr) : oS t n fr [] = ⟨(t, .emp) :: fr, [], 1, n⟩ := rfl
theorem oS_cons (t n : Nat) (fr : Fr) (y : RQ) (Y : List RQ) : oS t n fr (y :: Y) = ⟨(t, .lsl 1 0 (Y.length + 1) none 4) :: fr, [(1, some ⟨75, 4, rE (y :: Y)⟩)], 2, n⟩ := rfl
def rP (v : List Rat) : List RQ := v.map rq
theorem okX_rP (v : List Rat) : okX (rP v) := fun y hy => by obtain ⟨q, _, rfl⟩ := List.mem_map.1 hy; exact rok_rq q
theorem vR_rP (v : List Rat) : vR (rP v) = v := by
 unfold vR rP
 rw [List.map_map]
 exact List.map_id' v
@[simp] theorem rP_length (v : List Rat) : (rP v).length = v.length := by simp [rP]
theorem trimR_rP (v : List Rat) : trimR (rP v) = rP (trimQ v) := by
 unfold trimR
 rw [vR_rP, rP, ← List.map_take, ← trimQ_pre]; rfl
theorem vR_get {x : List RQ} {i : Nat} (h : i < x.length) : ∃ y, x[i]? = some y ∧ y.1 = coP (vR x) i := by
 refine ⟨_, List.getElem?_eq_getElem h, ?_⟩
 unfold coP vR
 rw [List.getD_eq_getElem?_getD, List.getElem?_map, List.getElem?_eq_getElem h]; rfl
theorem vR_bd {x : List RQ} {s : Nat} (h : bdL (vR x) s) {y : RQ} {i : Nat} (hy : x[i]? = some y) : qs y.1 ≤ s := h _ (List.mem_map.2 ⟨y, List.mem_of_getElem? hy, rfl⟩)
theorem take_succ' {V : List Rat} {j : Nat} (h : j < V.length) : V.take (j + 1) = V.take j ++ [coP V j] := take_snoc (coP_get h)
theorem fs_rScale (x : List RQ) (k : RQ) (s : Nat) (hx : okX x) (hk : rok k) (hs : bdL (vR x) s) (hlim : s + qs k.1 ≤ 1099511627776) (hl : x.length ≤ 1000000) : FSpec Tryz.prog 48 [.arr (rE x), .agg (rC k)] (.arr (rE (rP (scaleP (vR x) k.1)))) := by
 obtain ⟨V, hV⟩ : ∃ V, V = tabP (vR x).length (fun i => coP (vR x) i * k.1) := ⟨_, rfl⟩
 refine FSpec.enter Tryz.func48 rfl (by kernel_rfl) rfl rfl rfl ?_ rfl ?_
 ·exact closed_cons (closed_rEA x) (closed_cons (closed_rA k) closed_nil)
 have hkc : Closed (.aptr [rC k] 0 0) := closed_box (closed_rC k)
 refine r_z 2 ?_
 refine AWp.ent (st' := ⟨[(3, .aptr [rC k] 0 0), (0, .arr (rE x))], [], 1, 24⟩) ?_ ?_
 ·refine SEnt.to [] rfl rfl rfl au_r (fun hs => ?_) (fun hs => ?_)
  ·repeat' (first | exact CvF.nil | refine CvF.cons rfl ?_ ?_)
   all_goals (first | (exact Cv.boxp hs rfl (dead_of rfl) rfl (closed_rC k)) | exact au_c)
  ·repeat' (first | exact CvH.nil | refine CvH.cons rfl rfl rfl rfl ?_ ?_)
   all_goals (first | exact au_e | (refine CvLL.box ?_; repeat' (first | exact CvL.nil | refine CvL.cons ?_ ?_)))
   all_goals (first | (exact Cv.boxp hs rfl (dead_of rfl) rfl (closed_rC k)) | exact au_c)
 refine r_z 1 ?_
 refine AWp.seq ?_
 refine r_z 1 ?_
 have hVl : V.length = x.length := by rw [hV]; simp
 refine AWp.cutT (fun _ : Unit => oS 5 24 [(3, .aptr [rC k] 0 0), (0, .arr (rE x))] (rP V)) (fun _ => True) ?_ ?_
 ·refine AWp.block ?_
  refine AWp.loopS (fun j : Nat => oS 5 24 [(6, i64 ((j : Nat) : Int)), (3, .aptr [rC k] 0 0), (0, .arr (rE x))] (rP (V.take j))) (fun j => V.length - j) (fun j => j ≤ V.length) 0 (Nat.zero_le _) ?_ ?_
  ·show SEnt _ (oS _ _ _ [])
   rw [oS_nil]
   exact s_e []
  rintro j hj
  by_cases hlt : j < V.length
  ·obtain ⟨y, hy, hyv⟩ := vR_get (x := x) (i := j) (by omega)
   have hyb := vR_bd hs hy
   have hyo := hx y (List.mem_of_getElem? hy)
   have hgt : (rE x)[((j : Nat) : Int).toNat]? = some (rC y) := rE_get hy
   obtain ⟨c, hc⟩ : ∃ c, c = y.1 * k.1 := ⟨_, rfl⟩
   have hco : coP V j = c := by rw [hV, coP_tab, if_pos (by simp; omega), ← hyv, hc]
   have hm := fs_rMul y k hyo hk (by omega)
   rw [← hc] at hm
   have htk := take_succ' hlt
   rw [hco] at htk
   have hrp : rP (V.take (j + 1)) = rP (V.take j) ++ [rq c] := by rw [htk]; simp [rP]
   have hQl : (rP (V.take j)).length = j := by simp; omega
   cases hQ : rP (V.take j) with
   | nil =>
    rw [hQ, List.nil_append] at hrp
    simp only [oS_nil]
    refine AWp.seq ?_
    refine s_r 4 ?_
    refine a_3 ?_
    refine o_0 (.bin rfl rfl (vT binI_lss (decide_eq_true (by omega)))) ?_
    refine AR.nil ?_
    refine AWp.cond rfl (fun h => ?_) (fun h => ?_)
    rotate_left
    ·cases h
    refine AWp.skip ?_
    refine AWp.seq ?_
    refine AWp.block ?_
    refine AWp.regD hmix (m := 10) rfl ?_
    refine a_3 ?_
    first | refine AR.op0 (.index_l rfl rfl (by omega) (by omega) te_27.h) rfl rfl ?_ | refine AR.op0 (.index_a rfl rfl (by omega) hgt rfl te_27.h) rfl rfl ?_
    first | refine AR.op0 (.load_l rfl rfl hgt tg_75.h ts_75.h (nle rfl)) rfl rfl ?_ | refine AR.op0 (.load_a rfl hgt tg_75.h ts_75.h (nle rfl)) rfl rfl ?_
    refine c_s (hm) ?_
    refine a_3 ?_
    refine AR.nil ⟨by kernel_rfl, ?_⟩
    refine AWp.reg (m := 3) rfl ?_
    refine a_z ?_
    refine ⟨j + 1, by omega, hlt, ?_⟩
    rw [hrp, oS_cons]
    refine SEnt.to [(1, 5)] rfl rfl rfl au_r (fun hs => au_f) (fun hs => ?_)
    ·repeat' (first | exact CvH.nil | refine CvH.cons rfl rfl rfl rfl ?_ ?_)
     all_goals (first | (exact CvLL.clo hs (closed_rE _)) | exact au_e)
   | cons q Q =>
    rw [hQ] at hQl
    rw [hQ, List.cons_append] at hrp
    simp at hQl
    simp only [oS_cons]
    refine AWp.seq ?_
    refine s_r 4 ?_
    refine a_3 ?_
    refine o_0 (.bin rfl rfl (vT binI_lss (decide_eq_true (by omega)))) ?_
    refine AR.nil ?_
    refine AWp.cond rfl (fun h => ?_) (fun h => ?_)
    rotate_left
    ·cases h
    refine AWp.skip ?_
    refine AWp.seq ?_
    refine AWp.block ?_
    refine AWp.regD hmix (m := 10) rfl ?_
    refine a_3 ?_
    first | refine AR.op0 (.index_l rfl rfl (by omega) (by omega) te_27.h) rfl rfl ?_ | refine AR.op0 (.index_a rfl rfl (by omega) hgt rfl te_27.h) rfl rfl ?_
    first | refine AR.op0 (.load_l rfl rfl hgt tg_75.h ts_75.h (nle rfl)) rfl rfl ?_ | refine AR.op0 (.load_a rfl hgt tg_75.h ts_75.h (nle rfl)) rfl rfl ?_
    refine c_s (hm) ?_
    refine a_3 ?_
    refine AR.nil ⟨by kernel_rfl, ?_⟩
    refine AWp.reg (m := 3) rfl ?_
    refine a_z ?_
    refine ⟨j + 1, by omega, hlt, ?_⟩
    rw [hrp, oS_cons]
    have e : rE (q :: Q) ++ [rC (rq c)] = rE (q :: (Q ++ [rq c])) := by simp [rE]
    refine SEnt.to [(1, 5)] rfl rfl rfl ?_ (fun hs => au_f) (fun hs => ?_)
    ·repeat' (first | exact ShrL.nil | refine ShrL.cons rfl rfl rfl rfl (by first | (simp) | rfl | (simp; done) | (simp <;> omega)) ?_)
    ·repeat' (first | exact CvH.nil | refine CvH.cons rfl rfl rfl rfl ?_ ?_)
     all_goals (first | (exact CvLL.cloE hs e (closed_rE _)) | exact au_e)
  ·have hge : j = V.length := by omega
   subst hge
   rw [List.take_length]
   cases hQ : rP V with
   | nil =>
    simp only [oS_nil]
    refine AWp.seq ?_
    refine s_r 4 ?_
    refine a_3 ?_
    refine o_0 (.bin rfl rfl (vF binI_lss (decide_eq_false (by omega)))) ?_
    refine AR.nil ?_
    refine AWp.cond rfl (fun h => ?_) (fun h => ?_)
    ·cases h
    refine AWp.exit ⟨(), trivial, ?_⟩
    exact s_e []
   | cons q Q =>
    simp only [oS_cons]
    refine AWp.seq ?_
    refine s_r 4 ?_
    refine a_3 ?_
    refine o_0 (.bin rfl rfl (vF binI_lss (decide_eq_false (by omega)))) ?_
    refine AR.nil ?_
    refine AWp.cond rfl (fun h => ?_) (fun h => ?_)
    ·cases h
    refine AWp.exit ⟨(), trivial, ?_⟩
    refine SEnt.to [(1, 5)] rfl rfl rfl au_r (fun hs => au_f) (fun hs => ?_)
    ·repeat' (first | exact CvH.nil | refine CvH.cons rfl rfl rfl rfl ?_ ?_)
     all_goals (first | (exact CvLL.clo hs (closed_rE _)) | exact au_e)
 rintro _ _
 have htr := fs_rTrim (rP V) (by simp; omega)
 rw [trimR_rP] at htr
 cases hQ : rP V with
 | nil =>
  rw [hQ] at htr
  simp only [oS_nil]
  refine r_c 3 (htr) ?_
  refine a_z ?_
  refine AWp.ret ?_
  refine Fin.tmpE rfl ?_ ?_
  ·rw [hV]; rfl
  ·exact closed_rEA _
 | cons q Q =>
  rw [hQ] at htr
  simp only [oS_cons]
  refine s_r 3 ?_
  refine a_1 ?_
  refine o_1 (.callS1 rfl rfl rfl (.shut rfl (by first | exact nle rfl | (simp; done) | (simp; omega)) (.nil)) rfl ((FSpec.argE htr (by rw [List.drop_zero]; exact List.take_of_length_le (by simp))))) ?_
  refine a_z ?_
  refine AWp.ret ?_
  refine Fin.tmpE rfl ?_ ?_
  ·rw [hV]; rfl
  ·exact closed_rEA _
@[simp] theorem trimR_length (x : List RQ) : (trimR x).length = (trimQ (vR x)).length := by rw [← vR_trim, vR_length]
theorem fs_rConstant (q : Rat) : FSpec Tryz.prog 50 [.agg (rC (rq q))] (.arr (rE (rP (constP q)))) := by
 have htr := fs_rTrim (rP [q]) (by simp)
 rw [trimR_rP] at htr
 refine FSpec.enter Tryz.func50 rfl (by kernel_rfl) rfl rfl rfl ?_ rfl ?_
 ·exact closed_cons (closed_rA _) closed_nil
 refine r_z 2 ?_
 refine s_r 4 ?_
 refine a_2 ?_
 refine o_1 (.callS1 rfl rfl rfl (.shut rfl (by first | exact nle rfl | (simp; done) | (simp; omega)) (.nil)) rfl ((FSpec.argE htr (by rw [List.drop_zero]; exact List.take_of_length_le (by simp))))) ?_
 refine a_z ?_
 refine AWp.ret ?_
 refine Fin.tmpE rfl ?_ ?_
 ·rfl
 ·exact closed_rEA _
end Go.Proofs.YtdhedjbmdnnbkaaGreatDoor
namespace Go.Abs
theorem bd_co' {p : List Rat} {s : Nat} (h : bdL p s) (hs : 1 ≤ s) : ∀ i, qs (coP p i) ≤ s := fun i => bdL_co h hs i
theorem bdL_scaleP {p : List Rat} {k : Rat} {s : Nat} (h : bdL p s) (hs : 1 ≤ s) : bdL (scaleP p k) (s + qs k) := coP_bd fun i => by
 rw [coP_scale]
 have := qs_mul (coP p i) k
 have := bd_co' h hs i
 omega
theorem bdL_neg {p : List Rat} {s : Nat} (h : bdL p s) (hs : 1 ≤ s) : bdL (scaleP p (-1)) s := coP_bd fun i => by
 rw [coP_scale, show coP p i * (-1) = -coP p i by grind, qs_neg]
 exact bd_co' h hs i
theorem bdL_addP {p q : List Rat} {s t : Nat} (hp : bdL p s) (hq : bdL q t) (hs : 1 ≤ s) (ht : 1 ≤ t) : bdL (addP p q) (s + t + 1) := coP_bd fun i => by
 rw [coP_add]
 have := qs_add (coP p i) (coP q i)
 have := bd_co' hp hs i
 have := bd_co' hq ht i
 omega
theorem bdL_subP {p q : List Rat} {s t : Nat} (hp : bdL p s) (hq : bdL q t) (hs : 1 ≤ s) (ht : 1 ≤ t) : bdL (subP p q) (s + t + 1) := bdL_addP hp (bdL_neg hq ht) hs ht
def shP (i : Nat) (v : List Rat) : List Rat := List.replicate i 0 ++ v
theorem shP_length (i : Nat) (v : List Rat) : (shP i v).length = i + v.length := by simp [shP]
theorem shP_succ (i : Nat) (v : List Rat) : shP (i + 1) v = 0 :: shP i v := by simp [shP, List.replicate_succ]
theorem evalP_sh (v : List Rat) (x : Rat) : ∀ i, evalP (shP i v) x = evalP v x * x ^ i
 | 0 => by simp [shP]
 | i + 1 => by
  rw [shP_succ, evalP_cons, evalP_sh v x i, Rat.pow_succ]
  grind
theorem coP_sh (v : List Rat) (i n : Nat) : coP (shP i v) n = if n < i then 0 else coP v (n - i) := by
 induction i generalizing n with
 | zero => simp [shP]
 | succ i ih =>
  rw [shP_succ]
  cases n with
  | zero => rw [coP_zero, if_pos (by omega)]
  | succ n =>
   rw [coP_succ, ih, Nat.add_sub_add_right]
   by_cases h : n < i
   ·rw [if_pos h, if_pos (by omega)]
   ·rw [if_neg h, if_neg (by omega)]
def mR (p q : List Rat) : Nat → List Rat
 | 0 => []
 | n + 1 => addP (mR p q n) (shP n (scaleP p (coP q n)))
theorem evalP_mR (p q : List Rat) (x : Rat) : ∀ n, n ≤ q.length → evalP (mR p q n) x = evalP p x * evalP (q.take n) x
 | 0, _ => by simp [mR, evalP_nil]
 | n + 1, h => by
  rw [mR, evalP_add, evalP_mR p q x n (by omega), evalP_sh, evalP_scale, evalP_take q x n (by omega)]
  grind
theorem trim_mR (p q : List Rat) : ∀ n, trimQ (mR p q n) = mR p q n
 | 0 => rfl
 | n + 1 => trimQ_idem _
theorem trim_mulP (p q : List Rat) : trimQ (mulP p q) = mulP p q := by
 unfold mulP
 split
 ·rfl
 ·exact trimQ_idem _
theorem mR_mul (p q : List Rat) : mR p q q.length = mulP p q := by
 rw [← trim_mR, ← trim_mulP]
 refine eval_ext fun x => ?_
 rw [evalP_mR p q x _ (Nat.le_refl _), List.take_length, evalP_mul]
theorem mR_len (p q : List Rat) : ∀ n, (mR p q n).length ≤ n + p.length
 | 0 => Nat.zero_le _
 | n + 1 => by
  have h1 := mR_len p q n
  have h2 := addP_len (mR p q n) (shP n (scaleP p (coP q n)))
  have h3 := scaleP_len p (coP q n)
  rw [shP_length] at h2
  rw [mR]
  omega
theorem mR_bd {p q : List Rat} {s t : Nat} (hp : bdL p s) (hq : bdL q t) (hs : 1 ≤ s) (ht : 1 ≤ t) : ∀ n, bdL (mR p q n) (n * (s + t + 1) + 1)
 | 0 => fun _ h => by cases h
 | n + 1 => coP_bd fun i => by
  rw [mR, coP_add, coP_sh, Nat.succ_mul]
  have h1 := bd_co' (mR_bd hp hq hs ht n) (by omega) i
  have h2 := bd_co' hq ht n
  have h3 : qs (if i < n then 0 else coP (scaleP p (coP q n)) (i - n)) ≤ s + t := by
   split
   ·have : qs 0 = 1 := by decide
    omega
   ·rw [coP_scale]
    have := qs_mul (coP p (i - n)) (coP q n)
    have := bd_co' hp hs (i - n)
    omega
  have := qs_add (coP (mR p q n) i) (if i < n then 0 else coP (scaleP p (coP q n)) (i - n))
  omega
theorem mR_mono {p : List Rat} {a : Rat} {d : Nat} : ∀ n, n ≤ d → mR p (shP d [a]) n = []
 | 0, _ => rfl
 | n + 1, h => by
  rw [mR, mR_mono n (by omega)]
  refine trim_nil_iff.2 fun i => ?_
  have h1 : coP (shP d [a]) n = 0 := by rw [coP_sh, if_pos (by omega)]
  have h2 : coP (tabP (max ([] : List Rat).length (shP n (scaleP p (coP (shP d [a]) n))).length) fun i => coP [] i + coP (shP n (scaleP p (coP (shP d [a]) n))) i) i = coP [] i + coP (shP n (scaleP p (coP (shP d [a]) n))) i := by
   rw [← coP_trim]; exact coP_add _ _ i
  rw [h2, coP_nil, coP_sh, coP_scale, h1]
  split <;> grind
theorem mR_mono_bd {p : List Rat} {a : Rat} {d s : Nat} (hp : bdL p s) (hs : 1 ≤ s) (n : Nat) (hn : n ≤ d + 1) : bdL (mR p (shP d [a]) n) (s + qs a + 2) := by
 by_cases h : n ≤ d
 ·rw [mR_mono n h]; exact fun _ h => by cases h
 ·have : n = d + 1 := by omega
  subst this
  refine coP_bd fun i => ?_
  rw [mR, coP_add, mR_mono d (Nat.le_refl _), coP_nil, Rat.zero_add, coP_sh]
  split
  ·have : qs 0 = 1 := by decide
   omega
  ·rw [coP_scale, coP_sh, if_neg (by omega), Nat.sub_self, coP_zero]
   have := qs_mul (coP p (i - d)) a
   have := bd_co' hp hs (i - d)
   omega
end Go.Abs
namespace Go.Proofs.YtdhedjbmdnnbkaaGreatDoor
open Go.Abs
set_option maxRecDepth 20000
set_option maxHeartbeats 1000000
theorem fs_rAddP (x y : List RQ) (s t : Nat) (hx : okX x) (hy : okX y) (hs : bdL (vR x) s) (ht : bdL (vR y) t) (hlim : s + t + 64 ≤ 1099511627776) (hxl : x.length ≤ 1000000) (hyl : y.length ≤ 1000000) : FSpec Tryz.prog 43 [.arr (rE x), .arr (rE y)] (.arr (rE (rP (addP (vR x) (vR y))))) := by
 obtain ⟨V, hV⟩ : ∃ V, V = tabP (max (vR x).length (vR y).length) (fun i => coP (vR x) i + coP (vR y) i) := ⟨_, rfl⟩
 have hi0 : FSpec Tryz.prog 51 [i64 0] (.agg (rC (rq 0))) := fs_rInt 0 (by decide)
 have q0 : qs (rq 0).1 ≤ 64 := by decide
 refine FSpec.enter Tryz.func43 rfl (by kernel_rfl) rfl rfl rfl ?_ rfl ?_
 ·exact closed_cons (closed_rEA x) (closed_cons (closed_rEA y) closed_nil)
 refine r_z 1 ?_
 refine r_z 1 ?_
 refine AWp.seq ?_
 refine r_z 1 ?_
 have hVl : V.length = max x.length y.length := by rw [hV]; simp
 refine AWp.cutT (fun _ : Unit => oS 5 47 [(0, .arr (rE x)), (1, .arr (rE y))] (rP V)) (fun _ => True) ?_ ?_
 ·refine AWp.block ?_
  refine AWp.loopS (fun j : Nat => oS 5 47 [(6, i64 ((j : Nat) : Int)), (0, .arr (rE x)), (1, .arr (rE y))] (rP (V.take j))) (fun j => V.length - j) (fun j => j ≤ V.length) 0 (Nat.zero_le _) ?_ ?_
  ·show SEnt _ (oS _ _ _ [])
   rw [oS_nil]
   exact s_e []
  rintro j hj
  have hQl : (rP (V.take j)).length = j := by simp; omega
  by_cases hjx : j < x.length
  ·by_cases hjy : j < y.length
   ·obtain ⟨a, ha, hav⟩ := vR_get (x := x) (i := j) hjx
    have hab := vR_bd hs ha
    have hao := hx a (List.mem_of_getElem? ha)
    have hgx : (rE x)[((j : Nat) : Int).toNat]? = some (rC a) := rE_get ha
    obtain ⟨b, hb, hbv⟩ := vR_get (x := y) (i := j) hjy
    have hbb := vR_bd ht hb
    have hbo := hy b (List.mem_of_getElem? hb)
    have hgy : (rE y)[((j : Nat) : Int).toNat]? = some (rC b) := rE_get hb
    obtain ⟨c, hc⟩ : ∃ c, c = a.1 + b.1 := ⟨_, rfl⟩
    have hco : coP V j = c := by rw [hV, coP_tab, if_pos (by simp; omega), ← hav, ← hbv, hc]
    have m1 := fs_rAdd (rq 0) a (rok_rq _) hao (by omega)
    rw [show (rq 0).1 + a.1 = a.1 from Rat.zero_add _] at m1
    have m2 := fs_rAdd (rq a.1) b (rok_rq _) hbo (by show qs a.1 + qs b.1 ≤ _; omega)
    rw [show (rq a.1).1 + b.1 = c by rw [hc]; rfl] at m2
    have htk := take_succ' (V := V) (j := j) (by omega)
    rw [hco] at htk
    have hrp : rP (V.take (j + 1)) = rP (V.take j) ++ [rq c] := by rw [htk]; simp [rP]
    cases hQ : rP (V.take j) with
    | nil =>
     rw [hQ, List.nil_append] at hrp
     simp only [oS_nil]
     refine AWp.seq ?_
     refine s_r 10 ?_
     refine a_3 ?_
     refine o_0 (.bin rfl rfl (vT binI_lss (decide_eq_true (by omega)))) ?_
     refine a_z ?_
     refine AWp.cond rfl (fun h => ?_) (fun h => ?_)
     rotate_left
     ·cases h
     refine AWp.skip ?_
     refine AWp.seq ?_
     refine AWp.block ?_
     refine r_c 3 (hi0) ?_
     refine a_z ?_
     refine AWp.seq ?_
     refine s_r 4 ?_
     refine a_3 ?_
     refine o_0 (.bin rfl rfl (vT binI_lss (decide_eq_true (by omega)))) ?_
     refine AR.nil ?_
     refine AWp.cond rfl (fun h => ?_) (fun h => ?_)
     rotate_left
     ·cases h
     refine AWp.regD hmix (m := 7) rfl ?_
     refine a_3 ?_
     first | refine AR.op0 (.index_l rfl rfl (by omega) (by omega) te_27.h) rfl rfl ?_ | refine AR.op0 (.index_a rfl rfl (by omega) hgx rfl te_27.h) rfl rfl ?_
     first | refine AR.op0 (.load_l rfl rfl hgx tg_75.h ts_75.h (nle rfl)) rfl rfl ?_ | refine AR.op0 (.load_a rfl hgx tg_75.h ts_75.h (nle rfl)) rfl rfl ?_
     refine c_s (m1) ?_
     refine a_1 ?_
     refine AR.nil ⟨by kernel_rfl, ?_⟩
     refine AWp.seq ?_
     refine s_r 4 ?_
     refine a_3 ?_
     refine o_0 (.bin rfl rfl (vT binI_lss (decide_eq_true (by omega)))) ?_
     refine AR.nil ?_
     refine AWp.cond rfl (fun h => ?_) (fun h => ?_)
     rotate_left
     ·cases h
     refine AWp.regD hmix (m := 7) rfl ?_
     refine a_3 ?_
     first | refine AR.op0 (.index_l rfl rfl (by omega) (by omega) te_27.h) rfl rfl ?_ | refine AR.op0 (.index_a rfl rfl (by omega) hgy rfl te_27.h) rfl rfl ?_
     first | refine AR.op0 (.load_l rfl rfl hgy tg_75.h ts_75.h (nle rfl)) rfl rfl ?_ | refine AR.op0 (.load_a rfl hgy tg_75.h ts_75.h (nle rfl)) rfl rfl ?_
     refine c_s (m2) ?_
     refine a_1 ?_
     refine AR.nil ⟨by kernel_rfl, ?_⟩
     refine AWp.reg (m := 5) rfl ?_
     refine a_z ?_
     refine AWp.reg (m := 3) rfl ?_
     refine a_z ?_
     refine ⟨j + 1, by omega, by omega, ?_⟩
     rw [hrp, oS_cons]
     refine SEnt.to [(1, 5)] rfl rfl rfl au_r (fun hs => au_f) (fun hs => ?_)
     ·repeat' (first | exact CvH.nil | refine CvH.cons rfl rfl rfl rfl ?_ ?_)
      all_goals (first | (exact CvLL.clo hs (closed_rE _)) | exact au_e)
    | cons q Q =>
     rw [hQ] at hQl
     rw [hQ, List.cons_append] at hrp
     simp at hQl
     simp only [oS_cons]
     refine AWp.seq ?_
     refine s_r 10 ?_
     refine a_3 ?_
     refine o_0 (.bin rfl rfl (vT binI_lss (decide_eq_true (by omega)))) ?_
     refine a_z ?_
     refine AWp.cond rfl (fun h => ?_) (fun h => ?_)
     rotate_left
     ·cases h
     refine AWp.skip ?_
     refine AWp.seq ?_
     refine AWp.block ?_
     refine r_c 3 (hi0) ?_
     refine a_z ?_
     refine AWp.seq ?_
     refine s_r 4 ?_
     refine a_3 ?_
     refine o_0 (.bin rfl rfl (vT binI_lss (decide_eq_true (by omega)))) ?_
     refine AR.nil ?_
     refine AWp.cond rfl (fun h => ?_) (fun h => ?_)
     rotate_left
     ·cases h
     refine AWp.regD hmix (m := 7) rfl ?_
     refine a_3 ?_
     first | refine AR.op0 (.index_l rfl rfl (by omega) (by omega) te_27.h) rfl rfl ?_ | refine AR.op0 (.index_a rfl rfl (by omega) hgx rfl te_27.h) rfl rfl ?_
     first | refine AR.op0 (.load_l rfl rfl hgx tg_75.h ts_75.h (nle rfl)) rfl rfl ?_ | refine AR.op0 (.load_a rfl hgx tg_75.h ts_75.h (nle rfl)) rfl rfl ?_
     refine c_s (m1) ?_
     refine a_1 ?_
     refine AR.nil ⟨by kernel_rfl, ?_⟩
     refine AWp.seq ?_
     refine s_r 4 ?_
     refine a_3 ?_
     refine o_0 (.bin rfl rfl (vT binI_lss (decide_eq_true (by omega)))) ?_
     refine AR.nil ?_
     refine AWp.cond rfl (fun h => ?_) (fun h => ?_)
     rotate_left
     ·cases h
     refine AWp.regD hmix (m := 7) rfl ?_
     refine a_3 ?_
     first | refine AR.op0 (.index_l rfl rfl (by omega) (by omega) te_27.h) rfl rfl ?_ | refine AR.op0 (.index_a rfl rfl (by omega) hgy rfl te_27.h) rfl rfl ?_
     first | refine AR.op0 (.load_l rfl rfl hgy tg_75.h ts_75.h (nle rfl)) rfl rfl ?_ | refine AR.op0 (.load_a rfl hgy tg_75.h ts_75.h (nle rfl)) rfl rfl ?_
     refine c_s (m2) ?_
     refine a_1 ?_
     refine AR.nil ⟨by kernel_rfl, ?_⟩
     refine AWp.reg (m := 5) rfl ?_
     refine a_z ?_
     refine AWp.reg (m := 3) rfl ?_
     refine a_z ?_
     refine ⟨j + 1, by omega, by omega, ?_⟩
     rw [hrp, oS_cons]
     have e : rE (q :: Q) ++ [rC (rq c)] = rE (q :: (Q ++ [rq c])) := by simp [rE]
     refine SEnt.to [(1, 5)] rfl rfl rfl ?_ (fun hs => au_f) (fun hs => ?_)
     ·repeat' (first | exact ShrL.nil | refine ShrL.cons rfl rfl rfl rfl (by first | (simp) | rfl | (simp; done) | (simp <;> omega)) ?_)
     ·repeat' (first | exact CvH.nil | refine CvH.cons rfl rfl rfl rfl ?_ ?_)
      all_goals (first | (exact CvLL.cloE hs e (closed_rE _)) | exact au_e)
   ·obtain ⟨a, ha, hav⟩ := vR_get (x := x) (i := j) hjx
    have hab := vR_bd hs ha
    have hao := hx a (List.mem_of_getElem? ha)
    have hgx : (rE x)[((j : Nat) : Int).toNat]? = some (rC a) := rE_get ha
    obtain ⟨c, hc⟩ : ∃ c, c = a.1 := ⟨_, rfl⟩
    have hco : coP V j = c := by rw [hV, coP_tab, if_pos (by simp; omega), ← hav, coP_out (p := vR y) (by simp; omega), Rat.add_zero, hc]
    have m1 := fs_rAdd (rq 0) a (rok_rq _) hao (by omega)
    rw [show (rq 0).1 + a.1 = a.1 from Rat.zero_add _] at m1
    rw [← hc] at m1
    have htk := take_succ' (V := V) (j := j) (by omega)
    rw [hco] at htk
    have hrp : rP (V.take (j + 1)) = rP (V.take j) ++ [rq c] := by rw [htk]; simp [rP]
    cases hQ : rP (V.take j) with
    | nil =>
     rw [hQ, List.nil_append] at hrp
     simp only [oS_nil]
     refine AWp.seq ?_
     refine s_r 10 ?_
     refine a_3 ?_
     refine o_0 (.bin rfl rfl (vT binI_lss (decide_eq_true (by omega)))) ?_
     refine a_z ?_
     refine AWp.cond rfl (fun h => ?_) (fun h => ?_)
     rotate_left
     ·cases h
     refine AWp.skip ?_
     refine AWp.seq ?_
     refine AWp.block ?_
     refine r_c 3 (hi0) ?_
     refine a_z ?_
     refine AWp.seq ?_
     refine s_r 4 ?_
     refine a_3 ?_
     refine o_0 (.bin rfl rfl (vT binI_lss (decide_eq_true (by omega)))) ?_
     refine AR.nil ?_
     refine AWp.cond rfl (fun h => ?_) (fun h => ?_)
     rotate_left
     ·cases h
     refine AWp.regD hmix (m := 7) rfl ?_
     refine a_3 ?_
     first | refine AR.op0 (.index_l rfl rfl (by omega) (by omega) te_27.h) rfl rfl ?_ | refine AR.op0 (.index_a rfl rfl (by omega) hgx rfl te_27.h) rfl rfl ?_
     first | refine AR.op0 (.load_l rfl rfl hgx tg_75.h ts_75.h (nle rfl)) rfl rfl ?_ | refine AR.op0 (.load_a rfl hgx tg_75.h ts_75.h (nle rfl)) rfl rfl ?_
     refine c_s (m1) ?_
     refine a_1 ?_
     refine AR.nil ⟨by kernel_rfl, ?_⟩
     refine AWp.seq ?_
     refine s_r 4 ?_
     refine a_3 ?_
     refine o_0 (.bin rfl rfl (vF binI_lss (decide_eq_false (by omega)))) ?_
     refine AR.nil ?_
     refine AWp.cond rfl (fun h => ?_) (fun h => ?_)
     ·cases h
     refine AWp.skip ?_
     refine AWp.reg (m := 5) rfl ?_
     refine a_z ?_
     refine AWp.reg (m := 3) rfl ?_
     refine a_z ?_
     refine ⟨j + 1, by omega, by omega, ?_⟩
     rw [hrp, oS_cons]
     refine SEnt.to [(1, 5)] rfl rfl rfl au_r (fun hs => au_f) (fun hs => ?_)
     ·repeat' (first | exact CvH.nil | refine CvH.cons rfl rfl rfl rfl ?_ ?_)
      all_goals (first | (exact CvLL.clo hs (closed_rE _)) | exact au_e)
    | cons q Q =>
     rw [hQ] at hQl
     rw [hQ, List.cons_append] at hrp
     simp at hQl
     simp only [oS_cons]
     refine AWp.seq ?_
     refine s_r 10 ?_
     refine a_3 ?_
     refine o_0 (.bin rfl rfl (vT binI_lss (decide_eq_true (by omega)))) ?_
     refine a_z ?_
     refine AWp.cond rfl (fun h => ?_) (fun h => ?_)
     rotate_left
     ·cases h
     refine AWp.skip ?_
     refine AWp.seq ?_
     refine AWp.block ?_
     refine r_c 3 (hi0) ?_
     refine a_z ?_
     refine AWp.seq ?_
     refine s_r 4 ?_
     refine a_3 ?_
     refine o_0 (.bin rfl rfl (vT binI_lss (decide_eq_true (by omega)))) ?_
     refine AR.nil ?_
     refine AWp.cond rfl (fun h => ?_) (fun h => ?_)
     rotate_left
     ·cases h
     refine AWp.regD hmix (m := 7) rfl ?_
     refine a_3 ?_
     first | refine AR.op0 (.index_l rfl rfl (by omega) (by omega) te_27.h) rfl rfl ?_ | refine AR.op0 (.index_a rfl rfl (by omega) hgx rfl te_27.h) rfl rfl ?_
     first | refine AR.op0 (.load_l rfl rfl hgx tg_75.h ts_75.h (nle rfl)) rfl rfl ?_ | refine AR.op0 (.load_a rfl hgx tg_75.h ts_75.h (nle rfl)) rfl rfl ?_
     refine c_s (m1) ?_
     refine a_1 ?_
     refine AR.nil ⟨by kernel_rfl, ?_⟩
     refine AWp.seq ?_
     refine s_r 4 ?_
     refine a_3 ?_
     refine o_0 (.bin rfl rfl (vF binI_lss (decide_eq_false (by omega)))) ?_
     refine AR.nil ?_
     refine AWp.cond rfl (fun h => ?_) (fun h => ?_)
     ·cases h
     refine AWp.skip ?_
     refine AWp.reg (m := 5) rfl ?_
     refine a_z ?_
     refine AWp.reg (m := 3) rfl ?_
     refine a_z ?_
     refine ⟨j + 1, by omega, by omega, ?_⟩
     rw [hrp, oS_cons]
     have e : rE (q :: Q) ++ [rC (rq c)] = rE (q :: (Q ++ [rq c])) := by simp [rE]
     refine SEnt.to [(1, 5)] rfl rfl rfl ?_ (fun hs => au_f) (fun hs => ?_)
     ·repeat' (first | exact ShrL.nil | refine ShrL.cons rfl rfl rfl rfl (by first | (simp) | rfl | (simp; done) | (simp <;> omega)) ?_)
     ·repeat' (first | exact CvH.nil | refine CvH.cons rfl rfl rfl rfl ?_ ?_)
      all_goals (first | (exact CvLL.cloE hs e (closed_rE _)) | exact au_e)
  ·by_cases hjy : j < y.length
   ·obtain ⟨b, hb, hbv⟩ := vR_get (x := y) (i := j) hjy
    have hbb := vR_bd ht hb
    have hbo := hy b (List.mem_of_getElem? hb)
    have hgy : (rE y)[((j : Nat) : Int).toNat]? = some (rC b) := rE_get hb
    obtain ⟨c, hc⟩ : ∃ c, c = b.1 := ⟨_, rfl⟩
    have hco : coP V j = c := by rw [hV, coP_tab, if_pos (by simp; omega), coP_out (p := vR x) (by simp; omega), ← hbv, Rat.zero_add, hc]
    have m2 := fs_rAdd (rq 0) b (rok_rq _) hbo (by omega)
    rw [show (rq 0).1 + b.1 = c by rw [hc]; exact Rat.zero_add _] at m2
    have htk := take_succ' (V := V) (j := j) (by omega)
    rw [hco] at htk
    have hrp : rP (V.take (j + 1)) = rP (V.take j) ++ [rq c] := by rw [htk]; simp [rP]
    cases hQ : rP (V.take j) with
    | nil =>
     rw [hQ, List.nil_append] at hrp
     simp only [oS_nil]
     refine AWp.seq ?_
     refine s_r 10 ?_
     refine a_3 ?_
     refine o_0 (.bin rfl rfl (vF binI_lss (decide_eq_false (by omega)))) ?_
     refine a_1 ?_
     first | refine AR.op0y rfl rfl rfl (.move rfl) rfl rfl ?_ | refine AR.opN rfl rfl (by simp [boolOf]) rfl rfl ?_
     first | refine AR.op0y rfl rfl rfl (.move rfl) rfl rfl ?_ | refine AR.opN rfl rfl (by simp [boolOf]) rfl rfl ?_
     first | refine AR.op0y rfl rfl rfl (.lenD rfl rfl rfl rfl te_27.h) rfl rfl ?_ | refine AR.op0y rfl rfl rfl (.lenI rfl rfl rfl rfl te_27.h) rfl rfl ?_ | refine AR.op0y rfl rfl rfl (.lenP rfl rfl rfl rfl te_27.h) rfl rfl ?_ | refine AR.op0y rfl rfl rfl (.lenC rfl rfl rfl rfl te_27.h) rfl rfl ?_ | refine AR.op0y rfl rfl rfl (.lenR rfl rfl rfl rfl te_27.h) rfl rfl ?_ | refine AR.op0y rfl rfl rfl (.len rfl rfl rfl rfl rfl te_27.h) rfl rfl ?_ | refine AR.opN rfl rfl (by simp [boolOf]) rfl rfl ?_
     refine AR.op0y rfl rfl rfl (.bin rfl rfl (vT binI_lss (decide_eq_true (by omega)))) rfl rfl ?_
     refine a_z ?_
     refine AWp.cond rfl (fun h => ?_) (fun h => ?_)
     rotate_left
     ·cases h
     refine AWp.skip ?_
     refine AWp.seq ?_
     refine AWp.block ?_
     refine r_c 3 (hi0) ?_
     refine a_z ?_
     refine AWp.seq ?_
     refine s_r 4 ?_
     refine a_3 ?_
     refine o_0 (.bin rfl rfl (vF binI_lss (decide_eq_false (by omega)))) ?_
     refine AR.nil ?_
     refine AWp.cond rfl (fun h => ?_) (fun h => ?_)
     ·cases h
     refine AWp.skip ?_
     refine AWp.seq ?_
     refine s_r 4 ?_
     refine a_3 ?_
     refine o_0 (.bin rfl rfl (vT binI_lss (decide_eq_true (by omega)))) ?_
     refine AR.nil ?_
     refine AWp.cond rfl (fun h => ?_) (fun h => ?_)
     rotate_left
     ·cases h
     refine AWp.regD hmix (m := 7) rfl ?_
     refine a_3 ?_
     first | refine AR.op0 (.index_l rfl rfl (by omega) (by omega) te_27.h) rfl rfl ?_ | refine AR.op0 (.index_a rfl rfl (by omega) hgy rfl te_27.h) rfl rfl ?_
     first | refine AR.op0 (.load_l rfl rfl hgy tg_75.h ts_75.h (nle rfl)) rfl rfl ?_ | refine AR.op0 (.load_a rfl hgy tg_75.h ts_75.h (nle rfl)) rfl rfl ?_
     refine c_s (m2) ?_
     refine a_1 ?_
     refine AR.nil ⟨by kernel_rfl, ?_⟩
     refine AWp.reg (m := 5) rfl ?_
     refine a_z ?_
     refine AWp.reg (m := 3) rfl ?_
     refine a_z ?_
     refine ⟨j + 1, by omega, by omega, ?_⟩
     rw [hrp, oS_cons]
     refine SEnt.to [(1, 5)] rfl rfl rfl au_r (fun hs => au_f) (fun hs => ?_)
     ·repeat' (first | exact CvH.nil | refine CvH.cons rfl rfl rfl rfl ?_ ?_)
      all_goals (first | (exact CvLL.clo hs (closed_rE _)) | exact au_e)
    | cons q Q =>
     rw [hQ] at hQl
     rw [hQ, List.cons_append] at hrp
     simp at hQl
     simp only [oS_cons]
     refine AWp.seq ?_
     refine s_r 10 ?_
     refine a_3 ?_
     refine o_0 (.bin rfl rfl (vF binI_lss (decide_eq_false (by omega)))) ?_
     refine a_1 ?_
     first | refine AR.op0y rfl rfl rfl (.move rfl) rfl rfl ?_ | refine AR.opN rfl rfl (by simp [boolOf]) rfl rfl ?_
     first | refine AR.op0y rfl rfl rfl (.move rfl) rfl rfl ?_ | refine AR.opN rfl rfl (by simp [boolOf]) rfl rfl ?_
     first | refine AR.op0y rfl rfl rfl (.lenD rfl rfl rfl rfl te_27.h) rfl rfl ?_ | refine AR.op0y rfl rfl rfl (.lenI rfl rfl rfl rfl te_27.h) rfl rfl ?_ | refine AR.op0y rfl rfl rfl (.lenP rfl rfl rfl rfl te_27.h) rfl rfl ?_ | refine AR.op0y rfl rfl rfl (.lenC rfl rfl rfl rfl te_27.h) rfl rfl ?_ | refine AR.op0y rfl rfl rfl (.lenR rfl rfl rfl rfl te_27.h) rfl rfl ?_ | refine AR.op0y rfl rfl rfl (.len rfl rfl rfl rfl rfl te_27.h) rfl rfl ?_ | refine AR.opN rfl rfl (by simp [boolOf]) rfl rfl ?_
     refine AR.op0y rfl rfl rfl (.bin rfl rfl (vT binI_lss (decide_eq_true (by omega)))) rfl rfl ?_
     refine a_z ?_
     refine AWp.cond rfl (fun h => ?_) (fun h => ?_)
     rotate_left
     ·cases h
     refine AWp.skip ?_
     refine AWp.seq ?_
     refine AWp.block ?_
     refine r_c 3 (hi0) ?_
     refine a_z ?_
     refine AWp.seq ?_
     refine s_r 4 ?_
     refine a_3 ?_
     refine o_0 (.bin rfl rfl (vF binI_lss (decide_eq_false (by omega)))) ?_
     refine AR.nil ?_
     refine AWp.cond rfl (fun h => ?_) (fun h => ?_)
     ·cases h
     refine AWp.skip ?_
     refine AWp.seq ?_
     refine s_r 4 ?_
     refine a_3 ?_
     refine o_0 (.bin rfl rfl (vT binI_lss (decide_eq_true (by omega)))) ?_
     refine AR.nil ?_
     refine AWp.cond rfl (fun h => ?_) (fun h => ?_)
     rotate_left
     ·cases h
     refine AWp.regD hmix (m := 7) rfl ?_
     refine a_3 ?_
     first | refine AR.op0 (.index_l rfl rfl (by omega) (by omega) te_27.h) rfl rfl ?_ | refine AR.op0 (.index_a rfl rfl (by omega) hgy rfl te_27.h) rfl rfl ?_
     first | refine AR.op0 (.load_l rfl rfl hgy tg_75.h ts_75.h (nle rfl)) rfl rfl ?_ | refine AR.op0 (.load_a rfl hgy tg_75.h ts_75.h (nle rfl)) rfl rfl ?_
     refine c_s (m2) ?_
     refine a_1 ?_
     refine AR.nil ⟨by kernel_rfl, ?_⟩
     refine AWp.reg (m := 5) rfl ?_
     refine a_z ?_
     refine AWp.reg (m := 3) rfl ?_
     refine a_z ?_
     refine ⟨j + 1, by omega, by omega, ?_⟩
     rw [hrp, oS_cons]
     have e : rE (q :: Q) ++ [rC (rq c)] = rE (q :: (Q ++ [rq c])) := by simp [rE]
     refine SEnt.to [(1, 5)] rfl rfl rfl ?_ (fun hs => au_f) (fun hs => ?_)
     ·repeat' (first | exact ShrL.nil | refine ShrL.cons rfl rfl rfl rfl (by first | (simp) | rfl | (simp; done) | (simp <;> omega)) ?_)
     ·repeat' (first | exact CvH.nil | refine CvH.cons rfl rfl rfl rfl ?_ ?_)
      all_goals (first | (exact CvLL.cloE hs e (closed_rE _)) | exact au_e)
   ·have hge : V.take j = V := List.take_of_length_le (by omega)
    rw [hge]
    cases hQ : rP V with
    | nil =>
     simp only [oS_nil]
     refine AWp.seq ?_
     refine s_r 10 ?_
     refine a_3 ?_
     refine o_0 (.bin rfl rfl (vF binI_lss (decide_eq_false (by omega)))) ?_
     refine a_1 ?_
     first | refine AR.op0y rfl rfl rfl (.move rfl) rfl rfl ?_ | refine AR.opN rfl rfl (by simp [boolOf]) rfl rfl ?_
     first | refine AR.op0y rfl rfl rfl (.move rfl) rfl rfl ?_ | refine AR.opN rfl rfl (by simp [boolOf]) rfl rfl ?_
     first | refine AR.op0y rfl rfl rfl (.lenD rfl rfl rfl rfl te_27.h) rfl rfl ?_ | refine AR.op0y rfl rfl rfl (.lenI rfl rfl rfl rfl te_27.h) rfl rfl ?_ | refine AR.op0y rfl rfl rfl (.lenP rfl rfl rfl rfl te_27.h) rfl rfl ?_ | refine AR.op0y rfl rfl rfl (.lenC rfl rfl rfl rfl te_27.h) rfl rfl ?_ | refine AR.op0y rfl rfl rfl (.lenR rfl rfl rfl rfl te_27.h) rfl rfl ?_ | refine AR.op0y rfl rfl rfl (.len rfl rfl rfl rfl rfl te_27.h) rfl rfl ?_ | refine AR.opN rfl rfl (by simp [boolOf]) rfl rfl ?_
     refine AR.op0y rfl rfl rfl (.bin rfl rfl (vF binI_lss (decide_eq_false (by omega)))) rfl rfl ?_
     refine a_z ?_
     refine AWp.cond rfl (fun h => ?_) (fun h => ?_)
     ·cases h
     refine AWp.exit ⟨(), trivial, ?_⟩
     exact s_e []
    | cons q Q =>
     simp only [oS_cons]
     refine AWp.seq ?_
     refine s_r 10 ?_
     refine a_3 ?_
     refine o_0 (.bin rfl rfl (vF binI_lss (decide_eq_false (by omega)))) ?_
     refine a_1 ?_
     first | refine AR.op0y rfl rfl rfl (.move rfl) rfl rfl ?_ | refine AR.opN rfl rfl (by simp [boolOf]) rfl rfl ?_
     first | refine AR.op0y rfl rfl rfl (.move rfl) rfl rfl ?_ | refine AR.opN rfl rfl (by simp [boolOf]) rfl rfl ?_
     first | refine AR.op0y rfl rfl rfl (.lenD rfl rfl rfl rfl te_27.h) rfl rfl ?_ | refine AR.op0y rfl rfl rfl (.lenI rfl rfl rfl rfl te_27.h) rfl rfl ?_ | refine AR.op0y rfl rfl rfl (.lenP rfl rfl rfl rfl te_27.h) rfl rfl ?_ | refine AR.op0y rfl rfl rfl (.lenC rfl rfl rfl rfl te_27.h) rfl rfl ?_ | refine AR.op0y rfl rfl rfl (.lenR rfl rfl rfl rfl te_27.h) rfl rfl ?_ | refine AR.op0y rfl rfl rfl (.len rfl rfl rfl rfl rfl te_27.h) rfl rfl ?_ | refine AR.opN rfl rfl (by simp [boolOf]) rfl rfl ?_
     refine AR.op0y rfl rfl rfl (.bin rfl rfl (vF binI_lss (decide_eq_false (by omega)))) rfl rfl ?_
     refine a_z ?_
     refine AWp.cond rfl (fun h => ?_) (fun h => ?_)
     ·cases h
     refine AWp.exit ⟨(), trivial, ?_⟩
     refine SEnt.to [(1, 5)] rfl rfl rfl au_r (fun hs => au_f) (fun hs => ?_)
     ·repeat' (first | exact CvH.nil | refine CvH.cons rfl rfl rfl rfl ?_ ?_)
      all_goals (first | (exact CvLL.clo hs (closed_rE _)) | exact au_e)
 rintro _ _
 have htr := fs_rTrim (rP V) (by simp; omega)
 rw [trimR_rP] at htr
 cases hQ : rP V with
 | nil =>
  rw [hQ] at htr
  simp only [oS_nil]
  refine r_c 3 (htr) ?_
  refine a_z ?_
  refine AWp.ret ?_
  refine Fin.tmpE rfl ?_ ?_
  ·rw [hV]; rfl
  ·exact closed_rEA _
 | cons q Q =>
  rw [hQ] at htr
  simp only [oS_cons]
  refine s_r 3 ?_
  refine a_1 ?_
  refine o_1 (.callS1 rfl rfl rfl (.shut rfl (by first | exact nle rfl | (simp; done) | (simp; omega)) (.nil)) rfl ((FSpec.argE htr (by rw [List.drop_zero]; exact List.take_of_length_le (by simp))))) ?_
  refine a_z ?_
  refine AWp.ret ?_
  refine Fin.tmpE rfl ?_ ?_
  ·rw [hV]; rfl
  ·exact closed_rEA _
theorem rq_neg_one : rq (((-1 : Int)) : Rat) = rq (-1) := rfl
theorem fs_rSubP (x y : List RQ) (s t : Nat) (hx : okX x) (hy : okX y) (hs : bdL (vR x) s) (ht : bdL (vR y) t) (ht1 : 1 ≤ t) (hlim : s + t + 128 ≤ 1099511627776) (hxl : x.length ≤ 1000000) (hyl : y.length ≤ 1000000) : FSpec Tryz.prog 45 [.arr (rE x), .arr (rE y)] (.arr (rE (rP (subP (vR x) (vR y))))) := by
 have h1 := fs_rInt (-1) (by decide)
 rw [rq_neg_one] at h1
 have q1 : qs (rq (-1)).1 ≤ 64 := by decide
 have h2 := fs_rScale y (rq (-1)) t hy (rok_rq _) ht (by omega) hyl
 have hb : bdL (vR (rP (scaleP (vR y) (rq (-1)).1))) t := by
  rw [vR_rP]
  exact bdL_neg ht ht1
 have hlen : (rP (scaleP (vR y) (rq (-1)).1)).length ≤ y.length := by
  have := trimQ_len (tabP (vR y).length fun i => coP (vR y) i * (rq (-1)).1)
  rw [rP_length]; unfold scaleP; simp at this ⊢; exact this
 have h3 := fs_rAddP x (rP (scaleP (vR y) (rq (-1)).1)) s t hx (okX_rP _) hs hb (by omega) hxl (by omega)
 rw [vR_rP] at h3
 refine FSpec.enter Tryz.func45 rfl (by kernel_rfl) rfl rfl rfl ?_ rfl ?_
 ·exact closed_cons (closed_rEA x) (closed_cons (closed_rEA y) closed_nil)
 refine r_z 1 ?_
 refine r_c 6 (h1) ?_
 refine c_s (h2) ?_
 refine c_s (h3) ?_
 refine a_z ?_
 refine AWp.ret ?_
 refine Fin.tmpE rfl ?_ ?_
 ·rfl
 ·exact closed_rEA _
theorem okX_append {x y : List RQ} (hx : okX x) (hy : okX y) : okX (x ++ y) := fun z hz => (List.mem_append.1 hz).elim (hx z) (hy z)
theorem okX_zeros (n : Nat) : okX (List.replicate n r0) := fun z hz => by rw [List.eq_of_mem_replicate hz]; exact rok_r0
theorem vR_append (x y : List RQ) : vR (x ++ y) = vR x ++ vR y := by simp [vR]
theorem vR_zeros (n : Nat) : vR (List.replicate n r0) = List.replicate n 0 := by simp [vR, r0]
def zR4 : List AV := [i64 0, .emp, i64 0, .emp]
theorem le_zR4 : LeL zR4 (rC r0) := by
 rw [show rC r0 = [i64 0, .arr [], i64 0, .arr []] from rC_r0]
 exact .cons (.refl _) (.cons .emp (.cons (.refl _) (.cons .emp .nil)))
theorem closed_zR4 : ∀ c ∈ zR4, Closed c := closed_cons (closed_v _) (closed_cons closed_emp (closed_cons (closed_v _) (closed_cons closed_emp closed_nil)))
theorem leLL_zeros (L : List RQ) : ∀ n, LeLL (List.replicate n zR4 ++ rE L) (rE (List.replicate n r0 ++ L))
 | 0 => LeLL.refl _
 | n + 1 => .cons le_zR4 (leLL_zeros L n)
theorem closed_zeros (n : Nat) (L : List RQ) : Closed (.arr (List.replicate n zR4 ++ rE L)) := closed_arr fun c hc => (List.mem_append.1 hc).elim (fun h => by rw [List.eq_of_mem_replicate h]; exact closed_zR4) (closed_rE L c)
theorem FSpec.zerosR {P : Program} {f n : Nat} {L : List RQ} {a r : AV} (h : FSpec P f [a, .arr (rE (List.replicate n r0 ++ L))] r) (ha : Closed a) : FSpec P f [a, .arr (List.replicate n zR4 ++ rE L)] r :=
 h.weak (.cons (Le.refl _) (.cons (Le.arr (leLL_zeros L n)) .nil)) (closed_cons ha (closed_cons (closed_zeros n L) closed_nil))
theorem zR4_one (n : Nat) : (List.replicate n zR4).all (·.all AV.one) = true := by
 simp only [List.all_replicate]
 cases n <;> rfl
theorem fs_rMulP (x y : List RQ) (s t B : Nat) (hx : okX x) (hy : okX y) (hs : bdL (vR x) s) (ht : bdL (vR y) t) (hs1 : 1 ≤ s) (hB : ∀ n, n ≤ y.length → bdL (mR (vR x) (vR y) n) B) (hlim : s + t + B + 64 ≤ 1099511627776) (hxl : x.length ≤ 100000) (hyl : y.length ≤ 100000) : FSpec Tryz.prog 46 [.arr (rE x), .arr (rE y)] (.arr (rE (rP (mulP (vR x) (vR y))))) := by
 obtain ⟨m, hm⟩ : ∃ m, m = mR (vR x) (vR y) := ⟨_, rfl⟩
 rw [← hm] at hB
 refine FSpec.enter Tryz.func46 rfl (by kernel_rfl) rfl rfl rfl ?_ rfl ?_
 ·exact closed_cons (closed_rEA x) (closed_cons (closed_rEA y) closed_nil)
 refine r_z 1 ?_
 refine r_z 1 ?_
 refine AWp.seq ?_
 refine r_z 1 ?_
 refine AWp.cutT (fun _ : Unit => ⟨[(5, .arr (rE (rP (m y.length)))), (0, .arr (rE x)), (1, .arr (rE y))], [], 1, 25⟩) (fun _ => True) ?_ ?_
 ·refine AWp.block ?_
  refine AWp.loopS (fun j : Nat => ⟨[(6, i64 ((j : Nat) : Int)), (5, .arr (rE (rP (m j)))), (0, .arr (rE x)), (1, .arr (rE y))], [], 1, 25⟩) (fun j => y.length - j) (fun j => j ≤ y.length) 0 (Nat.zero_le _) ?_ ?_
  ·rw [hm]
   exact s_e []
  rintro j hj
  by_cases hlt : j < y.length
  ·obtain ⟨b, hb, hbv⟩ := vR_get (x := y) (i := j) hlt
   have hbb := vR_bd ht hb
   have hbo := hy b (List.mem_of_getElem? hb)
   have hgt : (rE y)[((j : Nat) : Int).toNat]? = some (rC b) := rE_get hb
   have h1 := fs_rScale x b s hx hbo hs (by omega) (by omega)
   have hl1 := mR_len (vR x) (vR y) j
   rw [← hm, vR_length] at hl1
   have hl2 := scaleP_len (vR x) b.1
   rw [vR_length] at hl2
   have hz : bdL (vR (List.replicate j r0 ++ rP (scaleP (vR x) b.1))) (s + qs b.1) := by
    rw [vR_append, vR_zeros, vR_rP]
    intro q hq
    rcases List.mem_append.1 hq with h | h
    ·rw [List.eq_of_mem_replicate h]
     have : qs 0 = 1 := by decide
     omega
    ·exact bdL_scaleP hs hs1 q h
   have h2 := fs_rAddP (rP (m j)) (List.replicate j r0 ++ rP (scaleP (vR x) b.1)) B (s + qs b.1) (okX_rP _) (okX_append (okX_zeros _) (okX_rP _)) (by rw [vR_rP]; exact hB j (by omega)) hz (by omega) (by rw [rP_length]; omega) (by rw [List.length_append, List.length_replicate, rP_length]; omega)
   have hnx : addP (vR (rP (m j))) (vR (List.replicate j r0 ++ rP (scaleP (vR x) b.1))) = m (j + 1) := by
    rw [vR_rP, vR_append, vR_zeros, vR_rP, hm, mR, ← hbv]; rfl
   rw [hnx] at h2
   refine AWp.seq ?_
   refine s_r 4 ?_
   refine a_3 ?_
   refine o_0 (.bin rfl rfl (vT binI_lss (decide_eq_true (by omega)))) ?_
   refine AR.nil ?_
   refine AWp.cond rfl (fun h => ?_) (fun h => ?_)
   rotate_left
   ·cases h
   refine AWp.skip ?_
   refine AWp.seq ?_
   refine AWp.block ?_
   have h3 := FSpec.zerosR h2 (closed_rEA _)
   refine AWp.regD hmix (m := 12) rfl ?_
   refine a_6 ?_
   first | refine AR.op0 (.index_l rfl rfl (by omega) (by omega) te_27.h) rfl rfl ?_ | refine AR.op0 (.index_a rfl rfl (by omega) hgt rfl te_27.h) rfl rfl ?_
   first | refine AR.op0 (.load_l rfl rfl hgt tg_75.h ts_75.h (nle rfl)) rfl rfl ?_ | refine AR.op0 (.load_a rfl hgt tg_75.h ts_75.h (nle rfl)) rfl rfl ?_
   refine c_s (h1) ?_
   refine o_2 (.append_l rfl rfl rfl te_27.h rfl rfl rfl rfl rfl (by first | rfl | assumption | (simp; done) | (simp; omega) | omega) (zR4_one _) (rE_one _) rfl (.arr (rE_len4 _)) tz_75.h rfl tb_75.h (by first | rfl | assumption | (simp; done) | (simp; omega) | omega) (by first | (simp [maxLen]; done) | (simp [maxLen]; omega))) ?_
   refine o_1 (.callS1 rfl rfl rfl (.keep (.shut rfl (by first | exact nle rfl | (simp; done) | (simp; omega)) (.nil))) rfl ((FSpec.argE2 h3 (by rw [List.drop_zero]; exact List.take_of_length_le (by simp))))) ?_
   refine a_1 ?_
   refine AR.nil ⟨by kernel_rfl, ?_⟩
   refine AWp.reg (m := 3) rfl ?_
   refine a_z ?_
   refine ⟨j + 1, by omega, hlt, ?_⟩
   exact s_e []
  ·have hge : j = y.length := by omega
   subst hge
   refine AWp.seq ?_
   refine s_r 4 ?_
   refine a_3 ?_
   refine o_0 (.bin rfl rfl (vF binI_lss (decide_eq_false (by omega)))) ?_
   refine AR.nil ?_
   refine AWp.cond rfl (fun h => ?_) (fun h => ?_)
   ·cases h
   refine AWp.exit ⟨(), trivial, ?_⟩
   exact s_e []
 rintro _ _
 refine r_z 2 ?_
 refine AWp.ret ?_
 have e : m y.length = mulP (vR x) (vR y) := by rw [hm, ← mR_mul, vR_length]
 rw [e]
 refine Fin.tmpE rfl ?_ ?_
 ·rfl
 ·exact closed_rEA _
end Go.Proofs.YtdhedjbmdnnbkaaGreatDoor
