/- Part 18 of the proof. -/
import Derived.Test.YtdhedjbmdnnbkaaGreatDoorQ17
import Derived.ProofKit
import Derived.OpenShut
import Derived.Carry
import Derived.Deep.Slices
import Derived.Deep.Strs
import Derived.Test.YtdhedjbmdnnbkaaGreatDoorRows
import Derived.JoinedOf
import Derived.SevenTiedAt
set_option linter.all false
namespace Go.Proofs.YtdhedjbmdnnbkaaGreatDoor
open Go.Abs
set_option maxRecDepth 100000
set_option maxHeartbeats 2000000
inductive LeLL : List (List AV) → List (List AV) → Prop
 | nil : LeLL [] []
 | cons {e e' es es'} : LeL e e' → LeLL es es' → LeLL (e :: es) (e' :: es')
theorem leL_len {xs ys : List AV} (h : LeL xs ys) : ys.length = xs.length := by
 induction h with
 | nil => rfl
 | cons _ _ ih => simp [ih]
theorem leL_cs {M : Nat → Prop} {β : Nat → Option (Nat × Nat)} {w : World} {b : Nat} {xs ys : List AV} (h : LeL xs ys) : ∀ {off : Nat}, RVcs M β w b xs off → RVcs M β w b ys off := by
 induction h with
 | nil => exact fun h => h
 | cons h1 _ ih => rintro off ⟨⟨x, hx, hr⟩, hs⟩; exact ⟨⟨x, hx, h1 M β w x hr⟩, ih hs⟩
theorem LeLL.ess {M : Nat → Prop} {β : Nat → Option (Nat × Nat)} {w : World} {b s : Nat} {es es' : List (List AV)} (h : LeLL es es') : ∀ {off : Nat}, RVess M β w b s es off → RVess M β w b s es' off := by
 induction h with
 | nil => exact fun h => h
 | cons h1 _ ih => rintro off ⟨h0, hc, hr⟩; exact ⟨(leL_len h1).trans h0, leL_cs h1 hc, ih hr⟩
theorem LeLL.length {es es' : List (List AV)} (h : LeLL es es') : es'.length = es.length := by
 induction h with
 | nil => rfl
 | cons _ _ ih => simp [ih]
theorem Le.arr {es es' : List (List AV)} (h : LeLL es es') : Le (.arr es) (.arr es') := by
 rintro M β w y ⟨a, c, rfl, h1, h2, h3⟩
 refine ⟨a, c, by rw [h.length], by rw [h.length]; exact h1, h2, h3.imp (fun e => ?_) ?_⟩
 ·subst e; cases h; rfl
 ·rintro ⟨b, off, s, rfl, hN, hm, hr⟩
  exact ⟨b, off, s, rfl, hN, hm, h.ess hr⟩
theorem LeLL.refl : ∀ es, LeLL es es
 | [] => .nil
 | e :: es => .cons (LeL.refl e) (LeLL.refl es)
section
variable {P : Go.Program} {T : Nat} {x y : Operand}
theorem binS_tt {s : ByteArray} : ∀ w, (do eqGuard .eql T x y (.string s) (.string s); binOp .eql T (.string s) (.string s) : Sem Value).run P w = .ok (.bool true) w := fun w => by
 rw [binS_eql]; simp
end
theorem fs_wakes : FSpec Tryz.prog 14 [] (.v (.bool true)) := by
 have i1 := fs_ints [-2, 0, 1] (by decide) (by decide)
 rw [show zR [-2, 0, 1] = twoP by decide] at i1
 have i2 := fs_ints [-1, 0, 1] (by decide) (by decide)
 rw [show zR [-1, 0, 1] = [-1, 0, 1] by decide] at i2
 have i3 := fs_ints [2, 1] (by decide) (by decide)
 rw [show zR [2, 1] = [2, 1] by decide] at i3
 have i4 := fs_ints [0, 0, 1] (by decide) (by decide)
 rw [show zR [0, 0, 1] = [0, 0, 1] by decide] at i4
 have i5 := fs_ints [-3, 0, 1] (by decide) (by decide)
 rw [show zR [-3, 0, 1] = [-3, 0, 1] by decide] at i5
 have hdiv := fs_Divide [-1, 0, 1] [2, 1] w_div.2.1 w_div.2.2
 rw [w_div.1] at hdiv
 obtain ⟨c, hc1, hc2, hc3⟩ : ∃ c, placeM 40 twoP = some c ∧ 1 < allV c ∧ spanM 40 c 1 4 = some (mkRat 11 8, mkRat 23 16) := by
  have h := w_span
  unfold spanChk at h
  split at h
  ·rename_i c hc; exact ⟨c, hc, of_decide_eq_true h⟩
  ·cases h
 have hspan := fs_RSpan 40 twoP 1 4 c (mkRat 11 8, mkRat 23 16) hc1 (by decide) (by decide) hc2 hc3
 have n1 := fs_Int (-1) (by decide)
 rw [show ((-1 : Int) : Rat) = -1 by decide] at n1
 have n2 := fs_Int 2 (by decide)
 rw [show ((2 : Int) : Rat) = 2 by decide] at n2
 have n3 := fs_Int 1 (by decide)
 rw [show ((1 : Int) : Rat) = 1 by decide] at n3
 have hrange := fs_Range 40 40 twoP (-1, 2) 0 (-2, 2) w_range (by decide)
 have hfirst := fs_ToFirst 10 [0, 0, 1] [mkRat 1 2, 0, mkRat 1 2] w_first
 have hof := fs_Of (-3) 2 (by decide) (by decide) (by decide)
 rw [show (((-3 : Int) : Rat) / ((2 : Int) : Rat)) = mkRat (-3) 2 by decide +kernel] at hof
 have t1 := fs_PText [1, mkRat (-3) 2, 0, 1] w_text1.2
 rw [w_text1.1] at t1
 have t1' : FSpec Tryz.prog 65 [.arr [qC 1, qC (mkRat (-3) 2), zC, qC 1]] (tx [120, 94, 51, 32, 45, 32, 51, 47, 50, 32, 120, 32, 43, 32, 49]) := by
  refine t1.weak (.cons (Le.arr (.cons (.refl _) (.cons (.refl _) (.cons le_zC (.cons (.refl _) .nil))))) .nil) ?_
  refine closed_cons (closed_arr ?_) closed_nil
  intro e he
  simp at he
  rcases he with rfl | rfl | rfl | rfl
  ·exact closed_qC _
  ·exact closed_qC _
  ·exact closed_zC
  ·exact closed_qC _
 have t2 := fs_PText [-2, 1] w_text2.2
 rw [w_text2.1] at t2
 have t3 := fs_PText [3] w_text3.2
 rw [w_text3.1] at t3
 have s1 := fs_SText (mkRat 11 8, mkRat 23 16) w_sp.2.1 w_sp.2.2.1
 rw [w_sp.1] at s1
 have s2 := fs_SText (-2, 2) w_sp.2.2.2.2.1 w_sp.2.2.2.2.2
 rw [w_sp.2.2.2.1] at s2
 have q1 := fs_QText (mkRat 1 2) w_q.2.1
 rw [w_q.1] at q1
 have q2 := fs_QText 1 w_q.2.2.2
 rw [w_q.2.2.1] at q2
 have hres := fs_Resultant 10 twoP [-3, 0, 1] 1 w_res
 refine FSpec.enter Tryz.func14 rfl (by kernel_rfl) rfl rfl rfl ?_ rfl ?_
 ·exact closed_nil
 refine r_z 1 ?_
 refine s_r 3 ?_
 refine a_1 ?_
 refine o_1 (.callS1 rfl rfl rfl (.shut rfl (by first | exact nle rfl | (simp; done) | (simp; omega)) (.nil)) rfl (i1)) ?_
 refine a_z ?_
 refine s_r 12 ?_
 refine a_1 ?_
 refine o_1 (.callS1 rfl rfl rfl (.shut rfl (by first | exact nle rfl | (simp; done) | (simp; omega)) (.nil)) rfl (i2)) ?_
 refine a_1 ?_
 refine o_1 (.callS1 rfl rfl rfl (.shut rfl (by first | exact nle rfl | (simp; done) | (simp; omega)) (.nil)) rfl (i3)) ?_
 refine c_s (hdiv) ?_
 refine a_z ?_
 refine r_c 9 (hspan) ?_
 refine a_z ?_
 refine r_c 11 (n1) ?_
 refine c_s (n2) ?_
 refine c_s (hrange) ?_
 refine a_z ?_
 refine s_r 8 ?_
 refine a_1 ?_
 refine o_1 (.callS1 rfl rfl rfl (.shut rfl (by first | exact nle rfl | (simp; done) | (simp; omega)) (.nil)) rfl (i4)) ?_
 refine c_s (hfirst) ?_
 refine a_z ?_
 refine r_c 7 (hof) ?_
 refine a_z ?_
 refine AWp.seq ?_
 refine AWp.regD hmix (m := 64) rfl ?_
 refine c_s (n3) ?_
 refine c_s (n3) ?_
 refine o_1 (.buildSlice te_25.h tz_37.h rfl (by decide) rfl rfl rfl (by simp [setAt_length, ofV])) ?_
 refine o_1 (.callS1 rfl rfl rfl (.shut rfl (by first | exact nle rfl | (simp; done) | (simp; omega)) (.nil)) rfl (t1')) ?_
 refine o_0 (.bin rfl rfl binS_tt) ?_
 refine a_1 ?_
 refine AR.op0y rfl rfl (gy rfl) (.move rfl) rfl rfl ?_
 refine AR.op0y rfl rfl (gy rfl) (.bin rfl rfl binI_eql) rfl rfl ?_
 refine o_0 (.pickT rfl rfl rfl) ?_
 refine a_1 ?_
 refine AR.op0y rfl rfl (gy rfl) (.move rfl) rfl rfl ?_
 refine AR.op0y rfl rfl (gy rfl) (.call rfl rfl rfl (t2)) rfl rfl ?_
 refine AR.op0y rfl rfl (gy rfl) (.bin rfl rfl binS_tt) rfl rfl ?_
 refine o_0 (.pickT rfl rfl rfl) ?_
 refine a_1 ?_
 refine AR.op0y rfl rfl (gy rfl) (.move rfl) rfl rfl ?_
 refine AR.op0y rfl rfl (gy rfl) (.call rfl rfl rfl (t3)) rfl rfl ?_
 refine AR.op0y rfl rfl (gy rfl) (.bin rfl rfl binS_tt) rfl rfl ?_
 refine o_0 (.pickT rfl rfl rfl) ?_
 refine a_1 ?_
 refine AR.op0y rfl rfl (gy rfl) (.move rfl) rfl rfl ?_
 refine AR.op0y rfl rfl (gy rfl) (.bin rfl rfl binI_eql) rfl rfl ?_
 refine o_0 (.pickT rfl rfl rfl) ?_
 refine a_1 ?_
 first | refine AR.op0y rfl rfl (gy rfl) (.load_l rfl rfl rfl tg_65.h ts_65.h (nle rfl)) rfl rfl ?_ | refine AR.op0y rfl rfl (gy rfl) (.load_a rfl rfl tg_65.h ts_65.h (nle rfl)) rfl rfl ?_
 refine AR.op0y rfl rfl (gy rfl) (.call rfl rfl rfl (s1)) rfl rfl ?_
 refine AR.op0y rfl rfl (gy rfl) (.bin rfl rfl binS_tt) rfl rfl ?_
 refine o_0 (.pickT rfl rfl rfl) ?_
 refine a_1 ?_
 refine AR.op0y rfl rfl (gy rfl) (.move rfl) rfl rfl ?_
 refine AR.op0y rfl rfl (gy rfl) (.bin rfl rfl binI_eql) rfl rfl ?_
 refine o_0 (.pickT rfl rfl rfl) ?_
 refine a_1 ?_
 first | refine AR.op0y rfl rfl (gy rfl) (.load_l rfl rfl rfl tg_65.h ts_65.h (nle rfl)) rfl rfl ?_ | refine AR.op0y rfl rfl (gy rfl) (.load_a rfl rfl tg_65.h ts_65.h (nle rfl)) rfl rfl ?_
 refine AR.op0y rfl rfl (gy rfl) (.call rfl rfl rfl (s2)) rfl rfl ?_
 refine AR.op0y rfl rfl (gy rfl) (.bin rfl rfl binS_tt) rfl rfl ?_
 refine o_0 (.pickT rfl rfl rfl) ?_
 refine a_1 ?_
 refine AR.op0y rfl rfl (gy rfl) (.move rfl) rfl rfl ?_
 refine AR.op0y rfl rfl (gy rfl) (.bin rfl rfl binI_eql) rfl rfl ?_
 refine o_0 (.pickT rfl rfl rfl) ?_
 refine a_1 ?_
 refine AR.op0y rfl rfl (gy rfl) (.move rfl) rfl rfl ?_
 first | refine AR.op0y rfl rfl (gy rfl) (.lenD rfl rfl rfl rfl te_24.h) rfl rfl ?_ | refine AR.op0y rfl rfl (gy rfl) (.lenI rfl rfl rfl rfl te_24.h) rfl rfl ?_ | refine AR.op0y rfl rfl (gy rfl) (.lenP rfl rfl rfl rfl te_24.h) rfl rfl ?_ | refine AR.op0y rfl rfl (gy rfl) (.lenC rfl rfl rfl rfl te_24.h) rfl rfl ?_ | refine AR.op0y rfl rfl (gy rfl) (.lenR rfl rfl rfl rfl te_24.h) rfl rfl ?_ | refine AR.op0y rfl rfl (gy rfl) (.len rfl rfl rfl rfl rfl te_24.h) rfl rfl ?_
 refine AR.op0y rfl rfl (gy rfl) (.bin rfl rfl binI_eql) rfl rfl ?_
 refine o_0 (.pickT rfl rfl rfl) ?_
 refine a_1 ?_
 refine AR.op0y rfl rfl (gy rfl) (.move rfl) rfl rfl ?_
 first | refine AR.op0y rfl rfl (gy rfl) (.index_l rfl rfl (by omega) (by omega) te_24.h) rfl rfl ?_ | refine AR.op0y rfl rfl (gy rfl) (.index_a rfl rfl (by omega) rfl rfl te_24.h) rfl rfl ?_
 first | refine AR.op0y rfl rfl (gy rfl) (.load_l rfl rfl rfl tg_37.h ts_37.h (nle rfl)) rfl rfl ?_ | refine AR.op0y rfl rfl (gy rfl) (.load_a rfl rfl tg_37.h ts_37.h (nle rfl)) rfl rfl ?_
 refine AR.op0y rfl rfl (gy rfl) (.call rfl rfl rfl (q1)) rfl rfl ?_
 refine AR.op0y rfl rfl (gy rfl) (.bin rfl rfl binS_tt) rfl rfl ?_
 refine o_0 (.pickT rfl rfl rfl) ?_
 refine a_1 ?_
 refine AR.op0y rfl rfl (gy rfl) (.move rfl) rfl rfl ?_
 refine AR.op1y rfl rfl (gy rfl) (.buildSlice te_200.h tz_2.h rfl (by decide) rfl rfl rfl (by first | (simp; done) | (simp [setAt_length, ofV]; done) | rfl)) rfl rfl ?_
 refine AR.op1y rfl rfl (gy rfl) (.callS1 rfl rfl rfl (.shut rfl (by first | exact nle rfl | (simp; done) | (simp; omega)) (.nil)) rfl (i5)) rfl rfl ?_
 refine AR.op0y rfl rfl (gy rfl) (.call rfl rfl rfl (hres)) rfl rfl ?_
 refine AR.op0y rfl rfl (gy rfl) (.call rfl rfl rfl (q2)) rfl rfl ?_
 refine AR.op0y rfl rfl (gy rfl) (.bin rfl rfl binS_tt) rfl rfl ?_
 refine o_0 (.pickT rfl rfl rfl) ?_
 refine a_1 ?_
 refine AR.nil ⟨by kernel_rfl, ?_⟩
 refine AWp.ret ?_
 refine Fin.tmpE rfl ?_ ?_
 ·rfl
 ·exact closed_v _
abbrev NRow := Int × Int × Nat
def nV (r : NRow) : Rat := numV r.1 r.2.1 r.2.2
def nR (l : List NRow) : List (List AV) := l.map fun r => nuC r.1 r.2.1 r.2.2
def nL (l : List NRow) : List Rat := l.map nV
abbrev rL (l : List Rat) : List (List AV) := rE (l.map rq)
def okR (l : List NRow) : Prop := ∀ r ∈ l, i64r r.1 ∧ i64r r.2.1 ∧ r.2.2 ≤ 255
theorem closed_nR (l : List NRow) : ∀ e ∈ nR l, ∀ c ∈ e, Closed c := by
 intro e he c hc
 obtain ⟨r, _, rfl⟩ := List.mem_map.1 he
 exact closed_nuC _ _ _ c hc
theorem closed_rL (l : List Rat) : ∀ e ∈ rL l, ∀ c ∈ e, Closed c := closed_rE _
theorem numV_qs {N D : Int} {p : Nat} (hN : i64r N) (hD : i64r D) : qs (numV N D p) ≤ 256 := by
 obtain ⟨d, hd⟩ : ∃ d, d = dNum D := ⟨_, rfl⟩
 have hd0 : d ≠ 0 := by rw [hd]; unfold dNum; split <;> omega
 have hdr : i64r d := by
  rw [hd]; unfold dNum i64r; unfold i64r at hD; split <;> omega
 unfold i64r at hN hdr
 obtain ⟨q, hq⟩ : ∃ q, q = Rat.divInt N d := ⟨_, rfl⟩
 have hnv : numV N D p = powQ q (p % 4) := by unfold numV; rw [← hd, ← hq]
 have hqs : qs q ≤ 64 := by
  have hb : ∀ z : Int, -9223372036854775808 ≤ z ∧ z ≤ 9223372036854775808 → bl z.natAbs ≤ 64 := fun z h => bl_le (k := 64) (by omega)
  rw [hq]
  by_cases hn : d < 0
  ·rw [divInt_neg N d hn]
   exact qs_mkRat (by omega) (hb (-N) (by omega)) (hb d (by omega))
  ·rw [divInt_pos N d (by omega)]
   exact qs_mkRat (by omega) (hb N (by omega)) (hb d (by omega))
 have h1 := powQ_qs q (p % 4)
 have h2 : (p % 4 + 1) * qs q ≤ 4 * 64 := Nat.mul_le_mul (by omega) hqs
 rw [hnv]; omega
theorem nL_qs {l : List NRow} (h : okR l) : ∀ q ∈ nL l, qs q ≤ 256 := by
 intro q hq
 obtain ⟨r, hr, rfl⟩ := List.mem_map.1 hq
 exact numV_qs (h r hr).1 (h r hr).2.1
def liS (l : List NRow) : List Rat → Nat → AState
 | [], i => ⟨[(0, .arr (nR l)), (4, .emp), (5, .emp), (6, i64 i)], [], 1, 33⟩
 | q :: Q, i => ⟨[(0, .arr (nR l)), (4, .lsl 1 0 (Q.length + 1) none 3), (5, .lsl 2 0 (Q.length + 1) none 4), (6, i64 i)], [(1, some ⟨37, 3, pE (q :: Q)⟩), (2, some ⟨75, 4, rL (q :: Q)⟩)], 3, 33⟩
theorem liS_nil (l : List NRow) (i : Nat) : liS l [] i = ⟨[(0, .arr (nR l)), (4, .emp), (5, .emp), (6, i64 i)], [], 1, 33⟩ := rfl
theorem liS_cons (l : List NRow) (q : Rat) (Q : List Rat) (i : Nat) : liS l (q :: Q) i = ⟨[(0, .arr (nR l)), (4, .lsl 1 0 (Q.length + 1) none 3), (5, .lsl 2 0 (Q.length + 1) none 4), (6, i64 i)], [(1, some ⟨37, 3, pE (q :: Q)⟩), (2, some ⟨75, 4, rL (q :: Q)⟩)], 3, 33⟩ := rfl
theorem fs_List (l : List NRow) (hl : l.length ≤ 1099511627776) (hb : okR l) : FSpec Tryz.prog 80 [.arr (nR l)] (.tup [.arr (pE (nL l)), .arr (rL (nL l))]) := by
 have hcr : ∀ q : Rat, ∀ e ∈ [rC (rq q)], ∀ c ∈ e, Closed c := fun q => closed_rL [q]
 refine FSpec.enter Tryz.func80 rfl (by kernel_rfl) rfl rfl rfl ?_ rfl ?_
 ·exact closed_cons (closed_arr (closed_nR l)) closed_nil
 refine r_z 2 ?_
 refine r_z 1 ?_
 refine r_z 1 ?_
 refine AWp.seq ?_
 refine r_z 1 ?_
 refine AWp.cutT (fun _ : Unit => liS l (nL l) l.length) (fun _ => True) ?_ ?_
 ·refine AWp.block ?_
  refine AWp.loopS (fun i : Nat => liS l (nL (l.take i)) i) (fun i => l.length - i) (fun i => i ≤ l.length) 0 (Nat.zero_le _) ?_ ?_
  ·show SEnt _ (liS l [] 0)
   rw [liS_nil]
   refine SEnt.to [] rfl rfl rfl au_r (fun hs => ?_) (fun hs => ?_)
   ·repeat' (first | exact CvF.nil | refine CvF.cons rfl ?_ ?_)
    all_goals (first | (exact Cv.clo hs (closed_arr (closed_nR l))) | exact au_c)
   ·repeat' (first | exact CvH.nil | refine CvH.cons rfl rfl rfl rfl ?_ ?_)
    all_goals (first | exact au_e | (refine CvLL.box ?_; repeat' (first | exact CvL.nil | refine CvL.cons ?_ ?_)))
    all_goals (first | (exact Cv.clo hs (closed_arr (closed_nR l))) | exact au_c)
  rintro i hi
  have hlen : (nR l).length = l.length := by simp [nR]
  by_cases hlt : i < l.length
  ·obtain ⟨n, hn⟩ : ∃ n, l[i]? = some n := ⟨_, List.getElem?_eq_getElem hlt⟩
   have hgt : (nR l)[((i : Nat) : Int).toNat]? = some (nuC n.1 n.2.1 n.2.2) := by
    show (nR l)[i]? = _
    simp [nR, hn]
   obtain ⟨hn1, hn2, hn3⟩ := hb n (List.mem_of_getElem? hn)
   have hbo := fs_Both1 n.1 n.2.1 n.2.2 hn1 hn2 hn3
   obtain ⟨v, hv⟩ : ∃ v, v = numV n.1 n.2.1 n.2.2 := ⟨_, rfl⟩
   rw [← hv] at hbo
   have htk : nL (l.take (i + 1)) = nL (l.take i) ++ [v] := by rw [take_snoc hn]; simp [nL, nV, hv]
   have hQl : (nL (l.take i)).length = i := by simp [nL]; omega
   cases hQ : nL (l.take i) with
   | nil =>
    simp only [liS_nil]
    refine AWp.seq ?_
    refine r_z 4 ?_
    refine AWp.cond rfl (fun h => ?_) (fun h => ?_)
    rotate_left
    ·exact absurd h (by simp [nR]; omega)
    refine AWp.skip ?_
    refine AWp.seq ?_
    refine AWp.block ?_
    refine s_r 12 ?_
    refine a_2 ?_
    first | refine AR.op0 (.index_l rfl rfl (by omega) (by omega) te_22.h) rfl rfl ?_ | refine AR.op0 (.index_a rfl rfl (by omega) hgt rfl te_22.h) rfl rfl ?_
    first | refine AR.op0 (.load_l rfl rfl hgt tg_82.h ts_82.h (nle rfl)) rfl rfl ?_ | refine AR.op0 (.load_a rfl hgt tg_82.h ts_82.h (nle rfl)) rfl rfl ?_
    refine c_s (hbo) ?_
    refine a_z ?_
    refine AWp.regD hmix (m := 10) rfl ?_
    refine a_8 ?_
    refine a_2 ?_
    refine AR.nil ⟨by kernel_rfl, ?_⟩
    refine AWp.reg (m := 3) rfl ?_
    refine a_z ?_
    refine ⟨i + 1, by omega, hlt, ?_⟩
    simp only [htk, hQ, List.nil_append, liS_cons]
    refine SEnt.to [(1, 4), (2, 5)] rfl rfl rfl au_r (fun hs => ?_) (fun hs => ?_)
    ·repeat' (first | exact CvF.nil | refine CvF.cons rfl ?_ ?_)
     all_goals (first | (exact Cv.clo hs (closed_arr (closed_nR l))) | exact au_c)
    ·repeat' (first | exact CvH.nil | refine CvH.cons rfl rfl rfl rfl ?_ ?_)
     all_goals (first | ((try exact CvLL.clo hs (closed_pE [v])); (try exact CvLL.clo hs (closed_rL [v]))) | exact au_e | (refine CvLL.box ?_; repeat' (first | exact CvL.nil | refine CvL.cons ?_ ?_)))
     all_goals (first | (exact Cv.clo hs (closed_arr (closed_nR l))) | exact au_c)
   | cons q Q =>
    rw [hQ] at hQl
    simp at hQl
    simp only [liS_cons]
    refine AWp.seq ?_
    refine r_z 4 ?_
    refine AWp.cond rfl (fun h => ?_) (fun h => ?_)
    rotate_left
    ·exact absurd h (by simp [nR]; omega)
    refine AWp.skip ?_
    refine AWp.seq ?_
    refine AWp.block ?_
    refine s_r 12 ?_
    refine a_2 ?_
    first | refine AR.op0 (.index_l rfl rfl (by omega) (by omega) te_22.h) rfl rfl ?_ | refine AR.op0 (.index_a rfl rfl (by omega) hgt rfl te_22.h) rfl rfl ?_
    first | refine AR.op0 (.load_l rfl rfl hgt tg_82.h ts_82.h (nle rfl)) rfl rfl ?_ | refine AR.op0 (.load_a rfl hgt tg_82.h ts_82.h (nle rfl)) rfl rfl ?_
    refine c_s (hbo) ?_
    refine a_z ?_
    refine AWp.regD hmix (m := 10) rfl ?_
    refine a_8 ?_
    refine a_2 ?_
    refine AR.nil ⟨by kernel_rfl, ?_⟩
    refine AWp.reg (m := 3) rfl ?_
    refine a_z ?_
    refine ⟨i + 1, by omega, hlt, ?_⟩
    simp only [htk, hQ, List.cons_append, liS_cons]
    have e : pE (q :: Q) ++ [qC v] = pE (q :: (Q ++ [v])) := by simp [pE]
    have e2 : rL (q :: Q) ++ [rC (rq v)] = rL (q :: (Q ++ [v])) := by simp [rE]
    refine SEnt.to [(1, 4), (2, 5)] rfl rfl rfl ?_ (fun hs => ?_) (fun hs => ?_)
    ·repeat' (first | exact ShrL.nil | refine ShrL.cons rfl rfl rfl rfl (by first | (simp) | rfl | (simp; done) | (simp <;> omega)) ?_)
    ·repeat' (first | exact CvF.nil | refine CvF.cons rfl ?_ ?_)
     all_goals (first | (exact Cv.clo hs (closed_arr (closed_nR l))) | exact au_c)
    ·repeat' (first | exact CvH.nil | refine CvH.cons rfl rfl rfl rfl ?_ ?_)
     all_goals (first | ((try exact CvLL.cloE hs e (closed_pE _)); (try exact CvLL.cloE hs e2 (closed_rL _))) | exact au_e | (refine CvLL.box ?_; repeat' (first | exact CvL.nil | refine CvL.cons ?_ ?_)))
     all_goals (first | (exact Cv.clo hs (closed_arr (closed_nR l))) | exact au_c)
  ·have hge : i = l.length := by omega
   subst hge
   simp only [List.take_length]
   cases hQ : nL l with
   | nil =>
    simp only [liS_nil]
    refine AWp.seq ?_
    refine r_z 4 ?_
    refine AWp.cond rfl (fun h => ?_) (fun h => ?_)
    ·exact absurd h (by simp [nR])
    ·refine AWp.exit ⟨(), trivial, ?_⟩
     simp only [hQ, liS_nil]
     refine SEnt.to [] rfl rfl rfl au_r (fun hs => ?_) (fun hs => ?_)
     ·repeat' (first | exact CvF.nil | refine CvF.cons rfl ?_ ?_)
      all_goals (first | (exact Cv.clo hs (closed_arr (closed_nR l))) | exact au_c)
     ·repeat' (first | exact CvH.nil | refine CvH.cons rfl rfl rfl rfl ?_ ?_)
      all_goals (first | exact au_e | (refine CvLL.box ?_; repeat' (first | exact CvL.nil | refine CvL.cons ?_ ?_)))
      all_goals (first | (exact Cv.clo hs (closed_arr (closed_nR l))) | exact au_c)
   | cons q Q =>
    simp only [liS_cons]
    refine AWp.seq ?_
    refine r_z 4 ?_
    refine AWp.cond rfl (fun h => ?_) (fun h => ?_)
    ·exact absurd h (by simp [nR])
    ·refine AWp.exit ⟨(), trivial, ?_⟩
     simp only [hQ, liS_cons]
     refine SEnt.to [] rfl rfl rfl au_r (fun hs => ?_) (fun hs => ?_)
     ·repeat' (first | exact CvF.nil | refine CvF.cons rfl ?_ ?_)
      all_goals (first | (exact Cv.clo hs (closed_arr (closed_nR l))) | exact au_c)
     ·repeat' (first | exact CvH.nil | refine CvH.cons rfl rfl rfl rfl ?_ ?_)
      all_goals (first | (exact CvLL.clo hs (closed_rL _)) | exact au_e | (refine CvLL.box ?_; repeat' (first | exact CvL.nil | refine CvL.cons ?_ ?_)))
      all_goals (first | (exact Cv.clo hs (closed_arr (closed_nR l))) | exact au_c)
 rintro _ _
 cases hQ : nL l with
 | nil =>
  simp only [liS_nil]
  refine r_z 4 ?_
  refine AWp.ret ?_
  refine Fin.many ⟨_, _, rfl, rfl, ⟨_, _, rfl, rfl, rfl⟩⟩ (nle rfl) ?_
  exact CvL.cons (Cv.emp _) (CvL.cons (Cv.emp _) CvL.nil)
 | cons q Q =>
  simp only [liS_cons]
  refine r_z 4 ?_
  refine AWp.ret ?_
  refine Fin.many ⟨_, _, rfl, rfl, ⟨_, _, rfl, rfl, rfl⟩⟩ (nle rfl) ?_
  exact CvL.cons (Cv.sealE shr_nil rfl (fun _ _ h => by cases h) rfl (by simp) (closed_pE _)) (CvL.cons (Cv.sealE shr_nil rfl (fun _ _ h => by cases h) rfl (by simp) (closed_rL _)) CvL.nil)
theorem fs_BothP (l : List NRow) (hl : l.length ≤ 1099511627776) (hb : okR l) : FSpec Tryz.prog 15 [.arr (nR l)] (.tup [.arr (pE (nL l)), .arr (rL (nL l))]) := by
 refine FSpec.enter Tryz.func15 rfl (by kernel_rfl) rfl rfl rfl ?_ rfl ?_
 ·exact closed_cons (closed_arr (closed_nR l)) closed_nil
 refine r_z 2 ?_
 refine r_c 7 (fs_List l hl hb) ?_
 refine a_z ?_
 refine r_z 4 ?_
 refine AWp.ret ?_
 refine Fin.many ⟨_, _, rfl, rfl, ⟨_, _, rfl, rfl, rfl⟩⟩ (nle rfl) ?_
 exact CvL.cons (Cv.clo shr_nil (closed_arr (closed_pE _))) (CvL.cons (Cv.clo shr_nil (closed_arr (closed_rL _))) CvL.nil)
end Go.Proofs.YtdhedjbmdnnbkaaGreatDoor
namespace Go.Abs
theorem coP_nil (i : Nat) : coP [] i = 0 := rfl
theorem coP_zero (a : Rat) (l : List Rat) : coP (a :: l) 0 = a := rfl
theorem coP_succ (a : Rat) (l : List Rat) (i : Nat) : coP (a :: l) (i + 1) = coP l i := rfl
theorem coP_trim (l : List Rat) (i : Nat) : coP (trimQ l) i = coP l i := by
 induction l generalizing i with
 | nil => rfl
 | cons a l ih =>
  rw [trimQ_cons]
  split
  ·rename_i h
   have h0 : ∀ j, coP l j = 0 := fun j => by rw [← ih j, h]; rfl
   split
   ·rename_i ha
    cases i with
    | zero => rw [coP_zero, ha]; rfl
    | succ i => rw [coP_succ, h0]; rfl
   ·cases i with
    | zero => rfl
    | succ i => rw [coP_succ, coP_succ, h0]; rfl
  ·cases i with
   | zero => rfl
   | succ i => rw [coP_succ, coP_succ, ih]
theorem coP_tab (n : Nat) (f : Nat → Rat) (i : Nat) : coP (tabP n f) i = if i < n then f i else 0 := by
 unfold coP tabP
 rw [List.getD_eq_getElem?_getD, List.getElem?_map]
 by_cases h : i < n
 ·rw [if_pos h, List.getElem?_range h]; rfl
 ·rw [if_neg h, List.getElem?_eq_none (by simp; omega)]; rfl
theorem coP_add (p q : List Rat) (i : Nat) : coP (addP p q) i = coP p i + coP q i := by
 unfold addP
 rw [coP_trim, coP_tab]
 split
 ·rfl
 ·rename_i h
  rw [coP_out (by omega), coP_out (by omega)]; grind
theorem coP_scale (p : List Rat) (k : Rat) (i : Nat) : coP (scaleP p k) i = coP p i * k := by
 unfold scaleP
 rw [coP_trim, coP_tab]
 split
 ·rfl
 ·rename_i h
  rw [coP_out (by omega)]; grind
theorem coP_sub (p q : List Rat) (i : Nat) : coP (subP p q) i = coP p i - coP q i := by
 unfold subP
 rw [coP_add, coP_scale]; grind
theorem trim_ext {p q : List Rat} (h : ∀ i, coP p i = coP q i) : trimQ p = trimQ q := by
 induction p generalizing q with
 | nil =>
  induction q with
  | nil => rfl
  | cons b q ih =>
   have hb : b = 0 := (h 0).symm
   rw [trimQ_cons, ← ih fun i => h (i + 1), if_pos (by rfl), if_pos hb]; rfl
 | cons a p ih =>
  cases q with
  | nil =>
   have ha : a = 0 := h 0
   rw [trimQ_cons, ih (q := []) fun i => h (i + 1), if_pos (by rfl), if_pos ha]; rfl
  | cons b q =>
   have hab : a = b := h 0
   rw [trimQ_cons, trimQ_cons, ih (q := q) fun i => h (i + 1), hab]
theorem evalP_nil (x : Rat) : evalP [] x = 0 := rfl
theorem evalP_cons (a : Rat) (l : List Rat) (x : Rat) : evalP (a :: l) x = evalP l x * x + a := rfl
theorem evalP_zero {p : List Rat} (h : ∀ i, coP p i = 0) (x : Rat) : evalP p x = 0 := by
 induction p with
 | nil => rfl
 | cons a p ih =>
  have ha : a = 0 := h 0
  rw [evalP_cons, ih fun i => h (i + 1), ha]; grind
theorem evalP_ext {p q : List Rat} (h : ∀ i, coP p i = coP q i) (x : Rat) : evalP p x = evalP q x := by
 induction p generalizing q with
 | nil => exact (evalP_zero (fun i => (h i).symm) x).symm
 | cons a p ih =>
  cases q with
  | nil => exact evalP_zero h x
  | cons b q =>
   have hab : a = b := h 0
   rw [evalP_cons, evalP_cons, ih (q := q) fun i => h (i + 1), hab]
theorem evalP_trim (p : List Rat) (x : Rat) : evalP (trimQ p) x = evalP p x := evalP_ext (coP_trim p) x
def addL : List Rat → List Rat → List Rat
 | [], q => q
 | p, [] => p
 | a :: p, b :: q => (a + b) :: addL p q
def scaleL (p : List Rat) (k : Rat) : List Rat := p.map (· * k)
def mulL : List Rat → List Rat → List Rat
 | [], _ => []
 | a :: p, q => addL (scaleL q a) (0 :: mulL p q)
theorem coP_addL (p q : List Rat) (i : Nat) : coP (addL p q) i = coP p i + coP q i := by
 induction p generalizing q i with
 | nil => rw [addL, coP_nil]; grind
 | cons a p ih =>
  cases q with
  | nil => rw [addL, coP_nil]; · grind
           ·intro h; cases h
  | cons b q =>
   rw [addL]
   cases i with
   | zero => rfl
   | succ i => exact ih q i
theorem coP_scaleL (p : List Rat) (k : Rat) (i : Nat) : coP (scaleL p k) i = coP p i * k := by
 induction p generalizing i with
 | nil => show (0 : Rat) = 0 * k; grind
 | cons a p ih =>
  cases i with
  | zero => rfl
  | succ i => exact ih i
theorem evalP_addL (p q : List Rat) (x : Rat) : evalP (addL p q) x = evalP p x + evalP q x := by
 induction p generalizing q with
 | nil => rw [addL, evalP_nil]; grind
 | cons a p ih =>
  cases q with
  | nil => rw [addL, evalP_nil]; · grind
           ·intro h; cases h
  | cons b q => rw [addL, evalP_cons, evalP_cons, evalP_cons, ih]; grind
theorem evalP_scaleL (p : List Rat) (k x : Rat) : evalP (scaleL p k) x = evalP p x * k := by
 induction p with
 | nil => show (0 : Rat) = 0 * k; grind
 | cons a p ih => show evalP (scaleL p k) x * x + a * k = _; rw [ih, evalP_cons]; grind
theorem evalP_mulL (p q : List Rat) (x : Rat) : evalP (mulL p q) x = evalP p x * evalP q x := by
 induction p with
 | nil => show (0 : Rat) = 0 * _; grind
 | cons a p ih => rw [mulL, evalP_addL, evalP_scaleL, evalP_cons, ih, evalP_cons]; grind
theorem evalP_add (p q : List Rat) (x : Rat) : evalP (addP p q) x = evalP p x + evalP q x := by
 rw [← evalP_addL]; exact evalP_ext (fun i => by rw [coP_add, coP_addL]) x
theorem evalP_scale (p : List Rat) (k x : Rat) : evalP (scaleP p k) x = evalP p x * k := by
 rw [← evalP_scaleL]; exact evalP_ext (fun i => by rw [coP_scale, coP_scaleL]) x
theorem evalP_sub (p q : List Rat) (x : Rat) : evalP (subP p q) x = evalP p x - evalP q x := by
 unfold subP; rw [evalP_add, evalP_scale]; grind
theorem evalP_const (a x : Rat) : evalP (constP a) x = a := by
 rw [constP, evalP_trim]; show 0 * x + a = a; grind
def convP (p q : List Rat) : Nat → Nat → Rat
 | 0, _ => 0
 | i + 1, n => convP p q i n + (if i ≤ n then coP p i * coP q (n - i) else 0)
theorem coP_rowP (o : List Rat) (a : Rat) (q : List Rat) (i : Nat) (h : ∀ k, k < q.length → i + k < o.length) : ∀ k n, k ≤ q.length → coP (rowP o a q i k) n = coP o n + (if i ≤ n ∧ n < i + k then a * coP q (n - i) else 0)
 | 0, n, _ => by rw [if_neg (by omega)]; show coP o n = _; grind
 | k + 1, n, hk => by
  rw [rowP, coP_addAt, rowP_length]
  by_cases hn : n = i + k
  ·subst hn
   rw [if_pos ⟨rfl, h k (by omega)⟩, rowP_out o a q i k (i + k) (by omega), if_pos (by omega), show i + k - i = k by omega]
  ·rw [if_neg (by omega), coP_rowP o a q i h k n (by omega)]
   by_cases h2 : i ≤ n ∧ n < i + k
   ·rw [if_pos h2, if_pos (by omega)]
   ·rw [if_neg h2, if_neg (by omega)]
theorem coP_mulR (p q : List Rat) (n : Nat) : ∀ i, i ≤ p.length → coP (mulR p q i) n = convP p q i n
 | 0, _ => by
  show coP (List.replicate _ 0) n = 0
  unfold coP
  rw [List.getD_eq_getElem?_getD, List.getElem?_replicate]
  split <;> rfl
 | i + 1, hi => by
  have ih := coP_mulR p q n i (by omega)
  rw [mulR, convP]
  split
  ·rename_i h0
   rw [ih, h0]
   split <;> grind
  ·rw [coP_rowP _ _ _ _ (fun k hk => by rw [mulR_length]; omega) _ _ (Nat.le_refl _), ih]
   congr 1
   by_cases h1 : i ≤ n
   ·rw [if_pos h1]
    by_cases h2 : n < i + q.length
    ·rw [if_pos ⟨h1, h2⟩]
    ·rw [if_neg (by omega), coP_out (p := q) (by omega)]; grind
   ·rw [if_neg (by omega), if_neg h1]
theorem convP_cons (a : Rat) (p q : List Rat) (n : Nat) : ∀ i, convP (a :: p) q (i + 1) n = a * coP q n + (match n with | 0 => 0 | m + 1 => convP p q i m)
 | 0 => by
  show (0 : Rat) + (if 0 ≤ n then coP (a :: p) 0 * coP q (n - 0) else 0) = _
  rw [if_pos (Nat.zero_le _), coP_zero, Nat.sub_zero]
  cases n <;> simp [convP, Rat.add_zero, Rat.zero_add]
 | i + 1 => by
  rw [convP, convP_cons a p q n i]
  cases n with
  | zero => rw [if_neg (by omega)]; show a * coP q 0 + 0 + 0 = a * coP q 0 + 0; grind
  | succ m =>
   show a * coP q (m + 1) + convP p q i m + _ = a * coP q (m + 1) + (convP p q i m + _)
   by_cases h : i ≤ m
   ·rw [if_pos (by omega), if_pos h, coP_succ, show m + 1 - (i + 1) = m - i by omega]; grind
   ·rw [if_neg (by omega), if_neg h]; grind
theorem coP_mulL (p q : List Rat) (n : Nat) : coP (mulL p q) n = convP p q p.length n := by
 induction p generalizing n with
 | nil => rfl
 | cons a p ih =>
  rw [mulL, coP_addL, coP_scaleL, List.length_cons, convP_cons]
  cases n with
  | zero => rw [coP_zero]; grind
  | succ m => rw [coP_succ, ih]; grind
theorem coP_mul (p q : List Rat) (n : Nat) : coP (mulP p q) n = coP (mulL p q) n := by
 unfold mulP
 split
 ·rename_i h
  rcases h with rfl | rfl
  ·rfl
  ·rw [coP_mulL]
   have : ∀ i, convP p [] i n = 0 := by
    intro i
    induction i with
    | zero => rfl
    | succ i ih => rw [convP, ih, coP_nil]; split <;> grind
   rw [this]; rfl
 ·rw [coP_trim, coP_mulR _ _ _ _ (Nat.le_refl _), coP_mulL]
theorem evalP_mul (p q : List Rat) (x : Rat) : evalP (mulP p q) x = evalP p x * evalP q x := by
 rw [← evalP_mulL]; exact evalP_ext (coP_mul p q) x
def synD : List Rat → Rat → List Rat
 | [], _ => []
 | [_], _ => []
 | _ :: b :: l, r => evalP (b :: l) r :: synD (b :: l) r
theorem synD_eval (p : List Rat) (r x : Rat) : evalP p x = evalP (synD p r) x * (x - r) + evalP p r := by
 induction p with
 | nil => show (0 : Rat) = 0 * _ + 0; grind
 | cons a l ih =>
  cases l with
  | nil => show 0 * x + a = 0 * (x - r) + (0 * r + a); grind
  | cons b l =>
   rw [synD, evalP_cons a, evalP_cons a, evalP_cons (evalP (b :: l) r), ih]; grind
theorem synD_len (p : List Rat) (r : Rat) : (synD p r).length = p.length - 1 := by
 induction p with
 | nil => rfl
 | cons a l ih =>
  cases l with
  | nil => rfl
  | cons b l => rw [synD, List.length_cons, ih]; simp
theorem roots_zero : ∀ (n : Nat) (p xs : List Rat), p.length ≤ n → n ≤ xs.length → xs.Nodup → (∀ x ∈ xs, evalP p x = 0) → ∀ x, evalP p x = 0
 | 0, p, _, hp, _, _, _, x => by
  have : p = [] := List.length_eq_zero_iff.1 (by omega)
  rw [this]; rfl
 | n + 1, p, xs, hp, hx, hnd, hz, x => by
  cases xs with
  | nil => simp at hx
  | cons r xs =>
   rw [List.nodup_cons] at hnd
   have hr := hz r (List.mem_cons_self ..)
   have ih := roots_zero n (synD p r) xs (by rw [synD_len]; omega) (by simp at hx; omega) hnd.2 fun y hy => by
    have h1 := synD_eval p r y
    rw [hz y (List.mem_cons_of_mem _ hy), hr] at h1
    have hne : y - r ≠ 0 := fun h => hnd.1 (by have : y = r := by grind
                                               rw [← this]; exact hy)
    have h2 : evalP (synD p r) y * (y - r) = 0 := by grind
    rcases Rat.mul_eq_zero.1 h2 with h3 | h3
    ·exact h3
    ·exact absurd h3 hne
   rw [synD_eval p r x, ih, hr]; grind
theorem eval_zero_co {p : List Rat} (h : ∀ x, evalP p x = 0) : ∀ i, coP p i = 0 := by
 induction p with
 | nil => intro i; rfl
 | cons a p ih =>
  have ha : a = 0 := by
   have := h 0
   rw [evalP_cons] at this; grind
  have hp : ∀ x, evalP p x = 0 := by
   -- at all places but 0, so at all
   refine roots_zero p.length p ((List.range p.length).map fun i => (((i + 1 : Nat) : Int) : Rat)) (Nat.le_refl _) (by simp) ?_ ?_
   ·refine List.Pairwise.map _ (fun i j hij => ?_) List.nodup_range
    intro e
    apply hij
    have := Rat.intCast_inj.1 e
    omega
   ·intro x hx
    obtain ⟨i, _, rfl⟩ := List.mem_map.1 hx
    have h1 := h (((i + 1 : Nat) : Int) : Rat)
    rw [evalP_cons, ha] at h1
    have h2 : evalP p (((i + 1 : Nat) : Int) : Rat) * (((i + 1 : Nat) : Int) : Rat) = 0 := by grind
    rcases Rat.mul_eq_zero.1 h2 with h3 | h3
    ·exact h3
    ·have := Rat.intCast_inj.1 (h3.trans Rat.intCast_zero.symm); omega
  intro i
  cases i with
  | zero => exact ha
  | succ i => exact ih hp i
theorem eval_ext {p q : List Rat} (h : ∀ x, evalP p x = evalP q x) : trimQ p = trimQ q := by
 refine trim_ext fun i => ?_
 have := eval_zero_co (p := subP p q) (fun x => by rw [evalP_sub, h]; grind) i
 rw [coP_sub] at this; grind
theorem eval_ext_at {p q xs : List Rat} (hp : (trimQ p).length ≤ xs.length) (hq : (trimQ q).length ≤ xs.length) (hnd : xs.Nodup) (h : ∀ x ∈ xs, evalP p x = evalP q x) : trimQ p = trimQ q := by
 refine eval_ext fun x => ?_
 have hl : (subP (trimQ p) (trimQ q)).length ≤ xs.length := by
  have h1 := addP_len (trimQ p) (scaleP (trimQ q) (-1))
  have h2 := scaleP_len (trimQ q) (-1)
  unfold subP; omega
 have := roots_zero xs.length _ xs hl (Nat.le_refl _) hnd (fun y hy => by rw [evalP_sub, evalP_trim, evalP_trim, h y hy]; grind) x
 rw [evalP_sub, evalP_trim, evalP_trim] at this; grind
theorem mulP_len1 (p q : List Rat) (hp : p ≠ []) : (mulP p q).length ≤ p.length + q.length - 1 := by
 unfold mulP
 split
 ·simp
 ·have := trimQ_len (mulR p q p.length)
  rwa [mulR_length] at this
theorem evalP_line (a x : Rat) : evalP [-a, 1] x = x - a := by
 show (0 * x + 1) * x + -a = x - a; grind
theorem evalP_zeros (zeros : List Rat) (a x : Rat) : evalP (mulP zeros [-a, 1]) x = evalP zeros x * (x - a) := by
 rw [evalP_mul, evalP_line]
theorem evalP_step {a v : Rat} {out zeros : List Rat} (hz : evalP zeros a ≠ 0) : evalP (addP out (scaleP zeros (inK a v out zeros))) a = v := by
 rw [evalP_add, evalP_scale]
 unfold inK
 rw [Rat.mul_comm, Rat.div_mul_cancel hz]; grind
theorem intM_spec : ∀ (ps vs out zeros r : List Rat) (D : List Rat), intM ps vs out zeros = some r → ps.length = vs.length → (∀ d ∈ D, evalP zeros d = 0) → out.length ≤ D.length → zeros.length ≤ D.length + 1 →
    (∀ d ∈ D, evalP r d = evalP out d) ∧ (∀ (i : Nat) (a v : Rat), ps[i]? = some a → vs[i]? = some v → evalP r a = v) ∧ r.length ≤ D.length + ps.length
 | [], vs, out, zeros, r, D, h, _, hz, ho, _ => by
  simp only [intM, Option.some.injEq] at h
  subst h
  exact ⟨fun _ _ => rfl, (fun i a v hi => by simp at hi), by simpa using ho⟩
 | a :: ps, [], out, zeros, r, D, h, hl, _, _, _ => by simp at hl
 | a :: ps, v :: vs, out, zeros, r, D, h, hl, hz, ho, hzl => by
  rw [intM] at h
  split at h
  ·rename_i hok
   have hza : evalP zeros a ≠ 0 := hok.2.2.2.2.1
   have hz0 : zeros ≠ [] := fun e => hza (by rw [e]; rfl)
   have l1 := addP_len out (scaleP zeros (inK a v out zeros))
   have l2 := scaleP_len zeros (inK a v out zeros)
   have l3 := mulP_len1 zeros [-a, 1] hz0
   simp at l3
   obtain ⟨h1, h2, h3⟩ := intM_spec ps vs _ _ r (D ++ [a]) h (by simpa using hl) (fun d hd => by
    rw [evalP_zeros]
    rcases List.mem_append.1 hd with hd | hd
    ·rw [hz d hd]; grind
    ·rw [List.mem_singleton.1 hd]; grind) (by simp; omega) (by simp; omega)
   refine ⟨fun d hd => ?_, fun i b u hi hu => ?_, by simp at h3 ⊢; omega⟩
   ·rw [h1 d (List.mem_append_left _ hd), evalP_add, evalP_scale, hz d hd]; grind
   ·cases i with
    | zero =>
     simp only [List.getElem?_cons_zero, Option.some.injEq] at hi hu
     subst hi hu
     rw [h1 a (List.mem_append_right _ (List.mem_singleton.2 rfl)), evalP_step hza]
    | succ i => exact h2 i b u (by simpa using hi) (by simpa using hu)
  ·cases h
def intB (s sv : Nat) : Nat → Nat → Nat → Nat → Bool
 | 0, _, _, _ => true
 | n + 1, i, So, Sz =>
  let qk := sv + (i * (So + s + 1) + 1) + 1 + ((i + 1) * (Sz + s + 1) + 1)
  Nat.ble ((i + 1) * (So + s + 1) + So + s + 2) 137438953472 && Nat.ble ((i + 2) * (Sz + s + 1) + Sz + s + 2) 137438953472 && Nat.ble (Sz + qk) 137438953472 && Nat.ble s 137438953472 && Nat.ble sv 137438953472 && intB s sv n (i + 1) (So + (Sz + qk) + 1) ((i + 1) * (Sz + s + 1) + 1)
theorem scaleP_bd {p : List Rat} {k : Rat} {s t : Nat} (hp : bdL p s) (hs : 1 ≤ s) (hk : qs k ≤ t) : bdL (scaleP p k) (s + t) :=
 coP_bd fun i => by
  rw [coP_scale]
  have h1 := qs_mul (coP p i) k
  have h2 := bdL_co hp hs i
  omega
theorem addP_bd {p q : List Rat} {s t : Nat} (hp : bdL p s) (hq : bdL q t) (hs : 1 ≤ s) (ht : 1 ≤ t) : bdL (addP p q) (s + t + 1) :=
 coP_bd fun i => by
  rw [coP_add]
  have h1 := qs_add (coP p i) (coP q i)
  have h2 := bdL_co hp hs i
  have h3 := bdL_co hq ht i
  omega
theorem intM_some (s sv : Nat) (hs1 : 1 ≤ s) : ∀ (ps vs out zeros : List Rat) (D : List Rat) (So Sz : Nat), ps.length = vs.length → (∀ a ∈ ps, qs a ≤ s) → (∀ v ∈ vs, qs v ≤ sv) → bdL out So → bdL zeros Sz → 1 ≤ So → 1 ≤ Sz → out.length ≤ D.length → zeros.length ≤ D.length + 1 → D.length + ps.length ≤ 1000 →
    (∀ x, evalP zeros x = 0 → x ∈ D) → (D ++ ps).Nodup → intB s sv ps.length D.length So Sz = true → ∃ r, intM ps vs out zeros = some r
 | [], _, out, _, _, _, _, _, _, _, _, _, _, _, _, _, _, _, _, _ => ⟨out, rfl⟩
 | _ :: _, [], _, _, _, _, _, h, _, _, _, _, _, _, _, _, _, _, _, _ => by simp at h
 | a :: ps, v :: vs, out, zeros, D, So, Sz, hl, ha, hv, ho, hz, ho1, hz1, hol, hzl, hlen, hD, hnd, hb => by
  rw [List.length_cons, intB] at hb
  simp only [Bool.and_eq_true, Nat.ble_eq] at hb
  obtain ⟨⟨⟨⟨⟨b1, b2⟩, b3⟩, b4⟩, b5⟩, b6⟩ := hb
  have ha1 := ha a (List.mem_cons_self ..)
  have hv1 := hv v (List.mem_cons_self ..)
  simp only [List.length_cons] at hlen
  have hza : evalP zeros a ≠ 0 := fun e => by
   have h1 := hD a e
   rw [List.nodup_append] at hnd
   exact hnd.2.2 a h1 a (List.mem_cons_self ..) rfl
  have mo := mxL_le ho ho1
  have mz := mxL_le hz hz1
  have eo := evalP_bd ha1 ho
  have ez := evalP_bd ha1 hz
  have hmo : out.length * (So + s + 1) ≤ D.length * (So + s + 1) := Nat.mul_le_mul_right _ hol
  have hmz : zeros.length * (Sz + s + 1) ≤ (D.length + 1) * (Sz + s + 1) := Nat.mul_le_mul_right _ hzl
  have hqk : qs (inK a v out zeros) ≤ sv + (D.length * (So + s + 1) + 1) + 1 + ((D.length + 1) * (Sz + s + 1) + 1) := by
   unfold inK
   have h1 := qs_div (v - evalP out a) (evalP zeros a)
   have h2 := qs_sub v (evalP out a)
   omega
  have okE : ∀ (l : List Rat) (L S : Nat), l.length ≤ L → L ≤ 2000 → bdL l S → 1 ≤ S → L * (S + s + 1) + S + s + 2 ≤ 137438953472 → okEval l a := by
   intro l L S h1 hL h2 h3 h4
   have h5 := mxL_le h2 h3
   have h6 : l.length * (mxL l + qs a + 1) ≤ L * (S + s + 1) := Nat.mul_le_mul h1 (by omega)
   exact ⟨by omega, by omega⟩
  have hsc := scaleP_bd hz hz1 hqk
  have hln : bdL [-a, 1] s := by
   intro x hx
   rcases List.mem_cons.1 hx with rfl | hx
   ·rw [qs_neg]; exact ha1
   ·rw [List.mem_singleton.1 hx]; exact Nat.le_trans (by decide) hs1
  have hml := mulP_bd hz hln hz1 hs1
  have hml2 : zeros.length * (Sz + s + 1) + 1 ≤ (D.length + 1) * (Sz + s + 1) + 1 := by omega
  have hz0 : zeros ≠ [] := fun e => hza (by rw [e]; rfl)
  have l1 := addP_len out (scaleP zeros (inK a v out zeros))
  have l2 := scaleP_len zeros (inK a v out zeros)
  have l3 := mulP_len1 zeros [-a, 1] hz0
  simp at l3
  have hmulS : (D.length + 2) * (Sz + s + 1) = (D.length + 1) * (Sz + s + 1) + (Sz + s + 1) := by rw [show D.length + 2 = (D.length + 1) + 1 from rfl, Nat.add_mul (D.length + 1), Nat.one_mul]
  have hmulO : (D.length + 1) * (So + s + 1) = D.length * (So + s + 1) + (So + s + 1) := by rw [Nat.add_mul, Nat.one_mul]
  have hok : okIn a v out zeros := by
   refine ⟨Nat.le_trans ha1 b4, Nat.le_trans hv1 b5, okE out (D.length + 1) So (by omega) (by omega) ho ho1 b1, okE zeros (D.length + 2) Sz (by omega) (by omega) hz hz1 b2, hza, ?_, bdL_sm ho (by omega), bdL_sm hz (by omega), bdL_sm hsc b3, ?_, by omega⟩
   ·show _ ≤ _; omega
   ·have h5 := mxL_le hln hs1
    have h6 : zeros.length * (mxL zeros + mxL [-a, 1] + 1) ≤ (D.length + 1) * (Sz + s + 1) := Nat.mul_le_mul hzl (by omega)
    exact ⟨by omega, by omega, by omega, by simp⟩
  rw [intM, if_pos hok]
  refine intM_some s sv hs1 ps vs _ _ (D ++ [a]) _ _ (by simpa using hl) (fun x hx => ha x (List.mem_cons_of_mem _ hx)) (fun x hx => hv x (List.mem_cons_of_mem _ hx)) (addP_bd ho hsc ho1 (by omega)) (fun x hx => Nat.le_trans (hml x hx) hml2) (by omega) (by omega) (by simp; omega) (by simp; omega) (by simp; omega) (fun x hx => ?_) (by simpa using hnd) (by simpa using b6)
  rw [evalP_zeros] at hx
  rcases Rat.mul_eq_zero.1 hx with h1 | h1
  ·exact List.mem_append_left _ (hD x h1)
  ·exact List.mem_append_right _ (List.mem_singleton.2 (by grind))
theorem twiceQ_spec : ∀ (pre l : List Rat), pre.Nodup → (twiceQ pre l = false ↔ (pre ++ l).Nodup)
 | pre, [], h => by simp [twiceQ, h]
 | pre, a :: l, h => by
  rw [twiceQ, Bool.or_eq_false_iff, List.any_eq_false]
  by_cases hm : a ∈ pre
  ·refine ⟨fun h1 => absurd (h1.1 a hm) (by simp), fun h1 => ?_⟩
   rw [List.nodup_append] at h1
   exact absurd rfl (h1.2.2 a hm a (List.mem_cons_self ..))
  ·have hn : (pre ++ [a]).Nodup := by
    rw [List.nodup_append]; exact ⟨h, by simp, fun x hx y hy e => hm (by rw [List.mem_singleton.1 hy] at e; exact e ▸ hx)⟩
   rw [twiceQ_spec (pre ++ [a]) l hn]
   simp only [List.append_assoc, List.singleton_append]
   refine ⟨fun h1 => h1.2, fun h1 => ⟨fun b hb => ?_, h1⟩⟩
   simp; intro e; exact hm (e ▸ hb)
theorem int_through (p xs r : List Rat) (hnd : xs.Nodup) (h : intM xs (xs.map (evalP p)) [] (constP 1) = some r) : (trimQ r).length ≤ xs.length ∧ ((trimQ p).length ≤ xs.length → trimQ r = trimQ p) := by
 obtain ⟨_, h2, h3⟩ := intM_spec xs (xs.map (evalP p)) [] (constP 1) r [] h (by simp) (by simp) (by simp) (constP_len 1)
 have hr : (trimQ r).length ≤ xs.length := Nat.le_trans (trimQ_len r) (by simpa using h3)
 refine ⟨hr, fun hp => eval_ext_at hr hp hnd fun x hx => ?_⟩
 obtain ⟨i, hi, rfl⟩ := List.getElem_of_mem hx
 exact h2 i _ _ (List.getElem?_eq_getElem hi) (by rw [List.getElem?_map, List.getElem?_eq_getElem hi]; rfl)
theorem int_through_some (p xs : List Rat) (hnd : xs.Nodup) (hx : bdL xs 256) (hp : bdL p 256) (hl : p.length ≤ 8) (hn : xs.length ≤ 8) : ∃ r, intM xs (xs.map (evalP p)) [] (constP 1) = some r := by
 refine intM_some 256 4105 (by decide) xs _ [] (constP 1) [] 1 1 (by simp) hx ?_ (fun x hx => by cases hx) ?_ (by decide) (by decide) (by simp) (constP_len 1) (by simp; omega) (fun x hx => by rw [evalP_const] at hx; exact absurd hx (by decide)) (by simpa using hnd) ?_
 ·intro v hv
  obtain ⟨x, hxm, rfl⟩ := List.mem_map.1 hv
  have h1 := evalP_bd (hx x hxm) hp
  have h2 : p.length * (256 + 256 + 1) ≤ 8 * (256 + 256 + 1) := Nat.mul_le_mul_right _ hl
  omega
 ·have : constP 1 = [1] := by decide
  rw [this]
  intro x hx; rw [List.mem_singleton.1 hx]; decide
 ·have : ∀ n, n ≤ 8 → intB 256 4105 n 0 1 1 = true := by decide
  exact this _ hn
end Go.Abs
namespace Go.Proofs.YtdhedjbmdnnbkaaGreatDoor
open Go.Abs
set_option maxRecDepth 20000
def v9 : List Rat → AV
 | [] => .emp
 | _ :: Q => .lsl 1 0 (Q.length + 1) none 3
def h9 : List Rat → List (Nat × Option ABlk)
 | [] => []
 | q :: Q => [(1, some ⟨37, 3, pE (q :: Q)⟩)]
def n9 : List Rat → Nat
 | [] => 1
 | _ :: _ => 2
theorem v9_nil : v9 [] = .emp := rfl
theorem v9_cons (q : Rat) (Q : List Rat) : v9 (q :: Q) = .lsl 1 0 (Q.length + 1) none 3 := rfl
theorem h9_nil : h9 [] = [] := rfl
theorem h9_cons (q : Rat) (Q : List Rat) : h9 (q :: Q) = [(1, some ⟨37, 3, pE (q :: Q)⟩)] := rfl
theorem n9_nil : n9 [] = 1 := rfl
theorem n9_cons (q : Rat) (Q : List Rat) : n9 (q :: Q) = 2 := rfl
def thS (p xs : List Rat) (Q : List Rat) : Nat → AState
 | i => ⟨[(5, .arr (pE p)), (7, .arr (pE xs)), (9, v9 Q), (10, i64 i)], h9 Q, n9 Q, 97⟩
theorem thS_mk (p xs : List Rat) (Q : List Rat) (i : Nat) : thS p xs Q i = ⟨[(5, .arr (pE p)), (7, .arr (pE xs)), (9, v9 Q), (10, i64 i)], h9 Q, n9 Q, 97⟩ := rfl
def thI (p xs : List Rat) (q : Rat) (Q : List Rat) (i : Nat) : Nat → AState
 | j => ⟨[(5, .arr (pE p)), (7, .arr (pE xs)), (9, .lsl 1 0 (Q.length + 1) none 3), (10, i64 i), (11, i64 j)], [(1, some ⟨37, 3, pE (q :: Q)⟩)], 2, 97⟩
theorem thI_mk (p xs : List Rat) (q : Rat) (Q : List Rat) (i : Nat) (j : Nat) : thI p xs q Q i j = ⟨[(5, .arr (pE p)), (7, .arr (pE xs)), (9, .lsl 1 0 (Q.length + 1) none 3), (10, i64 i), (11, i64 j)], [(1, some ⟨37, 3, pE (q :: Q)⟩)], 2, 97⟩ := rfl
theorem nodup_snoc {l : List Rat} {x : Rat} (h : l.Nodup) (hx : x ∉ l) : (l ++ [x]).Nodup := by
 rw [List.nodup_append]
 exact ⟨h, by simp, fun a ha b hb e => hx (by rw [List.mem_singleton.1 hb] at e; exact e ▸ ha)⟩
theorem cmpQ_eq (a b : Rat) : (cmpQ a b == (0 : Int)) = decide (a = b) := by
 unfold cmpQ
 by_cases h1 : a < b
 ·have h2 : a ≠ b := fun e => by rw [e] at h1; exact absurd h1 Rat.lt_irrefl
  simp [h1, h2]
 ·by_cases h2 : a = b
  ·simp [h1, h2, Rat.lt_irrefl]
  ·simp [h1, h2]
theorem mem_trimQ {c : Rat} : ∀ {l : List Rat}, c ∈ l → c ∈ trimQ l ∨ c = 0
 | a :: l, h => by
  rw [trimQ_cons]
  rcases List.mem_cons.1 h with rfl | h
  ·by_cases h1 : trimQ l = []
   ·rw [if_pos h1]
    by_cases h2 : c = 0
    ·exact .inr h2
    ·rw [if_neg h2]; exact .inl (List.mem_cons_self ..)
   ·rw [if_neg h1]; exact .inl (List.mem_cons_self ..)
  ·rcases mem_trimQ h with h1 | h1
   ·have h2 : trimQ l ≠ [] := fun e => by rw [e] at h1; cases h1
    rw [if_neg h2]; exact .inl (List.mem_cons_of_mem _ h1)
   ·exact .inr h1
theorem fs_PolyThrough (pr xr : List NRow) (hp : okR pr) (hx : okR xr) : FSpec Tryz.prog 13 [.arr (nR pr), .arr (nR xr)] (.v (.bool true)) := by
 have hnp : (nR pr).length = pr.length := by simp [nR]
 have hnx : (nR xr).length = xr.length := by simp [nR]
 refine FSpec.enter Tryz.func13 rfl (by kernel_rfl) rfl rfl rfl ?_ rfl ?_
 ·exact closed_cons (closed_arr (closed_nR pr)) (closed_cons (closed_arr (closed_nR xr)) closed_nil)
 refine r_z 1 ?_
 refine AWp.cut (fun _ : Unit => ⟨[(0, .arr (nR pr)), (1, .arr (nR xr))], [], 1, 97⟩) (fun _ => pr.length ≤ 8 ∧ xr.length ≤ 8) ?_ ?_
 ·by_cases h8 : pr.length > 8
  ·refine s_r 8 ?_
   refine a_4 ?_
   refine AR.opN rfl rfl (gn (by rw [hnp]; exact decide_eq_true (by omega))) rfl rfl ?_
   refine AR.opN rfl rfl (gn (by rw [hnp]; exact decide_eq_true (by omega))) rfl rfl ?_
   refine AR.opN rfl rfl (gn (by rw [hnp]; exact decide_eq_true (by omega))) rfl rfl ?_
   refine o_0 (.pickT rfl (by rw [hnp]; exact decide_eq_true (by omega)) rfl) ?_
   refine AR.nil ?_
   refine AWp.cond rfl (fun h1 => ?_) (fun h1 => ?_)
   ·refine r_c 2 (fs_wakes) ?_
    refine a_z ?_
    refine AWp.ret ?_
    refine Fin.tmpE rfl ?_ ?_
    ·rfl
    ·exact closed_v _
   ·exact absurd h1 (by simp)
  ·refine s_r 8 ?_
   refine a_4 ?_
   refine AR.op0y rfl rfl (gy (by rw [hnp]; exact decide_eq_false (by omega))) (.move rfl) rfl rfl ?_
   first | refine AR.op0y rfl rfl (gy (by rw [hnp]; exact decide_eq_false (by omega))) (.lenD rfl rfl rfl rfl te_22.h) rfl rfl ?_ | refine AR.op0y rfl rfl (gy (by rw [hnp]; exact decide_eq_false (by omega))) (.lenI rfl rfl rfl rfl te_22.h) rfl rfl ?_ | refine AR.op0y rfl rfl (gy (by rw [hnp]; exact decide_eq_false (by omega))) (.lenP rfl rfl rfl rfl te_22.h) rfl rfl ?_ | refine AR.op0y rfl rfl (gy (by rw [hnp]; exact decide_eq_false (by omega))) (.lenC rfl rfl rfl rfl te_22.h) rfl rfl ?_ | refine AR.op0y rfl rfl (gy (by rw [hnp]; exact decide_eq_false (by omega))) (.lenR rfl rfl rfl rfl te_22.h) rfl rfl ?_ | refine AR.op0y rfl rfl (gy (by rw [hnp]; exact decide_eq_false (by omega))) (.len rfl rfl rfl rfl rfl te_22.h) rfl rfl ?_
   refine AR.op0y rfl rfl (gy (by rw [hnp]; exact decide_eq_false (by omega))) (.bin rfl rfl binI_gtr) rfl rfl ?_
   refine o_0 (.pickF rfl (by rw [hnp]; exact decide_eq_false (by omega)) rfl) ?_
   refine AR.nil ?_
   refine AWp.cond rfl (fun h1 => ?_) (fun h1 => ?_)
   ·refine r_c 2 (fs_wakes) ?_
    refine a_z ?_
    refine AWp.ret ?_
    refine Fin.tmpE rfl ?_ ?_
    ·rfl
    ·exact closed_v _
   ·have h2 : xr.length ≤ 8 := by
     rw [hnx] at h1
     have := of_decide_eq_false h1
     omega
    refine AWp.skip ⟨(), ⟨by omega, h2⟩, ?_⟩
    refine SEnt.to [] rfl rfl rfl au_r (fun hs => ?_) (fun hs => ?_)
    ·repeat' (first | exact CvF.nil | refine CvF.cons rfl ?_ ?_)
     all_goals (first | ((try exact Cv.clo hs (closed_arr (closed_nR pr))); (try exact Cv.clo hs (closed_arr (closed_nR xr)))) | exact au_c)
    ·repeat' (first | exact CvH.nil | refine CvH.cons rfl rfl rfl rfl ?_ ?_)
     all_goals (first | exact au_e | (refine CvLL.box ?_; repeat' (first | exact CvL.nil | refine CvL.cons ?_ ?_)))
     all_goals (first | ((try exact Cv.clo hs (closed_arr (closed_nR pr))); (try exact Cv.clo hs (closed_arr (closed_nR xr)))) | exact au_c)
 rintro _ ⟨hp8, hx8⟩
 have hbo := fs_BothP pr (by omega) hp
 have hli := fs_List xr (by omega) hx
 have hps := nL_qs hp
 have hxs := nL_qs hx
 have hpl8 : (nL pr).length ≤ 8 := by simp [nL]; exact hp8
 have hxl8 : (nL xr).length ≤ 8 := by simp [nL]; exact hx8
 obtain ⟨p, hpe⟩ : ∃ p, p = nL pr := ⟨_, rfl⟩
 obtain ⟨xs, hxe⟩ : ∃ xs, xs = nL xr := ⟨_, rfl⟩
 rw [← hpe] at hbo hps hpl8
 rw [← hxe] at hli hxs hxl8
 refine r_c 7 (hbo) ?_
 refine a_z ?_
 refine r_c 7 (hli) ?_
 refine a_z ?_
 refine r_z 1 ?_
 refine AWp.seq ?_
 refine r_z 1 ?_
 obtain ⟨vs, hvs⟩ : ∃ vs, vs = xs.map (evalP p) := ⟨_, rfl⟩
 have hok : ∀ x ∈ xs, okEval p x := fun x h => by
  have h1 := mxL_le (n := 256) hps (by decide)
  have h2 := hxs x h
  refine ⟨?_, by omega⟩
  have h3 : p.length * (mxL p + qs x + 1) ≤ 8 * (256 + 256 + 1) := Nat.mul_le_mul hpl8 (by omega)
  omega
 have hsmx : ∀ x ∈ xs, sm x := fun x h => by
  have := hxs x h
  show qs x ≤ _
  omega
 refine AWp.cutT (fun _ : Unit => thS p xs vs xs.length) (fun _ => xs.Nodup) ?_ ?_
 ·refine AWp.block ?_
  refine AWp.loopS (fun i : Nat => thS p xs (vs.take i) i) (fun i => xs.length - i) (fun i => i ≤ xs.length ∧ (xs.take i).Nodup) 0 ⟨Nat.zero_le _, by simp⟩ ?_ ?_
  ·simp only [thS_mk, List.take_zero, v9_nil, h9_nil, n9_nil]
   refine SEnt.to [] rfl rfl rfl au_r (fun hs => ?_) (fun hs => ?_)
   ·repeat' (first | exact CvF.nil | refine CvF.cons rfl ?_ ?_)
    all_goals (first | ((try exact Cv.clo hs (closed_pA p)); (try exact Cv.clo hs (closed_pA xs)); done) | exact au_c)
   ·repeat' (first | exact CvH.nil | refine CvH.cons rfl rfl rfl rfl ?_ ?_)
    all_goals (first | exact au_e | (refine CvLL.box ?_; repeat' (first | exact CvL.nil | refine CvL.cons ?_ ?_)))
    all_goals (first | ((try exact Cv.clo hs (closed_pA p)); (try exact Cv.clo hs (closed_pA xs)); done) | exact au_c)
  rintro i ⟨hi, hnd⟩
  have hlv : vs.length = xs.length := by rw [hvs]; simp
  simp only [thS_mk]
  refine AWp.seq ?_
  refine r_z 4 ?_
  refine AWp.cond rfl (fun h => ?_) (fun h => ?_)
  ·refine AWp.skip ?_
   have hlt : i < xs.length := by simpa using h
   have hgt : (pE xs)[((i : Nat) : Int).toNat]? = some (qC (coP xs i)) := pE_get (coP_get hlt)
   have hmem := List.mem_of_getElem? (coP_get hlt)
   have htk : vs.take (i + 1) = vs.take i ++ [evalP p (coP xs i)] := take_snoc (by rw [hvs, List.getElem?_map, coP_get hlt]; rfl)
   have hxt : xs.take (i + 1) = xs.take i ++ [coP xs i] := take_snoc (coP_get hlt)
   have hQl : (vs.take i).length = i := by simp; omega
   have hev := fs_Eval p (coP xs i) (hok _ hmem)
   obtain ⟨x, hxi⟩ : ∃ x, x = coP xs i := ⟨_, rfl⟩
   rw [← hxi] at hgt hmem htk hxt hev
   obtain ⟨y, Y, hY⟩ : ∃ y Y, vs.take (i + 1) = y :: Y := by
    cases h : vs.take (i + 1) with
    | nil => rw [htk] at h; simp at h
    | cons y Y => exact ⟨y, Y, rfl⟩
   have hYl : Y.length = i := by
    have := congrArg List.length hY
    rw [htk] at this
    simp at this
    omega
   refine AWp.seq ?_
   refine AWp.block ?_
   refine AWp.cut (fun _ : Unit => thS p xs (y :: Y) i) (fun _ => True) ?_ ?_
   ·cases hQ : vs.take i with
    | nil =>
     rw [htk, hQ, List.nil_append] at hY
     simp only [v9_nil, h9_nil, n9_nil]
     refine AWp.reg (m := 10) rfl ?_
     refine a_4 ?_
     first | refine AR.op0 (.index_l rfl rfl (by omega) (by omega) te_24.h) rfl rfl ?_ | refine AR.op0 (.index_a rfl rfl (by omega) hgt rfl te_24.h) rfl rfl ?_
     first | refine AR.op0 (.load_l rfl rfl hgt tg_37.h ts_37.h (nle rfl)) rfl rfl ?_ | refine AR.op0 (.load_a rfl hgt tg_37.h ts_37.h (nle rfl)) rfl rfl ?_
     refine c_s (hev) ?_
     refine a_z ?_
     refine ⟨(), trivial, ?_⟩
     simp only [thS_mk, ← hY, v9_cons, h9_cons, n9_cons]
     refine SEnt.to [(1, 9)] rfl rfl rfl au_r (fun hs => ?_) (fun hs => ?_)
     ·repeat' (first | exact CvF.nil | refine CvF.cons rfl ?_ ?_)
      all_goals (first | ((try exact Cv.clo hs (closed_pA p)); (try exact Cv.clo hs (closed_pA xs)); done) | exact au_c)
     ·repeat' (first | exact CvH.nil | refine CvH.cons rfl rfl rfl rfl ?_ ?_)
      all_goals (first | (exact CvLL.clo hs (closed_pE _)) | exact au_e | (refine CvLL.box ?_; repeat' (first | exact CvL.nil | refine CvL.cons ?_ ?_)))
      all_goals (first | ((try exact Cv.clo hs (closed_pA p)); (try exact Cv.clo hs (closed_pA xs)); done) | exact au_c)
    | cons q Q =>
     rw [hQ] at hQl
     simp at hQl
     rw [htk, hQ, List.cons_append] at hY
     simp only [v9_cons, h9_cons, n9_cons]
     refine AWp.reg (m := 10) rfl ?_
     refine a_4 ?_
     first | refine AR.op0 (.index_l rfl rfl (by omega) (by omega) te_24.h) rfl rfl ?_ | refine AR.op0 (.index_a rfl rfl (by omega) hgt rfl te_24.h) rfl rfl ?_
     first | refine AR.op0 (.load_l rfl rfl hgt tg_37.h ts_37.h (nle rfl)) rfl rfl ?_ | refine AR.op0 (.load_a rfl hgt tg_37.h ts_37.h (nle rfl)) rfl rfl ?_
     refine c_s (hev) ?_
     refine a_z ?_
     refine ⟨(), trivial, ?_⟩
     have e : pE (q :: Q) ++ [qC (evalP p x)] = pE (q :: (Q ++ [evalP p x])) := by simp [pE]
     simp only [thS_mk, ← hY, v9_cons, h9_cons, n9_cons]
     refine SEnt.to [(1, 9)] rfl rfl rfl ?_ (fun hs => ?_) (fun hs => ?_)
     ·repeat' (first | exact ShrL.nil | refine ShrL.cons rfl rfl rfl rfl (by first | (simp) | rfl | (simp; done) | (simp <;> omega)) ?_)
     ·repeat' (first | exact CvF.nil | refine CvF.cons rfl ?_ ?_)
      all_goals (first | ((try exact Cv.clo hs (closed_pA p)); (try exact Cv.clo hs (closed_pA xs)); done) | exact au_c)
     ·repeat' (first | exact CvH.nil | refine CvH.cons rfl rfl rfl rfl ?_ ?_)
      all_goals (first | (exact CvLL.cloE hs e (closed_pE _)) | exact au_e | (refine CvLL.box ?_; repeat' (first | exact CvL.nil | refine CvL.cons ?_ ?_)))
      all_goals (first | ((try exact Cv.clo hs (closed_pA p)); (try exact Cv.clo hs (closed_pA xs)); done) | exact au_c)
   rintro _ _
   simp only [thS_mk, v9_cons, h9_cons, n9_cons]
   refine r_z 1 ?_
   refine AWp.cutB (fun _ : Unit => thI p xs y Y i i) (fun _ => x ∉ xs.take i) ?_ ?_
   ·refine AWp.block ?_
    refine AWp.loopS (thI p xs y Y i) (fun j => i - j) (fun j => j ≤ i ∧ x ∉ xs.take j) 0 ⟨Nat.zero_le _, by simp⟩ ?_ ?_
    ·simp only [thI_mk]
     refine SEnt.to [(1, 9)] rfl rfl rfl au_r (fun hs => ?_) (fun hs => ?_)
     ·repeat' (first | exact CvF.nil | refine CvF.cons rfl ?_ ?_)
      all_goals (first | ((try exact Cv.clo hs (closed_pA p)); (try exact Cv.clo hs (closed_pA xs)); done) | exact au_c)
     ·repeat' (first | exact CvH.nil | refine CvH.cons rfl rfl rfl rfl ?_ ?_)
      all_goals (first | (exact CvLL.clo hs (closed_pE _)) | exact au_e | (refine CvLL.box ?_; repeat' (first | exact CvL.nil | refine CvL.cons ?_ ?_)))
      all_goals (first | ((try exact Cv.clo hs (closed_pA p)); (try exact Cv.clo hs (closed_pA xs)); done) | exact au_c)
    rintro j ⟨hj, hjn⟩
    rw [thI_mk]
    refine AWp.seq ?_
    refine r_z 3 ?_
    refine AWp.cond rfl (fun h1 => ?_) (fun h1 => ?_)
    ·have hjl : j < i := by simpa using h1
     have hgj : (pE xs)[((j : Nat) : Int).toNat]? = some (qC (coP xs j)) := pE_get (coP_get (by omega))
     have hmj := List.mem_of_getElem? (coP_get (p := xs) (i := j) (by omega))
     have hjt : xs.take (j + 1) = xs.take j ++ [coP xs j] := take_snoc (coP_get (by omega))
     have hcm := fs_cmp x (coP xs j) (hsmx _ hmem) (hsmx _ hmj)
     have e := cmpQ_eq x (coP xs j)
     refine AWp.skip ?_
     refine AWp.seq ?_
     refine AWp.block ?_
     refine AWp.seq ?_
     refine AWp.regD hmix (m := 10) rfl ?_
     refine a_2 ?_
     first | refine AR.op0 (.index_l rfl rfl (by omega) (by omega) te_24.h) rfl rfl ?_ | refine AR.op0 (.index_a rfl rfl (by omega) hgt rfl te_24.h) rfl rfl ?_
     first | refine AR.op0 (.load_l rfl rfl hgt tg_37.h ts_37.h (nle rfl)) rfl rfl ?_ | refine AR.op0 (.load_a rfl hgt tg_37.h ts_37.h (nle rfl)) rfl rfl ?_
     refine a_2 ?_
     first | refine AR.op0 (.index_l rfl rfl (by omega) (by omega) te_24.h) rfl rfl ?_ | refine AR.op0 (.index_a rfl rfl (by omega) hgj rfl te_24.h) rfl rfl ?_
     first | refine AR.op0 (.load_l rfl rfl hgj tg_37.h ts_37.h (nle rfl)) rfl rfl ?_ | refine AR.op0 (.load_a rfl hgj tg_37.h ts_37.h (nle rfl)) rfl rfl ?_
     refine c_s (hcm) ?_
     refine a_1 ?_
     refine AR.nil ⟨by kernel_rfl, ?_⟩
     refine AWp.cond rfl (fun h2 => ?_) (fun h2 => ?_)
     ·refine r_c 2 (fs_wakes) ?_
      refine a_z ?_
      refine AWp.ret ?_
      refine Fin.tmpE rfl ?_ ?_
      ·rfl
      ·exact closed_v _
     ·have h3 : ¬ x = coP xs j := of_decide_eq_false (e ▸ h2)
      refine AWp.skip ?_
      refine AWp.reg (m := 3) rfl ?_
      refine a_z ?_
      refine ⟨j + 1, by omega, ⟨hjl, ?_⟩, ?_⟩
      ·rw [hjt]; simp only [List.mem_append, List.mem_singleton]; exact fun h => h.elim hjn h3
      simp only [thI_mk]
      refine SEnt.to [(1, 9)] rfl rfl rfl au_r (fun hs => ?_) (fun hs => ?_)
      ·repeat' (first | exact CvF.nil | refine CvF.cons rfl ?_ ?_)
       all_goals (first | ((try exact Cv.clo hs (closed_pA p)); (try exact Cv.clo hs (closed_pA xs)); done) | exact au_c)
      ·repeat' (first | exact CvH.nil | refine CvH.cons rfl rfl rfl rfl ?_ ?_)
       all_goals (first | (exact CvLL.clo hs (closed_pE _)) | exact au_e | (refine CvLL.box ?_; repeat' (first | exact CvL.nil | refine CvL.cons ?_ ?_)))
       all_goals (first | ((try exact Cv.clo hs (closed_pA p)); (try exact Cv.clo hs (closed_pA xs)); done) | exact au_c)
    ·have hge : j = i := by
      have : ¬ j < i := by simpa using h1
      omega
     subst hge
     refine AWp.exit ⟨(), hjn, ?_⟩
     refine SEnt.to [(1, 9)] rfl rfl rfl au_r (fun hs => ?_) (fun hs => ?_)
     ·repeat' (first | exact CvF.nil | refine CvF.cons rfl ?_ ?_)
      all_goals (first | ((try exact Cv.clo hs (closed_pA p)); (try exact Cv.clo hs (closed_pA xs)); done) | exact au_c)
     ·repeat' (first | exact CvH.nil | refine CvH.cons rfl rfl rfl rfl ?_ ?_)
      all_goals (first | (exact CvLL.clo hs (closed_pE _)) | exact au_e | (refine CvLL.box ?_; repeat' (first | exact CvL.nil | refine CvL.cons ?_ ?_)))
      all_goals (first | ((try exact Cv.clo hs (closed_pA p)); (try exact Cv.clo hs (closed_pA xs)); done) | exact au_c)
   rintro _ hxn
   simp only [thI_mk]
   refine AWp.reg (m := 3) rfl ?_
   refine a_z ?_
   refine ⟨i + 1, by omega, ⟨hlt, by rw [hxt]; exact nodup_snoc hnd hxn⟩, ?_⟩
   simp only [thS_mk, hY, v9_cons, h9_cons, n9_cons]
   refine SEnt.to [(1, 9)] rfl rfl rfl au_r (fun hs => ?_) (fun hs => ?_)
   ·repeat' (first | exact CvF.nil | refine CvF.cons rfl ?_ ?_)
    all_goals (first | ((try exact Cv.clo hs (closed_pA p)); (try exact Cv.clo hs (closed_pA xs)); done) | exact au_c)
   ·repeat' (first | exact CvH.nil | refine CvH.cons rfl rfl rfl rfl ?_ ?_)
    all_goals (first | (exact CvLL.clo hs (closed_pE _)) | exact au_e | (refine CvLL.box ?_; repeat' (first | exact CvL.nil | refine CvL.cons ?_ ?_)))
    all_goals (first | ((try exact Cv.clo hs (closed_pA p)); (try exact Cv.clo hs (closed_pA xs)); done) | exact au_c)
  ·have hge : i = xs.length := by
    have : ¬ i < xs.length := by simpa using h
    omega
   subst hge
   refine AWp.exit ⟨(), by rw [List.take_length] at hnd; exact hnd, ?_⟩
   rw [show vs.take xs.length = vs by rw [← hlv, List.take_length]]
   cases hv : vs with
   | nil =>
    simp only [thS_mk, v9_nil, h9_nil, n9_nil]
    refine SEnt.to [] rfl rfl rfl au_r (fun hs => ?_) (fun hs => ?_)
    ·repeat' (first | exact CvF.nil | refine CvF.cons rfl ?_ ?_)
     all_goals (first | ((try exact Cv.clo hs (closed_pA p)); (try exact Cv.clo hs (closed_pA xs)); done) | exact au_c)
    ·repeat' (first | exact CvH.nil | refine CvH.cons rfl rfl rfl rfl ?_ ?_)
     all_goals (first | exact au_e | (refine CvLL.box ?_; repeat' (first | exact CvL.nil | refine CvL.cons ?_ ?_)))
     all_goals (first | ((try exact Cv.clo hs (closed_pA p)); (try exact Cv.clo hs (closed_pA xs)); done) | exact au_c)
   | cons y Y =>
    simp only [thS_mk, v9_cons, h9_cons, n9_cons]
    refine SEnt.to [(1, 9)] rfl rfl rfl au_r (fun hs => ?_) (fun hs => ?_)
    ·repeat' (first | exact CvF.nil | refine CvF.cons rfl ?_ ?_)
     all_goals (first | ((try exact Cv.clo hs (closed_pA p)); (try exact Cv.clo hs (closed_pA xs)); done) | exact au_c)
    ·repeat' (first | exact CvH.nil | refine CvH.cons rfl rfl rfl rfl ?_ ?_)
     all_goals (first | (exact CvLL.clo hs (closed_pE _)) | exact au_e | (refine CvLL.box ?_; repeat' (first | exact CvL.nil | refine CvL.cons ?_ ?_)))
     all_goals (first | ((try exact Cv.clo hs (closed_pA p)); (try exact Cv.clo hs (closed_pA xs)); done) | exact au_c)
 rintro _ hnd
 obtain ⟨r, hr⟩ := int_through_some p xs hnd hxs hps hpl8 hxl8
 obtain ⟨hr1, hr2⟩ := int_through p xs r hnd hr
 have hrl : r.length ≤ xs.length := by
  have := (intM_spec xs (xs.map (evalP p)) [] (constP 1) r [] hr (by simp) (by simp) (by simp) (constP_len 1)).2.2
  simpa using this
 have hin := fs_Interpolate xs vs r (by rw [hvs]; simp) (by omega) hsmx ((twiceQ_spec [] xs (by simp)).2 (by simpa using hnd)) (by rw [hvs]; exact hr)
 refine AWp.cut (fun _ : Unit => ⟨[(5, .arr (pE p)), (7, .arr (pE xs)), (12, .arr (pE r)), (13, i64 0)], [], 1, 97⟩) (fun _ => True) ?_ ?_
 ·cases hv : vs with
  | nil =>
   simp only [thS_mk, v9_nil, h9_nil, n9_nil]
   rw [hv] at hin
   refine AWp.reg (m := 8) rfl ?_
   refine c_s (hin) ?_
   refine a_z ?_
   refine ⟨(), trivial, ?_⟩
   refine SEnt.to [] rfl rfl rfl au_r (fun hs => ?_) (fun hs => ?_)
   ·repeat' (first | exact CvF.nil | refine CvF.cons rfl ?_ ?_)
    all_goals (first | ((try exact Cv.clo hs (closed_pA p)); (try exact Cv.clo hs (closed_pA xs)); (try exact Cv.clo hs (closed_pA r)); done) | exact au_c)
   ·repeat' (first | exact CvH.nil | refine CvH.cons rfl rfl rfl rfl ?_ ?_)
    all_goals (first | exact au_e | (refine CvLL.box ?_; repeat' (first | exact CvL.nil | refine CvL.cons ?_ ?_)))
    all_goals (first | ((try exact Cv.clo hs (closed_pA p)); (try exact Cv.clo hs (closed_pA xs)); (try exact Cv.clo hs (closed_pA r)); done) | exact au_c)
  | cons y Y =>
   simp only [thS_mk, v9_cons, h9_cons, n9_cons]
   rw [hv] at hin
   have hfull : List.take (Y.length + 1) (List.drop 0 (⟨37, 3, pE (y :: Y)⟩ : ABlk).es) = pE (y :: Y) := by
    rw [List.drop_zero]; exact List.take_of_length_le (by simp)
   refine AWp.reg (m := 8) rfl ?_
   refine a_2 ?_
   refine o_1 (.callS1 rfl rfl rfl (.keep (.shut rfl (by first | exact nle rfl | (simp; done) | (simp; omega)) (.nil))) rfl ((by rw [hfull]; exact hin))) ?_
   refine a_z ?_
   refine ⟨(), trivial, ?_⟩
   refine SEnt.to [] rfl rfl rfl au_r (fun hs => ?_) (fun hs => ?_)
   ·repeat' (first | exact CvF.nil | refine CvF.cons rfl ?_ ?_)
    all_goals (first | ((try exact Cv.clo hs (closed_pA p)); (try exact Cv.clo hs (closed_pA xs)); (try exact Cv.clo hs (closed_pA r)); done) | exact au_c)
   ·repeat' (first | exact CvH.nil | refine CvH.cons rfl rfl rfl rfl ?_ ?_)
    all_goals (first | exact au_e | (refine CvLL.box ?_; repeat' (first | exact CvL.nil | refine CvL.cons ?_ ?_)))
    all_goals (first | ((try exact Cv.clo hs (closed_pA p)); (try exact Cv.clo hs (closed_pA xs)); (try exact Cv.clo hs (closed_pA r)); done) | exact au_c)
 rintro _ _
 have hdr := fs_Degree r (by omega)
 have hdp := fs_Degree p (by omega)
 have hdl : degP r < xs.length := by unfold degP; omega
 have hxe2 : (pE xs).length = xs.length := pE_length xs
 refine AWp.cut (fun _ : Unit => ⟨[(5, .arr (pE p)), (7, .arr (pE xs)), (12, .arr (pE r))], [], 1, 97⟩) (fun _ => True) ?_ ?_
 ·refine s_r 14 ?_
  refine a_3 ?_
  refine AR.op0y rfl rfl (gy rfl) (.move rfl) rfl rfl ?_
  refine AR.op0y rfl rfl (gy rfl) (.call rfl rfl rfl (hdr)) rfl rfl ?_
  refine AR.op0y rfl rfl (gy rfl) (.move rfl) rfl rfl ?_
  first | refine AR.op0y rfl rfl (gy rfl) (.lenD rfl rfl rfl rfl te_24.h) rfl rfl ?_ | refine AR.op0y rfl rfl (gy rfl) (.lenI rfl rfl rfl rfl te_24.h) rfl rfl ?_ | refine AR.op0y rfl rfl (gy rfl) (.lenP rfl rfl rfl rfl te_24.h) rfl rfl ?_ | refine AR.op0y rfl rfl (gy rfl) (.lenC rfl rfl rfl rfl te_24.h) rfl rfl ?_ | refine AR.op0y rfl rfl (gy rfl) (.lenR rfl rfl rfl rfl te_24.h) rfl rfl ?_ | refine AR.op0y rfl rfl (gy rfl) (.len rfl rfl rfl rfl rfl te_24.h) rfl rfl ?_
  refine AR.op0y rfl rfl (gy rfl) (.bin rfl rfl binI_geq) rfl rfl ?_
  refine AR.op0y rfl rfl (gy rfl) (.move rfl) rfl rfl ?_
  refine AR.opN rfl rfl (gn (by exact decide_eq_false (by omega))) rfl rfl ?_
  refine AR.opN rfl rfl (gn (by exact decide_eq_false (by omega))) rfl rfl ?_
  refine AR.opN rfl rfl (gn (by exact decide_eq_false (by omega))) rfl rfl ?_
  refine AR.op0y rfl rfl (gy rfl) (.pickF rfl (by exact decide_eq_false (by omega)) rfl) rfl rfl ?_
  refine o_0 (.pickF rfl rfl rfl) ?_
  refine AR.nil ?_
  refine AWp.cond rfl (fun h1 => ?_) (fun h1 => ?_)
  ·exact absurd h1 (by simp)
  refine AWp.skip ⟨(), trivial, ?_⟩
  refine SEnt.to [] rfl rfl rfl au_r (fun hs => ?_) (fun hs => ?_)
  ·repeat' (first | exact CvF.nil | refine CvF.cons rfl ?_ ?_)
   all_goals (first | ((try exact Cv.clo hs (closed_pA p)); (try exact Cv.clo hs (closed_pA xs)); (try exact Cv.clo hs (closed_pA r)); done) | exact au_c)
  ·repeat' (first | exact CvH.nil | refine CvH.cons rfl rfl rfl rfl ?_ ?_)
   all_goals (first | exact au_e | (refine CvLL.box ?_; repeat' (first | exact CvL.nil | refine CvL.cons ?_ ?_)))
   all_goals (first | ((try exact Cv.clo hs (closed_pA p)); (try exact Cv.clo hs (closed_pA xs)); (try exact Cv.clo hs (closed_pA r)); done) | exact au_c)
 rintro _ _
 by_cases hdg : degP p ≥ xs.length
 ·refine r_c 14 (hdp) ?_
  refine a_4 ?_
  refine AR.opN rfl rfl (gn (by exact decide_eq_true (by omega))) rfl rfl ?_
  refine AR.opN rfl rfl (gn (by exact decide_eq_true (by omega))) rfl rfl ?_
  refine AR.opN rfl rfl (gn (by exact decide_eq_true (by omega))) rfl rfl ?_
  refine o_0 (.pickT rfl (by exact decide_eq_true (by omega)) rfl) ?_
  refine a_1 ?_
  refine AR.op0y rfl rfl (gy rfl) (.call rfl rfl rfl (fs_wakes)) rfl rfl ?_
  refine o_0 (.pickT rfl rfl rfl) ?_
  refine a_z ?_
  refine AWp.ret ?_
  refine Fin.tmpE rfl ?_ ?_
  ·rfl
  ·exact closed_v _
 ·have htl : (trimQ p).length ≤ xs.length := by unfold degP at hdg; omega
  have hsame := hr2 htl
  have hsr : smL r := fun c hc => by
   by_cases h0 : c = 0
   ·rw [h0]; show qs 0 ≤ _; decide
   ·exact bdL_sm hps (by decide) c (trimQ_mem (l := p) (hsame ▸ (mem_trimQ hc).resolve_right h0))
  have hsp : smL p := bdL_sm hps (by decide)
  have hsa := fs_Same r p hsr hsp (by omega) (by omega)
  rw [show sameP r p = true by unfold sameP; rw [hsame]; exact decide_eq_true rfl] at hsa
  refine r_c 14 (hdp) ?_
  refine a_4 ?_
  refine AR.op0y rfl rfl (gy (by exact decide_eq_false (by omega))) (.move rfl) rfl rfl ?_
  refine AR.op0y rfl rfl (gy (by exact decide_eq_false (by omega))) (.move rfl) rfl rfl ?_
  refine AR.op0y rfl rfl (gy (by exact decide_eq_false (by omega))) (.call rfl rfl rfl (hsa)) rfl rfl ?_
  refine o_0 (.pickF rfl (by exact decide_eq_false (by omega)) rfl) ?_
  refine a_1 ?_
  refine AR.op0y rfl rfl (gy rfl) (.call rfl rfl rfl (fs_wakes)) rfl rfl ?_
  refine o_0 (.pickT rfl rfl rfl) ?_
  refine a_z ?_
  refine AWp.ret ?_
  refine Fin.tmpE rfl ?_ ?_
  ·rfl
  ·exact closed_v _
end Go.Proofs.YtdhedjbmdnnbkaaGreatDoor
namespace Go.Proofs.YtdhedjbmdnnbkaaGreatDoor
open Go.Abs Go.Deep Go.RowKit
set_option maxRecDepth 20000
theorem ess_of {M : Nat → Prop} {β : Nat → Option (Nat × Nat)} {w : World} {b s off : Nat} {f : Nat → List AV} : ∀ (n j : Nat), (∀ i, i < j + n → (f i).length = s ∧ RVcs M β w b (f i) (off + i * s)) → RVess M β w b s ((List.range' j n).map f) (off + j * s)
 | 0, _, _ => trivial
 | n + 1, j, h => by
  rw [List.range'_succ, List.map_cons]
  refine ⟨(h j (by omega)).1, (h j (by omega)).2, ?_⟩
  have := ess_of (M := M) (β := β) (w := w) (b := b) (s := s) (off := off) n (j + 1) (fun i hi => h i (by omega))
  rwa [Nat.add_mul, Nat.one_mul, ← Nat.add_assoc] at this
theorem size_of_cell {w : World} {b o : Nat} {v : Value} (h : w.cell? ⟨b, o, none⟩ = some v) : ∃ N, sizeAt w b = some N := by
 unfold World.cell? at h
 unfold sizeAt
 split at h
 ·rename_i c _ _ e; rw [show w.heap[b]? = _ from e]; exact ⟨c.size, rfl⟩
 ·cases h
theorem tyS : (Tryz.prog).underlying 22 = some (.slice 82) := by kernel_rfl
theorem tyN : ∃ f0 f1 f2, (Tryz.prog).underlying 82 = some (.struct #[f0, f1, f2]) ∧ f0.type = 2 ∧ f0.offset = 0 ∧ f1.type = 2 ∧ f1.offset = 1 ∧ f2.type = 5 ∧ f2.offset = 2 :=
 ⟨{ name := "N", type := 2, offset := 0, embedded := false, tag := "", pkgPath := "", byteOffset := 0 }, { name := "D", type := 2, offset := 1, embedded := false, tag := "", pkgPath := "", byteOffset := 8 }, { name := "Pow", type := 5, offset := 2, embedded := false, tag := "", pkgPath := "", byteOffset := 16 }, by kernel_rfl, rfl, rfl, rfl, rfl, rfl, rfl⟩
theorem tyc82 : (Tryz.prog).cellsOf 82 = 3 := by kernel_rfl
theorem tyc2 : (Tryz.prog).cellsOf 2 = 1 := by kernel_rfl
theorem tyc5 : (Tryz.prog).cellsOf 5 = 1 := by kernel_rfl
theorem tyu2 : (Tryz.prog).underlying 2 = some (.int .i64) := by kernel_rfl
theorem tyu5 : (Tryz.prog).underlying 5 = some (.int .u8) := by kernel_rfl
theorem num_of {H : Type} {enc : TypeId × Value → H} {W : World} {base n : Nat} {spare : Nat → Bool} {held : Bool} {cs : List Value} {x : DataW H × List MemPlace} (h : DataW.trod enc Tryz.prog W base spare held n 82 cs = some x) :
    ∃ r : NRow, i64r r.1 ∧ i64r r.2.1 ∧ r.2.2 ≤ 255 ∧ cs = [.int .i64 r.1, .int .i64 r.2.1, .int .u8 r.2.2] := by
 obtain ⟨f0, f1, f2, hu, h1, h2, h3, h4, h5, h6⟩ := tyN
 obtain ⟨y0, y1, y2, m, _, hl, g0, g1, g2⟩ := trod_struct3 hu h
 rw [h1, h2, tyc2] at g0
 rw [h3, h4, tyc2] at g1
 rw [h5, h6, tyc5] at g2
 rw [tyc82] at hl
 obtain ⟨n0, e0, _, w0⟩ := DataW.trod_int tyu2 g0
 obtain ⟨n1, e1, _, w1⟩ := DataW.trod_int tyu2 g1
 obtain ⟨n2, e2, _, w2⟩ := DataW.trod_int tyu5 g2
 match cs, hl with
 | [c0, c1, c2], _ =>
  simp at e0 e1 e2
  subst e0; subst e1; subst e2
  have b2 := bounds_u8 w2
  refine ⟨(n0, n1, n2.toNat), bounds_i64 w0, bounds_i64 w1, ?_, ?_⟩
  ·show n2.toNat ≤ 255; omega
  ·show _ = [_, _, Value.int .u8 ((n2.toNat : Nat) : Int)]
   rw [Int.toNat_of_nonneg b2.1]
theorem rows_of {H : Type} {enc : TypeId × Value → H} {W : World} {a : Option Addr} {len cap : Nat} {d : DataW H} {ps : List MemPlace} (h : DataW.Trod enc Tryz.prog W 0 (fun _ => true) true 22 (.slice a len cap) d ps) :
    ∃ l : List NRow, okR l ∧ RV (fun _ => False) (fun _ => none) W (.arr (nR l)) (.slice a len cap) := by
 obtain ⟨fuel, hf⟩ := h
 rcases open_slice tyS hf with ⟨hcs, _⟩ | ⟨x, len', cap', m, n, D, Pl, hcs, _, hl, hm, hmm, _, hx⟩
 ·simp [Value.cells] at hcs
  obtain ⟨rfl, rfl, rfl⟩ := hcs
  exact ⟨[], (fun r hr => by cases hr), none, 0, rfl, Nat.le_refl _, by decide, .inl rfl⟩
 ·simp [Value.cells] at hcs
  obtain ⟨rfl, rfl, rfl⟩ := hcs
  simp only [if_true] at hmm
  have hmc : m = cap := hmm
  rw [hmc] at hx
  rw [tyc82] at hx
  have hx' : ∀ i, i < len → ∃ r : NRow, (i64r r.1 ∧ i64r r.2.1 ∧ r.2.2 ≤ 255) ∧ W.cells? 0 (x.add (i * 3)) 3 = some [.int .i64 r.1, .int .i64 r.2.1, .int .u8 r.2.2] := fun i hi => by
   obtain ⟨cs', g1, g2⟩ := hx i (by omega)
   obtain ⟨r, r1, r2, r3, e⟩ := num_of g2
   exact ⟨r, ⟨r1, r2, r3⟩, by rw [g1, e]⟩
  obtain ⟨R, hR⟩ := choose_lt (α := NRow) hx'
  refine ⟨(List.range len).map R, ?_, some x, cap, by simp [nR], by simpa [nR] using hl, hm, ?_⟩
  ·intro r hr
   obtain ⟨i, hi, rfl⟩ := List.mem_map.1 hr
   exact (hR i (List.mem_range.1 hi)).1
  ·by_cases h0 : len = 0
   ·subst h0; exact .inl rfl
   ·right
    have c : ∀ i, i < len → ∀ j (v : Value), [.int .i64 (R i).1, .int .i64 (R i).2.1, .int .u8 (R i).2.2][j]? = some v → W.cell? (x.add (i * 3 + j)) = some v := fun i hi j v hv => by
     have hj : j < 3 := by
      have := (List.getElem?_eq_some_iff.1 hv).1
      simpa using this
     have := (World.cells?_some (hR i hi).2).2.2 j hj
     rw [hv, Go.Deep.add_add] at this
     exact this
    have c0 := c 0 (by omega) 0 _ rfl
    obtain ⟨b, off, spot⟩ := x
    have hspot : spot = none := by simpa [Addr.add] using World.cell?_spot c0
    subst hspot
    have hadd : ∀ k, Addr.add ⟨b, off, none⟩ k = ⟨b, off + k, none⟩ := fun k => by
     unfold Addr.add
     by_cases hk : k = 0
     ·simp [hk]
     ·simp [hk]
    refine ⟨b, off, 3, rfl, size_of_cell (by rw [hadd] at c0; exact c0), (fun h => h), ?_⟩
    have := ess_of (M := fun _ => False) (β := fun _ => none) (w := W) (b := b) (s := 3) (off := off) (f := fun i => nuC (R i).1 (R i).2.1 (R i).2.2) len 0 (fun i hi => ⟨rfl, ?_⟩)
    ·rw [Nat.zero_mul, Nat.add_zero, ← List.range_eq_range'] at this
     rw [nR, List.map_map]
     exact this
    ·have hi' : i < len := by omega
     refine ⟨⟨_, ?_, rfl⟩, ⟨_, ?_, rfl⟩, ⟨_, ?_, rfl⟩, trivial⟩
     ·have := c i hi' 0 _ rfl; rw [hadd] at this; exact this
     ·have := c i hi' 1 _ rfl; rw [hadd] at this; rw [Nat.add_assoc]; exact this
     ·have := c i hi' 2 _ rfl; rw [hadd] at this; rw [Nat.add_assoc, Nat.add_assoc]; exact this
end Go.Proofs.YtdhedjbmdnnbkaaGreatDoor
namespace Go.Proofs.YtdhedjbmdnnbkaaGreatDoor
open Go
def mkF (P : Program) (fn : Func) (c : OpenClaim) : Bool := (P.make == some c.make) && (c.kinds == (if c.domain.isEmpty then [] else fn.params.toList.map fun t => match P.underlying t with | some (.int k) => some k | _ => none)) && (c.pinned == c.pinnedBy)
section
variable {P : Program} {f : FuncId} {fn : Func} {s : ChangeSpec} {c : OpenClaim}
theorem joined_of (h1 : c.wf (OpenSpec.ofChange s) = true) (h2 : laidOutB P = true) (h3 : mapsRowed P = true)
    (h4 : fn.params.all (P.readableRec ·) = true) (h5 : namedTie P c.named s.vars = true)
    (h6 : ((c.stops == []) && (P.stops == []) && (c.knobs == []) && (P.stopKnobs == [])) = true)
    (h7 : (c.inPlace == P.inPlace f) = true) (h8 : (c.unfollowed == P.unfollowed f) = true) (h9 : (c.recurses == P.recurses f) = true) (h10 : (c.named == P.varsNamed f) = true)
    (h11 : ((c.maps == (fn.params.toList ++ s.plain.varTypes P).any (P.mapsRec ·)) && (c.ifaces == (fn.params.toList ++ s.plain.varTypes P).any (P.ifacesRec ·)) && (c.mapsOut == P.mapsAmong fn.resultTypes.toList)) = true)
    (h12 : ((c.loops == (fn.params.toList ++ s.plain.varTypes P).any (P.loopsFrom ·)) && (c.wideKeys == (fn.params.toList ++ s.plain.varTypes P ++ fn.resultTypes.toList).any (P.wideKeysFrom ·))) = true)
    (h13 : (s.vars.all (P.varReadable ·) && fn.resultTypes.all (fun t => P.readableRec t && decide (t < P.types.size)) && (c.ifacesOut == fn.resultTypes.toList.any (P.ifacesRec ·)) && (c.loopsOut == fn.resultTypes.toList.any (P.loopsFrom ·)) && (c.plainKeys == P.plainKeys) && c.shortTexts.isNone) = true)
    (h14 : P.stopsHeard = true) (h15 : P.mayEnter = true) (h16 : (c.lifted == P.liftsFinal) = true)
    (h17 : mkF P fn c = true)
    (h18 : ((c.veiled == (fn.params.toList ++ s.plain.varTypes P ++ fn.resultTypes.toList).any (P.veiledRec ·)) && c.veiledFits P fn.params.toList (fn.params.toList ++ s.plain.varTypes P ++ fn.resultTypes.toList)) = true) :
    joinedFacts P f fn s c = true := by
 unfold mkF at h17
 simp only [Bool.and_eq_true] at h6 h11 h12 h13 h17 h18
 simp only [joinedFacts, Bool.and_eq_true]
 and_intros
 all_goals first | assumption | exact h6.1.1.1 | exact h6.1.1.2 | exact h6.1.2 | exact h6.2 | exact h11.1.1 | exact h11.1.2 | exact h11.2 | exact h12.1 | exact h12.2 | exact h13.1.1.1.1.1 | exact h13.1.1.1.1.2 | exact h13.1.1.1.2 | exact h13.1.1.2 | exact h13.1.2 | exact h13.2 | exact h17.1.1 | exact h17.1.2 | exact h17.2 | exact h18.1 | exact h18.2
end
theorem all_lo : laidOutB Tryz.prog = true := by kernel_rfl
theorem all_mr : mapsRowed Tryz.prog = true := by kernel_rfl
theorem all_sh : Tryz.prog.stopsHeard = true := by kernel_rfl
theorem all_me : Tryz.prog.mayEnter = true := by kernel_rfl
theorem all_lk : false = Tryz.prog.looks [] := by kernel_rfl
theorem all_mi : Tryz.prog.mainIs = some (true, ("3282ea10664338544b9e7d29bc655aa318bb5383d19a7a3f41182a047c2a096f" : String).toList) := by kernel_rfl
theorem all_lf : Tryz.prog.liftsFinal = Rows.polyThroughRow.lifted := by kernel_rfl
end Go.Proofs.YtdhedjbmdnnbkaaGreatDoor
