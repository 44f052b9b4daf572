/- Part X19 of the proof. -/
import Derived.Test.YtdhedjbmdnnbkaaGreatDoorX18
import Derived.ProofKit
import Derived.OpenShut
import Derived.Carry
import Derived.Deep.Slices
import Derived.Deep.Strs
set_option linter.all false
namespace Go.Proofs.YtdhedjbmdnnbkaaGreatDoor
open Go.Abs
set_option maxRecDepth 100000
set_option maxHeartbeats 2000000
inductive LeLL : List (List AV) → List (List AV) → Prop
 | nil : LeLL [] []
 | cons {e e' es es'} : LeL e e' → LeLL es es' → LeLL (e :: es) (e' :: es')
theorem leL_len {xs ys : List AV} (h : LeL xs ys) : ys.length = xs.length := by
 induction h with
 | nil => rfl
 | cons _ _ ih => simp [ih]
theorem leL_cs {M : Nat → Prop} {β : Nat → Option (Nat × Nat)} {w : World} {b : Nat} {xs ys : List AV} (h : LeL xs ys) : ∀ {off : Nat}, RVcs M β w b xs off → RVcs M β w b ys off := by
 induction h with
 | nil => exact fun h => h
 | cons h1 _ ih => rintro off ⟨⟨x, hx, hr⟩, hs⟩; exact ⟨⟨x, hx, h1 M β w x hr⟩, ih hs⟩
theorem LeLL.ess {M : Nat → Prop} {β : Nat → Option (Nat × Nat)} {w : World} {b s : Nat} {es es' : List (List AV)} (h : LeLL es es') : ∀ {off : Nat}, RVess M β w b s es off → RVess M β w b s es' off := by
 induction h with
 | nil => exact fun h => h
 | cons h1 _ ih => rintro off ⟨h0, hc, hr⟩; exact ⟨(leL_len h1).trans h0, leL_cs h1 hc, ih hr⟩
theorem LeLL.length {es es' : List (List AV)} (h : LeLL es es') : es'.length = es.length := by
 induction h with
 | nil => rfl
 | cons _ _ ih => simp [ih]
theorem Le.arr {es es' : List (List AV)} (h : LeLL es es') : Le (.arr es) (.arr es') := by
 rintro M β w y ⟨a, c, rfl, h1, h2, h3⟩
 refine ⟨a, c, by rw [h.length], by rw [h.length]; exact h1, h2, h3.imp (fun e => ?_) ?_⟩
 ·subst e; cases h; rfl
 ·rintro ⟨b, off, s, rfl, hN, hm, hr⟩
  exact ⟨b, off, s, rfl, hN, hm, h.ess hr⟩
theorem LeLL.refl : ∀ es, LeLL es es
 | [] => .nil
 | e :: es => .cons (LeL.refl e) (LeLL.refl es)
section
variable {P : Go.Program} {T : Nat} {x y : Operand}
theorem binS_tt {s : ByteArray} : ∀ w, (do eqGuard .eql T x y (.string s) (.string s); binOp .eql T (.string s) (.string s) : Sem Value).run P w = .ok (.bool true) w := fun w => by
 rw [binS_eql]; simp
end
theorem fs_wakes : FSpec Tryz.prog 14 [] (.v (.bool true)) := by
 have i1 := fs_ints [-2, 0, 1] (by decide) (by decide)
 rw [show zR [-2, 0, 1] = twoP by decide] at i1
 have i2 := fs_ints [-1, 0, 1] (by decide) (by decide)
 rw [show zR [-1, 0, 1] = [-1, 0, 1] by decide] at i2
 have i3 := fs_ints [2, 1] (by decide) (by decide)
 rw [show zR [2, 1] = [2, 1] by decide] at i3
 have i4 := fs_ints [0, 0, 1] (by decide) (by decide)
 rw [show zR [0, 0, 1] = [0, 0, 1] by decide] at i4
 have i5 := fs_ints [-3, 0, 1] (by decide) (by decide)
 rw [show zR [-3, 0, 1] = [-3, 0, 1] by decide] at i5
 have hdiv := fs_Divide [-1, 0, 1] [2, 1] w_div.2.1 w_div.2.2
 rw [w_div.1] at hdiv
 obtain ⟨c, hc1, hc2, hc3⟩ : ∃ c, placeM 40 twoP = some c ∧ 1 < allV c ∧ spanM 40 c 1 4 = some (mkRat 11 8, mkRat 23 16) := by
  have h := w_span
  unfold spanChk at h
  split at h
  ·rename_i c hc; exact ⟨c, hc, of_decide_eq_true h⟩
  ·cases h
 have hspan := fs_RSpan 40 twoP 1 4 c (mkRat 11 8, mkRat 23 16) hc1 (by decide) (by decide) hc2 hc3
 have n1 := fs_Int (-1) (by decide)
 rw [show ((-1 : Int) : Rat) = -1 by decide] at n1
 have n2 := fs_Int 2 (by decide)
 rw [show ((2 : Int) : Rat) = 2 by decide] at n2
 have n3 := fs_Int 1 (by decide)
 rw [show ((1 : Int) : Rat) = 1 by decide] at n3
 have hrange := fs_Range 40 40 twoP (-1, 2) 0 (-2, 2) w_range (by decide)
 have hfirst := fs_ToFirst 10 [0, 0, 1] [mkRat 1 2, 0, mkRat 1 2] w_first
 have hof := fs_Of (-3) 2 (by decide) (by decide) (by decide)
 rw [show (((-3 : Int) : Rat) / ((2 : Int) : Rat)) = mkRat (-3) 2 by decide +kernel] at hof
 have t1 := fs_PText [1, mkRat (-3) 2, 0, 1] w_text1.2
 rw [w_text1.1] at t1
 have t1' : FSpec Tryz.prog 65 [.arr [qC 1, qC (mkRat (-3) 2), zC, qC 1]] (tx [120, 94, 51, 32, 45, 32, 51, 47, 50, 32, 120, 32, 43, 32, 49]) := by
  refine t1.weak (.cons (Le.arr (.cons (.refl _) (.cons (.refl _) (.cons le_zC (.cons (.refl _) .nil))))) .nil) ?_
  refine closed_cons (closed_arr ?_) closed_nil
  intro e he
  simp at he
  rcases he with rfl | rfl | rfl | rfl
  ·exact closed_qC _
  ·exact closed_qC _
  ·exact closed_zC
  ·exact closed_qC _
 have t2 := fs_PText [-2, 1] w_text2.2
 rw [w_text2.1] at t2
 have t3 := fs_PText [3] w_text3.2
 rw [w_text3.1] at t3
 have s1 := fs_SText (mkRat 11 8, mkRat 23 16) w_sp.2.1 w_sp.2.2.1
 rw [w_sp.1] at s1
 have s2 := fs_SText (-2, 2) w_sp.2.2.2.2.1 w_sp.2.2.2.2.2
 rw [w_sp.2.2.2.1] at s2
 have q1 := fs_QText (mkRat 1 2) w_q.2.1
 rw [w_q.1] at q1
 have q2 := fs_QText 1 w_q.2.2.2
 rw [w_q.2.2.1] at q2
 have hres := fs_Resultant 10 twoP [-3, 0, 1] 1 w_res
 refine FSpec.enter Tryz.func14 rfl (by kernel_rfl) rfl rfl rfl ?_ rfl ?_
 ·exact closed_nil
 refine r_z 1 ?_
 refine s_r 3 ?_
 refine a_1 ?_
 refine o_1 (.callS1 rfl rfl rfl (.shut rfl (by first | exact nle rfl | (simp; done) | (simp; omega)) (.nil)) rfl (i1)) ?_
 refine a_z ?_
 refine s_r 12 ?_
 refine a_1 ?_
 refine o_1 (.callS1 rfl rfl rfl (.shut rfl (by first | exact nle rfl | (simp; done) | (simp; omega)) (.nil)) rfl (i2)) ?_
 refine a_1 ?_
 refine o_1 (.callS1 rfl rfl rfl (.shut rfl (by first | exact nle rfl | (simp; done) | (simp; omega)) (.nil)) rfl (i3)) ?_
 refine c_s (hdiv) ?_
 refine a_z ?_
 refine r_c 9 (hspan) ?_
 refine a_z ?_
 refine r_c 11 (n1) ?_
 refine c_s (n2) ?_
 refine c_s (hrange) ?_
 refine a_z ?_
 refine s_r 8 ?_
 refine a_1 ?_
 refine o_1 (.callS1 rfl rfl rfl (.shut rfl (by first | exact nle rfl | (simp; done) | (simp; omega)) (.nil)) rfl (i4)) ?_
 refine c_s (hfirst) ?_
 refine a_z ?_
 refine r_c 7 (hof) ?_
 refine a_z ?_
 refine AWp.seq ?_
 refine AWp.regD hmix (m := 64) rfl ?_
 refine c_s (n3) ?_
 refine c_s (n3) ?_
 refine o_1 (.buildSlice te_25.h tz_37.h rfl (by decide) rfl rfl rfl (by simp [setAt_length, ofV])) ?_
 refine o_1 (.callS1 rfl rfl rfl (.shut rfl (by first | exact nle rfl | (simp; done) | (simp; omega)) (.nil)) rfl (t1')) ?_
 refine o_0 (.bin rfl rfl binS_tt) ?_
 refine a_1 ?_
 refine AR.op0y rfl rfl (gy rfl) (.move rfl) rfl rfl ?_
 refine AR.op0y rfl rfl (gy rfl) (.bin rfl rfl binI_eql) rfl rfl ?_
 refine o_0 (.pickT rfl rfl rfl) ?_
 refine a_1 ?_
 refine AR.op0y rfl rfl (gy rfl) (.move rfl) rfl rfl ?_
 refine AR.op0y rfl rfl (gy rfl) (.call rfl rfl rfl (t2)) rfl rfl ?_
 refine AR.op0y rfl rfl (gy rfl) (.bin rfl rfl binS_tt) rfl rfl ?_
 refine o_0 (.pickT rfl rfl rfl) ?_
 refine a_1 ?_
 refine AR.op0y rfl rfl (gy rfl) (.move rfl) rfl rfl ?_
 refine AR.op0y rfl rfl (gy rfl) (.call rfl rfl rfl (t3)) rfl rfl ?_
 refine AR.op0y rfl rfl (gy rfl) (.bin rfl rfl binS_tt) rfl rfl ?_
 refine o_0 (.pickT rfl rfl rfl) ?_
 refine a_1 ?_
 refine AR.op0y rfl rfl (gy rfl) (.move rfl) rfl rfl ?_
 refine AR.op0y rfl rfl (gy rfl) (.bin rfl rfl binI_eql) rfl rfl ?_
 refine o_0 (.pickT rfl rfl rfl) ?_
 refine a_1 ?_
 first | refine AR.op0y rfl rfl (gy rfl) (.load_l rfl rfl rfl tg_65.h ts_65.h (nle rfl)) rfl rfl ?_ | refine AR.op0y rfl rfl (gy rfl) (.load_a rfl rfl tg_65.h ts_65.h (nle rfl)) rfl rfl ?_
 refine AR.op0y rfl rfl (gy rfl) (.call rfl rfl rfl (s1)) rfl rfl ?_
 refine AR.op0y rfl rfl (gy rfl) (.bin rfl rfl binS_tt) rfl rfl ?_
 refine o_0 (.pickT rfl rfl rfl) ?_
 refine a_1 ?_
 refine AR.op0y rfl rfl (gy rfl) (.move rfl) rfl rfl ?_
 refine AR.op0y rfl rfl (gy rfl) (.bin rfl rfl binI_eql) rfl rfl ?_
 refine o_0 (.pickT rfl rfl rfl) ?_
 refine a_1 ?_
 first | refine AR.op0y rfl rfl (gy rfl) (.load_l rfl rfl rfl tg_65.h ts_65.h (nle rfl)) rfl rfl ?_ | refine AR.op0y rfl rfl (gy rfl) (.load_a rfl rfl tg_65.h ts_65.h (nle rfl)) rfl rfl ?_
 refine AR.op0y rfl rfl (gy rfl) (.call rfl rfl rfl (s2)) rfl rfl ?_
 refine AR.op0y rfl rfl (gy rfl) (.bin rfl rfl binS_tt) rfl rfl ?_
 refine o_0 (.pickT rfl rfl rfl) ?_
 refine a_1 ?_
 refine AR.op0y rfl rfl (gy rfl) (.move rfl) rfl rfl ?_
 refine AR.op0y rfl rfl (gy rfl) (.bin rfl rfl binI_eql) rfl rfl ?_
 refine o_0 (.pickT rfl rfl rfl) ?_
 refine a_1 ?_
 refine AR.op0y rfl rfl (gy rfl) (.move rfl) rfl rfl ?_
 first | refine AR.op0y rfl rfl (gy rfl) (.lenD rfl rfl rfl rfl te_24.h) rfl rfl ?_ | refine AR.op0y rfl rfl (gy rfl) (.lenI rfl rfl rfl rfl te_24.h) rfl rfl ?_ | refine AR.op0y rfl rfl (gy rfl) (.lenP rfl rfl rfl rfl te_24.h) rfl rfl ?_ | refine AR.op0y rfl rfl (gy rfl) (.lenC rfl rfl rfl rfl te_24.h) rfl rfl ?_ | refine AR.op0y rfl rfl (gy rfl) (.lenR rfl rfl rfl rfl te_24.h) rfl rfl ?_ | refine AR.op0y rfl rfl (gy rfl) (.len rfl rfl rfl rfl rfl te_24.h) rfl rfl ?_
 refine AR.op0y rfl rfl (gy rfl) (.bin rfl rfl binI_eql) rfl rfl ?_
 refine o_0 (.pickT rfl rfl rfl) ?_
 refine a_1 ?_
 refine AR.op0y rfl rfl (gy rfl) (.move rfl) rfl rfl ?_
 first | refine AR.op0y rfl rfl (gy rfl) (.index_l rfl rfl (by omega) (by omega) te_24.h) rfl rfl ?_ | refine AR.op0y rfl rfl (gy rfl) (.index_a rfl rfl (by omega) rfl rfl te_24.h) rfl rfl ?_
 first | refine AR.op0y rfl rfl (gy rfl) (.load_l rfl rfl rfl tg_37.h ts_37.h (nle rfl)) rfl rfl ?_ | refine AR.op0y rfl rfl (gy rfl) (.load_a rfl rfl tg_37.h ts_37.h (nle rfl)) rfl rfl ?_
 refine AR.op0y rfl rfl (gy rfl) (.call rfl rfl rfl (q1)) rfl rfl ?_
 refine AR.op0y rfl rfl (gy rfl) (.bin rfl rfl binS_tt) rfl rfl ?_
 refine o_0 (.pickT rfl rfl rfl) ?_
 refine a_1 ?_
 refine AR.op0y rfl rfl (gy rfl) (.move rfl) rfl rfl ?_
 refine AR.op1y rfl rfl (gy rfl) (.buildSlice te_200.h tz_2.h rfl (by decide) rfl rfl rfl (by first | (simp; done) | (simp [setAt_length, ofV]; done) | rfl)) rfl rfl ?_
 refine AR.op1y rfl rfl (gy rfl) (.callS1 rfl rfl rfl (.shut rfl (by first | exact nle rfl | (simp; done) | (simp; omega)) (.nil)) rfl (i5)) rfl rfl ?_
 refine AR.op0y rfl rfl (gy rfl) (.call rfl rfl rfl (hres)) rfl rfl ?_
 refine AR.op0y rfl rfl (gy rfl) (.call rfl rfl rfl (q2)) rfl rfl ?_
 refine AR.op0y rfl rfl (gy rfl) (.bin rfl rfl binS_tt) rfl rfl ?_
 refine o_0 (.pickT rfl rfl rfl) ?_
 refine a_1 ?_
 refine AR.nil ⟨by kernel_rfl, ?_⟩
 refine AWp.ret ?_
 refine Fin.tmpE rfl ?_ ?_
 ·rfl
 ·exact closed_v _
abbrev NRow := Int × Int × Nat
def nV (r : NRow) : Rat := numV r.1 r.2.1 r.2.2
def nR (l : List NRow) : List (List AV) := l.map fun r => nuC r.1 r.2.1 r.2.2
def nL (l : List NRow) : List Rat := l.map nV
abbrev rL (l : List Rat) : List (List AV) := rE (l.map rq)
def okR (l : List NRow) : Prop := ∀ r ∈ l, i64r r.1 ∧ i64r r.2.1 ∧ r.2.2 ≤ 255
theorem closed_nR (l : List NRow) : ∀ e ∈ nR l, ∀ c ∈ e, Closed c := by
 intro e he c hc
 obtain ⟨r, _, rfl⟩ := List.mem_map.1 he
 exact closed_nuC _ _ _ c hc
theorem closed_rL (l : List Rat) : ∀ e ∈ rL l, ∀ c ∈ e, Closed c := closed_rE _
theorem numV_qs {N D : Int} {p : Nat} (hN : i64r N) (hD : i64r D) : qs (numV N D p) ≤ 256 := by
 obtain ⟨d, hd⟩ : ∃ d, d = dNum D := ⟨_, rfl⟩
 have hd0 : d ≠ 0 := by rw [hd]; unfold dNum; split <;> omega
 have hdr : i64r d := by
  rw [hd]; unfold dNum i64r; unfold i64r at hD; split <;> omega
 unfold i64r at hN hdr
 obtain ⟨q, hq⟩ : ∃ q, q = Rat.divInt N d := ⟨_, rfl⟩
 have hnv : numV N D p = powQ q (p % 4) := by unfold numV; rw [← hd, ← hq]
 have hqs : qs q ≤ 64 := by
  have hb : ∀ z : Int, -9223372036854775808 ≤ z ∧ z ≤ 9223372036854775808 → bl z.natAbs ≤ 64 := fun z h => bl_le (k := 64) (by omega)
  rw [hq]
  by_cases hn : d < 0
  ·rw [divInt_neg N d hn]
   exact qs_mkRat (by omega) (hb (-N) (by omega)) (hb d (by omega))
  ·rw [divInt_pos N d (by omega)]
   exact qs_mkRat (by omega) (hb N (by omega)) (hb d (by omega))
 have h1 := powQ_qs q (p % 4)
 have h2 : (p % 4 + 1) * qs q ≤ 4 * 64 := Nat.mul_le_mul (by omega) hqs
 rw [hnv]; omega
theorem nL_qs {l : List NRow} (h : okR l) : ∀ q ∈ nL l, qs q ≤ 256 := by
 intro q hq
 obtain ⟨r, hr, rfl⟩ := List.mem_map.1 hq
 exact numV_qs (h r hr).1 (h r hr).2.1
def liS (l : List NRow) : List Rat → Nat → AState
 | [], i => ⟨[(0, .arr (nR l)), (4, .emp), (5, .emp), (6, i64 i)], [], 1, 33⟩
 | q :: Q, i => ⟨[(0, .arr (nR l)), (4, .lsl 1 0 (Q.length + 1) none 3), (5, .lsl 2 0 (Q.length + 1) none 4), (6, i64 i)], [(1, some ⟨37, 3, pE (q :: Q)⟩), (2, some ⟨75, 4, rL (q :: Q)⟩)], 3, 33⟩
theorem liS_nil (l : List NRow) (i : Nat) : liS l [] i = ⟨[(0, .arr (nR l)), (4, .emp), (5, .emp), (6, i64 i)], [], 1, 33⟩ := rfl
theorem liS_cons (l : List NRow) (q : Rat) (Q : List Rat) (i : Nat) : liS l (q :: Q) i = ⟨[(0, .arr (nR l)), (4, .lsl 1 0 (Q.length + 1) none 3), (5, .lsl 2 0 (Q.length + 1) none 4), (6, i64 i)], [(1, some ⟨37, 3, pE (q :: Q)⟩), (2, some ⟨75, 4, rL (q :: Q)⟩)], 3, 33⟩ := rfl
theorem fs_List (l : List NRow) (hl : l.length ≤ 1099511627776) (hb : okR l) : FSpec Tryz.prog 80 [.arr (nR l)] (.tup [.arr (pE (nL l)), .arr (rL (nL l))]) := by
 have hcr : ∀ q : Rat, ∀ e ∈ [rC (rq q)], ∀ c ∈ e, Closed c := fun q => closed_rL [q]
 refine FSpec.enter Tryz.func80 rfl (by kernel_rfl) rfl rfl rfl ?_ rfl ?_
 ·exact closed_cons (closed_arr (closed_nR l)) closed_nil
 refine r_z 2 ?_
 refine r_z 1 ?_
 refine r_z 1 ?_
 refine AWp.seq ?_
 refine r_z 1 ?_
 refine AWp.cutT (fun _ : Unit => liS l (nL l) l.length) (fun _ => True) ?_ ?_
 ·refine AWp.block ?_
  refine AWp.loopS (fun i : Nat => liS l (nL (l.take i)) i) (fun i => l.length - i) (fun i => i ≤ l.length) 0 (Nat.zero_le _) ?_ ?_
  ·show SEnt _ (liS l [] 0)
   rw [liS_nil]
   refine SEnt.to [] rfl rfl rfl au_r (fun hs => ?_) (fun hs => ?_)
   ·repeat' (first | exact CvF.nil | refine CvF.cons rfl ?_ ?_)
    all_goals (first | (exact Cv.clo hs (closed_arr (closed_nR l))) | exact au_c)
   ·repeat' (first | exact CvH.nil | refine CvH.cons rfl rfl rfl rfl ?_ ?_)
    all_goals (first | exact au_e | (refine CvLL.box ?_; repeat' (first | exact CvL.nil | refine CvL.cons ?_ ?_)))
    all_goals (first | (exact Cv.clo hs (closed_arr (closed_nR l))) | exact au_c)
  rintro i hi
  have hlen : (nR l).length = l.length := by simp [nR]
  by_cases hlt : i < l.length
  ·obtain ⟨n, hn⟩ : ∃ n, l[i]? = some n := ⟨_, List.getElem?_eq_getElem hlt⟩
   have hgt : (nR l)[((i : Nat) : Int).toNat]? = some (nuC n.1 n.2.1 n.2.2) := by
    show (nR l)[i]? = _
    simp [nR, hn]
   obtain ⟨hn1, hn2, hn3⟩ := hb n (List.mem_of_getElem? hn)
   have hbo := fs_Both1 n.1 n.2.1 n.2.2 hn1 hn2 hn3
   obtain ⟨v, hv⟩ : ∃ v, v = numV n.1 n.2.1 n.2.2 := ⟨_, rfl⟩
   rw [← hv] at hbo
   have htk : nL (l.take (i + 1)) = nL (l.take i) ++ [v] := by rw [take_snoc hn]; simp [nL, nV, hv]
   have hQl : (nL (l.take i)).length = i := by simp [nL]; omega
   cases hQ : nL (l.take i) with
   | nil =>
    simp only [liS_nil]
    refine AWp.seq ?_
    refine r_z 4 ?_
    refine AWp.cond rfl (fun h => ?_) (fun h => ?_)
    rotate_left
    ·exact absurd h (by simp [nR]; omega)
    refine AWp.skip ?_
    refine AWp.seq ?_
    refine AWp.block ?_
    refine s_r 12 ?_
    refine a_2 ?_
    first | refine AR.op0 (.index_l rfl rfl (by omega) (by omega) te_22.h) rfl rfl ?_ | refine AR.op0 (.index_a rfl rfl (by omega) hgt rfl te_22.h) rfl rfl ?_
    first | refine AR.op0 (.load_l rfl rfl hgt tg_82.h ts_82.h (nle rfl)) rfl rfl ?_ | refine AR.op0 (.load_a rfl hgt tg_82.h ts_82.h (nle rfl)) rfl rfl ?_
    refine c_s (hbo) ?_
    refine a_z ?_
    refine AWp.regD hmix (m := 10) rfl ?_
    refine a_8 ?_
    refine a_2 ?_
    refine AR.nil ⟨by kernel_rfl, ?_⟩
    refine AWp.reg (m := 3) rfl ?_
    refine a_z ?_
    refine ⟨i + 1, by omega, hlt, ?_⟩
    simp only [htk, hQ, List.nil_append, liS_cons]
    refine SEnt.to [(1, 4), (2, 5)] rfl rfl rfl au_r (fun hs => ?_) (fun hs => ?_)
    ·repeat' (first | exact CvF.nil | refine CvF.cons rfl ?_ ?_)
     all_goals (first | (exact Cv.clo hs (closed_arr (closed_nR l))) | exact au_c)
    ·repeat' (first | exact CvH.nil | refine CvH.cons rfl rfl rfl rfl ?_ ?_)
     all_goals (first | ((try exact CvLL.clo hs (closed_pE [v])); (try exact CvLL.clo hs (closed_rL [v]))) | exact au_e | (refine CvLL.box ?_; repeat' (first | exact CvL.nil | refine CvL.cons ?_ ?_)))
     all_goals (first | (exact Cv.clo hs (closed_arr (closed_nR l))) | exact au_c)
   | cons q Q =>
    rw [hQ] at hQl
    simp at hQl
    simp only [liS_cons]
    refine AWp.seq ?_
    refine r_z 4 ?_
    refine AWp.cond rfl (fun h => ?_) (fun h => ?_)
    rotate_left
    ·exact absurd h (by simp [nR]; omega)
    refine AWp.skip ?_
    refine AWp.seq ?_
    refine AWp.block ?_
    refine s_r 12 ?_
    refine a_2 ?_
    first | refine AR.op0 (.index_l rfl rfl (by omega) (by omega) te_22.h) rfl rfl ?_ | refine AR.op0 (.index_a rfl rfl (by omega) hgt rfl te_22.h) rfl rfl ?_
    first | refine AR.op0 (.load_l rfl rfl hgt tg_82.h ts_82.h (nle rfl)) rfl rfl ?_ | refine AR.op0 (.load_a rfl hgt tg_82.h ts_82.h (nle rfl)) rfl rfl ?_
    refine c_s (hbo) ?_
    refine a_z ?_
    refine AWp.regD hmix (m := 10) rfl ?_
    refine a_8 ?_
    refine a_2 ?_
    refine AR.nil ⟨by kernel_rfl, ?_⟩
    refine AWp.reg (m := 3) rfl ?_
    refine a_z ?_
    refine ⟨i + 1, by omega, hlt, ?_⟩
    simp only [htk, hQ, List.cons_append, liS_cons]
    have e : pE (q :: Q) ++ [qC v] = pE (q :: (Q ++ [v])) := by simp [pE]
    have e2 : rL (q :: Q) ++ [rC (rq v)] = rL (q :: (Q ++ [v])) := by simp [rE]
    refine SEnt.to [(1, 4), (2, 5)] rfl rfl rfl ?_ (fun hs => ?_) (fun hs => ?_)
    ·repeat' (first | exact ShrL.nil | refine ShrL.cons rfl rfl rfl rfl (by first | (simp) | rfl | (simp; done) | (simp <;> omega)) ?_)
    ·repeat' (first | exact CvF.nil | refine CvF.cons rfl ?_ ?_)
     all_goals (first | (exact Cv.clo hs (closed_arr (closed_nR l))) | exact au_c)
    ·repeat' (first | exact CvH.nil | refine CvH.cons rfl rfl rfl rfl ?_ ?_)
     all_goals (first | ((try exact CvLL.cloE hs e (closed_pE _)); (try exact CvLL.cloE hs e2 (closed_rL _))) | exact au_e | (refine CvLL.box ?_; repeat' (first | exact CvL.nil | refine CvL.cons ?_ ?_)))
     all_goals (first | (exact Cv.clo hs (closed_arr (closed_nR l))) | exact au_c)
  ·have hge : i = l.length := by omega
   subst hge
   simp only [List.take_length]
   cases hQ : nL l with
   | nil =>
    simp only [liS_nil]
    refine AWp.seq ?_
    refine r_z 4 ?_
    refine AWp.cond rfl (fun h => ?_) (fun h => ?_)
    ·exact absurd h (by simp [nR])
    ·refine AWp.exit ⟨(), trivial, ?_⟩
     simp only [hQ, liS_nil]
     refine SEnt.to [] rfl rfl rfl au_r (fun hs => ?_) (fun hs => ?_)
     ·repeat' (first | exact CvF.nil | refine CvF.cons rfl ?_ ?_)
      all_goals (first | (exact Cv.clo hs (closed_arr (closed_nR l))) | exact au_c)
     ·repeat' (first | exact CvH.nil | refine CvH.cons rfl rfl rfl rfl ?_ ?_)
      all_goals (first | exact au_e | (refine CvLL.box ?_; repeat' (first | exact CvL.nil | refine CvL.cons ?_ ?_)))
      all_goals (first | (exact Cv.clo hs (closed_arr (closed_nR l))) | exact au_c)
   | cons q Q =>
    simp only [liS_cons]
    refine AWp.seq ?_
    refine r_z 4 ?_
    refine AWp.cond rfl (fun h => ?_) (fun h => ?_)
    ·exact absurd h (by simp [nR])
    ·refine AWp.exit ⟨(), trivial, ?_⟩
     simp only [hQ, liS_cons]
     refine SEnt.to [] rfl rfl rfl au_r (fun hs => ?_) (fun hs => ?_)
     ·repeat' (first | exact CvF.nil | refine CvF.cons rfl ?_ ?_)
      all_goals (first | (exact Cv.clo hs (closed_arr (closed_nR l))) | exact au_c)
     ·repeat' (first | exact CvH.nil | refine CvH.cons rfl rfl rfl rfl ?_ ?_)
      all_goals (first | (exact CvLL.clo hs (closed_rL _)) | exact au_e | (refine CvLL.box ?_; repeat' (first | exact CvL.nil | refine CvL.cons ?_ ?_)))
      all_goals (first | (exact Cv.clo hs (closed_arr (closed_nR l))) | exact au_c)
 rintro _ _
 cases hQ : nL l with
 | nil =>
  simp only [liS_nil]
  refine r_z 4 ?_
  refine AWp.ret ?_
  refine Fin.many ⟨_, _, rfl, rfl, ⟨_, _, rfl, rfl, rfl⟩⟩ (nle rfl) ?_
  exact CvL.cons (Cv.emp _) (CvL.cons (Cv.emp _) CvL.nil)
 | cons q Q =>
  simp only [liS_cons]
  refine r_z 4 ?_
  refine AWp.ret ?_
  refine Fin.many ⟨_, _, rfl, rfl, ⟨_, _, rfl, rfl, rfl⟩⟩ (nle rfl) ?_
  exact CvL.cons (Cv.sealE shr_nil rfl (fun _ _ h => by cases h) rfl (by simp) (closed_pE _)) (CvL.cons (Cv.sealE shr_nil rfl (fun _ _ h => by cases h) rfl (by simp) (closed_rL _)) CvL.nil)
theorem fs_BothP (l : List NRow) (hl : l.length ≤ 1099511627776) (hb : okR l) : FSpec Tryz.prog 15 [.arr (nR l)] (.tup [.arr (pE (nL l)), .arr (rL (nL l))]) := by
 refine FSpec.enter Tryz.func15 rfl (by kernel_rfl) rfl rfl rfl ?_ rfl ?_
 ·exact closed_cons (closed_arr (closed_nR l)) closed_nil
 refine r_z 2 ?_
 refine r_c 7 (fs_List l hl hb) ?_
 refine a_z ?_
 refine r_z 4 ?_
 refine AWp.ret ?_
 refine Fin.many ⟨_, _, rfl, rfl, ⟨_, _, rfl, rfl, rfl⟩⟩ (nle rfl) ?_
 exact CvL.cons (Cv.clo shr_nil (closed_arr (closed_pE _))) (CvL.cons (Cv.clo shr_nil (closed_arr (closed_rL _))) CvL.nil)
theorem dec_one {n : Nat} (h : Lib.decDigits n = [49]) : n = 1 := by
 by_cases h1 : n < 10
 ·rw [Lib.decDigits_one h1] at h
  have : ∀ n, n < 10 → [UInt8.ofNat (48 + n)] = [49] → n = 1 := by decide
  exact this n h1 h
 ·have h2 := Lib.decDigits_length n
  rw [h, Lib.nDigits_big h1] at h2
  have := Lib.nDigits_pos (n / 10)
  simp at h2; omega
theorem ztx_nat (n : Nat) : ztx (n : Int) = Lib.decDigits n := by
 unfold ztx
 rw [if_neg (by omega), Int.natAbs_natCast]; rfl
theorem ztx_len (z : Int) : (ztx z).length ≤ bl z.natAbs + 2 := by
 have := dec_len_bl z.natAbs
 unfold ztx
 split <;> simp <;> omega
theorem fs_rText (x : RQ) (hx : rok x) (h : qs x.1 ≤ 68719476736) : FSpec Tryz.prog 143 [.agg (rC x)] (tx (qtx x.1)) := by
 have hn := Nat.le_trans (qs_num x.1) h
 have hd := Nat.le_trans (qs_den x.1) h
 have zn := fs_ZText x.1.num hn
 have zd := fs_ZText (x.1.den : Int) (by rw [Int.natAbs_natCast]; exact hd)
 have ln := ztx_len x.1.num
 have ld := ztx_len (x.1.den : Int)
 rw [Int.natAbs_natCast] at ld
 have hcx : Closed (.aptr [rC x] 0 0) := closed_box (closed_rC x)
 refine FSpec.enter Tryz.func143 rfl (by kernel_rfl) rfl rfl rfl ?_ rfl ?_
 ·exact closed_cons (closed_rA x) closed_nil
 refine r_z 2 ?_
 by_cases h1 : x.1.den = 1
 ·have e1 : decide (ztx (x.1.den : Int) = [49]) = true := decide_eq_true (by rw [h1]; decide +kernel)
  refine AWp.seq ?_
  refine r_c 4 (fs_rden x hx) ?_
  refine c_s (zd) ?_
  refine o_0 (.bin rfl rfl (vT binS_eqT e1)) ?_
  refine AR.nil ?_
  refine AWp.cond rfl (fun h2 => ?_) (fun h2 => ?_)
  rotate_left
  ·cases h2
  refine r_c 4 (zn) ?_
  refine a_z ?_
  refine AWp.ret ?_
  exact Fin.tmpE rfl (by rw [qtx_eq, if_pos h1, List.append_nil]) (closed_v _)
 ·have e1 : decide (ztx (x.1.den : Int) = [49]) = false := decide_eq_false fun e => h1 (dec_one (by rw [← ztx_nat]; exact e))
  refine AWp.seq ?_
  refine r_c 4 (fs_rden x hx) ?_
  refine c_s (zd) ?_
  refine o_0 (.bin rfl rfl (vF binS_eqT e1)) ?_
  refine AR.nil ?_
  refine AWp.cond rfl (fun h2 => ?_) (fun h2 => ?_)
  ·cases h2
  refine AWp.skip ?_
  refine AWp.seq ?_
  refine AWp.regD hmix (m := 9) rfl ?_
  refine c_s (zn) ?_
  refine o_0 (.bin rfl rfl (binS_add (m := [47]) (by simp; omega))) ?_
  refine c_s (fs_rden x hx) ?_
  refine c_s (zd) ?_
  refine o_0 (.bin rfl rfl (binS_add (by simp; omega))) ?_
  refine a_1 ?_
  refine AR.nil ⟨by kernel_rfl, ?_⟩
  refine AWp.ret ?_
  exact Fin.tmpE rfl (by rw [qtx_eq, if_neg h1, ztx_nat, List.append_assoc]; rfl) (closed_v _)
theorem fs_SameN (q : Rat) (x : RQ) (hx : rok x) (h : x.1 = q) (hs : qs q ≤ 68719476736) : FSpec Tryz.prog 62 [.agg (qC q), .agg (rC x)] (bln true) := by
 subst h
 have e1 : decide (qtx x.1 = qtx x.1) = true := decide_eq_true rfl
 refine FSpec.enter Tryz.func62 rfl (by kernel_rfl) rfl rfl rfl ?_ rfl ?_
 ·exact closed_cons (closed_qA _) (closed_cons (closed_rA x) closed_nil)
 refine r_z 3 ?_
 refine AWp.seq ?_
 refine AWp.regD hmix (m := 6) rfl ?_
 refine c_s (fs_QTextA x.1 hs) ?_
 refine c_s (fs_rText x hx hs) ?_
 refine o_0 (.bin rfl rfl (vT binS_eqT e1)) ?_
 refine a_1 ?_
 refine AR.nil ⟨by kernel_rfl, ?_⟩
 refine AWp.ret ?_
 exact Fin.tmpE rfl rfl (closed_v _)
def vR (x : List RQ) : List Rat := x.map (·.1)
def okX (x : List RQ) : Prop := ∀ y ∈ x, rok y
def trimR (x : List RQ) : List RQ := x.take (trimQ (vR x)).length
theorem vR_trim (x : List RQ) : vR (trimR x) = trimQ (vR x) := by
 unfold trimR
 rw [vR, List.map_take]
 exact (trimQ_pre (vR x)).symm
theorem okX_trim {x : List RQ} (h : okX x) : okX (trimR x) := fun y hy => h y (List.mem_of_mem_take hy)
@[simp] theorem vR_length (x : List RQ) : (vR x).length = x.length := by simp [vR]
def lkS (l : List Rat) (x : List RQ) : Nat → AState
 | i => ⟨[(0, .arr (pE l)), (1, .arr (rE x)), (5, i64 i)], [], 1, 27⟩
theorem lkS_mk (l : List Rat) (x : List RQ) (i : Nat) : lkS l x i = ⟨[(0, .arr (pE l)), (1, .arr (rE x)), (5, i64 i)], [], 1, 27⟩ := rfl
theorem fs_Alike (l : List Rat) (x : List RQ) (hx : okX x) (h : vR x = l) (hs : bdL l 68719476736) (hl : l.length ≤ 1099511627776) : FSpec Tryz.prog 31 [.arr (pE l), .arr (rE x)] (bln true) := by
 have hxl : x.length = l.length := by rw [← h]; simp
 refine FSpec.enter Tryz.func31 rfl (by kernel_rfl) rfl rfl rfl ?_ rfl ?_
 ·exact closed_cons (closed_pA l) (closed_cons (closed_rEA x) closed_nil)
 refine r_z 1 ?_
 refine AWp.seq ?_
 refine s_r 5 ?_
 refine a_4 ?_
 refine o_0 (.bin rfl rfl (vF binI_neq ((by rw [hxl]; simp)))) ?_
 refine AR.nil ?_
 refine AWp.cond rfl (fun h2 => ?_) (fun h2 => ?_)
 ·cases h2
 refine AWp.skip ?_
 refine AWp.seq ?_
 refine r_z 1 ?_
 refine AWp.cutT (fun _ : Unit => ⟨[(0, .arr (pE l)), (1, .arr (rE x))], [], 1, 27⟩) (fun _ => True) ?_ ?_
 ·refine AWp.block ?_
  refine AWp.loopS (lkS l x) (fun i => l.length - i) (fun i => i ≤ l.length) 0 (Nat.zero_le _) ?_ ?_
  ·simp only [lkS_mk]
   exact s_e []
  rintro i hi
  simp only [lkS_mk]
  by_cases hlt : i < l.length
  ·obtain ⟨y, hy⟩ : ∃ y, x[i]? = some y := ⟨_, List.getElem?_eq_getElem (by omega)⟩
   have hq : l[i]? = some y.1 := by rw [← h, vR, List.getElem?_map, hy]; rfl
   have g1 : (pE l)[((i : Nat) : Int).toNat]? = some (qC y.1) := pE_get hq
   have g2 : (rE x)[((i : Nat) : Int).toNat]? = some (rC y) := rE_get hy
   refine AWp.seq ?_
   refine q_z 4 ?_
   refine AWp.cond rfl (fun h2 => ?_) (fun h2 => ?_)
   rotate_left
   ·cases h2
   refine AWp.skip ?_
   refine AWp.seq ?_
   refine AWp.block ?_
   refine AWp.seq ?_
   refine AWp.regD hmix (m := 10) rfl ?_
   refine a_2 ?_
   first | refine AR.op0 (.index_l rfl rfl (by omega) (by omega) te_24.h) rfl rfl ?_ | refine AR.op0 (.index_a rfl rfl (by omega) g1 rfl te_24.h) rfl rfl ?_
   first | refine AR.op0 (.load_l rfl rfl g1 tg_37.h ts_37.h (nle rfl)) rfl rfl ?_ | refine AR.op0 (.load_a rfl g1 tg_37.h ts_37.h (nle rfl)) rfl rfl ?_
   refine a_2 ?_
   first | refine AR.op0 (.index_l rfl rfl (by omega) (by omega) te_26.h) rfl rfl ?_ | refine AR.op0 (.index_a rfl rfl (by omega) g2 rfl te_26.h) rfl rfl ?_
   first | refine AR.op0 (.load_l rfl rfl g2 tg_75.h ts_75.h (nle rfl)) rfl rfl ?_ | refine AR.op0 (.load_a rfl g2 tg_75.h ts_75.h (nle rfl)) rfl rfl ?_
   refine c_s (fs_SameN y.1 y (hx y (List.mem_of_getElem? hy)) rfl (hs _ (List.mem_of_getElem? hq))) ?_
   refine a_1 ?_
   refine AR.nil ⟨by kernel_rfl, ?_⟩
   refine AWp.cond rfl (fun h2 => ?_) (fun h2 => ?_)
   ·cases h2
   refine AWp.skip ?_
   refine AWp.reg (m := 3) rfl ?_
   refine a_z ?_
   refine ⟨i + 1, by omega, hlt, ?_⟩
   exact s_e []
  ·refine AWp.seq ?_
   refine q_z 4 ?_
   refine AWp.cond rfl (fun h2 => ?_) (fun h2 => ?_)
   ·cases h2
   refine AWp.exit ⟨(), trivial, ?_⟩
   exact s_e []
 rintro _ _
 refine r_z 1 ?_
 refine AWp.ret ?_
 exact Fin.tmpE rfl rfl (closed_v _)
def rtmS (x : List RQ) : Nat → AState
 | n => ⟨[(0, .arr (rE x)), (3, i64 n)], [], 1, 23⟩
theorem rtmS_mk (x : List RQ) (n : Nat) : rtmS x n = ⟨[(0, .arr (rE x)), (3, i64 n)], [], 1, 23⟩ := rfl
theorem fs_rTrim (x : List RQ) (hl : x.length ≤ 1099511627776) : FSpec Tryz.prog 100 [.arr (rE x)] (.arr (rE (trimR x))) := by
 obtain ⟨v, hv⟩ : ∃ v, v = vR x := ⟨_, rfl⟩
 have hvl : v.length = x.length := by rw [hv]; simp
 refine FSpec.enter Tryz.func100 rfl (by kernel_rfl) rfl rfl rfl ?_ rfl ?_
 ·exact closed_cons (closed_rEA x) closed_nil
 refine r_z 1 ?_
 refine r_z 3 ?_
 refine AWp.cut (rtmS x) (fun n => n ≤ v.length ∧ trimQ v = v.take n) ?_ ?_
 ·refine AWp.block ?_
  refine AWp.loopS (rtmS x) (fun n => n) (fun n => n ≤ v.length ∧ trimQ v = trimQ (v.take n)) v.length ⟨Nat.le_refl _, by rw [List.take_length]⟩ ?_ ?_
  ·simp only [rtmS_mk]
   rw [hvl]
   exact s_e []
  rintro n ⟨hn, ht⟩
  simp only [rtmS_mk]
  cases n with
  | zero =>
   refine AWp.seq ?_
   refine s_r 11 ?_
   refine a_1 ?_
   refine o_0 (.bin rfl rfl (vF binI_gtr ((by simp)))) ?_
   refine a_z ?_
   refine AWp.cond rfl (fun h1 => ?_) (fun h1 => ?_)
   ·cases h1
   refine AWp.exit ⟨0, ⟨Nat.zero_le _, ?_⟩, ?_⟩
   ·rw [ht]; rfl
   ·simp only [rtmS_mk]
    exact s_e []
  | succ n =>
   obtain ⟨y, hy⟩ : ∃ y, x[n]? = some y := ⟨_, List.getElem?_eq_getElem (by omega)⟩
   have hq : v[n]? = some y.1 := by rw [hv, vR, List.getElem?_map, hy]; rfl
   have g2 : (rE x)[(((n + 1 : Nat) : Int) - 1).toNat]? = some (rC y) := by
    rw [show (((n + 1 : Nat) : Int) - 1).toNat = n by omega]; exact rE_get hy
   have hs : trimQ (v.take (n + 1)) = if y.1 = 0 then trimQ (v.take n) else v.take (n + 1) := by
    rw [take_snoc hq, trimQ_snoc]
   by_cases h0 : y.1 = 0
   ·refine AWp.seq ?_
    refine s_r 11 ?_
    refine d_6 ?_
    first | refine AR.op0y rfl rfl rfl (.index_l rfl rfl (by omega) (by omega) te_27.h) rfl rfl ?_ | refine AR.op0y rfl rfl rfl (.index_a rfl rfl (by omega) g2 rfl te_27.h) rfl rfl ?_
    first | refine AR.op0y rfl rfl rfl (.load_l rfl rfl g2 tg_75.h ts_75.h (nle rfl)) rfl rfl ?_ | refine AR.op0y rfl rfl rfl (.load_a rfl g2 tg_75.h ts_75.h (nle rfl)) rfl rfl ?_
    refine c_s (fs_rSign y) ?_
    refine AR.op0y rfl rfl rfl (.bin rfl rfl (vT binI_eql ((by rw [h0]; decide)))) rfl rfl ?_
    refine a_z ?_
    refine AWp.cond rfl (fun h1 => ?_) (fun h1 => ?_)
    rotate_left
    ·cases h1
    refine AWp.skip ?_
    refine AWp.block ?_
    refine AWp.reg (m := 3) rfl ?_
    refine a_z ?_
    refine ⟨n, Nat.lt_succ_self n, ⟨by omega, ?_⟩, ?_⟩
    ·rw [ht, hs, if_pos h0]
    ·exact s_e []
   ·have hz : (sgZ y.1.num == (0 : Int)) = false := by
     rw [beq_eq_false_iff_ne]
     exact fun e => h0 (sgZ_num_eq.1 e)
    refine AWp.seq ?_
    refine s_r 11 ?_
    refine d_6 ?_
    first | refine AR.op0y rfl rfl rfl (.index_l rfl rfl (by omega) (by omega) te_27.h) rfl rfl ?_ | refine AR.op0y rfl rfl rfl (.index_a rfl rfl (by omega) g2 rfl te_27.h) rfl rfl ?_
    first | refine AR.op0y rfl rfl rfl (.load_l rfl rfl g2 tg_75.h ts_75.h (nle rfl)) rfl rfl ?_ | refine AR.op0y rfl rfl rfl (.load_a rfl g2 tg_75.h ts_75.h (nle rfl)) rfl rfl ?_
    refine c_s (fs_rSign y) ?_
    refine AR.op0y rfl rfl rfl (.bin rfl rfl (vF binI_eql (hz))) rfl rfl ?_
    refine a_z ?_
    refine AWp.cond rfl (fun h1 => ?_) (fun h1 => ?_)
    ·cases h1
    refine AWp.exit ⟨n + 1, ⟨hn, ?_⟩, ?_⟩
    ·rw [ht, hs, if_neg h0]
    ·simp only [rtmS_mk]
     exact s_e []
 rintro n ⟨hn, ht⟩
 simp only [rtmS_mk]
 have hnl : (trimQ v).length = n := by rw [ht]; simp; omega
 have htr : trimR x = x.take n := by unfold trimR; rw [← hv, hnl]
 cases n with
 | zero =>
  refine s_r 5 ?_
  refine a_2 ?_
  refine o_0 (.sa_h rfl rfl (h := 0) rfl (by simp) te_27.h (rE_len4 _)) ?_
  refine o_0 (.append0 rfl rfl rfl te_27.h rfl rfl rfl (.arr (es := []) (by simp))) ?_
  refine a_z ?_
  refine AWp.ret ?_
  rw [htr]
  exact Fin.tmpN rfl
 | succ n =>
  obtain ⟨X, hX⟩ : ∃ X, X = x.take (n + 1) := ⟨_, rfl⟩
  have hXl : X.length = n + 1 := by rw [hX]; simp; omega
  have hXn : rE X ≠ [] := fun e => by have := congrArg List.length e; simp [hXl] at this
  have e4 : (rE x).take (n + 1) = rE X := by rw [rE_take, hX]
  have hXn' : (rE x).take (n + 1) ≠ [] := by rw [e4]; exact hXn
  refine s_r 5 ?_
  refine a_2 ?_
  refine o_0 (.sa_h rfl rfl (h := n + 1) rfl (by simp; omega) te_27.h (rE_len4 _)) ?_
  refine o_1 (.append_e rfl rfl rfl te_27.h rfl rfl rfl (.arr (by rw [e4]; exact rE_len4 _)) (by first | assumption | (simp; done)) tz_75.h rfl tb_75.h (by first | rfl | assumption | (simp; done) | (simp; omega) | omega) (by first | (simp [maxLen]; done) | (simp [maxLen]; omega))) ?_
  refine a_z ?_
  refine AWp.ret ?_
  rw [htr, ← hX, ← e4]
  exact Fin.tmpS rfl rfl rfl rfl (by rw [e4]; exact closed_rE _)
theorem fs_SameP (l : List Rat) (x : List RQ) (hx : okX x) (h : trimQ (vR x) = l) (hs : bdL l 68719476736) (hl : x.length ≤ 1099511627776) : FSpec Tryz.prog 23 [.arr (pE l), .arr (rE x)] (bln true) := by
 have hll : l.length ≤ x.length := by rw [← h]; have := trimQ_len (vR x); simpa using this
 refine FSpec.enter Tryz.func23 rfl (by kernel_rfl) rfl rfl rfl ?_ rfl ?_
 ·exact closed_cons (closed_pA l) (closed_cons (closed_rEA x) closed_nil)
 refine r_z 1 ?_
 refine r_c 5 (fs_rTrim x hl) ?_
 refine c_s (fs_Alike l (trimR x) (okX_trim hx) ((vR_trim x).trans h) hs (by omega)) ?_
 refine a_z ?_
 refine AWp.ret ?_
 exact Fin.tmpE rfl rfl (closed_v _)
def rP (v : List Rat) : List RQ := v.map rq
theorem okX_rP (v : List Rat) : okX (rP v) := fun y hy => by obtain ⟨q, _, rfl⟩ := List.mem_map.1 hy; exact rok_rq q
theorem vR_rP (v : List Rat) : vR (rP v) = v := by
 unfold vR rP
 rw [List.map_map]
 exact List.map_id' v
@[simp] theorem rP_length (v : List Rat) : (rP v).length = v.length := by simp [rP]
theorem trimR_rP (v : List Rat) : trimR (rP v) = rP (trimQ v) := by
 unfold trimR
 rw [vR_rP, rP, ← List.map_take, ← trimQ_pre]; rfl
theorem vR_get {x : List RQ} {i : Nat} (h : i < x.length) : ∃ y, x[i]? = some y ∧ y.1 = coP (vR x) i := by
 refine ⟨_, List.getElem?_eq_getElem h, ?_⟩
 unfold coP vR
 rw [List.getD_eq_getElem?_getD, List.getElem?_map, List.getElem?_eq_getElem h]; rfl
theorem vR_bd {x : List RQ} {s : Nat} (h : bdL (vR x) s) {y : RQ} {i : Nat} (hy : x[i]? = some y) : qs y.1 ≤ s := h _ (List.mem_map.2 ⟨y, List.mem_of_getElem? hy, rfl⟩)
theorem take_succ' {V : List Rat} {j : Nat} (h : j < V.length) : V.take (j + 1) = V.take j ++ [coP V j] := take_snoc (coP_get h)
@[simp] theorem trimR_length (x : List RQ) : (trimR x).length = (trimQ (vR x)).length := by rw [← vR_trim, vR_length]
theorem fs_rDegree (x : List RQ) (hl : x.length ≤ 1000000) : FSpec Tryz.prog 29 [.arr (rE x)] (i64 (degP (vR x))) := by
 have htl := trimQ_len (vR x)
 rw [vR_length, ← trimR_length] at htl
 refine FSpec.enter Tryz.func29 rfl (by kernel_rfl) rfl rfl rfl ?_ rfl ?_
 ·exact closed_cons (closed_rEA x) closed_nil
 refine r_z 1 ?_
 refine r_c 5 (fs_rTrim x (by omega)) ?_
 refine a_z ?_
 refine AWp.ret ?_
 exact Fin.tmpE rfl (by rw [trimR_length]; rfl) (closed_v _)
theorem fs_rLead (x : List RQ) (y : RQ) (hl : x.length ≤ 1000000) (hy : (trimR x).getLastD (rq 0) = y) : FSpec Tryz.prog 64 [.arr (rE x)] (.agg (rC y)) := by
 have hi0 : FSpec Tryz.prog 51 [i64 0] (.agg (rC (rq 0))) := fs_rInt 0 (by decide)
 have htr : (trimR x).length ≤ x.length := by rw [trimR_length, ← vR_length x]; exact trimQ_len _
 refine FSpec.enter Tryz.func64 rfl (by kernel_rfl) rfl rfl rfl ?_ rfl ?_
 ·exact closed_cons (closed_rEA x) closed_nil
 refine r_z 1 ?_
 refine r_c 3 (fs_rTrim x (by omega)) ?_
 refine a_z ?_
 cases hX : trimR x with
 | nil =>
  rw [hX] at hy
  cases hy
  refine AWp.seq ?_
  refine s_r 3 ?_
  refine a_2 ?_
  refine o_0 (.bin rfl rfl (vT binI_eql (decide_eq_true (by simp)))) ?_
  refine AR.nil ?_
  refine AWp.cond rfl (fun h => ?_) (fun h => ?_)
  rotate_left
  ·cases h
  refine r_c 2 (hi0) ?_
  refine a_z ?_
  refine AWp.ret ?_
  refine Fin.cellE rfl rfl rfl tg_75.h ts_75.h (nle rfl) ?_ ?_
  ·rfl
  ·exact closed_rA (rq 0)
 | cons a A =>
  rw [hX] at htr
  rw [hX] at hy
  have hg : (rE (a :: A))[(((a :: A).length : Int) - 1).toNat]? = some (rC y) := by
   refine rE_get ?_
   rw [show (((a :: A).length : Int) - 1).toNat = A.length by simp, ← hy]
   rw [List.getLastD_eq_getLast?, List.getLast?_eq_getElem?]
   simp
  refine AWp.seq ?_
  refine s_r 3 ?_
  refine a_2 ?_
  refine o_0 (.bin rfl rfl (vF binI_eql (decide_eq_false (by simp; omega)))) ?_
  refine AR.nil ?_
  refine AWp.cond rfl (fun h => ?_) (fun h => ?_)
  ·cases h
  refine AWp.skip ?_
  have hln : (a :: A).length = A.length + 1 := rfl
  refine s_r 7 ?_
  refine a_4 ?_
  first | refine AR.op0 (.index_l rfl rfl (by omega) (by omega) te_27.h) rfl rfl ?_ | refine AR.op0 (.index_a rfl rfl (by omega) hg rfl te_27.h) rfl rfl ?_
  first | refine AR.op0 (.load_l rfl rfl hg tg_75.h ts_75.h (nle rfl)) rfl rfl ?_ | refine AR.op0 (.load_a rfl hg tg_75.h ts_75.h (nle rfl)) rfl rfl ?_
  refine a_z ?_
  refine AWp.ret ?_
  refine Fin.cellE rfl rfl rfl tg_75.h ts_75.h (nle rfl) ?_ ?_
  ·rfl
  ·exact closed_rA y
def v9 : List Rat → AV
 | [] => .emp
 | _ :: Q => .lsl 1 0 (Q.length + 1) none 3
def h9 : List Rat → List (Nat × Option ABlk)
 | [] => []
 | q :: Q => [(1, some ⟨37, 3, pE (q :: Q)⟩)]
theorem cmpQ_eq (a b : Rat) : (cmpQ a b == (0 : Int)) = decide (a = b) := by
 unfold cmpQ
 by_cases h1 : a < b
 ·have h2 : a ≠ b := fun e => by rw [e] at h1; exact absurd h1 Rat.lt_irrefl
  simp [h1, h2]
 ·by_cases h2 : a = b
  ·simp [h1, h2, Rat.lt_irrefl]
  ·simp [h1, h2]
end Go.Proofs.YtdhedjbmdnnbkaaGreatDoor
namespace Go.Abs
theorem bd_co' {p : List Rat} {s : Nat} (h : bdL p s) (hs : 1 ≤ s) : ∀ i, qs (coP p i) ≤ s := fun i => bdL_co h hs i
theorem bdL_neg {p : List Rat} {s : Nat} (h : bdL p s) (hs : 1 ≤ s) : bdL (scaleP p (-1)) s := coP_bd fun i => by
 rw [coP_scale, show coP p i * (-1) = -coP p i by grind, qs_neg]
 exact bd_co' h hs i
theorem bdL_addP {p q : List Rat} {s t : Nat} (hp : bdL p s) (hq : bdL q t) (hs : 1 ≤ s) (ht : 1 ≤ t) : bdL (addP p q) (s + t + 1) := coP_bd fun i => by
 rw [coP_add]
 have := qs_add (coP p i) (coP q i)
 have := bd_co' hp hs i
 have := bd_co' hq ht i
 omega
theorem bdL_subP {p q : List Rat} {s t : Nat} (hp : bdL p s) (hq : bdL q t) (hs : 1 ≤ s) (ht : 1 ≤ t) : bdL (subP p q) (s + t + 1) := bdL_addP hp (bdL_neg hq ht) hs ht
theorem bdL_trim {p : List Rat} {s : Nat} (h : bdL p s) : bdL (trimQ p) s := fun q hq => h q (trimQ_mem hq)
def shP (i : Nat) (v : List Rat) : List Rat := List.replicate i 0 ++ v
theorem shP_length (i : Nat) (v : List Rat) : (shP i v).length = i + v.length := by simp [shP]
theorem shP_succ (i : Nat) (v : List Rat) : shP (i + 1) v = 0 :: shP i v := by simp [shP, List.replicate_succ]
theorem evalP_sh (v : List Rat) (x : Rat) : ∀ i, evalP (shP i v) x = evalP v x * x ^ i
 | 0 => by simp [shP]
 | i + 1 => by
  rw [shP_succ, evalP_cons, evalP_sh v x i, Rat.pow_succ]
  grind
theorem coP_sh (v : List Rat) (i n : Nat) : coP (shP i v) n = if n < i then 0 else coP v (n - i) := by
 induction i generalizing n with
 | zero => simp [shP]
 | succ i ih =>
  rw [shP_succ]
  cases n with
  | zero => rw [coP_zero, if_pos (by omega)]
  | succ n =>
   rw [coP_succ, ih, Nat.add_sub_add_right]
   by_cases h : n < i
   ·rw [if_pos h, if_pos (by omega)]
   ·rw [if_neg h, if_neg (by omega)]
def mR (p q : List Rat) : Nat → List Rat
 | 0 => []
 | n + 1 => addP (mR p q n) (shP n (scaleP p (coP q n)))
theorem evalP_mR (p q : List Rat) (x : Rat) : ∀ n, n ≤ q.length → evalP (mR p q n) x = evalP p x * evalP (q.take n) x
 | 0, _ => by simp [mR, evalP_nil]
 | n + 1, h => by
  rw [mR, evalP_add, evalP_mR p q x n (by omega), evalP_sh, evalP_scale, evalP_take q x n (by omega)]
  grind
theorem trim_mR (p q : List Rat) : ∀ n, trimQ (mR p q n) = mR p q n
 | 0 => rfl
 | n + 1 => trimQ_idem _
theorem trim_mulP (p q : List Rat) : trimQ (mulP p q) = mulP p q := by
 unfold mulP
 split
 ·rfl
 ·exact trimQ_idem _
theorem mR_mul (p q : List Rat) : mR p q q.length = mulP p q := by
 rw [← trim_mR, ← trim_mulP]
 refine eval_ext fun x => ?_
 rw [evalP_mR p q x _ (Nat.le_refl _), List.take_length, evalP_mul]
theorem mR_mono {p : List Rat} {a : Rat} {d : Nat} : ∀ n, n ≤ d → mR p (shP d [a]) n = []
 | 0, _ => rfl
 | n + 1, h => by
  rw [mR, mR_mono n (by omega)]
  refine trim_nil_iff.2 fun i => ?_
  have h1 : coP (shP d [a]) n = 0 := by rw [coP_sh, if_pos (by omega)]
  have h2 : coP (tabP (max ([] : List Rat).length (shP n (scaleP p (coP (shP d [a]) n))).length) fun i => coP [] i + coP (shP n (scaleP p (coP (shP d [a]) n))) i) i = coP [] i + coP (shP n (scaleP p (coP (shP d [a]) n))) i := by
   rw [← coP_trim]; exact coP_add _ _ i
  rw [h2, coP_nil, coP_sh, coP_scale, h1]
  split <;> grind
theorem mR_mono_bd {p : List Rat} {a : Rat} {d s : Nat} (hp : bdL p s) (hs : 1 ≤ s) (n : Nat) (hn : n ≤ d + 1) : bdL (mR p (shP d [a]) n) (s + qs a + 2) := by
 by_cases h : n ≤ d
 ·rw [mR_mono n h]; exact fun _ h => by cases h
 ·have : n = d + 1 := by omega
  subst this
  refine coP_bd fun i => ?_
  rw [mR, coP_add, mR_mono d (Nat.le_refl _), coP_nil, Rat.zero_add, coP_sh]
  split
  ·have : qs 0 = 1 := by decide
   omega
  ·rw [coP_scale, coP_sh, if_neg (by omega), Nat.sub_self, coP_zero]
   have := qs_mul (coP p (i - d)) a
   have := bd_co' hp hs (i - d)
   omega
end Go.Abs
namespace Go.Proofs.YtdhedjbmdnnbkaaGreatDoor
open Go.Abs
set_option maxRecDepth 20000
set_option maxHeartbeats 1000000
theorem fs_rSameR (x y : List RQ) (s : Nat) (hx : okX x) (hy : okX y) (hs : bdL (vR x) s) (ht : bdL (vR y) s) (hlim : 2 * s ≤ 1099511627776) (hxl : x.length ≤ 1000000) (hyl : y.length ≤ 1000000) : FSpec Tryz.prog 61 [.arr (rE x), .arr (rE y)] (bln (sameP (vR x) (vR y))) := by
 obtain ⟨a, ha⟩ : ∃ a, a = trimR x := ⟨_, rfl⟩
 obtain ⟨b, hb⟩ : ∃ b, b = trimR y := ⟨_, rfl⟩
 have hva : vR a = trimQ (vR x) := by rw [ha, vR_trim]
 have hvb : vR b = trimQ (vR y) := by rw [hb, vR_trim]
 have oa : okX a := by rw [ha]; exact okX_trim hx
 have ob : okX b := by rw [hb]; exact okX_trim hy
 have la : a.length ≤ x.length := by rw [← vR_length a, hva, ← vR_length x]; exact trimQ_len _
 have lb : b.length ≤ y.length := by rw [← vR_length b, hvb, ← vR_length y]; exact trimQ_len _
 have sa : bdL (vR a) s := by rw [hva]; exact bdL_trim hs
 have sb : bdL (vR b) s := by rw [hvb]; exact bdL_trim ht
 have ta := fs_rTrim x (by omega)
 have tb := fs_rTrim y (by omega)
 rw [← ha] at ta
 rw [← hb] at tb
 have hgoal : sameP (vR x) (vR y) = decide (vR a = vR b) := by unfold sameP; rw [hva, hvb]
 rw [hgoal]
 refine FSpec.enter Tryz.func61 rfl (by kernel_rfl) rfl rfl rfl ?_ rfl ?_
 ·exact closed_cons (closed_rEA x) (closed_cons (closed_rEA y) closed_nil)
 refine r_z 1 ?_
 refine r_c 6 (ta) ?_
 refine c_s (tb) ?_
 refine a_z ?_
 by_cases hl : a.length = b.length
 rotate_left
 ·have e : decide (vR a = vR b) = false := decide_eq_false fun e => hl (by rw [← vR_length a, e, vR_length])
  rw [e]
  refine AWp.seq ?_
  refine s_r 5 ?_
  refine a_4 ?_
  refine o_0 (.bin rfl rfl (vT binI_neq ((bne_iff_ne.2 (by omega))))) ?_
  refine AR.nil ?_
  refine AWp.cond rfl (fun h => ?_) (fun h => ?_)
  rotate_left
  ·cases h
  refine r_z 1 ?_
  refine AWp.ret ?_
  exact Fin.tmpE rfl rfl (closed_v _)
 refine AWp.seq ?_
 refine s_r 5 ?_
 refine a_4 ?_
 refine o_0 (.bin rfl rfl (vF binI_neq ((by rw [hl]; exact bne_self_eq_false _)))) ?_
 refine AR.nil ?_
 refine AWp.cond rfl (fun h => ?_) (fun h => ?_)
 ·cases h
 refine AWp.skip ?_
 refine AWp.seq ?_
 refine r_z 1 ?_
 refine AWp.cutT (fun _ : Unit => ⟨[(0, .arr (rE a)), (1, .arr (rE b))], [], 1, 31⟩) (fun _ => vR a = vR b) ?_ ?_
 ·refine AWp.block ?_
  refine AWp.loopS (fun j : Nat => ⟨[(5, i64 ((j : Nat) : Int)), (0, .arr (rE a)), (1, .arr (rE b))], [], 1, 31⟩) (fun j => a.length - j) (fun j => j ≤ a.length ∧ (vR a).take j = (vR b).take j) 0 ⟨Nat.zero_le _, rfl⟩ ?_ ?_
  ·exact s_e []
  rintro j ⟨hj, he⟩
  by_cases hlt : j < a.length
  ·obtain ⟨u, hu, huv⟩ := vR_get (x := a) (i := j) hlt
   obtain ⟨v, hv, hvv⟩ := vR_get (x := b) (i := j) (by omega)
   have g1 : (rE a)[((j : Nat) : Int).toNat]? = some (rC u) := rE_get hu
   have g2 : (rE b)[((j : Nat) : Int).toNat]? = some (rC v) := rE_get hv
   have fc := fs_rCmp u v (oa u (List.mem_of_getElem? hu)) (ob v (List.mem_of_getElem? hv)) (by have := vR_bd sa hu; have := vR_bd sb hv; omega)
   have hcq : (cmpQ u.1 v.1 != (0 : Int)) = !decide (u.1 = v.1) := by rw [bne, cmpQ_eq]
   refine AWp.seq ?_
   refine q_z 4 ?_
   refine AWp.cond rfl (fun h => ?_) (fun h => ?_)
   rotate_left
   ·cases h
   refine AWp.skip ?_
   refine AWp.seq ?_
   refine AWp.block ?_
   by_cases huv2 : u.1 = v.1
   ·refine AWp.seq ?_
    refine AWp.regD hmix (m := 10) rfl ?_
    refine a_2 ?_
    first | refine AR.op0 (.index_l rfl rfl (by omega) (by omega) te_27.h) rfl rfl ?_ | refine AR.op0 (.index_a rfl rfl (by omega) g1 rfl te_27.h) rfl rfl ?_
    first | refine AR.op0 (.load_l rfl rfl g1 tg_75.h ts_75.h (nle rfl)) rfl rfl ?_ | refine AR.op0 (.load_a rfl g1 tg_75.h ts_75.h (nle rfl)) rfl rfl ?_
    refine a_2 ?_
    first | refine AR.op0 (.index_l rfl rfl (by omega) (by omega) te_27.h) rfl rfl ?_ | refine AR.op0 (.index_a rfl rfl (by omega) g2 rfl te_27.h) rfl rfl ?_
    first | refine AR.op0 (.load_l rfl rfl g2 tg_75.h ts_75.h (nle rfl)) rfl rfl ?_ | refine AR.op0 (.load_a rfl g2 tg_75.h ts_75.h (nle rfl)) rfl rfl ?_
    refine c_s (fc) ?_
    refine o_0 (.bin rfl rfl (vF binI_neq ((by rw [hcq, decide_eq_true huv2]; rfl)))) ?_
    refine AR.nil ⟨by kernel_rfl, ?_⟩
    refine AWp.cond rfl (fun h => ?_) (fun h => ?_)
    ·cases h
    refine AWp.skip ?_
    refine AWp.reg (m := 3) rfl ?_
    refine a_z ?_
    refine ⟨j + 1, by omega, ⟨hlt, ?_⟩, ?_⟩
    ·rw [take_succ' (by rw [vR_length]; exact hlt), take_succ' (by rw [vR_length]; omega), he, ← huv, ← hvv, huv2]
    ·exact s_e []
   ·have e : decide (vR a = vR b) = false := decide_eq_false fun e => huv2 (by rw [huv, hvv, e])
    rw [e]
    refine AWp.seq ?_
    refine AWp.regD hmix (m := 10) rfl ?_
    refine a_2 ?_
    first | refine AR.op0 (.index_l rfl rfl (by omega) (by omega) te_27.h) rfl rfl ?_ | refine AR.op0 (.index_a rfl rfl (by omega) g1 rfl te_27.h) rfl rfl ?_
    first | refine AR.op0 (.load_l rfl rfl g1 tg_75.h ts_75.h (nle rfl)) rfl rfl ?_ | refine AR.op0 (.load_a rfl g1 tg_75.h ts_75.h (nle rfl)) rfl rfl ?_
    refine a_2 ?_
    first | refine AR.op0 (.index_l rfl rfl (by omega) (by omega) te_27.h) rfl rfl ?_ | refine AR.op0 (.index_a rfl rfl (by omega) g2 rfl te_27.h) rfl rfl ?_
    first | refine AR.op0 (.load_l rfl rfl g2 tg_75.h ts_75.h (nle rfl)) rfl rfl ?_ | refine AR.op0 (.load_a rfl g2 tg_75.h ts_75.h (nle rfl)) rfl rfl ?_
    refine c_s (fc) ?_
    refine o_0 (.bin rfl rfl (vT binI_neq ((by rw [hcq, decide_eq_false huv2]; rfl)))) ?_
    refine AR.nil ⟨by kernel_rfl, ?_⟩
    refine AWp.cond rfl (fun h => ?_) (fun h => ?_)
    rotate_left
    ·cases h
    refine r_z 1 ?_
    refine AWp.ret ?_
    exact Fin.tmpE rfl rfl (closed_v _)
  ·have hge : j = a.length := by omega
   refine AWp.seq ?_
   refine q_z 4 ?_
   refine AWp.cond rfl (fun h => ?_) (fun h => ?_)
   ·cases h
   refine AWp.exit ⟨(), ?_, ?_⟩
   ·rwa [List.take_of_length_le (by rw [vR_length]; omega), List.take_of_length_le (by rw [vR_length]; omega)] at he
   ·exact s_e []
 rintro _ he
 rw [decide_eq_true he]
 refine r_z 1 ?_
 refine AWp.ret ?_
 exact Fin.tmpE rfl rfl (closed_v _)
def sgnS (s : List UInt8) (c : Rat) : List UInt8 :=
 if s = [] then (if c < 0 then [45] else []) else if c < 0 then s ++ [32, 45, 32] else s ++ [32, 43, 32]
def powT (ti : Nat → List UInt8) (n : Nat) : List UInt8 := if n = 1 then [120] else [120, 94] ++ ti n
def stepS (tq : Rat → List UInt8) (ti : Nat → List UInt8) (s : List UInt8) (c : Rat) (n : Nat) : List UInt8 :=
 if n = 0 then sgnS s c ++ tq (absQ c) else if tq (absQ c) = [49] then sgnS s c ++ powT ti n else sgnS s c ++ tq (absQ c) ++ [32] ++ powT ti n
def textS (tq : Rat → List UInt8) (ti : Nat → List UInt8) (p : List Rat) : Nat → List UInt8 → List UInt8
 | 0, s => s
 | n + 1, s => textS tq ti p n (if coP p n = 0 then s else stepS tq ti s (coP p n) n)
def textE (tq : Rat → List UInt8) (ti : Nat → List UInt8) (p : List Rat) : List UInt8 :=
 if textS tq ti (trimQ p) (trimQ p).length [] = [] then [48] else textS tq ti (trimQ p) (trimQ p).length []
theorem sgn_S {o : Option (List UInt8)} (ho : o ≠ some []) (c : Rat) : sgnTx o c ≠ some [] ∧ (sgnTx o c).getD [] = sgnS (o.getD []) c := by
 cases o with
 | none =>
  unfold sgnTx sgnS
  by_cases h : c < 0 <;> simp [h]
 | some s =>
  have hs : s ≠ [] := fun e => ho (by rw [e])
  unfold sgnTx sgnS
  by_cases h : c < 0 <;> simp [h, hs]
theorem step_S {tq : Rat → List UInt8} {ti : Nat → List UInt8} {o : Option (List UInt8)} (ho : o ≠ some []) (c : Rat) (n : Nat) (ht : tq (absQ c) ≠ []) : stepTx tq ti o c n ≠ some [] ∧ (stepTx tq ti o c n).getD [] = stepS tq ti (o.getD []) c n := by
 obtain ⟨h1, h2⟩ := sgn_S ho c
 unfold stepTx stepS
 rw [← h2]
 generalize sgnTx o c = a at *
 generalize tq (absQ c) = t at *
 by_cases hn : n = 0
 ·rw [if_pos hn, if_pos hn]
  exact ⟨by simp [wrO, ht], rfl⟩
 ·rw [if_neg hn, if_neg hn]
  unfold sizeTx powT
  by_cases h9 : t = [49]
  ·by_cases hn1 : n = 1
   ·rw [if_neg (by omega), if_pos h9, if_pos h9, if_pos hn1]
    exact ⟨by simp [wrO], rfl⟩
   ·rw [if_pos (by omega), if_pos h9, if_pos h9, if_neg hn1]
    exact ⟨by simp [wrO], by simp [wrO]⟩
  ·by_cases hn1 : n = 1
   ·rw [if_neg (by omega), if_neg h9, if_neg h9, if_pos hn1]
    exact ⟨by simp [wrO], by simp [wrO]⟩
   ·rw [if_pos (by omega), if_neg h9, if_neg h9, if_neg hn1]
    exact ⟨by simp [wrO], by simp [wrO]⟩
theorem text_S {tq : Rat → List UInt8} {ti : Nat → List UInt8} {p : List Rat} (ht : ∀ c ∈ p, tq (absQ c) ≠ []) : ∀ n o, n ≤ p.length → o ≠ some [] → textR tq ti p n o ≠ some [] ∧ (textR tq ti p n o).getD [] = textS tq ti p n (o.getD [])
 | 0, o, _, ho => ⟨ho, rfl⟩
 | n + 1, o, hn, ho => by
  rw [textR, textS]
  by_cases hc : coP p n = 0
  ·rw [if_pos hc, if_pos hc]
   exact text_S ht n o (by omega) ho
  ·rw [if_neg hc, if_neg hc]
   obtain ⟨h1, h2⟩ := step_S (ti := ti) ho (coP p n) n (ht _ (List.mem_of_getElem? (coP_get (by omega))))
   rw [← h2]
   exact text_S ht n _ (by omega) h1
theorem textG_E {tq : Rat → List UInt8} {ti : Nat → List UInt8} {p : List Rat} (ht : ∀ c ∈ trimQ p, tq (absQ c) ≠ []) : textG tq ti p = textE tq ti p := by
 obtain ⟨h1, h2⟩ := text_S (ti := ti) ht (trimQ p).length none (Nat.le_refl _) (by simp)
 unfold textG textE
 have h2' : textS tq ti (trimQ p) (trimQ p).length [] = (textR tq ti (trimQ p) (trimQ p).length none).getD [] := h2.symm
 rw [h2']
 cases h : textR tq ti (trimQ p) (trimQ p).length none with
 | none => rfl
 | some s =>
  have hs : s ≠ [] := fun e => h1 (by rw [h, e])
  simp [hs]
theorem sgnS_len (s : List UInt8) (c : Rat) : (sgnS s c).length ≤ s.length + 3 := by
 unfold sgnS
 split
 ·split <;> simp
 ·split <;> simp
theorem fs_rPText (x : List RQ) (hx : okX x) (hs : bdL (vR x) 256) (hl : x.length ≤ 1000) : FSpec Tryz.prog 66 [.arr (rE x)] (tx (textE qtx Lib.decDigits (vR x))) := by
 obtain ⟨a, ha⟩ : ∃ a, a = trimR x := ⟨_, rfl⟩
 have hva : vR a = trimQ (vR x) := by rw [ha, vR_trim]
 have oa : okX a := by rw [ha]; exact okX_trim hx
 have la : a.length ≤ x.length := by rw [← vR_length a, hva, ← vR_length x]; exact trimQ_len _
 have sa : bdL (vR a) 256 := by rw [hva]; exact bdL_trim hs
 have ta := fs_rTrim x (by omega)
 rw [← ha] at ta
 have hgoal : textE qtx Lib.decDigits (vR x) = if textS qtx Lib.decDigits (vR a) a.length [] = [] then [48] else textS qtx Lib.decDigits (vR a) a.length [] := by unfold textE; rw [← hva, vR_length]
 rw [hgoal]
 obtain ⟨R, hR⟩ : ∃ R, R = textS qtx Lib.decDigits (vR a) a.length [] := ⟨_, rfl⟩
 rw [← hR]
 refine FSpec.enter Tryz.func66 rfl (by kernel_rfl) rfl rfl rfl ?_ rfl ?_
 ·exact closed_cons (closed_rEA x) closed_nil
 refine r_z 1 ?_
 refine r_c 3 (ta) ?_
 refine a_z ?_
 refine r_z 1 ?_
 refine AWp.seq ?_
 refine r_z 4 ?_
 refine AWp.cutT (fun _ : Unit => ⟨[(3, tx R)], [], 1, 75⟩) (fun _ => True) ?_ ?_
 ·refine AWp.block ?_
  refine AWp.loopS (fun z : Nat × List UInt8 => ⟨[(4, i64 ((z.1 : Int) - 1)), (0, .arr (rE a)), (3, tx z.2)], [], 1, 75⟩) (fun z => z.1) (fun z => z.1 ≤ a.length ∧ textS qtx Lib.decDigits (vR a) z.1 z.2 = R ∧ z.2.length ≤ (a.length - z.1) * 2000) (a.length, []) ⟨Nat.le_refl _, hR.symm, Nat.zero_le _⟩ ?_ ?_
  ·exact s_e []
  rintro ⟨n, s⟩ ⟨hn, hr, hsl⟩
  simp only at hn hr hsl
  simp only
  cases n with
  | zero =>
   have e : s = R := hr
   subst e
   refine AWp.seq ?_
   refine q_z 2 ?_
   refine AWp.cond rfl (fun h => ?_) (fun h => ?_)
   ·cases h
   refine AWp.exit ⟨(), trivial, ?_⟩
   exact s_e []
  | succ n =>
   have hcn : ((n + 1 : Nat) : Int) - 1 = (n : Int) := by omega
   rw [hcn]
   obtain ⟨y, hy, hyv⟩ := vR_get (x := a) (i := n) (by omega)
   have hyb := vR_bd sa hy
   have hyo := oa y (List.mem_of_getElem? hy)
   have g : (rE a)[((n : Nat) : Int).toNat]? = some (rC y) := rE_get hy
   obtain ⟨c, hc⟩ : ∃ c, c = y.1 := ⟨_, rfl⟩
   rw [textS, ← hyv, ← hc] at hr
   have hm : (a.length - n) * 2000 = (a.length - (n + 1)) * 2000 + 2000 := by
    rw [show a.length - n = (a.length - (n + 1)) + 1 by omega, Nat.add_mul]
   have hmx : (a.length - (n + 1)) * 2000 ≤ 2000000 := by omega
   have fS := fs_rSign y
   refine AWp.seq ?_
   refine s_r 2 ?_
   refine o_0 (.move rfl) ?_
   refine o_0 (.bin rfl rfl (vT binI_geq (decide_eq_true (by omega)))) ?_
   refine AR.nil ?_
   refine AWp.cond rfl (fun h => ?_) (fun h => ?_)
   rotate_left
   ·cases h
   refine AWp.skip ?_
   refine AWp.seq ?_
   refine AWp.block ?_
   by_cases h0 : c = 0
   ·rw [if_pos h0] at hr
    refine AWp.seq ?_
    refine s_r 6 ?_
    refine a_2 ?_
    first | refine AR.op0 (.index_l rfl rfl (by omega) (by omega) te_27.h) rfl rfl ?_ | refine AR.op0 (.index_a rfl rfl (by omega) g rfl te_27.h) rfl rfl ?_
    first | refine AR.op0 (.load_l rfl rfl g tg_75.h ts_75.h (nle rfl)) rfl rfl ?_ | refine AR.op0 (.load_a rfl g tg_75.h ts_75.h (nle rfl)) rfl rfl ?_
    refine o_0 (.call rfl rfl rfl (fS)) ?_
    refine o_0 (.bin rfl rfl (vT binI_eql ((by rw [← hc, h0]; decide)))) ?_
    refine AR.nil ?_
    refine AWp.cond rfl (fun h => ?_) (fun h => ?_)
    rotate_left
    ·cases h
    refine AWp.exit ?_
    refine AWp.reg (m := 3) rfl ?_
    refine o_0 (.move rfl) ?_
    refine o_0 (.bin rfl rfl (bI64_sub (by omega))) ?_
    refine o_0 (.assign rfl) ?_
    refine AR.nil ?_
    refine ⟨(n, s), Nat.lt_succ_self n, ⟨by simp only; omega, hr, by simp only; omega⟩, ?_⟩
    exact s_e []
   rw [if_neg h0] at hr
   obtain ⟨s1, hs1⟩ : ∃ s1, s1 = sgnS s c := ⟨_, rfl⟩
   obtain ⟨t, ht⟩ : ∃ t, t = qtx (absQ c) := ⟨_, rfl⟩
   have hs1l := sgnS_len s c
   rw [← hs1] at hs1l
   have htl : t.length ≤ 600 := by
    have h1 := ztx_len (absQ c).num
    have h2 := dec_len_bl (absQ c).den
    have h3 := qs_num (absQ c)
    have h4 := qs_den (absQ c)
    rw [qs_abs, hc] at h3 h4
    rw [ht, qtx_eq]
    rw [hc] at *
    split <;> simp <;> omega
   have hdl : (Lib.decDigits n).length ≤ 9 := dec_len (by omega)
   have hz : (sgZ y.1.num == (0 : Int)) = false := by
    rw [beq_eq_false_iff_ne]
    exact fun e => h0 (by rw [hc]; exact sgZ_num_eq.1 e)
   have fA := fs_rAbs y hyo
   have fT := fs_rText (rq (absQ y.1)) (rok_rq _) (by show qs (absQ y.1) ≤ _; rw [qs_abs]; omega)
   have fT' : FSpec Tryz.prog 143 [.agg (rC (rq (absQ y.1)))] (tx t) := by rw [ht, hc]; exact fT
   have fI := fs_ItoaA n (by omega)
   have hsg := sgZ_neg c
   refine AWp.seq ?_
   refine s_r 6 ?_
   refine a_2 ?_
   first | refine AR.op0 (.index_l rfl rfl (by omega) (by omega) te_27.h) rfl rfl ?_ | refine AR.op0 (.index_a rfl rfl (by omega) g rfl te_27.h) rfl rfl ?_
   first | refine AR.op0 (.load_l rfl rfl g tg_75.h ts_75.h (nle rfl)) rfl rfl ?_ | refine AR.op0 (.load_a rfl g tg_75.h ts_75.h (nle rfl)) rfl rfl ?_
   refine c_s (fS) ?_
   refine o_0 (.bin rfl rfl (vF binI_eql (hz))) ?_
   refine AR.nil ?_
   refine AWp.cond rfl (fun h => ?_) (fun h => ?_)
   ·cases h
   refine AWp.skip ?_
   refine AWp.cut (fun _ : Unit => ⟨[(4, i64 ((n : Nat) : Int)), (0, .arr (rE a)), (3, tx s), (5, bln (decide (c < 0)))], [], 1, 75⟩) (fun _ => True) ?_ ?_
   ·have e : decide (sgZ y.1.num < 0) = decide (c < 0) := decide_eq_decide.2 (by rw [← hc]; exact hsg)
    refine AWp.reg (m := 7) rfl ?_
    refine a_2 ?_
    first | refine AR.op0 (.index_l rfl rfl (by omega) (by omega) te_27.h) rfl rfl ?_ | refine AR.op0 (.index_a rfl rfl (by omega) g rfl te_27.h) rfl rfl ?_
    first | refine AR.op0 (.load_l rfl rfl g tg_75.h ts_75.h (nle rfl)) rfl rfl ?_ | refine AR.op0 (.load_a rfl g tg_75.h ts_75.h (nle rfl)) rfl rfl ?_
    refine c_s (fS) ?_
    refine a_z ?_
    refine ⟨(), trivial, ?_⟩
    rw [← e]
    exact s_e []
   rintro _ _
   refine AWp.cut (fun _ : Unit => ⟨[(4, i64 ((n : Nat) : Int)), (0, .arr (rE a)), (3, tx s1)], [], 1, 75⟩) (fun _ => True) ?_ ?_
   ·by_cases hse : s = []
    ·have e1 : decide (s = []) = true := decide_eq_true hse
     by_cases hcn2 : c < 0
     ·rw [decide_eq_true hcn2]
      refine s_r 5 ?_
      refine a_1 ?_
      refine o_0 (.bin rfl rfl (vT binS_eqT e1)) ?_
      refine a_z ?_
      refine AWp.cond rfl (fun h => ?_) (fun h => ?_)
      rotate_left
      ·cases h
      have e2 : s1 = [45] := by rw [hs1, sgnS, if_pos hse, if_pos hcn2]
      rw [e2]
      refine AWp.reg (m := 1) rfl ?_
      refine a_z ?_
      refine ⟨(), trivial, ?_⟩
      exact s_e []
     ·rw [decide_eq_false hcn2]
      refine s_r 5 ?_
      refine a_1 ?_
      refine o_0 (.bin rfl rfl (vT binS_eqT e1)) ?_
      refine a_z ?_
      refine AWp.cond rfl (fun h => ?_) (fun h => ?_)
      ·cases h
      have e3 : (!decide (s = [])) = false := by rw [e1]; rfl
      refine s_r 5 ?_
      refine a_1 ?_
      refine o_0 (.bin rfl rfl (vF binS_neT e3)) ?_
      refine a_z ?_
      refine AWp.cond rfl (fun h => ?_) (fun h => ?_)
      ·cases h
      refine s_r 2 ?_
      refine a_1 ?_
      refine o_0 (.bin rfl rfl (vF binS_neT e3)) ?_
      refine AR.nil ?_
      refine AWp.cond rfl (fun h => ?_) (fun h => ?_)
      ·cases h
      have e2 : s1 = s := by rw [hs1, sgnS, if_pos hse, if_neg hcn2, hse]
      rw [e2]
      refine AWp.skip ⟨(), trivial, ?_⟩
      exact s_e []
    ·have e1 : decide (s = []) = false := decide_eq_false hse
     have e3 : (!decide (s = [])) = true := by rw [e1]; rfl
     by_cases hcn2 : c < 0
     ·rw [decide_eq_true hcn2]
      have e2 : s1 = s ++ [32, 45, 32] := by rw [hs1, sgnS, if_neg hse, if_pos hcn2]
      rw [e2]
      refine s_r 5 ?_
      refine a_1 ?_
      refine o_0 (.bin rfl rfl (vF binS_eqT e1)) ?_
      refine a_z ?_
      refine AWp.cond rfl (fun h => ?_) (fun h => ?_)
      ·cases h
      refine s_r 5 ?_
      refine a_1 ?_
      refine o_0 (.bin rfl rfl (vT binS_neT e3)) ?_
      refine a_z ?_
      refine AWp.cond rfl (fun h => ?_) (fun h => ?_)
      rotate_left
      ·cases h
      refine AWp.reg (m := 3) rfl ?_
      refine a_1 ?_
      refine o_0 (.bin rfl rfl (binS_add (m := [32, 45, 32]) (by simp; omega))) ?_
      refine a_z ?_
      refine ⟨(), trivial, ?_⟩
      exact s_e []
     ·rw [decide_eq_false hcn2]
      have e2 : s1 = s ++ [32, 43, 32] := by rw [hs1, sgnS, if_neg hse, if_neg hcn2]
      rw [e2]
      refine s_r 5 ?_
      refine a_1 ?_
      refine o_0 (.bin rfl rfl (vF binS_eqT e1)) ?_
      refine a_z ?_
      refine AWp.cond rfl (fun h => ?_) (fun h => ?_)
      ·cases h
      refine s_r 5 ?_
      refine a_1 ?_
      refine o_0 (.bin rfl rfl (vT binS_neT e3)) ?_
      refine a_z ?_
      refine AWp.cond rfl (fun h => ?_) (fun h => ?_)
      ·cases h
      refine s_r 2 ?_
      refine a_1 ?_
      refine o_0 (.bin rfl rfl (vT binS_neT e3)) ?_
      refine AR.nil ?_
      refine AWp.cond rfl (fun h => ?_) (fun h => ?_)
      rotate_left
      ·cases h
      refine AWp.reg (m := 3) rfl ?_
      refine a_1 ?_
      refine o_0 (.bin rfl rfl (binS_add (m := [32, 43, 32]) (by simp; omega))) ?_
      refine a_z ?_
      refine ⟨(), trivial, ?_⟩
      exact s_e []
   rintro _ _
   refine s_r 7 ?_
   refine a_2 ?_
   first | refine AR.op0 (.index_l rfl rfl (by omega) (by omega) te_27.h) rfl rfl ?_ | refine AR.op0 (.index_a rfl rfl (by omega) g rfl te_27.h) rfl rfl ?_
   first | refine AR.op0 (.load_l rfl rfl g tg_75.h ts_75.h (nle rfl)) rfl rfl ?_ | refine AR.op0 (.load_a rfl g tg_75.h ts_75.h (nle rfl)) rfl rfl ?_
   refine c_s (fA) ?_
   refine c_s (fT') ?_
   refine a_z ?_
   refine r_c 4 (fI) ?_
   refine o_0 (.bin rfl rfl (binS_add (l := [120, 94]) (by simp; omega))) ?_
   refine a_z ?_
   have hp1 : powT Lib.decDigits 1 = [120] := rfl
   have hstep : stepS qtx Lib.decDigits s c n = if n = 0 then s1 ++ t else if t = [49] then s1 ++ powT Lib.decDigits n else s1 ++ t ++ [32] ++ powT Lib.decDigits n := by
    unfold stepS; rw [← hs1, ← ht]
   have hlen : (stepS qtx Lib.decDigits s c n).length ≤ (a.length - n) * 2000 := by
    have h9 : (powT Lib.decDigits n).length ≤ 11 := by unfold powT; split <;> simp <;> omega
    rw [hstep]
    split
    ·simp; omega
    ·split
     ·simp; omega
     ·simp; omega
   obtain ⟨w, hw⟩ : ∃ w, w = powT Lib.decDigits n := ⟨_, rfl⟩
   have hwl : w.length ≤ 11 := by rw [hw]; unfold powT; split <;> simp <;> omega
   rw [← hw] at hstep
   refine AWp.cut (fun _ : Unit => ⟨[(4, i64 ((n : Nat) : Int)), (0, .arr (rE a)), (3, tx s1), (6, tx t), (7, tx w)], [], 1, 75⟩) (fun _ => True) ?_ ?_
   ·by_cases h1 : n = 1
    ·have e : w = [120] := by rw [hw, h1]; rfl
     rw [e]
     refine s_r 2 ?_
     refine a_1 ?_
     refine o_0 (.bin rfl rfl (vT binI_eql ((by rw [h1]; rfl)))) ?_
     refine AR.nil ?_
     refine AWp.cond rfl (fun h => ?_) (fun h => ?_)
     rotate_left
     ·cases h
     refine AWp.reg (m := 1) rfl ?_
     refine a_z ?_
     refine ⟨(), trivial, ?_⟩
     exact s_e []
    ·have e : w = [120, 94] ++ Lib.decDigits n := by rw [hw, powT, if_neg h1]
     rw [e]
     refine s_r 2 ?_
     refine a_1 ?_
     refine o_0 (.bin rfl rfl (vF binI_eql ((beq_eq_false_iff_ne.2 (by omega))))) ?_
     refine AR.nil ?_
     refine AWp.cond rfl (fun h => ?_) (fun h => ?_)
     ·cases h
     refine AWp.skip ⟨(), trivial, ?_⟩
     exact s_e []
   rintro _ _
   by_cases hn0 : n = 0
   ·rw [if_pos hn0] at hstep
    refine s_r 2 ?_
    refine a_1 ?_
    refine o_0 (.bin rfl rfl (vT binI_eql ((by rw [hn0]; rfl)))) ?_
    refine AR.nil ?_
    refine AWp.cond rfl (fun h => ?_) (fun h => ?_)
    rotate_left
    ·cases h
    refine AWp.reg (m := 4) rfl ?_
    refine a_2 ?_
    refine o_0 (.bin rfl rfl (binS_add (by omega))) ?_
    refine a_z ?_
    refine AWp.reg (m := 3) rfl ?_
    refine a_z ?_
    refine ⟨(n, stepS qtx Lib.decDigits s c n), Nat.lt_succ_self n, ⟨by simp only; omega, hr, hlen⟩, ?_⟩
    rw [hstep]
    exact s_e []
   rw [if_neg hn0] at hstep
   refine s_r 2 ?_
   refine a_1 ?_
   refine o_0 (.bin rfl rfl (vF binI_eql ((beq_eq_false_iff_ne.2 (by omega))))) ?_
   refine AR.nil ?_
   refine AWp.cond rfl (fun h => ?_) (fun h => ?_)
   ·cases h
   by_cases ht1 : t = [49]
   ·rw [if_pos ht1] at hstep
    have e1 : decide (t = [49]) = true := decide_eq_true ht1
    refine s_r 2 ?_
    refine a_1 ?_
    refine o_0 (.bin rfl rfl (vT binS_eqT e1)) ?_
    refine AR.nil ?_
    refine AWp.cond rfl (fun h => ?_) (fun h => ?_)
    rotate_left
    ·cases h
    refine AWp.reg (m := 4) rfl ?_
    refine a_2 ?_
    refine o_0 (.bin rfl rfl (binS_add (by omega))) ?_
    refine a_z ?_
    refine AWp.reg (m := 3) rfl ?_
    refine a_z ?_
    refine ⟨(n, stepS qtx Lib.decDigits s c n), Nat.lt_succ_self n, ⟨by simp only; omega, hr, hlen⟩, ?_⟩
    rw [hstep]
    exact s_e []
   ·rw [if_neg ht1] at hstep
    have e1 : decide (t = [49]) = false := decide_eq_false ht1
    refine s_r 2 ?_
    refine a_1 ?_
    refine o_0 (.bin rfl rfl (vF binS_eqT e1)) ?_
    refine AR.nil ?_
    refine AWp.cond rfl (fun h => ?_) (fun h => ?_)
    ·cases h
    refine AWp.reg (m := 7) rfl ?_
    refine a_2 ?_
    refine o_0 (.bin rfl rfl (binS_add (by omega))) ?_
    refine o_0 (.bin rfl rfl (binS_add (m := [32]) (by simp; omega))) ?_
    refine a_1 ?_
    refine o_0 (.bin rfl rfl (binS_add (by simp; omega))) ?_
    refine a_z ?_
    refine AWp.reg (m := 3) rfl ?_
    refine a_z ?_
    refine ⟨(n, stepS qtx Lib.decDigits s c n), Nat.lt_succ_self n, ⟨by simp only; omega, hr, hlen⟩, ?_⟩
    rw [hstep]
    exact s_e []
 rintro _ _
 by_cases hRn : R = []
 ·have e1 : decide (R = []) = true := decide_eq_true hRn
  rw [if_pos hRn]
  refine AWp.seq ?_
  refine s_r 2 ?_
  refine a_1 ?_
  refine o_0 (.bin rfl rfl (vT binS_eqT e1)) ?_
  refine AR.nil ?_
  refine AWp.cond rfl (fun h => ?_) (fun h => ?_)
  rotate_left
  ·cases h
  refine r_z 1 ?_
  refine AWp.ret ?_
  exact Fin.tmpE rfl rfl (closed_v _)
 ·have e1 : decide (R = []) = false := decide_eq_false hRn
  rw [if_neg hRn]
  refine AWp.seq ?_
  refine s_r 2 ?_
  refine a_1 ?_
  refine o_0 (.bin rfl rfl (vF binS_eqT e1)) ?_
  refine AR.nil ?_
  refine AWp.cond rfl (fun h => ?_) (fun h => ?_)
  ·cases h
  refine AWp.skip ?_
  refine r_z 2 ?_
  refine AWp.ret ?_
  exact Fin.tmpE rfl rfl (closed_v _)


end Go.Proofs.YtdhedjbmdnnbkaaGreatDoor
namespace Go.Abs
theorem coP_mono (d : List Rat) (a : Rat) (k j : Nat) : coP (mulP d (shP k [a])) j = if j < k then 0 else coP d (j - k) * a := by
 have e : mR d (shP k [a]) (shP k [a]).length = mulP d (shP k [a]) := mR_mul _ _
 rw [← e, show (shP k [a]).length = k + 1 by rw [shP_length]; rfl, mR, coP_add, mR_mono k (Nat.le_refl _), coP_nil, Rat.zero_add, coP_sh, coP_scale, coP_sh, if_neg (Nat.lt_irrefl k), Nat.sub_self, coP_zero]
theorem leadP_co {v : List Rat} {n : Nat} (h : trimQ v = v) (hn : v.length = n + 1) : coP v n = leadP v := by
 have := leadP_get (l := v) (n := n) (by rw [h]; exact hn)
 rw [h, coP_get (by omega)] at this
 exact Option.some.inj this
theorem step_len {v d : List Rat} (hv : trimQ v = v) (hd : trimQ d = d) (hd0 : d ≠ []) (hl : d.length ≤ v.length) : (subP v (mulP d (shP (v.length - d.length) [leadP v / leadP d]))).length < v.length := by
 have hdl := List.length_pos_iff.2 hd0
 obtain ⟨m, hm⟩ : ∃ m, d.length = m + 1 := ⟨d.length - 1, by omega⟩
 obtain ⟨n, hn⟩ : ∃ n, v.length = n + 1 := ⟨v.length - 1, by omega⟩
 have hld : leadP d ≠ 0 := leadP_ne (by rw [hd]; exact hd0)
 have key : ∀ j, n ≤ j → coP (subP v (mulP d (shP (v.length - d.length) [leadP v / leadP d]))) j = 0 := fun j hj => by
  rw [coP_sub, coP_mono, if_neg (by omega)]
  by_cases h : j = n
  ·subst h
   rw [leadP_co hv hn, show j - (v.length - d.length) = m by omega, leadP_co hd hm]
   grind
  ·rw [coP_out (p := v) (by omega), coP_out (p := d) (by omega)]
   grind
 have h1 := trimQ_len_of key
 have h2 : trimQ (subP v (mulP d (shP (v.length - d.length) [leadP v / leadP d]))) = subP v (mulP d (shP (v.length - d.length) [leadP v / leadP d])) := trimQ_idem _
 rw [h2] at h1
 omega
theorem trim_subP (p q : List Rat) : trimQ (subP p q) = subP p q := trimQ_idem _
theorem step_bd {v d : List Rat} {b t : Nat} (hv : bdL v b) (hd : bdL d t) (hb : 1 ≤ b) (ht : 1 ≤ t) (hd0 : d ≠ []) (k : Nat) : qs (leadP v / leadP d) ≤ b + t ∧ bdL (mulP d (shP k [leadP v / leadP d])) (2 * t + b + 2) ∧ bdL (subP v (mulP d (shP k [leadP v / leadP d]))) (2 * b + 2 * t + 3) := by
 have h1 := lead_qs hv hb
 have h2 := lead_qs hd ht
 have h3 := qs_div (leadP v) (leadP d)
 have h4 : bdL (mulP d (shP k [leadP v / leadP d])) (2 * t + b + 2) := by
  have := mR_mono_bd (a := leadP v / leadP d) (d := k) hd ht (k + 1) (Nat.le_refl _)
  rw [show k + 1 = (shP k [leadP v / leadP d]).length by rw [shP_length]; rfl, mR_mul] at this
  exact bdL_mono this (by omega)
 exact ⟨by omega, h4, bdL_mono (bdL_subP hv h4 hb (by omega)) (by omega)⟩
theorem bdL_sh {v : List Rat} {b : Nat} (h : bdL v b) (hb : 1 ≤ b) (k : Nat) : bdL (shP k v) b := fun q hq => by
 rcases List.mem_append.1 hq with h' | h'
 ·rw [List.eq_of_mem_replicate h']
  have : qs 0 = 1 := by decide
  omega
 ·exact h q h'
end Go.Abs
namespace Go.Proofs.YtdhedjbmdnnbkaaGreatDoor
open Go.Abs
set_option maxRecDepth 20000
def dSt (d : List Rat) (s : List Rat × List RQ) : List Rat × List RQ :=
 (addP s.1 (shP ((vR s.2).length - d.length) [leadP (vR s.2) / leadP d]), rP (subP (vR s.2) (mulP d (shP ((vR s.2).length - d.length) [leadP (vR s.2) / leadP d]))))
def dRn (d : List Rat) : Nat → List Rat × List RQ → List Rat × List RQ
 | 0, s => s
 | n + 1, s => if d.length ≤ s.2.length then dRn d n (dSt d s) else s
structure DInv (p d : List Rat) (t L : Nat) (s : List Rat × List RQ) : Prop where
 ok : okX s.2
 tr : trimQ (vR s.2) = vR s.2
 bd : ∃ b, 1 ≤ b ∧ bdL (vR s.2) b ∧ bdL s.1 b ∧ (b + 2 * t + 3) * 2 ^ s.2.length ≤ L
 ln : s.2.length ≤ p.length
 lq : s.1.length ≤ p.length
 ev : ∀ x, evalP p x = evalP s.1 x * evalP d x + evalP (vR s.2) x
theorem DInv.step {p d : List Rat} {t L : Nat} {s : List Rat × List RQ} (h : DInv p d t L s) (hd : trimQ d = d) (hd0 : d ≠ []) (hdt : bdL d t) (ht : 1 ≤ t) (hl : d.length ≤ s.2.length) : DInv p d t L (dSt d s) ∧ (dSt d s).2.length < s.2.length := by
 obtain ⟨q, X⟩ := s
 obtain ⟨ok, tr, ⟨b, b1, bx, bq, hb⟩, ln, lq, ev⟩ := h
 simp only at *
 have hdl := List.length_pos_iff.2 hd0
 have hlt := step_len tr hd hd0 (by rw [vR_length]; exact hl)
 obtain ⟨s1, s2, s3⟩ := step_bd bx hdt b1 ht hd0 ((vR X).length - d.length)
 obtain ⟨a, ha⟩ : ∃ a, a = leadP (vR X) / leadP d := ⟨_, rfl⟩
 unfold dSt
 simp only
 rw [vR_length] at hlt s2 s3 ⊢
 rw [← ha] at hlt s1 s2 s3 ⊢
 refine ⟨⟨okX_rP _, ?_, ⟨2 * b + 2 * t + 3, by omega, ?_, ?_, ?_⟩, ?_, ?_, ?_⟩, ?_⟩
 ·rw [vR_rP]; exact trim_subP _ _
 ·rw [vR_rP]; exact s3
 ·have h1 : bdL [a] (b + t) := fun x hx => by rw [List.mem_singleton.1 hx]; exact s1
  exact bdL_mono (bdL_addP bq (bdL_sh h1 (by omega) _) b1 (by omega)) (by omega)
 ·simp only [rP_length]
  obtain ⟨n, hn⟩ : ∃ n, X.length = n + 1 := ⟨X.length - 1, by omega⟩
  have h1 : 2 ^ (subP (vR X) (mulP d (shP (X.length - d.length) [a]))).length ≤ 2 ^ n := Nat.pow_le_pow_right (by decide) (by omega)
  have h2 := Nat.mul_le_mul_left (2 * b + 2 * t + 3 + 2 * t + 3) h1
  have h3 : (b + 2 * t + 3) * 2 ^ X.length = (2 * b + 2 * t + 3 + 2 * t + 3) * 2 ^ n := by
   rw [hn, Nat.pow_succ, show 2 * b + 2 * t + 3 + 2 * t + 3 = (b + 2 * t + 3) * 2 by omega, Nat.mul_assoc, Nat.mul_comm 2 (2 ^ n)]
  omega
 ·simp only [rP_length]; omega
 ·have h1 := addP_len q (shP (X.length - d.length) [a])
  rw [shP_length] at h1
  simp at h1 ⊢; omega
 ·intro x
  rw [vR_rP, evalP_sub, evalP_mul, evalP_add, ev x]
  grind
 ·simp only [rP_length]; exact hlt
theorem DInv.run {p d : List Rat} {t L : Nat} (hd : trimQ d = d) (hd0 : d ≠ []) (hdt : bdL d t) (ht : 1 ≤ t) : ∀ n s, DInv p d t L s → s.2.length ≤ n → DInv p d t L (dRn d n s) ∧ (dRn d n s).2.length < d.length
 | 0, s, h, hn => by
  have := List.length_pos_iff.2 hd0
  exact ⟨h, by unfold dRn; omega⟩
 | n + 1, s, h, hn => by
  unfold dRn
  by_cases hl : d.length ≤ s.2.length
  ·rw [if_pos hl]
   obtain ⟨h1, h2⟩ := h.step hd hd0 hdt ht hl
   exact DInv.run hd hd0 hdt ht n _ h1 (by omega)
  ·rw [if_neg hl]
   exact ⟨h, by omega⟩
end Go.Proofs.YtdhedjbmdnnbkaaGreatDoor
namespace Go.Proofs.YtdhedjbmdnnbkaaGreatDoor
open Go.Abs Go.Deep Go.RowKit
set_option maxRecDepth 20000
theorem ess_of {M : Nat → Prop} {β : Nat → Option (Nat × Nat)} {w : World} {b s off : Nat} {f : Nat → List AV} : ∀ (n j : Nat), (∀ i, i < j + n → (f i).length = s ∧ RVcs M β w b (f i) (off + i * s)) → RVess M β w b s ((List.range' j n).map f) (off + j * s)
 | 0, _, _ => trivial
 | n + 1, j, h => by
  rw [List.range'_succ, List.map_cons]
  refine ⟨(h j (by omega)).1, (h j (by omega)).2, ?_⟩
  have := ess_of (M := M) (β := β) (w := w) (b := b) (s := s) (off := off) n (j + 1) (fun i hi => h i (by omega))
  rwa [Nat.add_mul, Nat.one_mul, ← Nat.add_assoc] at this
theorem size_of_cell {w : World} {b o : Nat} {v : Value} (h : w.cell? ⟨b, o, none⟩ = some v) : ∃ N, sizeAt w b = some N := by
 unfold World.cell? at h
 unfold sizeAt
 split at h
 ·rename_i c _ _ e; rw [show w.heap[b]? = _ from e]; exact ⟨c.size, rfl⟩
 ·cases h
theorem tyS : (Tryz.prog).underlying 22 = some (.slice 82) := by kernel_rfl
theorem tyN : ∃ f0 f1 f2, (Tryz.prog).underlying 82 = some (.struct #[f0, f1, f2]) ∧ f0.type = 2 ∧ f0.offset = 0 ∧ f1.type = 2 ∧ f1.offset = 1 ∧ f2.type = 5 ∧ f2.offset = 2 :=
 ⟨{ name := "N", type := 2, offset := 0, embedded := false, tag := "", pkgPath := "", byteOffset := 0 }, { name := "D", type := 2, offset := 1, embedded := false, tag := "", pkgPath := "", byteOffset := 8 }, { name := "Pow", type := 5, offset := 2, embedded := false, tag := "", pkgPath := "", byteOffset := 16 }, by kernel_rfl, rfl, rfl, rfl, rfl, rfl, rfl⟩
theorem tyc82 : (Tryz.prog).cellsOf 82 = 3 := by kernel_rfl
theorem tyc2 : (Tryz.prog).cellsOf 2 = 1 := by kernel_rfl
theorem tyc5 : (Tryz.prog).cellsOf 5 = 1 := by kernel_rfl
theorem tyu2 : (Tryz.prog).underlying 2 = some (.int .i64) := by kernel_rfl
theorem tyu5 : (Tryz.prog).underlying 5 = some (.int .u8) := by kernel_rfl
theorem num_of {H : Type} {enc : TypeId × Value → H} {W : World} {base n : Nat} {spare : Nat → Bool} {held : Bool} {cs : List Value} {x : DataW H × List MemPlace} (h : DataW.trod enc Tryz.prog W base spare held n 82 cs = some x) :
    ∃ r : NRow, i64r r.1 ∧ i64r r.2.1 ∧ r.2.2 ≤ 255 ∧ cs = [.int .i64 r.1, .int .i64 r.2.1, .int .u8 r.2.2] := by
 obtain ⟨f0, f1, f2, hu, h1, h2, h3, h4, h5, h6⟩ := tyN
 obtain ⟨y0, y1, y2, m, _, hl, g0, g1, g2⟩ := trod_struct3 hu h
 rw [h1, h2, tyc2] at g0
 rw [h3, h4, tyc2] at g1
 rw [h5, h6, tyc5] at g2
 rw [tyc82] at hl
 obtain ⟨n0, e0, _, w0⟩ := DataW.trod_int tyu2 g0
 obtain ⟨n1, e1, _, w1⟩ := DataW.trod_int tyu2 g1
 obtain ⟨n2, e2, _, w2⟩ := DataW.trod_int tyu5 g2
 match cs, hl with
 | [c0, c1, c2], _ =>
  simp at e0 e1 e2
  subst e0; subst e1; subst e2
  have b2 := bounds_u8 w2
  refine ⟨(n0, n1, n2.toNat), bounds_i64 w0, bounds_i64 w1, ?_, ?_⟩
  ·show n2.toNat ≤ 255; omega
  ·show _ = [_, _, Value.int .u8 ((n2.toNat : Nat) : Int)]
   rw [Int.toNat_of_nonneg b2.1]
theorem rows_of {H : Type} {enc : TypeId × Value → H} {W : World} {a : Option Addr} {len cap : Nat} {d : DataW H} {ps : List MemPlace} (h : DataW.Trod enc Tryz.prog W 0 (fun _ => true) true 22 (.slice a len cap) d ps) :
    ∃ l : List NRow, okR l ∧ RV (fun _ => False) (fun _ => none) W (.arr (nR l)) (.slice a len cap) := by
 obtain ⟨fuel, hf⟩ := h
 rcases open_slice tyS hf with ⟨hcs, _⟩ | ⟨x, len', cap', m, n, D, Pl, hcs, _, hl, hm, hmm, _, hx⟩
 ·simp [Value.cells] at hcs
  obtain ⟨rfl, rfl, rfl⟩ := hcs
  exact ⟨[], (fun r hr => by cases hr), none, 0, rfl, Nat.le_refl _, by decide, .inl rfl⟩
 ·simp [Value.cells] at hcs
  obtain ⟨rfl, rfl, rfl⟩ := hcs
  simp only [if_true] at hmm
  have hmc : m = cap := hmm
  rw [hmc] at hx
  rw [tyc82] at hx
  have hx' : ∀ i, i < len → ∃ r : NRow, (i64r r.1 ∧ i64r r.2.1 ∧ r.2.2 ≤ 255) ∧ W.cells? 0 (x.add (i * 3)) 3 = some [.int .i64 r.1, .int .i64 r.2.1, .int .u8 r.2.2] := fun i hi => by
   obtain ⟨cs', g1, g2⟩ := hx i (by omega)
   obtain ⟨r, r1, r2, r3, e⟩ := num_of g2
   exact ⟨r, ⟨r1, r2, r3⟩, by rw [g1, e]⟩
  obtain ⟨R, hR⟩ := choose_lt (α := NRow) hx'
  refine ⟨(List.range len).map R, ?_, some x, cap, by simp [nR], by simpa [nR] using hl, hm, ?_⟩
  ·intro r hr
   obtain ⟨i, hi, rfl⟩ := List.mem_map.1 hr
   exact (hR i (List.mem_range.1 hi)).1
  ·by_cases h0 : len = 0
   ·subst h0; exact .inl rfl
   ·right
    have c : ∀ i, i < len → ∀ j (v : Value), [.int .i64 (R i).1, .int .i64 (R i).2.1, .int .u8 (R i).2.2][j]? = some v → W.cell? (x.add (i * 3 + j)) = some v := fun i hi j v hv => by
     have hj : j < 3 := by
      have := (List.getElem?_eq_some_iff.1 hv).1
      simpa using this
     have := (World.cells?_some (hR i hi).2).2.2 j hj
     rw [hv, Go.Deep.add_add] at this
     exact this
    have c0 := c 0 (by omega) 0 _ rfl
    obtain ⟨b, off, spot⟩ := x
    have hspot : spot = none := by simpa [Addr.add] using World.cell?_spot c0
    subst hspot
    have hadd : ∀ k, Addr.add ⟨b, off, none⟩ k = ⟨b, off + k, none⟩ := fun k => by
     unfold Addr.add
     by_cases hk : k = 0
     ·simp [hk]
     ·simp [hk]
    refine ⟨b, off, 3, rfl, size_of_cell (by rw [hadd] at c0; exact c0), (fun h => h), ?_⟩
    have := ess_of (M := fun _ => False) (β := fun _ => none) (w := W) (b := b) (s := 3) (off := off) (f := fun i => nuC (R i).1 (R i).2.1 (R i).2.2) len 0 (fun i hi => ⟨rfl, ?_⟩)
    ·rw [Nat.zero_mul, Nat.add_zero, ← List.range_eq_range'] at this
     rw [nR, List.map_map]
     exact this
    ·have hi' : i < len := by omega
     refine ⟨⟨_, ?_, rfl⟩, ⟨_, ?_, rfl⟩, ⟨_, ?_, rfl⟩, trivial⟩
     ·have := c i hi' 0 _ rfl; rw [hadd] at this; exact this
     ·have := c i hi' 1 _ rfl; rw [hadd] at this; rw [Nat.add_assoc]; exact this
     ·have := c i hi' 2 _ rfl; rw [hadd] at this; rw [Nat.add_assoc, Nat.add_assoc]; exact this
end Go.Proofs.YtdhedjbmdnnbkaaGreatDoor
namespace Go.Proofs.YtdhedjbmdnnbkaaGreatDoor
open Go.Abs
set_option maxRecDepth 20000

end Go.Proofs.YtdhedjbmdnnbkaaGreatDoor
