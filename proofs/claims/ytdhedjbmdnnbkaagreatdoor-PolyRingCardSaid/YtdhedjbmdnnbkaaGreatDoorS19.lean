/- Part S19 of the proof. -/
import Derived.Test.YtdhedjbmdnnbkaaGreatDoorS18
import Derived.ProofKit
import Derived.OpenShut
import Derived.Carry
import Derived.Deep.Slices
import Derived.Deep.Strs
set_option linter.all false
namespace Go.Proofs.YtdhedjbmdnnbkaaGreatDoor
open Go.Abs
set_option maxRecDepth 100000
set_option maxHeartbeats 2000000
inductive LeLL : List (List AV) → List (List AV) → Prop
 | nil : LeLL [] []
 | cons {e e' es es'} : LeL e e' → LeLL es es' → LeLL (e :: es) (e' :: es')
theorem leL_len {xs ys : List AV} (h : LeL xs ys) : ys.length = xs.length := by
 induction h with
 | nil => rfl
 | cons _ _ ih => simp [ih]
theorem leL_cs {M : Nat → Prop} {β : Nat → Option (Nat × Nat)} {w : World} {b : Nat} {xs ys : List AV} (h : LeL xs ys) : ∀ {off : Nat}, RVcs M β w b xs off → RVcs M β w b ys off := by
 induction h with
 | nil => exact fun h => h
 | cons h1 _ ih => rintro off ⟨⟨x, hx, hr⟩, hs⟩; exact ⟨⟨x, hx, h1 M β w x hr⟩, ih hs⟩
theorem LeLL.ess {M : Nat → Prop} {β : Nat → Option (Nat × Nat)} {w : World} {b s : Nat} {es es' : List (List AV)} (h : LeLL es es') : ∀ {off : Nat}, RVess M β w b s es off → RVess M β w b s es' off := by
 induction h with
 | nil => exact fun h => h
 | cons h1 _ ih => rintro off ⟨h0, hc, hr⟩; exact ⟨(leL_len h1).trans h0, leL_cs h1 hc, ih hr⟩
theorem LeLL.length {es es' : List (List AV)} (h : LeLL es es') : es'.length = es.length := by
 induction h with
 | nil => rfl
 | cons _ _ ih => simp [ih]
theorem Le.arr {es es' : List (List AV)} (h : LeLL es es') : Le (.arr es) (.arr es') := by
 rintro M β w y ⟨a, c, rfl, h1, h2, h3⟩
 refine ⟨a, c, by rw [h.length], by rw [h.length]; exact h1, h2, h3.imp (fun e => ?_) ?_⟩
 ·subst e; cases h; rfl
 ·rintro ⟨b, off, s, rfl, hN, hm, hr⟩
  exact ⟨b, off, s, rfl, hN, hm, h.ess hr⟩
theorem LeLL.refl : ∀ es, LeLL es es
 | [] => .nil
 | e :: es => .cons (LeL.refl e) (LeLL.refl es)
section
variable {P : Go.Program} {T : Nat} {x y : Operand}
theorem binS_tt {s : ByteArray} : ∀ w, (do eqGuard .eql T x y (.string s) (.string s); binOp .eql T (.string s) (.string s) : Sem Value).run P w = .ok (.bool true) w := fun w => by
 rw [binS_eql]; simp
end
theorem fs_wakes : FSpec Tryz.prog 14 [] (.v (.bool true)) := by
 have i1 := fs_ints [-2, 0, 1] (by decide) (by decide)
 rw [show zR [-2, 0, 1] = twoP by decide] at i1
 have i2 := fs_ints [-1, 0, 1] (by decide) (by decide)
 rw [show zR [-1, 0, 1] = [-1, 0, 1] by decide] at i2
 have i3 := fs_ints [2, 1] (by decide) (by decide)
 rw [show zR [2, 1] = [2, 1] by decide] at i3
 have i4 := fs_ints [0, 0, 1] (by decide) (by decide)
 rw [show zR [0, 0, 1] = [0, 0, 1] by decide] at i4
 have i5 := fs_ints [-3, 0, 1] (by decide) (by decide)
 rw [show zR [-3, 0, 1] = [-3, 0, 1] by decide] at i5
 have hdiv := fs_Divide [-1, 0, 1] [2, 1] w_div.2.1 w_div.2.2
 rw [w_div.1] at hdiv
 obtain ⟨c, hc1, hc2, hc3⟩ : ∃ c, placeM 40 twoP = some c ∧ 1 < allV c ∧ spanM 40 c 1 4 = some (mkRat 11 8, mkRat 23 16) := by
  have h := w_span
  unfold spanChk at h
  split at h
  ·rename_i c hc; exact ⟨c, hc, of_decide_eq_true h⟩
  ·cases h
 have hspan := fs_RSpan 40 twoP 1 4 c (mkRat 11 8, mkRat 23 16) hc1 (by decide) (by decide) hc2 hc3
 have n1 := fs_Int (-1) (by decide)
 rw [show ((-1 : Int) : Rat) = -1 by decide] at n1
 have n2 := fs_Int 2 (by decide)
 rw [show ((2 : Int) : Rat) = 2 by decide] at n2
 have n3 := fs_Int 1 (by decide)
 rw [show ((1 : Int) : Rat) = 1 by decide] at n3
 have hrange := fs_Range 40 40 twoP (-1, 2) 0 (-2, 2) w_range (by decide)
 have hfirst := fs_ToFirst 10 [0, 0, 1] [mkRat 1 2, 0, mkRat 1 2] w_first
 have hof := fs_Of (-3) 2 (by decide) (by decide) (by decide)
 rw [show (((-3 : Int) : Rat) / ((2 : Int) : Rat)) = mkRat (-3) 2 by decide +kernel] at hof
 have t1 := fs_PText [1, mkRat (-3) 2, 0, 1] w_text1.2
 rw [w_text1.1] at t1
 have t1' : FSpec Tryz.prog 65 [.arr [qC 1, qC (mkRat (-3) 2), zC, qC 1]] (tx [120, 94, 51, 32, 45, 32, 51, 47, 50, 32, 120, 32, 43, 32, 49]) := by
  refine t1.weak (.cons (Le.arr (.cons (.refl _) (.cons (.refl _) (.cons le_zC (.cons (.refl _) .nil))))) .nil) ?_
  refine closed_cons (closed_arr ?_) closed_nil
  intro e he
  simp at he
  rcases he with rfl | rfl | rfl | rfl
  ·exact closed_qC _
  ·exact closed_qC _
  ·exact closed_zC
  ·exact closed_qC _
 have t2 := fs_PText [-2, 1] w_text2.2
 rw [w_text2.1] at t2
 have t3 := fs_PText [3] w_text3.2
 rw [w_text3.1] at t3
 have s1 := fs_SText (mkRat 11 8, mkRat 23 16) w_sp.2.1 w_sp.2.2.1
 rw [w_sp.1] at s1
 have s2 := fs_SText (-2, 2) w_sp.2.2.2.2.1 w_sp.2.2.2.2.2
 rw [w_sp.2.2.2.1] at s2
 have q1 := fs_QText (mkRat 1 2) w_q.2.1
 rw [w_q.1] at q1
 have q2 := fs_QText 1 w_q.2.2.2
 rw [w_q.2.2.1] at q2
 have hres := fs_Resultant 10 twoP [-3, 0, 1] 1 w_res
 refine FSpec.enter Tryz.func14 rfl (by kernel_rfl) rfl rfl rfl ?_ rfl ?_
 ·exact closed_nil
 refine r_z 1 ?_
 refine s_r 3 ?_
 refine a_1 ?_
 refine o_1 (.callS1 rfl rfl rfl (.shut rfl (by first | exact nle rfl | (simp; done) | (simp; omega)) (.nil)) rfl (i1)) ?_
 refine a_z ?_
 refine s_r 12 ?_
 refine a_1 ?_
 refine o_1 (.callS1 rfl rfl rfl (.shut rfl (by first | exact nle rfl | (simp; done) | (simp; omega)) (.nil)) rfl (i2)) ?_
 refine a_1 ?_
 refine o_1 (.callS1 rfl rfl rfl (.shut rfl (by first | exact nle rfl | (simp; done) | (simp; omega)) (.nil)) rfl (i3)) ?_
 refine c_s (hdiv) ?_
 refine a_z ?_
 refine r_c 9 (hspan) ?_
 refine a_z ?_
 refine r_c 11 (n1) ?_
 refine c_s (n2) ?_
 refine c_s (hrange) ?_
 refine a_z ?_
 refine s_r 8 ?_
 refine a_1 ?_
 refine o_1 (.callS1 rfl rfl rfl (.shut rfl (by first | exact nle rfl | (simp; done) | (simp; omega)) (.nil)) rfl (i4)) ?_
 refine c_s (hfirst) ?_
 refine a_z ?_
 refine r_c 7 (hof) ?_
 refine a_z ?_
 refine AWp.seq ?_
 refine AWp.regD hmix (m := 64) rfl ?_
 refine c_s (n3) ?_
 refine c_s (n3) ?_
 refine o_1 (.buildSlice te_25.h tz_37.h rfl (by decide) rfl rfl rfl (by simp [setAt_length, ofV])) ?_
 refine o_1 (.callS1 rfl rfl rfl (.shut rfl (by first | exact nle rfl | (simp; done) | (simp; omega)) (.nil)) rfl (t1')) ?_
 refine o_0 (.bin rfl rfl binS_tt) ?_
 refine a_1 ?_
 refine AR.op0y rfl rfl (gy rfl) (.move rfl) rfl rfl ?_
 refine AR.op0y rfl rfl (gy rfl) (.bin rfl rfl binI_eql) rfl rfl ?_
 refine o_0 (.pickT rfl rfl rfl) ?_
 refine a_1 ?_
 refine AR.op0y rfl rfl (gy rfl) (.move rfl) rfl rfl ?_
 refine AR.op0y rfl rfl (gy rfl) (.call rfl rfl rfl (t2)) rfl rfl ?_
 refine AR.op0y rfl rfl (gy rfl) (.bin rfl rfl binS_tt) rfl rfl ?_
 refine o_0 (.pickT rfl rfl rfl) ?_
 refine a_1 ?_
 refine AR.op0y rfl rfl (gy rfl) (.move rfl) rfl rfl ?_
 refine AR.op0y rfl rfl (gy rfl) (.call rfl rfl rfl (t3)) rfl rfl ?_
 refine AR.op0y rfl rfl (gy rfl) (.bin rfl rfl binS_tt) rfl rfl ?_
 refine o_0 (.pickT rfl rfl rfl) ?_
 refine a_1 ?_
 refine AR.op0y rfl rfl (gy rfl) (.move rfl) rfl rfl ?_
 refine AR.op0y rfl rfl (gy rfl) (.bin rfl rfl binI_eql) rfl rfl ?_
 refine o_0 (.pickT rfl rfl rfl) ?_
 refine a_1 ?_
 first | refine AR.op0y rfl rfl (gy rfl) (.load_l rfl rfl rfl tg_65.h ts_65.h (nle rfl)) rfl rfl ?_ | refine AR.op0y rfl rfl (gy rfl) (.load_a rfl rfl tg_65.h ts_65.h (nle rfl)) rfl rfl ?_
 refine AR.op0y rfl rfl (gy rfl) (.call rfl rfl rfl (s1)) rfl rfl ?_
 refine AR.op0y rfl rfl (gy rfl) (.bin rfl rfl binS_tt) rfl rfl ?_
 refine o_0 (.pickT rfl rfl rfl) ?_
 refine a_1 ?_
 refine AR.op0y rfl rfl (gy rfl) (.move rfl) rfl rfl ?_
 refine AR.op0y rfl rfl (gy rfl) (.bin rfl rfl binI_eql) rfl rfl ?_
 refine o_0 (.pickT rfl rfl rfl) ?_
 refine a_1 ?_
 first | refine AR.op0y rfl rfl (gy rfl) (.load_l rfl rfl rfl tg_65.h ts_65.h (nle rfl)) rfl rfl ?_ | refine AR.op0y rfl rfl (gy rfl) (.load_a rfl rfl tg_65.h ts_65.h (nle rfl)) rfl rfl ?_
 refine AR.op0y rfl rfl (gy rfl) (.call rfl rfl rfl (s2)) rfl rfl ?_
 refine AR.op0y rfl rfl (gy rfl) (.bin rfl rfl binS_tt) rfl rfl ?_
 refine o_0 (.pickT rfl rfl rfl) ?_
 refine a_1 ?_
 refine AR.op0y rfl rfl (gy rfl) (.move rfl) rfl rfl ?_
 refine AR.op0y rfl rfl (gy rfl) (.bin rfl rfl binI_eql) rfl rfl ?_
 refine o_0 (.pickT rfl rfl rfl) ?_
 refine a_1 ?_
 refine AR.op0y rfl rfl (gy rfl) (.move rfl) rfl rfl ?_
 first | refine AR.op0y rfl rfl (gy rfl) (.lenD rfl rfl rfl rfl te_24.h) rfl rfl ?_ | refine AR.op0y rfl rfl (gy rfl) (.lenI rfl rfl rfl rfl te_24.h) rfl rfl ?_ | refine AR.op0y rfl rfl (gy rfl) (.lenP rfl rfl rfl rfl te_24.h) rfl rfl ?_ | refine AR.op0y rfl rfl (gy rfl) (.lenC rfl rfl rfl rfl te_24.h) rfl rfl ?_ | refine AR.op0y rfl rfl (gy rfl) (.lenR rfl rfl rfl rfl te_24.h) rfl rfl ?_ | refine AR.op0y rfl rfl (gy rfl) (.len rfl rfl rfl rfl rfl te_24.h) rfl rfl ?_
 refine AR.op0y rfl rfl (gy rfl) (.bin rfl rfl binI_eql) rfl rfl ?_
 refine o_0 (.pickT rfl rfl rfl) ?_
 refine a_1 ?_
 refine AR.op0y rfl rfl (gy rfl) (.move rfl) rfl rfl ?_
 first | refine AR.op0y rfl rfl (gy rfl) (.index_l rfl rfl (by omega) (by omega) te_24.h) rfl rfl ?_ | refine AR.op0y rfl rfl (gy rfl) (.index_a rfl rfl (by omega) rfl rfl te_24.h) rfl rfl ?_
 first | refine AR.op0y rfl rfl (gy rfl) (.load_l rfl rfl rfl tg_37.h ts_37.h (nle rfl)) rfl rfl ?_ | refine AR.op0y rfl rfl (gy rfl) (.load_a rfl rfl tg_37.h ts_37.h (nle rfl)) rfl rfl ?_
 refine AR.op0y rfl rfl (gy rfl) (.call rfl rfl rfl (q1)) rfl rfl ?_
 refine AR.op0y rfl rfl (gy rfl) (.bin rfl rfl binS_tt) rfl rfl ?_
 refine o_0 (.pickT rfl rfl rfl) ?_
 refine a_1 ?_
 refine AR.op0y rfl rfl (gy rfl) (.move rfl) rfl rfl ?_
 refine AR.op1y rfl rfl (gy rfl) (.buildSlice te_200.h tz_2.h rfl (by decide) rfl rfl rfl (by first | (simp; done) | (simp [setAt_length, ofV]; done) | rfl)) rfl rfl ?_
 refine AR.op1y rfl rfl (gy rfl) (.callS1 rfl rfl rfl (.shut rfl (by first | exact nle rfl | (simp; done) | (simp; omega)) (.nil)) rfl (i5)) rfl rfl ?_
 refine AR.op0y rfl rfl (gy rfl) (.call rfl rfl rfl (hres)) rfl rfl ?_
 refine AR.op0y rfl rfl (gy rfl) (.call rfl rfl rfl (q2)) rfl rfl ?_
 refine AR.op0y rfl rfl (gy rfl) (.bin rfl rfl binS_tt) rfl rfl ?_
 refine o_0 (.pickT rfl rfl rfl) ?_
 refine a_1 ?_
 refine AR.nil ⟨by kernel_rfl, ?_⟩
 refine AWp.ret ?_
 refine Fin.tmpE rfl ?_ ?_
 ·rfl
 ·exact closed_v _
abbrev NRow := Int × Int × Nat
def nV (r : NRow) : Rat := numV r.1 r.2.1 r.2.2
def nR (l : List NRow) : List (List AV) := l.map fun r => nuC r.1 r.2.1 r.2.2
def nL (l : List NRow) : List Rat := l.map nV
abbrev rL (l : List Rat) : List (List AV) := rE (l.map rq)
def okR (l : List NRow) : Prop := ∀ r ∈ l, i64r r.1 ∧ i64r r.2.1 ∧ r.2.2 ≤ 255
theorem closed_nR (l : List NRow) : ∀ e ∈ nR l, ∀ c ∈ e, Closed c := by
 intro e he c hc
 obtain ⟨r, _, rfl⟩ := List.mem_map.1 he
 exact closed_nuC _ _ _ c hc
theorem closed_rL (l : List Rat) : ∀ e ∈ rL l, ∀ c ∈ e, Closed c := closed_rE _
theorem numV_qs {N D : Int} {p : Nat} (hN : i64r N) (hD : i64r D) : qs (numV N D p) ≤ 256 := by
 obtain ⟨d, hd⟩ : ∃ d, d = dNum D := ⟨_, rfl⟩
 have hd0 : d ≠ 0 := by rw [hd]; unfold dNum; split <;> omega
 have hdr : i64r d := by
  rw [hd]; unfold dNum i64r; unfold i64r at hD; split <;> omega
 unfold i64r at hN hdr
 obtain ⟨q, hq⟩ : ∃ q, q = Rat.divInt N d := ⟨_, rfl⟩
 have hnv : numV N D p = powQ q (p % 4) := by unfold numV; rw [← hd, ← hq]
 have hqs : qs q ≤ 64 := by
  have hb : ∀ z : Int, -9223372036854775808 ≤ z ∧ z ≤ 9223372036854775808 → bl z.natAbs ≤ 64 := fun z h => bl_le (k := 64) (by omega)
  rw [hq]
  by_cases hn : d < 0
  ·rw [divInt_neg N d hn]
   exact qs_mkRat (by omega) (hb (-N) (by omega)) (hb d (by omega))
  ·rw [divInt_pos N d (by omega)]
   exact qs_mkRat (by omega) (hb N (by omega)) (hb d (by omega))
 have h1 := powQ_qs q (p % 4)
 have h2 : (p % 4 + 1) * qs q ≤ 4 * 64 := Nat.mul_le_mul (by omega) hqs
 rw [hnv]; omega
theorem nL_qs {l : List NRow} (h : okR l) : ∀ q ∈ nL l, qs q ≤ 256 := by
 intro q hq
 obtain ⟨r, hr, rfl⟩ := List.mem_map.1 hq
 exact numV_qs (h r hr).1 (h r hr).2.1
def liS (l : List NRow) : List Rat → Nat → AState
 | [], i => ⟨[(0, .arr (nR l)), (4, .emp), (5, .emp), (6, i64 i)], [], 1, 33⟩
 | q :: Q, i => ⟨[(0, .arr (nR l)), (4, .lsl 1 0 (Q.length + 1) none 3), (5, .lsl 2 0 (Q.length + 1) none 4), (6, i64 i)], [(1, some ⟨37, 3, pE (q :: Q)⟩), (2, some ⟨75, 4, rL (q :: Q)⟩)], 3, 33⟩
theorem liS_nil (l : List NRow) (i : Nat) : liS l [] i = ⟨[(0, .arr (nR l)), (4, .emp), (5, .emp), (6, i64 i)], [], 1, 33⟩ := rfl
theorem liS_cons (l : List NRow) (q : Rat) (Q : List Rat) (i : Nat) : liS l (q :: Q) i = ⟨[(0, .arr (nR l)), (4, .lsl 1 0 (Q.length + 1) none 3), (5, .lsl 2 0 (Q.length + 1) none 4), (6, i64 i)], [(1, some ⟨37, 3, pE (q :: Q)⟩), (2, some ⟨75, 4, rL (q :: Q)⟩)], 3, 33⟩ := rfl
theorem fs_List (l : List NRow) (hl : l.length ≤ 1099511627776) (hb : okR l) : FSpec Tryz.prog 80 [.arr (nR l)] (.tup [.arr (pE (nL l)), .arr (rL (nL l))]) := by
 have hcr : ∀ q : Rat, ∀ e ∈ [rC (rq q)], ∀ c ∈ e, Closed c := fun q => closed_rL [q]
 refine FSpec.enter Tryz.func80 rfl (by kernel_rfl) rfl rfl rfl ?_ rfl ?_
 ·exact closed_cons (closed_arr (closed_nR l)) closed_nil
 refine r_z 2 ?_
 refine r_z 1 ?_
 refine r_z 1 ?_
 refine AWp.seq ?_
 refine r_z 1 ?_
 refine AWp.cutT (fun _ : Unit => liS l (nL l) l.length) (fun _ => True) ?_ ?_
 ·refine AWp.block ?_
  refine AWp.loopS (fun i : Nat => liS l (nL (l.take i)) i) (fun i => l.length - i) (fun i => i ≤ l.length) 0 (Nat.zero_le _) ?_ ?_
  ·show SEnt _ (liS l [] 0)
   rw [liS_nil]
   refine SEnt.to [] rfl rfl rfl au_r (fun hs => ?_) (fun hs => ?_)
   ·repeat' (first | exact CvF.nil | refine CvF.cons rfl ?_ ?_)
    all_goals (first | (exact Cv.clo hs (closed_arr (closed_nR l))) | exact au_c)
   ·repeat' (first | exact CvH.nil | refine CvH.cons rfl rfl rfl rfl ?_ ?_)
    all_goals (first | exact au_e | (refine CvLL.box ?_; repeat' (first | exact CvL.nil | refine CvL.cons ?_ ?_)))
    all_goals (first | (exact Cv.clo hs (closed_arr (closed_nR l))) | exact au_c)
  rintro i hi
  have hlen : (nR l).length = l.length := by simp [nR]
  by_cases hlt : i < l.length
  ·obtain ⟨n, hn⟩ : ∃ n, l[i]? = some n := ⟨_, List.getElem?_eq_getElem hlt⟩
   have hgt : (nR l)[((i : Nat) : Int).toNat]? = some (nuC n.1 n.2.1 n.2.2) := by
    show (nR l)[i]? = _
    simp [nR, hn]
   obtain ⟨hn1, hn2, hn3⟩ := hb n (List.mem_of_getElem? hn)
   have hbo := fs_Both1 n.1 n.2.1 n.2.2 hn1 hn2 hn3
   obtain ⟨v, hv⟩ : ∃ v, v = numV n.1 n.2.1 n.2.2 := ⟨_, rfl⟩
   rw [← hv] at hbo
   have htk : nL (l.take (i + 1)) = nL (l.take i) ++ [v] := by rw [take_snoc hn]; simp [nL, nV, hv]
   have hQl : (nL (l.take i)).length = i := by simp [nL]; omega
   cases hQ : nL (l.take i) with
   | nil =>
    simp only [liS_nil]
    refine AWp.seq ?_
    refine r_z 4 ?_
    refine AWp.cond rfl (fun h => ?_) (fun h => ?_)
    rotate_left
    ·exact absurd h (by simp [nR]; omega)
    refine AWp.skip ?_
    refine AWp.seq ?_
    refine AWp.block ?_
    refine s_r 12 ?_
    refine a_2 ?_
    first | refine AR.op0 (.index_l rfl rfl (by omega) (by omega) te_22.h) rfl rfl ?_ | refine AR.op0 (.index_a rfl rfl (by omega) hgt rfl te_22.h) rfl rfl ?_
    first | refine AR.op0 (.load_l rfl rfl hgt tg_82.h ts_82.h (nle rfl)) rfl rfl ?_ | refine AR.op0 (.load_a rfl hgt tg_82.h ts_82.h (nle rfl)) rfl rfl ?_
    refine c_s (hbo) ?_
    refine a_z ?_
    refine AWp.regD hmix (m := 10) rfl ?_
    refine a_8 ?_
    refine a_2 ?_
    refine AR.nil ⟨by kernel_rfl, ?_⟩
    refine AWp.reg (m := 3) rfl ?_
    refine a_z ?_
    refine ⟨i + 1, by omega, hlt, ?_⟩
    simp only [htk, hQ, List.nil_append, liS_cons]
    refine SEnt.to [(1, 4), (2, 5)] rfl rfl rfl au_r (fun hs => ?_) (fun hs => ?_)
    ·repeat' (first | exact CvF.nil | refine CvF.cons rfl ?_ ?_)
     all_goals (first | (exact Cv.clo hs (closed_arr (closed_nR l))) | exact au_c)
    ·repeat' (first | exact CvH.nil | refine CvH.cons rfl rfl rfl rfl ?_ ?_)
     all_goals (first | ((try exact CvLL.clo hs (closed_pE [v])); (try exact CvLL.clo hs (closed_rL [v]))) | exact au_e | (refine CvLL.box ?_; repeat' (first | exact CvL.nil | refine CvL.cons ?_ ?_)))
     all_goals (first | (exact Cv.clo hs (closed_arr (closed_nR l))) | exact au_c)
   | cons q Q =>
    rw [hQ] at hQl
    simp at hQl
    simp only [liS_cons]
    refine AWp.seq ?_
    refine r_z 4 ?_
    refine AWp.cond rfl (fun h => ?_) (fun h => ?_)
    rotate_left
    ·exact absurd h (by simp [nR]; omega)
    refine AWp.skip ?_
    refine AWp.seq ?_
    refine AWp.block ?_
    refine s_r 12 ?_
    refine a_2 ?_
    first | refine AR.op0 (.index_l rfl rfl (by omega) (by omega) te_22.h) rfl rfl ?_ | refine AR.op0 (.index_a rfl rfl (by omega) hgt rfl te_22.h) rfl rfl ?_
    first | refine AR.op0 (.load_l rfl rfl hgt tg_82.h ts_82.h (nle rfl)) rfl rfl ?_ | refine AR.op0 (.load_a rfl hgt tg_82.h ts_82.h (nle rfl)) rfl rfl ?_
    refine c_s (hbo) ?_
    refine a_z ?_
    refine AWp.regD hmix (m := 10) rfl ?_
    refine a_8 ?_
    refine a_2 ?_
    refine AR.nil ⟨by kernel_rfl, ?_⟩
    refine AWp.reg (m := 3) rfl ?_
    refine a_z ?_
    refine ⟨i + 1, by omega, hlt, ?_⟩
    simp only [htk, hQ, List.cons_append, liS_cons]
    have e : pE (q :: Q) ++ [qC v] = pE (q :: (Q ++ [v])) := by simp [pE]
    have e2 : rL (q :: Q) ++ [rC (rq v)] = rL (q :: (Q ++ [v])) := by simp [rE]
    refine SEnt.to [(1, 4), (2, 5)] rfl rfl rfl ?_ (fun hs => ?_) (fun hs => ?_)
    ·repeat' (first | exact ShrL.nil | refine ShrL.cons rfl rfl rfl rfl (by first | (simp) | rfl | (simp; done) | (simp <;> omega)) ?_)
    ·repeat' (first | exact CvF.nil | refine CvF.cons rfl ?_ ?_)
     all_goals (first | (exact Cv.clo hs (closed_arr (closed_nR l))) | exact au_c)
    ·repeat' (first | exact CvH.nil | refine CvH.cons rfl rfl rfl rfl ?_ ?_)
     all_goals (first | ((try exact CvLL.cloE hs e (closed_pE _)); (try exact CvLL.cloE hs e2 (closed_rL _))) | exact au_e | (refine CvLL.box ?_; repeat' (first | exact CvL.nil | refine CvL.cons ?_ ?_)))
     all_goals (first | (exact Cv.clo hs (closed_arr (closed_nR l))) | exact au_c)
  ·have hge : i = l.length := by omega
   subst hge
   simp only [List.take_length]
   cases hQ : nL l with
   | nil =>
    simp only [liS_nil]
    refine AWp.seq ?_
    refine r_z 4 ?_
    refine AWp.cond rfl (fun h => ?_) (fun h => ?_)
    ·exact absurd h (by simp [nR])
    ·refine AWp.exit ⟨(), trivial, ?_⟩
     simp only [hQ, liS_nil]
     refine SEnt.to [] rfl rfl rfl au_r (fun hs => ?_) (fun hs => ?_)
     ·repeat' (first | exact CvF.nil | refine CvF.cons rfl ?_ ?_)
      all_goals (first | (exact Cv.clo hs (closed_arr (closed_nR l))) | exact au_c)
     ·repeat' (first | exact CvH.nil | refine CvH.cons rfl rfl rfl rfl ?_ ?_)
      all_goals (first | exact au_e | (refine CvLL.box ?_; repeat' (first | exact CvL.nil | refine CvL.cons ?_ ?_)))
      all_goals (first | (exact Cv.clo hs (closed_arr (closed_nR l))) | exact au_c)
   | cons q Q =>
    simp only [liS_cons]
    refine AWp.seq ?_
    refine r_z 4 ?_
    refine AWp.cond rfl (fun h => ?_) (fun h => ?_)
    ·exact absurd h (by simp [nR])
    ·refine AWp.exit ⟨(), trivial, ?_⟩
     simp only [hQ, liS_cons]
     refine SEnt.to [] rfl rfl rfl au_r (fun hs => ?_) (fun hs => ?_)
     ·repeat' (first | exact CvF.nil | refine CvF.cons rfl ?_ ?_)
      all_goals (first | (exact Cv.clo hs (closed_arr (closed_nR l))) | exact au_c)
     ·repeat' (first | exact CvH.nil | refine CvH.cons rfl rfl rfl rfl ?_ ?_)
      all_goals (first | (exact CvLL.clo hs (closed_rL _)) | exact au_e | (refine CvLL.box ?_; repeat' (first | exact CvL.nil | refine CvL.cons ?_ ?_)))
      all_goals (first | (exact Cv.clo hs (closed_arr (closed_nR l))) | exact au_c)
 rintro _ _
 cases hQ : nL l with
 | nil =>
  simp only [liS_nil]
  refine r_z 4 ?_
  refine AWp.ret ?_
  refine Fin.many ⟨_, _, rfl, rfl, ⟨_, _, rfl, rfl, rfl⟩⟩ (nle rfl) ?_
  exact CvL.cons (Cv.emp _) (CvL.cons (Cv.emp _) CvL.nil)
 | cons q Q =>
  simp only [liS_cons]
  refine r_z 4 ?_
  refine AWp.ret ?_
  refine Fin.many ⟨_, _, rfl, rfl, ⟨_, _, rfl, rfl, rfl⟩⟩ (nle rfl) ?_
  exact CvL.cons (Cv.sealE shr_nil rfl (fun _ _ h => by cases h) rfl (by simp) (closed_pE _)) (CvL.cons (Cv.sealE shr_nil rfl (fun _ _ h => by cases h) rfl (by simp) (closed_rL _)) CvL.nil)
theorem fs_BothP (l : List NRow) (hl : l.length ≤ 1099511627776) (hb : okR l) : FSpec Tryz.prog 15 [.arr (nR l)] (.tup [.arr (pE (nL l)), .arr (rL (nL l))]) := by
 refine FSpec.enter Tryz.func15 rfl (by kernel_rfl) rfl rfl rfl ?_ rfl ?_
 ·exact closed_cons (closed_arr (closed_nR l)) closed_nil
 refine r_z 2 ?_
 refine r_c 7 (fs_List l hl hb) ?_
 refine a_z ?_
 refine r_z 4 ?_
 refine AWp.ret ?_
 refine Fin.many ⟨_, _, rfl, rfl, ⟨_, _, rfl, rfl, rfl⟩⟩ (nle rfl) ?_
 exact CvL.cons (Cv.clo shr_nil (closed_arr (closed_pE _))) (CvL.cons (Cv.clo shr_nil (closed_arr (closed_rL _))) CvL.nil)
end Go.Proofs.YtdhedjbmdnnbkaaGreatDoor
namespace Go.Proofs.YtdhedjbmdnnbkaaGreatDoor
open Go.Abs Go.Deep Go.RowKit
set_option maxRecDepth 20000
theorem ess_of {M : Nat → Prop} {β : Nat → Option (Nat × Nat)} {w : World} {b s off : Nat} {f : Nat → List AV} : ∀ (n j : Nat), (∀ i, i < j + n → (f i).length = s ∧ RVcs M β w b (f i) (off + i * s)) → RVess M β w b s ((List.range' j n).map f) (off + j * s)
 | 0, _, _ => trivial
 | n + 1, j, h => by
  rw [List.range'_succ, List.map_cons]
  refine ⟨(h j (by omega)).1, (h j (by omega)).2, ?_⟩
  have := ess_of (M := M) (β := β) (w := w) (b := b) (s := s) (off := off) n (j + 1) (fun i hi => h i (by omega))
  rwa [Nat.add_mul, Nat.one_mul, ← Nat.add_assoc] at this
theorem size_of_cell {w : World} {b o : Nat} {v : Value} (h : w.cell? ⟨b, o, none⟩ = some v) : ∃ N, sizeAt w b = some N := by
 unfold World.cell? at h
 unfold sizeAt
 split at h
 ·rename_i c _ _ e; rw [show w.heap[b]? = _ from e]; exact ⟨c.size, rfl⟩
 ·cases h
theorem tyS : (Tryz.prog).underlying 22 = some (.slice 82) := by kernel_rfl
theorem tyN : ∃ f0 f1 f2, (Tryz.prog).underlying 82 = some (.struct #[f0, f1, f2]) ∧ f0.type = 2 ∧ f0.offset = 0 ∧ f1.type = 2 ∧ f1.offset = 1 ∧ f2.type = 5 ∧ f2.offset = 2 :=
 ⟨{ name := "N", type := 2, offset := 0, embedded := false, tag := "", pkgPath := "", byteOffset := 0 }, { name := "D", type := 2, offset := 1, embedded := false, tag := "", pkgPath := "", byteOffset := 8 }, { name := "Pow", type := 5, offset := 2, embedded := false, tag := "", pkgPath := "", byteOffset := 16 }, by kernel_rfl, rfl, rfl, rfl, rfl, rfl, rfl⟩
theorem tyc82 : (Tryz.prog).cellsOf 82 = 3 := by kernel_rfl
theorem tyc2 : (Tryz.prog).cellsOf 2 = 1 := by kernel_rfl
theorem tyc5 : (Tryz.prog).cellsOf 5 = 1 := by kernel_rfl
theorem tyu2 : (Tryz.prog).underlying 2 = some (.int .i64) := by kernel_rfl
theorem tyu5 : (Tryz.prog).underlying 5 = some (.int .u8) := by kernel_rfl
theorem num_of {H : Type} {enc : TypeId × Value → H} {W : World} {base n : Nat} {spare : Nat → Bool} {held : Bool} {cs : List Value} {x : DataW H × List MemPlace} (h : DataW.trod enc Tryz.prog W base spare held n 82 cs = some x) :
    ∃ r : NRow, i64r r.1 ∧ i64r r.2.1 ∧ r.2.2 ≤ 255 ∧ cs = [.int .i64 r.1, .int .i64 r.2.1, .int .u8 r.2.2] := by
 obtain ⟨f0, f1, f2, hu, h1, h2, h3, h4, h5, h6⟩ := tyN
 obtain ⟨y0, y1, y2, m, _, hl, g0, g1, g2⟩ := trod_struct3 hu h
 rw [h1, h2, tyc2] at g0
 rw [h3, h4, tyc2] at g1
 rw [h5, h6, tyc5] at g2
 rw [tyc82] at hl
 obtain ⟨n0, e0, _, w0⟩ := DataW.trod_int tyu2 g0
 obtain ⟨n1, e1, _, w1⟩ := DataW.trod_int tyu2 g1
 obtain ⟨n2, e2, _, w2⟩ := DataW.trod_int tyu5 g2
 match cs, hl with
 | [c0, c1, c2], _ =>
  simp at e0 e1 e2
  subst e0; subst e1; subst e2
  have b2 := bounds_u8 w2
  refine ⟨(n0, n1, n2.toNat), bounds_i64 w0, bounds_i64 w1, ?_, ?_⟩
  ·show n2.toNat ≤ 255; omega
  ·show _ = [_, _, Value.int .u8 ((n2.toNat : Nat) : Int)]
   rw [Int.toNat_of_nonneg b2.1]
theorem rows_of {H : Type} {enc : TypeId × Value → H} {W : World} {a : Option Addr} {len cap : Nat} {d : DataW H} {ps : List MemPlace} (h : DataW.Trod enc Tryz.prog W 0 (fun _ => true) true 22 (.slice a len cap) d ps) :
    ∃ l : List NRow, okR l ∧ RV (fun _ => False) (fun _ => none) W (.arr (nR l)) (.slice a len cap) := by
 obtain ⟨fuel, hf⟩ := h
 rcases open_slice tyS hf with ⟨hcs, _⟩ | ⟨x, len', cap', m, n, D, Pl, hcs, _, hl, hm, hmm, _, hx⟩
 ·simp [Value.cells] at hcs
  obtain ⟨rfl, rfl, rfl⟩ := hcs
  exact ⟨[], (fun r hr => by cases hr), none, 0, rfl, Nat.le_refl _, by decide, .inl rfl⟩
 ·simp [Value.cells] at hcs
  obtain ⟨rfl, rfl, rfl⟩ := hcs
  simp only [if_true] at hmm
  have hmc : m = cap := hmm
  rw [hmc] at hx
  rw [tyc82] at hx
  have hx' : ∀ i, i < len → ∃ r : NRow, (i64r r.1 ∧ i64r r.2.1 ∧ r.2.2 ≤ 255) ∧ W.cells? 0 (x.add (i * 3)) 3 = some [.int .i64 r.1, .int .i64 r.2.1, .int .u8 r.2.2] := fun i hi => by
   obtain ⟨cs', g1, g2⟩ := hx i (by omega)
   obtain ⟨r, r1, r2, r3, e⟩ := num_of g2
   exact ⟨r, ⟨r1, r2, r3⟩, by rw [g1, e]⟩
  obtain ⟨R, hR⟩ := choose_lt (α := NRow) hx'
  refine ⟨(List.range len).map R, ?_, some x, cap, by simp [nR], by simpa [nR] using hl, hm, ?_⟩
  ·intro r hr
   obtain ⟨i, hi, rfl⟩ := List.mem_map.1 hr
   exact (hR i (List.mem_range.1 hi)).1
  ·by_cases h0 : len = 0
   ·subst h0; exact .inl rfl
   ·right
    have c : ∀ i, i < len → ∀ j (v : Value), [.int .i64 (R i).1, .int .i64 (R i).2.1, .int .u8 (R i).2.2][j]? = some v → W.cell? (x.add (i * 3 + j)) = some v := fun i hi j v hv => by
     have hj : j < 3 := by
      have := (List.getElem?_eq_some_iff.1 hv).1
      simpa using this
     have := (World.cells?_some (hR i hi).2).2.2 j hj
     rw [hv, Go.Deep.add_add] at this
     exact this
    have c0 := c 0 (by omega) 0 _ rfl
    obtain ⟨b, off, spot⟩ := x
    have hspot : spot = none := by simpa [Addr.add] using World.cell?_spot c0
    subst hspot
    have hadd : ∀ k, Addr.add ⟨b, off, none⟩ k = ⟨b, off + k, none⟩ := fun k => by
     unfold Addr.add
     by_cases hk : k = 0
     ·simp [hk]
     ·simp [hk]
    refine ⟨b, off, 3, rfl, size_of_cell (by rw [hadd] at c0; exact c0), (fun h => h), ?_⟩
    have := ess_of (M := fun _ => False) (β := fun _ => none) (w := W) (b := b) (s := 3) (off := off) (f := fun i => nuC (R i).1 (R i).2.1 (R i).2.2) len 0 (fun i hi => ⟨rfl, ?_⟩)
    ·rw [Nat.zero_mul, Nat.add_zero, ← List.range_eq_range'] at this
     rw [nR, List.map_map]
     exact this
    ·have hi' : i < len := by omega
     refine ⟨⟨_, ?_, rfl⟩, ⟨_, ?_, rfl⟩, ⟨_, ?_, rfl⟩, trivial⟩
     ·have := c i hi' 0 _ rfl; rw [hadd] at this; exact this
     ·have := c i hi' 1 _ rfl; rw [hadd] at this; rw [Nat.add_assoc]; exact this
     ·have := c i hi' 2 _ rfl; rw [hadd] at this; rw [Nat.add_assoc, Nat.add_assoc]; exact this
end Go.Proofs.YtdhedjbmdnnbkaaGreatDoor
namespace Go.Abs
theorem coP_nil (i : Nat) : coP [] i = 0 := rfl
theorem coP_zero (a : Rat) (l : List Rat) : coP (a :: l) 0 = a := rfl
theorem coP_succ (a : Rat) (l : List Rat) (i : Nat) : coP (a :: l) (i + 1) = coP l i := rfl
theorem coP_trim (l : List Rat) (i : Nat) : coP (trimQ l) i = coP l i := by
 induction l generalizing i with
 | nil => rfl
 | cons a l ih =>
  rw [trimQ_cons]
  split
  ·rename_i h
   have h0 : ∀ j, coP l j = 0 := fun j => by rw [← ih j, h]; rfl
   split
   ·rename_i ha
    cases i with
    | zero => rw [coP_zero, ha]; rfl
    | succ i => rw [coP_succ, h0]; rfl
   ·cases i with
    | zero => rfl
    | succ i => rw [coP_succ, coP_succ, h0]; rfl
  ·cases i with
   | zero => rfl
   | succ i => rw [coP_succ, coP_succ, ih]
theorem coP_tab (n : Nat) (f : Nat → Rat) (i : Nat) : coP (tabP n f) i = if i < n then f i else 0 := by
 unfold coP tabP
 rw [List.getD_eq_getElem?_getD, List.getElem?_map]
 by_cases h : i < n
 ·rw [if_pos h, List.getElem?_range h]; rfl
 ·rw [if_neg h, List.getElem?_eq_none (by simp; omega)]; rfl
theorem coP_add (p q : List Rat) (i : Nat) : coP (addP p q) i = coP p i + coP q i := by
 unfold addP
 rw [coP_trim, coP_tab]
 split
 ·rfl
 ·rename_i h
  rw [coP_out (by omega), coP_out (by omega)]; grind
theorem coP_scale (p : List Rat) (k : Rat) (i : Nat) : coP (scaleP p k) i = coP p i * k := by
 unfold scaleP
 rw [coP_trim, coP_tab]
 split
 ·rfl
 ·rename_i h
  rw [coP_out (by omega)]; grind
theorem coP_sub (p q : List Rat) (i : Nat) : coP (subP p q) i = coP p i - coP q i := by
 unfold subP
 rw [coP_add, coP_scale]; grind
theorem coP_derive (p : List Rat) (i : Nat) : coP (deriveP p) i = coP p (i + 1) * ((i + 1 : Nat) : Int) := by
 unfold deriveP
 rw [coP_trim, coP_tab]
 split
 ·rfl
 ·rename_i h
  rw [coP_out (by omega)]; grind
theorem coP_integral (p : List Rat) (i : Nat) : coP (integralP p) i = if i = 0 then 0 else coP p (i - 1) / ((i : Nat) : Int) := by
 unfold integralP
 rw [coP_trim, coP_tab]
 split
 ·rfl
 ·rename_i h
  rw [if_neg (by omega), coP_out (by omega)]
  rw [Rat.div_def, Rat.zero_mul]
theorem trim_ext {p q : List Rat} (h : ∀ i, coP p i = coP q i) : trimQ p = trimQ q := by
 induction p generalizing q with
 | nil =>
  induction q with
  | nil => rfl
  | cons b q ih =>
   have hb : b = 0 := (h 0).symm
   rw [trimQ_cons, ← ih fun i => h (i + 1), if_pos (by rfl), if_pos hb]; rfl
 | cons a p ih =>
  cases q with
  | nil =>
   have ha : a = 0 := h 0
   rw [trimQ_cons, ih (q := []) fun i => h (i + 1), if_pos (by rfl), if_pos ha]; rfl
  | cons b q =>
   have hab : a = b := h 0
   rw [trimQ_cons, trimQ_cons, ih (q := q) fun i => h (i + 1), hab]
theorem trim_iff {p q : List Rat} : trimQ p = trimQ q ↔ ∀ i, coP p i = coP q i :=
 ⟨fun h i => by rw [← coP_trim p, h, coP_trim], trim_ext⟩
theorem trim_nil_iff {p : List Rat} : trimQ p = [] ↔ ∀ i, coP p i = 0 :=
 ⟨fun h i => by rw [← coP_trim p, h]; rfl, fun h => trim_ext (q := []) h⟩
theorem evalP_nil (x : Rat) : evalP [] x = 0 := rfl
theorem evalP_cons (a : Rat) (l : List Rat) (x : Rat) : evalP (a :: l) x = evalP l x * x + a := rfl
theorem evalP_zero {p : List Rat} (h : ∀ i, coP p i = 0) (x : Rat) : evalP p x = 0 := by
 induction p with
 | nil => rfl
 | cons a p ih =>
  have ha : a = 0 := h 0
  rw [evalP_cons, ih fun i => h (i + 1), ha]; grind
theorem evalP_ext {p q : List Rat} (h : ∀ i, coP p i = coP q i) (x : Rat) : evalP p x = evalP q x := by
 induction p generalizing q with
 | nil => exact (evalP_zero (fun i => (h i).symm) x).symm
 | cons a p ih =>
  cases q with
  | nil => exact evalP_zero h x
  | cons b q =>
   have hab : a = b := h 0
   rw [evalP_cons, evalP_cons, ih (q := q) fun i => h (i + 1), hab]
theorem evalP_trim (p : List Rat) (x : Rat) : evalP (trimQ p) x = evalP p x := evalP_ext (coP_trim p) x
def addL : List Rat → List Rat → List Rat
 | [], q => q
 | p, [] => p
 | a :: p, b :: q => (a + b) :: addL p q
def scaleL (p : List Rat) (k : Rat) : List Rat := p.map (· * k)
def mulL : List Rat → List Rat → List Rat
 | [], _ => []
 | a :: p, q => addL (scaleL q a) (0 :: mulL p q)
theorem coP_addL (p q : List Rat) (i : Nat) : coP (addL p q) i = coP p i + coP q i := by
 induction p generalizing q i with
 | nil => rw [addL, coP_nil]; grind
 | cons a p ih =>
  cases q with
  | nil => rw [addL, coP_nil]; · grind
           ·intro h; cases h
  | cons b q =>
   rw [addL]
   cases i with
   | zero => rfl
   | succ i => exact ih q i
theorem coP_scaleL (p : List Rat) (k : Rat) (i : Nat) : coP (scaleL p k) i = coP p i * k := by
 induction p generalizing i with
 | nil => show (0 : Rat) = 0 * k; grind
 | cons a p ih =>
  cases i with
  | zero => rfl
  | succ i => exact ih i
theorem evalP_addL (p q : List Rat) (x : Rat) : evalP (addL p q) x = evalP p x + evalP q x := by
 induction p generalizing q with
 | nil => rw [addL, evalP_nil]; grind
 | cons a p ih =>
  cases q with
  | nil => rw [addL, evalP_nil]; · grind
           ·intro h; cases h
  | cons b q => rw [addL, evalP_cons, evalP_cons, evalP_cons, ih]; grind
theorem evalP_scaleL (p : List Rat) (k x : Rat) : evalP (scaleL p k) x = evalP p x * k := by
 induction p with
 | nil => show (0 : Rat) = 0 * k; grind
 | cons a p ih => show evalP (scaleL p k) x * x + a * k = _; rw [ih, evalP_cons]; grind
theorem evalP_mulL (p q : List Rat) (x : Rat) : evalP (mulL p q) x = evalP p x * evalP q x := by
 induction p with
 | nil => show (0 : Rat) = 0 * _; grind
 | cons a p ih => rw [mulL, evalP_addL, evalP_scaleL, evalP_cons, ih, evalP_cons]; grind
theorem evalP_add (p q : List Rat) (x : Rat) : evalP (addP p q) x = evalP p x + evalP q x := by
 rw [← evalP_addL]; exact evalP_ext (fun i => by rw [coP_add, coP_addL]) x
theorem evalP_scale (p : List Rat) (k x : Rat) : evalP (scaleP p k) x = evalP p x * k := by
 rw [← evalP_scaleL]; exact evalP_ext (fun i => by rw [coP_scale, coP_scaleL]) x
theorem evalP_sub (p q : List Rat) (x : Rat) : evalP (subP p q) x = evalP p x - evalP q x := by
 unfold subP; rw [evalP_add, evalP_scale]; grind
theorem evalP_const (a x : Rat) : evalP (constP a) x = a := by
 rw [constP, evalP_trim]; show 0 * x + a = a; grind
def convP (p q : List Rat) : Nat → Nat → Rat
 | 0, _ => 0
 | i + 1, n => convP p q i n + (if i ≤ n then coP p i * coP q (n - i) else 0)
theorem coP_rowP (o : List Rat) (a : Rat) (q : List Rat) (i : Nat) (h : ∀ k, k < q.length → i + k < o.length) : ∀ k n, k ≤ q.length → coP (rowP o a q i k) n = coP o n + (if i ≤ n ∧ n < i + k then a * coP q (n - i) else 0)
 | 0, n, _ => by rw [if_neg (by omega)]; show coP o n = _; grind
 | k + 1, n, hk => by
  rw [rowP, coP_addAt, rowP_length]
  by_cases hn : n = i + k
  ·subst hn
   rw [if_pos ⟨rfl, h k (by omega)⟩, rowP_out o a q i k (i + k) (by omega), if_pos (by omega), show i + k - i = k by omega]
  ·rw [if_neg (by omega), coP_rowP o a q i h k n (by omega)]
   by_cases h2 : i ≤ n ∧ n < i + k
   ·rw [if_pos h2, if_pos (by omega)]
   ·rw [if_neg h2, if_neg (by omega)]
theorem coP_mulR (p q : List Rat) (n : Nat) : ∀ i, i ≤ p.length → coP (mulR p q i) n = convP p q i n
 | 0, _ => by
  show coP (List.replicate _ 0) n = 0
  unfold coP
  rw [List.getD_eq_getElem?_getD, List.getElem?_replicate]
  split <;> rfl
 | i + 1, hi => by
  have ih := coP_mulR p q n i (by omega)
  rw [mulR, convP]
  split
  ·rename_i h0
   rw [ih, h0]
   split <;> grind
  ·rw [coP_rowP _ _ _ _ (fun k hk => by rw [mulR_length]; omega) _ _ (Nat.le_refl _), ih]
   congr 1
   by_cases h1 : i ≤ n
   ·rw [if_pos h1]
    by_cases h2 : n < i + q.length
    ·rw [if_pos ⟨h1, h2⟩]
    ·rw [if_neg (by omega), coP_out (p := q) (by omega)]; grind
   ·rw [if_neg (by omega), if_neg h1]
theorem convP_cons (a : Rat) (p q : List Rat) (n : Nat) : ∀ i, convP (a :: p) q (i + 1) n = a * coP q n + (match n with | 0 => 0 | m + 1 => convP p q i m)
 | 0 => by
  show (0 : Rat) + (if 0 ≤ n then coP (a :: p) 0 * coP q (n - 0) else 0) = _
  rw [if_pos (Nat.zero_le _), coP_zero, Nat.sub_zero]
  cases n <;> simp [convP, Rat.add_zero, Rat.zero_add]
 | i + 1 => by
  rw [convP, convP_cons a p q n i]
  cases n with
  | zero => rw [if_neg (by omega)]; show a * coP q 0 + 0 + 0 = a * coP q 0 + 0; grind
  | succ m =>
   show a * coP q (m + 1) + convP p q i m + _ = a * coP q (m + 1) + (convP p q i m + _)
   by_cases h : i ≤ m
   ·rw [if_pos (by omega), if_pos h, coP_succ, show m + 1 - (i + 1) = m - i by omega]; grind
   ·rw [if_neg (by omega), if_neg h]; grind
theorem coP_mulL (p q : List Rat) (n : Nat) : coP (mulL p q) n = convP p q p.length n := by
 induction p generalizing n with
 | nil => rfl
 | cons a p ih =>
  rw [mulL, coP_addL, coP_scaleL, List.length_cons, convP_cons]
  cases n with
  | zero => rw [coP_zero]; grind
  | succ m => rw [coP_succ, ih]; grind
theorem coP_mul (p q : List Rat) (n : Nat) : coP (mulP p q) n = coP (mulL p q) n := by
 unfold mulP
 split
 ·rename_i h
  rcases h with rfl | rfl
  ·rfl
  ·rw [coP_mulL]
   have : ∀ i, convP p [] i n = 0 := by
    intro i
    induction i with
    | zero => rfl
    | succ i ih => rw [convP, ih, coP_nil]; split <;> grind
   rw [this]; rfl
 ·rw [coP_trim, coP_mulR _ _ _ _ (Nat.le_refl _), coP_mulL]
theorem evalP_mul (p q : List Rat) (x : Rat) : evalP (mulP p q) x = evalP p x * evalP q x := by
 rw [← evalP_mulL]; exact evalP_ext (coP_mul p q) x
def synD : List Rat → Rat → List Rat
 | [], _ => []
 | [_], _ => []
 | _ :: b :: l, r => evalP (b :: l) r :: synD (b :: l) r
theorem synD_eval (p : List Rat) (r x : Rat) : evalP p x = evalP (synD p r) x * (x - r) + evalP p r := by
 induction p with
 | nil => show (0 : Rat) = 0 * _ + 0; grind
 | cons a l ih =>
  cases l with
  | nil => show 0 * x + a = 0 * (x - r) + (0 * r + a); grind
  | cons b l =>
   rw [synD, evalP_cons a, evalP_cons a, evalP_cons (evalP (b :: l) r), ih]; grind
theorem synD_len (p : List Rat) (r : Rat) : (synD p r).length = p.length - 1 := by
 induction p with
 | nil => rfl
 | cons a l ih =>
  cases l with
  | nil => rfl
  | cons b l => rw [synD, List.length_cons, ih]; simp
theorem roots_zero : ∀ (n : Nat) (p xs : List Rat), p.length ≤ n → n ≤ xs.length → xs.Nodup → (∀ x ∈ xs, evalP p x = 0) → ∀ x, evalP p x = 0
 | 0, p, _, hp, _, _, _, x => by
  have : p = [] := List.length_eq_zero_iff.1 (by omega)
  rw [this]; rfl
 | n + 1, p, xs, hp, hx, hnd, hz, x => by
  cases xs with
  | nil => simp at hx
  | cons r xs =>
   rw [List.nodup_cons] at hnd
   have hr := hz r (List.mem_cons_self ..)
   have ih := roots_zero n (synD p r) xs (by rw [synD_len]; omega) (by simp at hx; omega) hnd.2 fun y hy => by
    have h1 := synD_eval p r y
    rw [hz y (List.mem_cons_of_mem _ hy), hr] at h1
    have hne : y - r ≠ 0 := fun h => hnd.1 (by have : y = r := by grind
                                               rw [← this]; exact hy)
    have h2 : evalP (synD p r) y * (y - r) = 0 := by grind
    rcases Rat.mul_eq_zero.1 h2 with h3 | h3
    ·exact h3
    ·exact absurd h3 hne
   rw [synD_eval p r x, ih, hr]; grind
theorem eval_zero_co {p : List Rat} (h : ∀ x, evalP p x = 0) : ∀ i, coP p i = 0 := by
 induction p with
 | nil => intro i; rfl
 | cons a p ih =>
  have ha : a = 0 := by
   have := h 0
   rw [evalP_cons] at this; grind
  have hp : ∀ x, evalP p x = 0 := by
   -- at all places but 0, so at all
   refine roots_zero p.length p ((List.range p.length).map fun i => (((i + 1 : Nat) : Int) : Rat)) (Nat.le_refl _) (by simp) ?_ ?_
   ·refine List.Pairwise.map _ (fun i j hij => ?_) List.nodup_range
    intro e
    apply hij
    have := Rat.intCast_inj.1 e
    omega
   ·intro x hx
    obtain ⟨i, _, rfl⟩ := List.mem_map.1 hx
    have h1 := h (((i + 1 : Nat) : Int) : Rat)
    rw [evalP_cons, ha] at h1
    have h2 : evalP p (((i + 1 : Nat) : Int) : Rat) * (((i + 1 : Nat) : Int) : Rat) = 0 := by grind
    rcases Rat.mul_eq_zero.1 h2 with h3 | h3
    ·exact h3
    ·have := Rat.intCast_inj.1 (h3.trans Rat.intCast_zero.symm); omega
  intro i
  cases i with
  | zero => exact ha
  | succ i => exact ih hp i
theorem eval_ext {p q : List Rat} (h : ∀ x, evalP p x = evalP q x) : trimQ p = trimQ q := by
 refine trim_ext fun i => ?_
 have := eval_zero_co (p := subP p q) (fun x => by rw [evalP_sub, h]; grind) i
 rw [coP_sub] at this; grind
theorem mulP_len1 (p q : List Rat) (hp : p ≠ []) : (mulP p q).length ≤ p.length + q.length - 1 := by
 unfold mulP
 split
 ·simp
 ·have := trimQ_len (mulR p q p.length)
  rwa [mulR_length] at this
theorem scaleP_bd {p : List Rat} {k : Rat} {s t : Nat} (hp : bdL p s) (hs : 1 ≤ s) (hk : qs k ≤ t) : bdL (scaleP p k) (s + t) :=
 coP_bd fun i => by
  rw [coP_scale]
  have h1 := qs_mul (coP p i) k
  have h2 := bdL_co hp hs i
  omega
theorem addP_bd {p q : List Rat} {s t : Nat} (hp : bdL p s) (hq : bdL q t) (hs : 1 ≤ s) (ht : 1 ≤ t) : bdL (addP p q) (s + t + 1) :=
 coP_bd fun i => by
  rw [coP_add]
  have h1 := qs_add (coP p i) (coP q i)
  have h2 := bdL_co hp hs i
  have h3 := bdL_co hq ht i
  omega
def dvE : List Rat → Rat → Rat
 | [], _ => 0
 | _ :: l, x => evalP l x + dvE l x * x
theorem dvE_cons (a : Rat) (l : List Rat) (x : Rat) : dvE (a :: l) x = evalP l x + dvE l x * x := rfl
theorem dvE_zero {p : List Rat} (h : ∀ i, coP p i = 0) (x : Rat) : dvE p x = 0 := by
 induction p with
 | nil => rfl
 | cons a p ih => rw [dvE_cons, ih fun i => h (i + 1), evalP_zero fun i => h (i + 1)]; grind
theorem dvE_ext {p q : List Rat} (h : ∀ i, coP p i = coP q i) (x : Rat) : dvE p x = dvE q x := by
 induction p generalizing q with
 | nil => exact (dvE_zero (fun i => (h i).symm) x).symm
 | cons a p ih =>
  cases q with
  | nil => exact dvE_zero h x
  | cons b q => rw [dvE_cons, dvE_cons, ih (q := q) fun i => h (i + 1), evalP_ext (q := q) fun i => h (i + 1)]
theorem dvE_addL (p q : List Rat) (x : Rat) : dvE (addL p q) x = dvE p x + dvE q x := by
 induction p generalizing q with
 | nil => rw [addL]; show dvE q x = 0 + dvE q x; grind
 | cons a p ih =>
  cases q with
  | nil => rw [addL]; · show _ = _ + (0 : Rat); grind
           ·intro h; cases h
  | cons b q => rw [addL, dvE_cons, dvE_cons, dvE_cons, ih, evalP_addL]; grind
theorem dvE_scaleL (p : List Rat) (k x : Rat) : dvE (scaleL p k) x = dvE p x * k := by
 induction p with
 | nil => show (0 : Rat) = 0 * k; grind
 | cons a p ih => show evalP (scaleL p k) x + dvE (scaleL p k) x * x = _; rw [ih, dvE_cons, evalP_scaleL]; grind
theorem dvE_mulL (p q : List Rat) (x : Rat) : dvE (mulL p q) x = dvE p x * evalP q x + evalP p x * dvE q x := by
 induction p with
 | nil => show (0 : Rat) = 0 * _ + 0 * _; grind
 | cons a p ih => rw [mulL, dvE_addL, dvE_scaleL, dvE_cons, dvE_cons, ih, evalP_mulL, evalP_cons]; grind
def derL : List Rat → List Rat
 | [] => []
 | _ :: l => addL l (0 :: derL l)
theorem evalP_derL (p : List Rat) (x : Rat) : evalP (derL p) x = dvE p x := by
 induction p with
 | nil => rfl
 | cons a p ih => rw [derL, evalP_addL, evalP_cons, ih, dvE_cons]; grind
theorem coP_derL (p : List Rat) (i : Nat) : coP (derL p) i = coP p (i + 1) * ((i + 1 : Nat) : Int) := by
 induction p generalizing i with
 | nil => show (0 : Rat) = 0 * _; grind
 | cons a p ih =>
  rw [derL, coP_addL, coP_succ]
  cases i with
  | zero => rw [coP_zero]; simp; grind
  | succ i => rw [coP_succ, ih]; simp only [Int.natCast_add, Rat.intCast_add]; grind
theorem evalP_derive (p : List Rat) (x : Rat) : evalP (deriveP p) x = dvE p x := by
 rw [← evalP_derL]; exact evalP_ext (fun i => by rw [coP_derive, coP_derL]) x
theorem dvE_mul (p q : List Rat) (x : Rat) : dvE (mulP p q) x = dvE p x * evalP q x + evalP p x * dvE q x := by
 rw [← dvE_mulL]; exact dvE_ext (coP_mul p q) x
theorem derive_integral (p : List Rat) : trimQ (deriveP (integralP p)) = trimQ p := trim_ext fun i => by
 rw [coP_derive, coP_integral, if_neg (by omega), Nat.add_sub_cancel]
 have h : (((i + 1 : Nat) : Int) : Rat) ≠ 0 := by
  intro e
  have h1 : ((i + 1 : Nat) : Int) = 0 := Rat.intCast_inj.1 (e.trans Rat.intCast_zero.symm)
  omega
 grind
theorem evalP_comp (q : List Rat) (x : Rat) : ∀ p, evalP (compP q p) x = evalP p (evalP q x)
 | [] => rfl
 | a :: p => by rw [compP, evalP_add, evalP_mul, evalP_const, evalP_comp q x p, evalP_cons]
theorem evalP_line1 (c x : Rat) : evalP [c, 1] x = x + c := by
 show (0 * x + 1) * x + c = x + c; grind
theorem evalP_set (o : List Rat) (x v : Rat) : ∀ j, j < o.length → evalP (o.set j v) x = evalP o x + (v - coP o j) * x ^ j := by
 induction o with
 | nil => intro j h; cases h
 | cons a o ih =>
  intro j h
  cases j with
  | zero => rw [List.set_cons_zero, evalP_cons, evalP_cons, coP_zero, Rat.pow_zero]; grind
  | succ j => rw [List.set_cons_succ, evalP_cons, evalP_cons, coP_succ, ih j (by simpa using h), Rat.pow_succ]; grind
theorem evalP_take (q : List Rat) (x : Rat) (m : Nat) (h : m < q.length) : evalP (q.take (m + 1)) x = evalP (q.take m) x + coP q m * x ^ m := by
 induction q generalizing m with
 | nil => cases h
 | cons a q ih =>
  cases m with
  | zero => rw [List.take_succ_cons, List.take_zero, List.take_zero, coP_zero, Rat.pow_zero, evalP_cons]; show 0 * x + a = 0 + a * 1; grind
  | succ m => rw [List.take_succ_cons, List.take_succ_cons, evalP_cons, evalP_cons, coP_succ, ih m (by simpa using h), Rat.pow_succ]; grind
theorem rat_pow_add (x : Rat) (n : Nat) : ∀ m, x ^ (n + m) = x ^ n * x ^ m
 | 0 => by rw [Nat.add_zero, Rat.pow_zero]; grind
 | m + 1 => by rw [← Nat.add_assoc, Rat.pow_succ, Rat.pow_succ, rat_pow_add x n m]; grind
theorem evalP_rowM (o : List Rat) (k : Rat) (q : List Rat) (n : Nat) (x : Rat) (h : n + q.length ≤ o.length) : ∀ m, m ≤ q.length → evalP (rowM o k q n m) x = evalP o x - k * x ^ n * evalP (q.take m) x
 | 0, _ => by rw [rowM, List.take_zero]; show _ = _ - _ * 0; grind
 | m + 1, hm => by
  rw [rowM, subAt, evalP_set _ _ _ _ (by rw [rowM_length]; omega), evalP_rowM o k q n x h m (by omega), evalP_take q x m (by omega), rat_pow_add]
  grind
theorem coP_rowM (o : List Rat) (k : Rat) (q : List Rat) (n m : Nat) (hm : m < q.length) (h : n + q.length ≤ o.length) : coP (rowM o k q n q.length) (n + m) = coP o (n + m) - k * coP q m := by
 have : ∀ j, m < j → j ≤ q.length → coP (rowM o k q n j) (n + m) = coP o (n + m) - k * coP q m := by
  intro j
  induction j with
  | zero => intro h; omega
  | succ j ih =>
   intro h1 h2
   rw [rowM, coP_subAt]
   by_cases e : m = j
   ·subst e
    rw [if_pos ⟨rfl, by rw [rowM_length]; omega⟩, rowM_out o k q n m (n + m) (by omega)]
   ·rw [if_neg (by omega)]
    exact ih (by omega) (by omega)
 exact this q.length hm (Nat.le_refl _)
theorem divR_spec (q : List Rat) (lead : Rat) (hq : q ≠ []) (hl : coP q (q.length - 1) = lead) (hl0 : lead ≠ 0) (x : Rat) : ∀ c u o, (∀ i, i < c → coP u i = 0) → c ≤ u.length → c + q.length ≤ o.length + 1 → (∀ j, c + q.length - 1 ≤ j → coP o j = 0) →
    evalP (divR q lead c u o).1 x * evalP q x + evalP (divR q lead c u o).2 x = evalP u x * evalP q x + evalP o x ∧ ∀ j, q.length - 1 ≤ j → coP (divR q lead c u o).2 j = 0
 | 0, u, o, _, _, _, h4 => ⟨rfl, fun j hj => h4 j (by omega)⟩
 | n + 1, u, o, h1, h2, h3, h4 => by
  have hlen := List.length_pos_iff.2 hq
  rw [divR]
  obtain ⟨k, hk⟩ : ∃ k, k = coP o (n + q.length - 1) / lead := ⟨_, rfl⟩
  rw [← hk]
  have hkl : k * lead = coP o (n + q.length - 1) := by rw [hk]; grind
  have hu : coP u n = 0 := h1 n (by omega)
  have ho : evalP (if k = 0 then o else rowM o k q n q.length) x = evalP o x - k * x ^ n * evalP q x := by
   by_cases h0 : k = 0
   ·rw [if_pos h0, h0]; grind
   ·rw [if_neg h0, evalP_rowM o k q n x (by omega) _ (Nat.le_refl _), List.take_length]
  obtain ⟨e1, e2⟩ := divR_spec q lead hq hl hl0 x n (u.set n k) (if k = 0 then o else rowM o k q n q.length) (fun i hi => by
   rw [coP_set, if_neg (by omega)]; exact h1 i (by omega)) (by simp; omega) (by split <;> (try simp) <;> omega) (fun j hj => by
   by_cases h0 : k = 0
   ·rw [if_pos h0]
    by_cases hj' : j = n + q.length - 1
    ·rw [hj', ← hkl, h0]; grind
    ·exact h4 j (by omega)
   ·rw [if_neg h0]
    by_cases hj' : j = n + q.length - 1
    ·have := coP_rowM o k q n (q.length - 1) (by omega) (by omega)
     rw [hj', show n + q.length - 1 = n + (q.length - 1) by omega, this, hl, hkl, show n + (q.length - 1) = n + q.length - 1 by omega]; grind
    ·rw [rowM_out o k q n q.length j (by omega)]
     exact h4 j (by omega))
  refine ⟨?_, e2⟩
  rw [e1, ho, evalP_set u x k n (by omega), hu]
  grind
theorem trimQ_len_of {p : List Rat} {n : Nat} (h : ∀ j, n ≤ j → coP p j = 0) : (trimQ p).length ≤ n := by
 apply Nat.le_of_not_lt
 intro hn
 have h1 := leadP_get (l := p) (n := (trimQ p).length - 1) (by omega)
 have h2 : trimQ p ≠ [] := fun e => by rw [e] at hn; simp at hn
 have h3 := h ((trimQ p).length - 1) (by omega)
 rw [← coP_trim] at h3
 unfold coP at h3
 rw [List.getD_eq_getElem?_getD, h1] at h3
 exact leadP_ne h2 h3
theorem divP_spec (p q : List Rat) (hq : trimQ q ≠ []) : (∀ x, evalP (divP p q).1 x * evalP q x + evalP (divP p q).2 x = evalP p x) ∧ (trimQ (divP p q).2).length < (trimQ q).length := by
 have hlen := List.length_pos_iff.2 hq
 have hl : coP (trimQ q) ((trimQ q).length - 1) = leadP q := by
  have := leadP_get (l := q) (n := (trimQ q).length - 1) (by omega)
  unfold coP; rw [List.getD_eq_getElem?_getD, this]; rfl
 have hz : ∀ i m, coP (List.replicate m 0) i = 0 := fun i m => by
  unfold coP
  rw [List.getD_eq_getElem?_getD, List.getElem?_replicate]
  split <;> rfl
 have key := fun x (h : (trimQ q).length ≤ (trimQ p).length + 1) => divR_spec (trimQ q) (leadP q) hq hl (leadP_ne hq) x ((trimQ p).length + 1 - (trimQ q).length) (List.replicate ((trimQ p).length + 1 - (trimQ q).length) 0) (trimQ p)
  (fun i _ => hz i _) (by simp) (by omega) (fun j hj => coP_out (by omega))
 by_cases h : (trimQ q).length ≤ (trimQ p).length + 1
 ·refine ⟨fun x => ?_, ?_⟩
  ·have e := (key x h).1
   unfold divP
   simp only
   rw [evalP_trim, evalP_trim, ← evalP_trim q, e, evalP_zero (fun i => hz i _), evalP_trim p]; grind
  ·have e := (key 0 h).2
   unfold divP
   simp only
   rw [trimQ_idem]
   have := trimQ_len_of e
   omega
 ·unfold divP
  simp only
  rw [show (trimQ p).length + 1 - (trimQ q).length = 0 by omega]
  refine ⟨fun x => ?_, ?_⟩
  ·rw [divR, evalP_trim, evalP_trim, evalP_trim]; show 0 * _ + _ = _; grind
  ·rw [divR]; simp only; rw [trimQ_idem, trimQ_idem]; omega
theorem degP_lt {p q : List Rat} (h : (trimQ p).length < (trimQ q).length) : degP p < degP q := by unfold degP; omega
section
variable (p q r : List Rat) (a b : Rat)
theorem same_of {p q : List Rat} (h : ∀ x, evalP p x = evalP q x) : sameP p q = true := decide_eq_true (eval_ext h)
theorem law1 : sameP (addP p q) (addP q p) = true := same_of fun x => by rw [evalP_add, evalP_add]; grind
theorem law2 : sameP (mulP p q) (mulP q p) = true := same_of fun x => by rw [evalP_mul, evalP_mul]; grind
theorem law3 : sameP (mulP (mulP p q) r) (mulP p (mulP q r)) = true := same_of fun x => by rw [evalP_mul, evalP_mul, evalP_mul, evalP_mul]; grind
theorem law4 : sameP (mulP p (addP q r)) (addP (mulP p q) (mulP p r)) = true := same_of fun x => by rw [evalP_mul, evalP_add, evalP_add, evalP_mul, evalP_mul]; grind
theorem law5 : degP (subP p p) = -1 := by
 have : trimQ (subP p p) = [] := trim_nil_iff.2 fun i => by rw [coP_sub]; grind
 unfold degP; rw [this]; rfl
theorem law6 : sameP (deriveP (mulP p q)) (addP (mulP (deriveP p) q) (mulP p (deriveP q))) = true := same_of fun x => by rw [evalP_derive, dvE_mul, evalP_add, evalP_mul, evalP_mul, evalP_derive, evalP_derive]
theorem law7 : sameP (deriveP (integralP p)) p = true := decide_eq_true (derive_integral p)
theorem law8 : sameP (compP [b, 1] (compP [a, 1] p)) (compP [a + b, 1] p) = true := same_of fun x => by
 rw [evalP_comp, evalP_comp, evalP_comp, evalP_line1, evalP_line1, evalP_line1]; congr 1; grind
theorem law9 : evalP (mulP p q) a = evalP p a * evalP q a := evalP_mul p q a
theorem law10 (h : trimQ q ≠ []) : sameP (addP (mulP (divP p q).1 q) (divP p q).2) p = true := same_of fun x => by
 rw [evalP_add, evalP_mul]; exact (divP_spec p q h).1 x
end
def nz (p : List Rat) : Prop := trimQ p ≠ []
def dg (p : List Rat) : Nat := (trimQ p).length - 1
def md (p q : List Rat) : List Rat := (divP p q).2
def Eqv (p q : List Rat) : Prop := ∀ x, evalP p x = evalP q x
theorem eqv_trim {p q : List Rat} : Eqv p q ↔ trimQ p = trimQ q :=
 ⟨eval_ext, fun h x => by rw [← evalP_trim p, h, evalP_trim]⟩
theorem nz_eqv {p q : List Rat} (h : Eqv p q) : nz p ↔ nz q := by unfold nz; rw [eqv_trim.1 h]
theorem dg_eqv {p q : List Rat} (h : Eqv p q) : dg p = dg q := by unfold dg; rw [eqv_trim.1 h]
theorem lead_eqv {p q : List Rat} (h : Eqv p q) : leadP p = leadP q := by unfold leadP; rw [eqv_trim.1 h]
theorem md_eqv {p q p' q' : List Rat} (h : Eqv p p') (h' : Eqv q q') : md p q = md p' q' := by
 unfold md divP; simp only; rw [eqv_trim.1 h, eqv_trim.1 h', lead_eqv h']
theorem not_nz {p : List Rat} (h : ¬ nz p) : ∀ x, evalP p x = 0 := fun x => by
 have : trimQ p = [] := by unfold nz at h; exact Decidable.byContradiction h
 rw [← evalP_trim, this]; rfl
def isDeg (p : List Rat) (n : Nat) : Prop := coP p n ≠ 0 ∧ ∀ i, n < i → coP p i = 0
theorem isDeg_of {p : List Rat} (h : nz p) : isDeg p (dg p) ∧ coP p (dg p) = leadP p := by
 have hl := List.length_pos_iff.2 h
 have h1 := leadP_get (l := p) (n := dg p) (by unfold dg; omega)
 have h2 : coP p (dg p) = leadP p := by
  rw [← coP_trim]; unfold coP; rw [List.getD_eq_getElem?_getD, h1]; rfl
 refine ⟨⟨by rw [h2]; exact leadP_ne h, fun i hi => ?_⟩, h2⟩
 rw [← coP_trim]
 exact coP_out (by unfold dg at hi; omega)
theorem of_isDeg {p : List Rat} {n : Nat} (h : isDeg p n) : nz p ∧ dg p = n ∧ leadP p = coP p n := by
 have h0 : nz p := fun e => h.1 (trim_nil_iff.1 e n)
 obtain ⟨h1, h2⟩ := isDeg_of h0
 have e : dg p = n := by
  rcases Nat.lt_trichotomy (dg p) n with h3 | h3 | h3
  ·exact absurd (h1.2 n h3) h.1
  ·exact h3
  ·exact absurd (h.2 _ h3) h1.1
 exact ⟨h0, e, by rw [← h2, e]⟩
theorem coP_mulL_nil {p : List Rat} (h : ∀ i, coP p i = 0) (q : List Rat) (k : Nat) : coP (mulL p q) k = 0 := by
 induction p generalizing k with
 | nil => rfl
 | cons a p ih =>
  have ha : a = 0 := h 0
  rw [mulL, coP_addL, coP_scaleL, ha]
  cases k with
  | zero => rw [coP_zero]; grind
  | succ k => rw [coP_succ, ih fun i => h (i + 1)]; grind
theorem coP_mulL_top (p q : List Rat) : ∀ (n m : Nat), (∀ i, n < i → coP p i = 0) → (∀ i, m < i → coP q i = 0) → coP (mulL p q) (n + m) = coP p n * coP q m ∧ ∀ k, n + m < k → coP (mulL p q) k = 0 := by
 induction p with
 | nil => intro n m _ _; exact ⟨by show (0 : Rat) = 0 * _; grind, fun _ _ => rfl⟩
 | cons a p ih =>
  intro n m hn hm
  cases n with
  | zero =>
   have h0 : ∀ i, coP p i = 0 := fun i => hn (i + 1) (by omega)
   have hk : ∀ k, coP (mulL (a :: p) q) k = coP q k * a := fun k => by
    rw [mulL, coP_addL, coP_scaleL]
    cases k with
    | zero => rw [coP_zero]; grind
    | succ k => rw [coP_succ, coP_mulL_nil h0]; grind
   refine ⟨by rw [Nat.zero_add, hk, coP_zero]; grind, fun k hk' => ?_⟩
   rw [hk, hm k (by omega)]; grind
  | succ n =>
   obtain ⟨h1, h2⟩ := ih n m (fun i hi => hn (i + 1) (by omega)) hm
   have hk : ∀ k, m < k + 1 → coP (mulL (a :: p) q) (k + 1) = coP (mulL p q) k := fun k h => by
    rw [mulL, coP_addL, coP_scaleL, coP_succ, hm _ h]; grind
   refine ⟨by rw [show n + 1 + m = (n + m) + 1 by omega, hk _ (by omega), h1, coP_succ], fun k hk' => ?_⟩
   obtain ⟨j, rfl⟩ : ∃ j, k = j + 1 := ⟨k - 1, by omega⟩
   rw [hk _ (by omega)]; exact h2 j (by omega)
theorem isDeg_mul {p q : List Rat} {n m : Nat} (hp : isDeg p n) (hq : isDeg q m) : isDeg (mulP p q) (n + m) ∧ coP (mulP p q) (n + m) = coP p n * coP q m := by
 obtain ⟨h1, h2⟩ := coP_mulL_top p q n m hp.2 hq.2
 refine ⟨⟨?_, fun i hi => by rw [coP_mul]; exact h2 i hi⟩, by rw [coP_mul]; exact h1⟩
 rw [coP_mul, h1]
 have a := hp.1; have b := hq.1
 intro e
 rcases Rat.mul_eq_zero.1 e with h | h
 ·exact a h
 ·exact b h
theorem dg_mul {p q : List Rat} (hp : nz p) (hq : nz q) : nz (mulP p q) ∧ dg (mulP p q) = dg p + dg q ∧ leadP (mulP p q) = leadP p * leadP q := by
 obtain ⟨a1, a2⟩ := isDeg_of hp
 obtain ⟨b1, b2⟩ := isDeg_of hq
 obtain ⟨c1, c2⟩ := isDeg_mul a1 b1
 obtain ⟨d1, d2, d3⟩ := of_isDeg c1
 exact ⟨d1, d2, by rw [d3, c2, a2, b2]⟩
theorem dg_mul' {p q r : List Rat} (hp : nz p) (hq : nz q) (h : ∀ x, evalP r x = evalP p x * evalP q x) : nz r ∧ dg r = dg p + dg q ∧ leadP r = leadP p * leadP q := by
 have e : Eqv r (mulP p q) := fun x => by rw [h, evalP_mul]
 obtain ⟨h1, h2, h3⟩ := dg_mul hp hq
 exact ⟨(nz_eqv e).2 h1, (dg_eqv e).trans h2, (lead_eqv e).trans h3⟩
theorem dg_scale {p : List Rat} {k : Rat} (hp : nz p) (hk : k ≠ 0) {r : List Rat} (h : ∀ x, evalP r x = evalP p x * k) : nz r ∧ dg r = dg p ∧ leadP r = leadP p * k := by
 have hc : isDeg [k] 0 := ⟨hk, fun i hi => by obtain ⟨j, rfl⟩ : ∃ j, i = j + 1 := ⟨i - 1, by omega⟩; rfl⟩
 obtain ⟨c1, c2, c3⟩ := of_isDeg hc
 obtain ⟨h1, h2, h3⟩ := dg_mul' hp c1 (r := r) (fun x => by rw [h]; show _ = _ * (0 * x + k); grind)
 exact ⟨h1, by omega, by rw [h3, c3]; rfl⟩
theorem dg_add {p q r : List Rat} (hp : nz p) (hq : nz q → dg q < dg p) (h : ∀ x, evalP r x = evalP p x + evalP q x) : nz r ∧ dg r = dg p ∧ leadP r = leadP p := by
 have hc : ∀ i, coP r i = coP p i + coP q i := fun i => by
  have : trimQ r = trimQ (addP p q) := eval_ext fun x => by rw [h, evalP_add]
  rw [trim_iff.1 this i, coP_add]
 have hq0 : ∀ i, dg p ≤ i → coP q i = 0 := fun i hi => by
  by_cases hz : nz q
  ·exact (isDeg_of hz).1.2 i (by have := hq hz; omega)
  ·exact trim_nil_iff.1 (Decidable.byContradiction hz) i
 obtain ⟨a1, a2⟩ := isDeg_of hp
 have hd : isDeg r (dg p) := ⟨by rw [hc, hq0 _ (Nat.le_refl _)]; have := a1.1; grind, fun i hi => by rw [hc, hq0 _ (by omega), a1.2 i hi]; grind⟩
 obtain ⟨b1, b2, b3⟩ := of_isDeg hd
 exact ⟨b1, b2, by rw [b3, hc, hq0 _ (Nat.le_refl _), ← a2]; grind⟩
theorem md_spec (p : List Rat) {q : List Rat} (hq : nz q) : (∀ x, evalP p x = evalP (divP p q).1 x * evalP q x + evalP (md p q) x) ∧ (nz (md p q) → dg (md p q) < dg q) := by
 obtain ⟨h1, h2⟩ := divP_spec p q hq
 refine ⟨fun x => (h1 x).symm, fun h => ?_⟩
 have := List.length_pos_iff.2 h
 unfold md at *
 unfold dg; omega
theorem md_uniq {p q u v : List Rat} (hq : nz q) (h : ∀ x, evalP p x = evalP u x * evalP q x + evalP v x) (hv : nz v → dg v < dg q) : Eqv (md p q) v := by
 obtain ⟨h1, h2⟩ := md_spec p hq
 by_cases hw : nz (subP u (divP p q).1)
 ·exfalso
  obtain ⟨c1, c2, _⟩ := dg_mul' hw hq (r := subP (md p q) v) (fun x => by
   rw [evalP_sub, evalP_sub]; have := h x; have := h1 x; grind)
  have hz : ∀ r, (nz r → dg r < dg q) → ∀ i, dg q ≤ i → coP r i = 0 := fun r hr i hi => by
   by_cases hz : nz r
   ·exact (isDeg_of hz).1.2 i (by have := hr hz; omega)
   ·exact trim_nil_iff.1 (Decidable.byContradiction hz) i
  have := (isDeg_of c1).1.1
  rw [c2, coP_sub, hz _ h2 _ (by omega), hz _ hv _ (by omega)] at this
  grind
 ·intro x
  have := not_nz hw x
  rw [evalP_sub] at this
  have := h x; have := h1 x
  grind
theorem md_add {p p' q u : List Rat} (hq : nz q) (h : ∀ x, evalP p x = evalP u x * evalP q x + evalP p' x) : Eqv (md p q) (md p' q) := by
 obtain ⟨h1, h2⟩ := md_spec p' hq
 exact md_uniq (u := addP u (divP p' q).1) hq (fun x => by rw [h, h1, evalP_add]; grind) h2
theorem md_less {p q : List Rat} (hq : nz q) (h : nz p → dg p < dg q) : Eqv (md p q) p :=
 md_uniq (u := []) hq (fun x => by rw [evalP_nil]; grind) h
def sg (k : Nat) : Rat := (-1) ^ k
theorem sg_add (a b : Nat) : sg (a + b) = sg a * sg b := rat_pow_add _ _ _
theorem sg_sq (a : Nat) : sg a * sg a = 1 := by
 induction a with
 | zero => unfold sg; rw [Rat.pow_zero]; grind
 | succ a ih => unfold sg at *; rw [Rat.pow_succ]; grind
theorem sg_or (a : Nat) : sg a = 1 ∨ sg a = -1 := by
 induction a with
 | zero => left; unfold sg; rw [Rat.pow_zero]
 | succ a ih => unfold sg at *; rw [Rat.pow_succ]; rcases ih with h | h <;> rw [h] <;> grind
theorem sg_even (a : Nat) : sg (a + a) = 1 := by rw [sg_add, sg_sq]
theorem sg_self (n : Nat) : sg (n * n) = sg n := by
 induction n with
 | zero => rfl
 | succ n ih => rw [show (n + 1) * (n + 1) = n * n + (n + n) + 1 by rw [Nat.add_mul, Nat.mul_add]; omega, sg_add, sg_add, sg_even, ih, sg_add]; grind
theorem pow_ne {a : Rat} (h : a ≠ 0) (n : Nat) : a ^ n ≠ 0 := by
 induction n with
 | zero => rw [Rat.pow_zero]; grind
 | succ n ih => rw [Rat.pow_succ]; intro e; rcases Rat.mul_eq_zero.1 e with e | e; exact ih e; exact h e
theorem pow_mul' (a b : Rat) (n : Nat) : (a * b) ^ n = a ^ n * b ^ n := by
 induction n with
 | zero => rw [Rat.pow_zero, Rat.pow_zero, Rat.pow_zero]; grind
 | succ n ih => rw [Rat.pow_succ, Rat.pow_succ, Rat.pow_succ, ih]; grind
def resF : Nat → List Rat → List Rat → Rat
 | 0, _, _ => 1
 | f + 1, q, p => if dg q = 0 then 1 else if trimQ (md p q) = [] then 0 else sg (dg q * dg (md p q)) * leadP (md p q) ^ dg q / leadP q ^ dg (md p q) * resF f (md p q) q
def rS (q p : List Rat) : Rat := resF (dg q) q p
theorem resF_fuel : ∀ f g q p, nz q → dg q ≤ f → dg q ≤ g → resF f q p = resF g q p
 | 0, 0, _, _, _, _, _ => rfl
 | 0, g + 1, q, p, _, h, _ => by rw [resF, resF, if_pos (by omega)]
 | f + 1, 0, q, p, _, _, h => by rw [resF, resF, if_pos (by omega)]
 | f + 1, g + 1, q, p, h, h1, h2 => by
  rw [resF, resF]
  by_cases h0 : dg q = 0
  ·rw [if_pos h0, if_pos h0]
  ·rw [if_neg h0, if_neg h0]
   by_cases hr : trimQ (md p q) = []
   ·rw [if_pos hr, if_pos hr]
   ·rw [if_neg hr, if_neg hr]
    have := (md_spec p h).2 hr
    rw [resF_fuel f g (md p q) q hr (by omega) (by omega)]
theorem rS_zero {q p : List Rat} (h : dg q = 0) : rS q p = 1 := by unfold rS; rw [h]; rfl
theorem rS_nil {q p : List Rat} (_ : nz q) (h : dg q ≠ 0) (hr : ¬ nz (md p q)) : rS q p = 0 := by
 unfold rS
 obtain ⟨k, hk⟩ : ∃ k, dg q = k + 1 := ⟨dg q - 1, by omega⟩
 rw [hk, resF, if_neg h, if_pos (Decidable.byContradiction hr)]
theorem rS_step {q p : List Rat} (hq : nz q) (h : dg q ≠ 0) (hr : nz (md p q)) : rS q p = sg (dg q * dg (md p q)) * leadP (md p q) ^ dg q / leadP q ^ dg (md p q) * rS (md p q) q := by
 unfold rS
 have := (md_spec p hq).2 hr
 obtain ⟨k, hk⟩ : ∃ k, dg q = k + 1 := ⟨dg q - 1, by omega⟩
 rw [hk, resF, if_neg h, if_neg hr, hk, resF_fuel k (dg (md p q)) (md p q) q hr (by omega) (by omega)]
theorem lead_ne {p : List Rat} (h : nz p) : leadP p ≠ 0 := leadP_ne h
theorem rS_eqv {q q' p p' : List Rat} (hq : Eqv q q') (hp : Eqv p p') : rS q p = rS q' p' := by
 unfold rS
 rw [dg_eqv hq]
 have : ∀ f (q q' p p' : List Rat), Eqv q q' → Eqv p p' → resF f q p = resF f q' p' := by
  intro f
  induction f with
  | zero => intros; rfl
  | succ f ih =>
   intro q q' p p' h h'
   rw [resF, resF, dg_eqv h, md_eqv h' h, lead_eqv h, ih (md p' q') (md p' q') q q' (fun _ => rfl) h]
 exact this _ _ _ _ _ hq hp
theorem rS_md {q p p' : List Rat} (hq : nz q) (h : Eqv (md p q) (md p' q)) : rS q p = rS q p' := by
 by_cases h0 : dg q = 0
 ·rw [rS_zero h0, rS_zero h0]
 by_cases hr : nz (md p q)
 ·rw [rS_step hq h0 hr, rS_step hq h0 ((nz_eqv h).1 hr), dg_eqv h, lead_eqv h, rS_eqv h fun _ => rfl]
 ·rw [rS_nil hq h0 hr, rS_nil hq h0 fun e => hr ((nz_eqv h).2 e)]
theorem rS_add {q p p' u : List Rat} (hq : nz q) (h : ∀ x, evalP p x = evalP u x * evalP q x + evalP p' x) : rS q p = rS q p' := rS_md hq (md_add hq h)
theorem rS_none {q p : List Rat} (hq : nz q) (h0 : dg q ≠ 0) (h : ∃ u, ∀ x, evalP p x = evalP u x * evalP q x) : rS q p = 0 := by
 obtain ⟨u, hu⟩ := h
 refine rS_nil hq h0 fun hr => ?_
 have e : Eqv (md p q) [] := md_uniq (u := u) hq (fun x => by rw [hu, evalP_nil]; grind) fun h => absurd rfl h
 exact absurd rfl ((nz_eqv e).1 hr)
theorem rS_scale : ∀ n q, nz q → dg q = n → ∀ p k, k ≠ 0 → (∀ q', (∀ x, evalP q' x = evalP q x * k) → rS q' p = rS q p) ∧ (∀ p', (∀ x, evalP p' x = evalP p x * k) → rS q p' = k ^ n * rS q p) := by
 intro n
 induction n using Nat.strongRecOn with
 | ind n ih =>
  intro q hq hn p k hk
  by_cases h0 : dg q = 0
  ·refine ⟨fun q' h => ?_, fun p' h => ?_⟩
   ·obtain ⟨_, e, _⟩ := dg_scale hq hk h
    rw [rS_zero h0, rS_zero (e.trans h0)]
   ·rw [rS_zero h0, rS_zero h0, ← hn, h0, Rat.pow_zero]; grind
  obtain ⟨m1, m2⟩ := md_spec p hq
  refine ⟨fun q' h => ?_, fun p' h => ?_⟩
  ·obtain ⟨c1, c2, c3⟩ := dg_scale hq hk h
   have e : Eqv (md p q') (md p q) := md_uniq (u := scaleP (divP p q).1 (1 / k)) c1 (fun x => by rw [m1, h, evalP_scale]; grind) (by rw [c2]; exact m2)
   by_cases hr : nz (md p q)
   ·have hlt := m2 hr
    have hl := lead_ne hq
    rw [rS_step c1 (by omega) ((nz_eqv e).2 hr), rS_step hq h0 hr, dg_eqv e, lead_eqv e, c2, c3, rS_eqv e fun _ => rfl, (ih _ (by omega) (md p q) hr rfl q k hk).2 q' h, pow_mul']
    have h1 := pow_ne hk (dg (md p q))
    have h2 := pow_ne hl (dg (md p q))
    grind
   ·rw [rS_nil hq h0 hr, rS_nil c1 (by omega) fun h => hr ((nz_eqv e).1 h)]
  ·have e : Eqv (md p' q) (scaleP (md p q) k) := md_uniq (u := scaleP (divP p q).1 k) hq (fun x => by rw [h, m1, evalP_scale, evalP_scale]; grind) fun hz => by
    by_cases hr : nz (md p q)
    ·rw [(dg_scale hr hk fun x => evalP_scale _ k x).2.1]; exact m2 hr
    ·have := (nz_eqv (p := scaleP (md p q) k) (q := []) fun x => by rw [evalP_scale, not_nz hr, evalP_nil]; grind).1 hz
     exact absurd rfl this
   by_cases hr : nz (md p q)
   ·obtain ⟨d1, d2, d3⟩ := dg_scale hr hk fun x => evalP_scale (md p q) k x
    have hlt := m2 hr
    rw [rS_step hq h0 ((nz_eqv e).2 d1), rS_step hq h0 hr, dg_eqv e, lead_eqv e, d2, d3, rS_eqv e fun _ => rfl, (ih _ (by omega) (md p q) hr rfl q k hk).1 _ fun x => evalP_scale _ k x, hn, pow_mul']
    grind
   ·have : ¬ nz (md p' q) := fun h => by
     have := (nz_eqv (q := []) fun x => by rw [e x, evalP_scale, not_nz hr, evalP_nil]; grind).1 h
     exact absurd rfl this
    rw [rS_nil hq h0 hr, rS_nil hq h0 this]; grind
theorem rS_kq {q q' p : List Rat} {k : Rat} (hq : nz q) (hk : k ≠ 0) (h : ∀ x, evalP q' x = evalP q x * k) : rS q' p = rS q p := (rS_scale _ q hq rfl p k hk).1 q' h
theorem rS_kp {q p p' : List Rat} {k : Rat} (hq : nz q) (hk : k ≠ 0) (h : ∀ x, evalP p' x = evalP p x * k) : rS q p' = k ^ dg q * rS q p := (rS_scale _ q hq rfl p k hk).2 p' h
theorem rec_alg {L M R c X Y Z : Rat} {s t : Nat} (_ : L ≠ 0) (_ : M ≠ 0) (hc : c ≠ 0) (e : c * L = M) (h3 : L ^ s * X = sg ((s + t) * s) * R ^ (s + t) * Z)
    (h4 : M ^ s * Y = sg ((s + t) * s) * (R * (-1 / c)) ^ (s + t) * (c ^ s * Z)) : L ^ (s + t) * X = sg ((s + t) * (s + t)) * M ^ (s + t) * Y := by
 rw [pow_mul'] at h4
 have w1 : (-1 / c) ^ (s + t) * c ^ (s + t) = sg (s + t) := by rw [← pow_mul', show -1 / c * c = -1 by grind]; rfl
 rw [sg_self, rat_pow_add L, rat_pow_add M, ← e, pow_mul' c L t, e]
 rw [rat_pow_add c] at w1
 have w2 := sg_sq (s + t)
 generalize sg ((s + t) * s) = S1 at *
 generalize sg (s + t) = S2 at *
 generalize (-1 / c) ^ (s + t) = P at *
 generalize R ^ (s + t) = R1 at *
 generalize L ^ s = L1 at *
 generalize L ^ t = L2 at *
 generalize M ^ s = M1 at *
 generalize c ^ s = C1 at *
 generalize c ^ t = C2 at *
 have a1 : L1 * L2 * X = L2 * (S1 * R1 * Z) := by rw [← h3]; grind
 have a2 : S2 * (M1 * (C2 * L2)) * Y = S2 * (C2 * L2) * (S1 * (R1 * P) * (C1 * Z)) := by rw [← h4]; grind
 rw [a1, a2]
 have a3 : S2 * (C2 * L2) * (S1 * (R1 * P) * (C1 * Z)) = L2 * (S1 * R1 * Z) * (S2 * (P * (C1 * C2))) := by grind
 rw [a3, w1, w2]; grind
theorem rS_rec {p q : List Rat} (hp : nz p) (hq : nz q) : leadP q ^ dg p * rS q p = sg (dg q * dg p) * leadP p ^ dg q * rS p q := by
 have key : ∀ {p q : List Rat}, nz p → nz q → dg p < dg q → leadP q ^ dg p * rS q p = sg (dg q * dg p) * leadP p ^ dg q * rS p q := by
  intro p q hp hq h
  have e := md_less hq fun _ => h
  have hl := pow_ne (lead_ne hq) (dg p)
  rw [rS_step hq (by omega) ((nz_eqv e).2 hp), dg_eqv e, lead_eqv e, rS_eqv e fun _ => rfl]
  grind
 rcases Nat.lt_trichotomy (dg p) (dg q) with h | h | h
 ·exact key hp hq h
 ·by_cases h0 : dg q = 0
  ·rw [rS_zero h0, rS_zero (h.trans h0), h0, h.trans h0, Rat.pow_zero, Rat.pow_zero]; unfold sg; rw [Nat.mul_zero, Rat.pow_zero]; grind
  obtain ⟨c, hc⟩ : ∃ c, c = leadP p / leadP q := ⟨_, rfl⟩
  have lq := lead_ne hq
  have lp := lead_ne hp
  have hcl : c * leadP q = leadP p := by rw [hc]; grind
  have c0 : c ≠ 0 := by intro e; rw [e] at hcl; apply lp; rw [← hcl]; grind
  -- p is c q and what is left
  obtain ⟨r, hr⟩ : ∃ r, r = subP p (scaleP q c) := ⟨_, rfl⟩
  have hr1 : ∀ x, evalP p x = c * evalP q x + evalP r x := fun x => by rw [hr, evalP_sub, evalP_scale]; grind
  have hrd : nz r → dg r < dg q := fun hz => by
   obtain ⟨a1, a2⟩ := isDeg_of hp
   obtain ⟨b1, b2⟩ := isDeg_of hq
   obtain ⟨d1, _⟩ := isDeg_of hz
   apply Nat.lt_of_not_le
   intro hle
   apply d1.1
   rw [hr, coP_sub, coP_scale]
   by_cases he : dg r = dg q
   ·rw [← hr, he, b2, ← h, a2]; grind
   ·rw [← hr, a1.2 _ (by omega), b1.2 _ (by omega)]; grind
  have e1 : rS q p = rS q r := rS_add (u := [c]) hq fun x => by rw [hr1]; show _ = (0 * x + c) * _ + _; grind
  have e2 : rS p q = rS p (scaleP r (-1 / c)) := rS_add (u := [1 / c]) hp fun x => by rw [evalP_scale, hr1]; show _ = (0 * x + 1 / c) * _ + _; grind
  have c1 : -1 / c ≠ 0 := by intro e; have : -1 / c * c = -1 := by grind
                             rw [e] at this; grind
  by_cases hz : nz r
  ·have h3 := key hz hq (hrd hz)
   have h4 := key (p := scaleP r (-1 / c)) (q := p) (dg_scale hz c1 fun x => evalP_scale _ _ x).1 hp (by rw [(dg_scale hz c1 fun x => evalP_scale _ _ x).2.1, h]; exact hrd hz)
   obtain ⟨_, f2, f3⟩ := dg_scale hz c1 (fun x => evalP_scale r (-1 / c) x)
   rw [f2, f3, rS_kq hz c1 fun x => evalP_scale _ _ x] at h4
   have h5 : rS r p = c ^ dg r * rS r q := by
    rw [← rS_kp hz c0 (p := q) (p' := scaleP q c) fun x => evalP_scale q c x]
    exact rS_add (u := [1]) hz fun x => by rw [hr1, evalP_scale]; show _ = (0 * x + 1) * _ + _; grind
   rw [h5] at h4
   rw [e1, e2, h]
   have hsn := hrd hz
   obtain ⟨t, ht⟩ : ∃ t, dg q = dg r + t := ⟨dg q - dg r, by omega⟩
   rw [h] at h4
   rw [ht] at h3 h4 ⊢
   exact rec_alg lq lp c0 hcl h3 h4
  ·rw [e1, e2, rS_eqv (q' := q) (p' := []) (fun _ => rfl) fun x => by rw [not_nz hz, evalP_nil], rS_eqv (q := p) (q' := p) (p' := []) (fun _ => rfl) fun x => by rw [evalP_scale, not_nz hz, evalP_nil]; grind]
   rw [rS_none hq h0 ⟨[], fun x => by rw [evalP_nil]; grind⟩, rS_none hp (by omega) ⟨[], fun x => by rw [evalP_nil]; grind⟩]; grind
 ·have := key hq hp h
  rw [Nat.mul_comm] at this
  have e := sg_sq (dg q * dg p)
  grind
def Dv (d p : List Rat) : Prop := ∃ u, ∀ x, evalP p x = evalP u x * evalP d x
theorem rS_common : ∀ n q p, nz q → dg q = n → rS q p = 0 → ∃ d, nz d ∧ dg d ≠ 0 ∧ Dv d q ∧ Dv d p := by
 intro n
 induction n using Nat.strongRecOn with
 | ind n ih =>
  intro q p hq hn h
  by_cases h0 : dg q = 0
  ·rw [rS_zero h0] at h; grind
  obtain ⟨m1, m2⟩ := md_spec p hq
  by_cases hr : nz (md p q)
  ·rw [rS_step hq h0 hr] at h
   have hl := pow_ne (lead_ne hq) (dg (md p q))
   have hl2 := pow_ne (lead_ne hr) (dg q)
   have hs : sg (dg q * dg (md p q)) ≠ 0 := by rcases sg_or (dg q * dg (md p q)) with e | e <;> rw [e] <;> grind
   have h1 : rS (md p q) q = 0 := by
    rcases Rat.mul_eq_zero.1 h with e | e
    ·exfalso
     have e2 : sg (dg q * dg (md p q)) * leadP (md p q) ^ dg q = 0 := by grind
     rcases Rat.mul_eq_zero.1 e2 with e | e
     ·exact hs e
     ·exact hl2 e
    ·exact e
   obtain ⟨d, d1, d2, ⟨u, hu⟩, ⟨v, hv⟩⟩ := ih _ (by have := m2 hr; omega) _ q hr rfl h1
   exact ⟨d, d1, d2, ⟨v, hv⟩, addP (mulP (divP p q).1 v) u, fun x => by rw [m1, evalP_add, evalP_mul, hu x, hv x]; grind⟩
  ·exact ⟨q, hq, h0, ⟨[1], fun x => by show _ = (0 * x + 1) * _; grind⟩, (divP p q).1, fun x => by rw [m1, not_nz hr]; grind⟩
theorem nz_of_mul {p q r : List Rat} (h : ∀ x, evalP r x = evalP p x * evalP q x) (hr : nz r) : nz p ∧ nz q := by
 constructor
 ·intro e
  have e' : ¬ nz p := fun h => h e
  exact absurd rfl ((nz_eqv (q := []) fun x => by rw [h, not_nz e', evalP_nil]; grind).1 hr)
 ·intro e
  have e' : ¬ nz q := fun h => h e
  exact absurd rfl ((nz_eqv (q := []) fun x => by rw [h, not_nz e', evalP_nil]; grind).1 hr)
theorem rS_const {p q : List Rat} (hp : nz p) (hq : nz q) (h : dg q = 0) : rS p q = leadP q ^ dg p := by
 have := rS_rec hp hq
 rw [h, rS_zero h, Rat.pow_zero, Nat.zero_mul] at this
 have e : sg 0 = 1 := by unfold sg; rw [Rat.pow_zero]
 rw [e] at this
 have r2 := rS_rec hq hp
 rw [h, Nat.mul_zero, e, rS_zero h, Rat.pow_zero] at r2
 grind
theorem rS_low {p q1 q2 : List Rat} (ih : ∀ r, nz r → dg r < dg p → ∀ a b, rS r (mulP a b) = rS r a * rS r b) (hp : nz p) (h1 : nz q1) (h2 : nz q2) (hlt : dg q1 + dg q2 < dg p) : rS p (mulP q1 q2) = rS p q1 * rS p q2 := by
 obtain ⟨a1, a2, a3⟩ := dg_mul h1 h2
 by_cases c1 : dg q1 = 0
 ·have e := isDeg_of h1
  have hc : ∀ x, evalP q1 x = leadP q1 := fun x => by
   have : trimQ q1 = trimQ [leadP q1] := trim_iff.2 fun i => by
    cases i with
    | zero => rw [coP_zero, ← e.2, c1]
    | succ i => rw [coP_succ, coP_nil]; exact e.1.2 _ (by omega)
   rw [eqv_trim.2 this x]; show 0 * x + _ = _; grind
  rw [rS_const hp h1 c1, rS_kp hp (lead_ne h1) (p := q2) fun x => by rw [evalP_mul, hc]; grind]
 by_cases c2 : dg q2 = 0
 ·have e := isDeg_of h2
  have hc : ∀ x, evalP q2 x = leadP q2 := fun x => by
   have : trimQ q2 = trimQ [leadP q2] := trim_iff.2 fun i => by
    cases i with
    | zero => rw [coP_zero, ← e.2, c2]
    | succ i => rw [coP_succ, coP_nil]; exact e.1.2 _ (by omega)
   rw [eqv_trim.2 this x]; show 0 * x + _ = _; grind
  rw [rS_const hp h2 c2, rS_kp hp (lead_ne h2) (p := q1) fun x => by rw [evalP_mul, hc]]; grind
 obtain ⟨q, hq⟩ : ∃ q, q = mulP q1 q2 := ⟨_, rfl⟩
 have hqe : ∀ x, evalP q x = evalP q1 x * evalP q2 x := fun x => by rw [hq, evalP_mul]
 rw [← hq] at a1 a2 a3 ⊢
 obtain ⟨m1, m2⟩ := md_spec p a1
 -- the values at the roots of the product
 have hprod : rS q p = rS q1 p * rS q2 p := by
  by_cases hr : nz (md p q)
  ·obtain ⟨r, hrr⟩ : ∃ r, r = md p q := ⟨_, rfl⟩
   rw [← hrr] at hr m1 m2
   have g1 : rS q p = rS q r := rS_add a1 m1
   have g2 : rS q1 p = rS q1 r := rS_add (u := mulP (divP p q).1 q2) h1 fun x => by rw [m1, hqe, evalP_mul]; grind
   have g3 : rS q2 p = rS q2 r := rS_add (u := mulP (divP p q).1 q1) h2 fun x => by rw [m1, hqe, evalP_mul]; grind
   rw [g1, g2, g3]
   have k := ih r hr (by have := m2 hr; omega) q1 q2
   rw [← hq] at k
   have r0 := rS_rec hr a1
   have r1 := rS_rec hr h1
   have r2 := rS_rec hr h2
   rw [a2, Nat.add_mul, sg_add, rat_pow_add, a3, pow_mul', k] at r0
   have n1 := pow_ne (lead_ne h1) (dg r)
   have n2 := pow_ne (lead_ne h2) (dg r)
   have f : leadP q1 ^ dg r * leadP q2 ^ dg r * rS q r = leadP q1 ^ dg r * leadP q2 ^ dg r * (rS q1 r * rS q2 r) := by
    rw [r0]
    have : leadP q1 ^ dg r * leadP q2 ^ dg r * (rS q1 r * rS q2 r) = (leadP q1 ^ dg r * rS q1 r) * (leadP q2 ^ dg r * rS q2 r) := by grind
    rw [this, r1, r2]; grind
   grind
  ·have u1 : rS q p = 0 := rS_nil a1 (by omega) hr
   have u2 : rS q1 p = 0 := rS_none h1 c1 ⟨mulP (divP p q).1 q2, fun x => by rw [m1, not_nz hr, hqe, evalP_mul]; grind⟩
   rw [u1, u2]; grind
 have r0 := rS_rec a1 hp
 have r1 := rS_rec h1 hp
 have r2 := rS_rec h2 hp
 rw [a2, Nat.mul_add, sg_add, rat_pow_add, a3, pow_mul', hprod] at r0
 have n1 := pow_ne (lead_ne hp) (dg q1)
 have n2 := pow_ne (lead_ne hp) (dg q2)
 have f : leadP p ^ dg q1 * leadP p ^ dg q2 * rS p q = leadP p ^ dg q1 * leadP p ^ dg q2 * (rS p q1 * rS p q2) := by
  rw [r0]
  have : leadP p ^ dg q1 * leadP p ^ dg q2 * (rS p q1 * rS p q2) = (leadP p ^ dg q1 * rS p q1) * (leadP p ^ dg q2 * rS p q2) := by grind
  rw [this, r1, r2]; grind
 grind
theorem mul_alg {n d1 d2 dh d3 : Nat} {l l1 l2 k l3 : Rat} {p1 p2 h1 h2 t1 t2 hp1 hp2 t31 t32 ht th tp pp1 pp2 pt : Rat} (hD : d1 + d2 = dh + n) (hL : l1 * l2 = k * l)
    (hl : l ≠ 0) (hk : k ≠ 0) (hl3 : l3 ≠ 0) (hh : ht ≠ 0)
    (e1 : h1 * p1 = (-1) ^ d1 * t1) (e2 : h2 * p2 = (-1) ^ d2 * t2) (e3 : hp1 * hp2 = ht) (e4 : t31 * t32 = th * tp)
    (r1 : l1 ^ dh * h1 = sg (d1 * dh) * k ^ d1 * hp1) (r2 : l2 ^ dh * h2 = sg (d2 * dh) * k ^ d2 * hp2)
    (r3 : l1 ^ d3 * t1 = sg (d1 * d3) * l3 ^ d1 * t31) (r4 : l2 ^ d3 * t2 = sg (d2 * d3) * l3 ^ d2 * t32)
    (r5 : k ^ d3 * ht = sg (dh * d3) * l3 ^ dh * th)
    (r6 : l ^ d1 * pp1 = sg (n * d1) * l1 ^ n * p1) (r7 : l ^ d2 * pp2 = sg (n * d2) * l2 ^ n * p2) (r8 : l ^ d3 * pt = sg (n * d3) * l3 ^ n * tp) : pp1 * pp2 = pt := by
 -- the two relations of the factors
 have a1 : (k * l) ^ dh * (h1 * h2) = sg ((dh + n) * dh) * k ^ (dh + n) * ht := by
  rw [← hL, pow_mul', ← hD, Nat.add_mul, sg_add, rat_pow_add, ← e3]
  have : l1 ^ dh * l2 ^ dh * (h1 * h2) = (l1 ^ dh * h1) * (l2 ^ dh * h2) := by grind
  rw [this, r1, r2]; grind
 have a2 : (k * l) ^ d3 * (t1 * t2) = sg ((dh + n) * d3) * l3 ^ (dh + n) * (th * tp) := by
  rw [← hL, pow_mul', ← hD, Nat.add_mul, sg_add, rat_pow_add, ← e4]
  have : l1 ^ d3 * l2 ^ d3 * (t1 * t2) = (l1 ^ d3 * t1) * (l2 ^ d3 * t2) := by grind
  rw [this, r3, r4]; grind
 have a3 : (h1 * h2) * (p1 * p2) = sg (dh + n) * (t1 * t2) := by
  rw [← hD, sg_add]; unfold sg
  have : (h1 * h2) * (p1 * p2) = (h1 * p1) * (h2 * p2) := by grind
  rw [this, e1, e2]; grind
 have a4 : l ^ (dh + n) * (pp1 * pp2) = sg (n * (dh + n)) * (k * l) ^ n * (p1 * p2) := by
  rw [← hL, pow_mul', ← hD, Nat.mul_add, sg_add, rat_pow_add]
  have : l ^ d1 * l ^ d2 * (pp1 * pp2) = (l ^ d1 * pp1) * (l ^ d2 * pp2) := by grind
  rw [this, r6, r7]; grind
 rw [pow_mul'] at a1 a2 a4
 rw [rat_pow_add k, Nat.add_mul, sg_add, sg_self] at a1
 rw [rat_pow_add l3, Nat.add_mul, sg_add] at a2
 rw [sg_add] at a3
 rw [rat_pow_add l, Nat.mul_add, sg_add, sg_self] at a4
 rw [Nat.mul_comm n dh] at a1 a4
 rw [Nat.mul_comm dh n] at a4
 rw [Nat.mul_comm n dh] at a4
 have s1 := sg_sq dh
 have s2 := sg_sq n
 have s3 := sg_sq (dh * d3)
 have s4 := sg_sq (n * d3)
 have s5 := sg_sq (dh * n)
 have n1 := pow_ne hl dh
 have n2 := pow_ne hl d3
 have n3 := pow_ne hl n
 have n4 := pow_ne hk dh
 have n5 := pow_ne hk n
 have n6 := pow_ne hk d3
 have n7 := pow_ne hl3 dh
 have n8 := pow_ne hl3 n
 generalize sg (dh * d3) = S3 at *
 generalize sg (n * d3) = S4 at *
 generalize sg (dh * n) = S5 at *
 generalize sg dh = S1 at *
 generalize sg n = S2 at *
 generalize l ^ dh = Lh at *
 generalize l ^ d3 = L3 at *
 generalize l ^ n = Ln at *
 generalize k ^ dh = Kh at *
 generalize k ^ n = Kn at *
 generalize k ^ d3 = K3 at *
 generalize l3 ^ dh = Th at *
 generalize l3 ^ n = Tn at *
 generalize h1 * h2 = H at *
 generalize p1 * p2 = Pq at *
 generalize t1 * t2 = Tq at *
 clear e1 e2 r1 r2 r3 r4 r6 r7 e3 e4 hL hD
 -- H Kh Lh = S1 S5 Kh Kn ht ; H Pq = S1 S2 Tq ; K3 L3 Tq = S3 S4 Th Tn th tp ; K3 ht = S3 Th th ; L3 pt = S4 Tn tp ; Lh Ln pp = S5 S2 Kn Ln Pq
 have b1 : Lh * H = S1 * S5 * Kn * ht := by
  have : Kh * (Lh * H) = Kh * (S1 * S5 * Kn * ht) := by grind
  grind
 have b2 : K3 * L3 * Tq = S4 * K3 * ht * Tn * tp := by
  rw [a2]
  have : S3 * S4 * (Th * Tn) * (th * tp) = S4 * (S3 * Th * th) * Tn * tp := by grind
  rw [this, ← r5]; grind
 have b3 : L3 * Tq = S4 * ht * Tn * tp := by
  have : K3 * (L3 * Tq) = K3 * (S4 * ht * Tn * tp) := by grind
  grind
 have b4 : L3 * Tq = ht * (L3 * pt) := by rw [b3, r8]; grind
 have b5 : Tq = ht * pt := by
  have : L3 * Tq = L3 * (ht * pt) := by rw [b4]; grind
  grind
 have b6 : Lh * (pp1 * pp2) = S2 * S5 * Kn * Pq := by
  have : Ln * (Lh * (pp1 * pp2)) = Ln * (S2 * S5 * Kn * Pq) := by grind
  grind
 -- Lh H Pq = S1 S5 Kn ht Pq = Lh S1 S2 Tq
 have b7 : S1 * S5 * Kn * ht * Pq = Lh * (S1 * S2 * (ht * pt)) := by rw [← b1, ← b5, ← a3]; grind
 have b8 : ht * (S5 * Kn * Pq) = ht * (Lh * (S2 * pt)) := by
  have : S1 * (ht * (S5 * Kn * Pq)) = S1 * (ht * (Lh * (S2 * pt))) := by grind
  grind
 have b9 : S5 * Kn * Pq = Lh * (S2 * pt) := by grind
 have b10 : Lh * (pp1 * pp2) = Lh * pt := by
  rw [b6]
  have : S2 * S5 * Kn * Pq = S2 * (S5 * Kn * Pq) := by grind
  rw [this, b9]; grind
 grind
end Go.Abs
