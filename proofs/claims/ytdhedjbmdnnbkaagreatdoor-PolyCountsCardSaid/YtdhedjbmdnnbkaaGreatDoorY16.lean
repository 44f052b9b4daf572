/- Part Y16 of the proof. -/
import Derived.Test.YtdhedjbmdnnbkaaGreatDoorY15
import Derived.ProofKit
import Derived.OpenShut
import Derived.Carry
import Derived.Deep.Slices
import Derived.Deep.Strs
set_option linter.all false
namespace Go.Proofs.YtdhedjbmdnnbkaaGreatDoor
open Go.Abs
set_option maxRecDepth 100000
set_option maxHeartbeats 2000000
inductive LeLL : List (List AV) → List (List AV) → Prop
 | nil : LeLL [] []
 | cons {e e' es es'} : LeL e e' → LeLL es es' → LeLL (e :: es) (e' :: es')
theorem leL_len {xs ys : List AV} (h : LeL xs ys) : ys.length = xs.length := by
 induction h with
 | nil => rfl
 | cons _ _ ih => simp [ih]
theorem leL_cs {M : Nat → Prop} {β : Nat → Option (Nat × Nat)} {w : World} {b : Nat} {xs ys : List AV} (h : LeL xs ys) : ∀ {off : Nat}, RVcs M β w b xs off → RVcs M β w b ys off := by
 induction h with
 | nil => exact fun h => h
 | cons h1 _ ih => rintro off ⟨⟨x, hx, hr⟩, hs⟩; exact ⟨⟨x, hx, h1 M β w x hr⟩, ih hs⟩
theorem LeLL.ess {M : Nat → Prop} {β : Nat → Option (Nat × Nat)} {w : World} {b s : Nat} {es es' : List (List AV)} (h : LeLL es es') : ∀ {off : Nat}, RVess M β w b s es off → RVess M β w b s es' off := by
 induction h with
 | nil => exact fun h => h
 | cons h1 _ ih => rintro off ⟨h0, hc, hr⟩; exact ⟨(leL_len h1).trans h0, leL_cs h1 hc, ih hr⟩
theorem LeLL.length {es es' : List (List AV)} (h : LeLL es es') : es'.length = es.length := by
 induction h with
 | nil => rfl
 | cons _ _ ih => simp [ih]
theorem Le.arr {es es' : List (List AV)} (h : LeLL es es') : Le (.arr es) (.arr es') := by
 rintro M β w y ⟨a, c, rfl, h1, h2, h3⟩
 refine ⟨a, c, by rw [h.length], by rw [h.length]; exact h1, h2, h3.imp (fun e => ?_) ?_⟩
 ·subst e; cases h; rfl
 ·rintro ⟨b, off, s, rfl, hN, hm, hr⟩
  exact ⟨b, off, s, rfl, hN, hm, h.ess hr⟩
theorem LeLL.refl : ∀ es, LeLL es es
 | [] => .nil
 | e :: es => .cons (LeL.refl e) (LeLL.refl es)
section
variable {P : Go.Program} {T : Nat} {x y : Operand}
theorem ft_ {s : ByteArray} : ∀ w, (do eqGuard .eql T x y (.string s) (.string s); binOp .eql T (.string s) (.string s) : Sem Value).run P w = .ok (.bool true) w := fun w => by
 rw [j2_]; simp
end
theorem gR_ : FSpec Tryz.prog 14 [] (.v (.bool true)) := by
 have i1 := hJ_ [-2, 0, 1] (by decide) (by decide)
 rw [show zR [-2, 0, 1] = twoP by decide] at i1
 have i2 := hJ_ [-1, 0, 1] (by decide) (by decide)
 rw [show zR [-1, 0, 1] = [-1, 0, 1] by decide] at i2
 have i3 := hJ_ [2, 1] (by decide) (by decide)
 rw [show zR [2, 1] = [2, 1] by decide] at i3
 have i4 := hJ_ [0, 0, 1] (by decide) (by decide)
 rw [show zR [0, 0, 1] = [0, 0, 1] by decide] at i4
 have i5 := hJ_ [-3, 0, 1] (by decide) (by decide)
 rw [show zR [-3, 0, 1] = [-3, 0, 1] by decide] at i5
 have hdiv := pS_ [-1, 0, 1] [2, 1] w_div.2.1 w_div.2.2
 rw [w_div.1] at hdiv
 obtain ⟨c, hc1, hc2, hc3⟩ : ∃ c, kC_ 40 twoP = some c ∧ 1 < allV c ∧ spanM 40 c 1 4 = some (mkRat 11 8, mkRat 23 16) := by
  have h := w_span
  unfold oH_ at h
  split at h
  ·rename_i c hc; exact ⟨c, hc, of_decide_eq_true h⟩
  ·cases h
 have hspan := fs_RSpan 40 twoP 1 4 c (mkRat 11 8, mkRat 23 16) hc1 (by decide) (by decide) hc2 hc3
 have n1 := cu_ (-1) (by decide)
 rw [show ((-1 : Int) : Rat) = -1 by decide] at n1
 have n2 := cu_ 2 (by decide)
 rw [show ((2 : Int) : Rat) = 2 by decide] at n2
 have n3 := cu_ 1 (by decide)
 rw [show ((1 : Int) : Rat) = 1 by decide] at n3
 have hrange := fs_Range 40 40 twoP (-1, 2) 0 (-2, 2) w_range (by decide)
 have hfirst := n0_ 10 [0, 0, 1] [mkRat 1 2, 0, mkRat 1 2] w_first
 have hof := fs_Of (-3) 2 (by decide) (by decide) (by decide)
 rw [show (((-3 : Int) : Rat) / ((2 : Int) : Rat)) = mkRat (-3) 2 by decide +kernel] at hof
 have t1 := jO_ [1, mkRat (-3) 2, 0, 1] w_text1.2
 rw [w_text1.1] at t1
 have t1' : FSpec Tryz.prog 65 [.arr [qC 1, qC (mkRat (-3) 2), zC, qC 1]] (tx [120, 94, 51, 32, 45, 32, 51, 47, 50, 32, 120, 32, 43, 32, 49]) := by
  refine t1.weak (.cons (Le.arr (.cons (.refl _) (.cons (.refl _) (.cons le_zC (.cons (.refl _) .nil))))) .nil) ?_
  refine aa_ (aw_ ?_) ab_
  intro e he
  simp at he
  rcases he with rfl | rfl | rfl | rfl
  ·exact aY_ _
  ·exact aY_ _
  ·exact lm_
  ·exact aY_ _
 have t2 := jO_ [-2, 1] w_text2.2
 rw [w_text2.1] at t2
 have t3 := jO_ [3] w_text3.2
 rw [w_text3.1] at t3
 have s1 := m6_ (mkRat 11 8, mkRat 23 16) w_sp.2.1 w_sp.2.2.1
 rw [w_sp.1] at s1
 have s2 := m6_ (-2, 2) w_sp.2.2.2.2.1 w_sp.2.2.2.2.2
 rw [w_sp.2.2.2.1] at s2
 have q1 := fQ_ (mkRat 1 2) w_q.2.1
 rw [w_q.1] at q1
 have q2 := fQ_ 1 w_q.2.2.2
 rw [w_q.2.2.1] at q2
 have hres := kX_ 10 twoP [-3, 0, 1] 1 w_res
 refine f_n Tryz.func14 ?_ ?_
 ·exact ab_
 refine r_z 1 ?_
 refine s_r 3 ?_
 refine a_1 ?_
 refine o_1 (.callS1 rfl rfl rfl (.shut rfl d_n (.nil)) rfl (i1)) ?_
 refine a_z ?_
 refine s_r 12 ?_
 refine a_1 ?_
 refine o_1 (.callS1 rfl rfl rfl (.shut rfl d_n (.nil)) rfl (i2)) ?_
 refine a_1 ?_
 refine o_1 (.callS1 rfl rfl rfl (.shut rfl d_n (.nil)) rfl (i3)) ?_
 refine c_s (hdiv) ?_
 refine a_z ?_
 refine r_c 9 (hspan) ?_
 refine a_z ?_
 refine r_c 11 (n1) ?_
 refine c_s (n2) ?_
 refine c_s (hrange) ?_
 refine a_z ?_
 refine s_r 8 ?_
 refine a_1 ?_
 refine o_1 (.callS1 rfl rfl rfl (.shut rfl d_n (.nil)) rfl (i4)) ?_
 refine c_s (hfirst) ?_
 refine a_z ?_
 refine r_c 7 (hof) ?_
 refine a_z ?_
 refine ac_ (r_d hmix 64 ?_)
 refine c_s (n3) ?_
 refine c_s (n3) ?_
 refine o_1 (.buildSlice te_25.h tz_37.h rfl (by decide) rfl rfl rfl (by simp [a7_, ofV])) ?_
 refine o_1 (.callS1 rfl rfl rfl (.shut rfl d_n (.nil)) rfl (t1')) ?_
 refine o_0 (.bin rfl rfl ft_) ?_
 refine a_1 ?_
 refine y_g rfl rfl (.move rfl) ?_
 refine y_g rfl rfl (.bin rfl rfl a2_) ?_
 refine o_0 (.pickT rfl rfl rfl) ?_
 refine a_1 ?_
 refine y_g rfl rfl (.move rfl) ?_
 refine y_g rfl rfl (.call rfl rfl rfl (t2)) ?_
 refine y_g rfl rfl (.bin rfl rfl ft_) ?_
 refine o_0 (.pickT rfl rfl rfl) ?_
 refine a_1 ?_
 refine y_g rfl rfl (.move rfl) ?_
 refine y_g rfl rfl (.call rfl rfl rfl (t3)) ?_
 refine y_g rfl rfl (.bin rfl rfl ft_) ?_
 refine o_0 (.pickT rfl rfl rfl) ?_
 refine a_1 ?_
 refine y_g rfl rfl (.move rfl) ?_
 refine y_g rfl rfl (.bin rfl rfl a2_) ?_
 refine o_0 (.pickT rfl rfl rfl) ?_
 refine a_1 ?_
 first | refine y_g rfl rfl (.load_l rfl rfl rfl tg_65.h ts_65.h (nle rfl)) ?_ | refine y_g rfl rfl (.load_a rfl rfl tg_65.h ts_65.h (nle rfl)) ?_
 refine y_g rfl rfl (.call rfl rfl rfl (s1)) ?_
 refine y_g rfl rfl (.bin rfl rfl ft_) ?_
 refine o_0 (.pickT rfl rfl rfl) ?_
 refine a_1 ?_
 refine y_g rfl rfl (.move rfl) ?_
 refine y_g rfl rfl (.bin rfl rfl a2_) ?_
 refine o_0 (.pickT rfl rfl rfl) ?_
 refine a_1 ?_
 first | refine y_g rfl rfl (.load_l rfl rfl rfl tg_65.h ts_65.h (nle rfl)) ?_ | refine y_g rfl rfl (.load_a rfl rfl tg_65.h ts_65.h (nle rfl)) ?_
 refine y_g rfl rfl (.call rfl rfl rfl (s2)) ?_
 refine y_g rfl rfl (.bin rfl rfl ft_) ?_
 refine o_0 (.pickT rfl rfl rfl) ?_
 refine a_1 ?_
 refine y_g rfl rfl (.move rfl) ?_
 refine y_g rfl rfl (.bin rfl rfl a2_) ?_
 refine o_0 (.pickT rfl rfl rfl) ?_
 refine a_1 ?_
 refine y_g rfl rfl (.move rfl) ?_
 first | refine y_g rfl rfl (.lenD rfl rfl rfl rfl te_24.h) ?_ | refine y_g rfl rfl (.lenI rfl rfl rfl rfl te_24.h) ?_ | refine y_g rfl rfl (.lenP rfl rfl rfl rfl te_24.h) ?_ | refine y_g rfl rfl (.lenC rfl rfl rfl rfl te_24.h) ?_ | refine y_g rfl rfl (.lenR rfl rfl rfl rfl te_24.h) ?_ | refine y_g rfl rfl (.len rfl rfl rfl rfl rfl te_24.h) ?_
 refine y_g rfl rfl (.bin rfl rfl a2_) ?_
 refine o_0 (.pickT rfl rfl rfl) ?_
 refine a_1 ?_
 refine y_g rfl rfl (.move rfl) ?_
 first | refine y_g rfl rfl (.index_l rfl rfl (by omega) (by omega) te_24.h) ?_ | refine y_g rfl rfl (.index_a rfl rfl (by omega) rfl rfl te_24.h) ?_
 first | refine y_g rfl rfl (.load_l rfl rfl rfl tg_37.h ts_37.h (nle rfl)) ?_ | refine y_g rfl rfl (.load_a rfl rfl tg_37.h ts_37.h (nle rfl)) ?_
 refine y_g rfl rfl (.call rfl rfl rfl (q1)) ?_
 refine y_g rfl rfl (.bin rfl rfl ft_) ?_
 refine o_0 (.pickT rfl rfl rfl) ?_
 refine a_1 ?_
 refine y_g rfl rfl (.move rfl) ?_
 refine AR.op1y rfl rfl (gy rfl) (.buildSlice te_200.h tz_2.h rfl (by decide) rfl rfl rfl (by first | (simp; done) | (simp [a7_, ofV]; done) | rfl)) rfl rfl ?_
 refine AR.op1y rfl rfl (gy rfl) (.callS1 rfl rfl rfl (.shut rfl d_n (.nil)) rfl (i5)) rfl rfl ?_
 refine y_g rfl rfl (.call rfl rfl rfl (hres)) ?_
 refine y_g rfl rfl (.call rfl rfl rfl (q2)) ?_
 refine y_g rfl rfl (.bin rfl rfl ft_) ?_
 refine o_0 (.pickT rfl rfl rfl) ?_
 refine a_1 ?_
 refine aj_ (n_k ?_)
 exact ae_ (t_e (ad_ _))
abbrev NRow := Int × Int × Nat
def nV (r : NRow) : Rat := numV r.1 r.2.1 r.2.2
def nR (l : List NRow) : List (List AV) := l.map fun r => nuC r.1 r.2.1 r.2.2
def nL (l : List NRow) : List Rat := l.map nV
abbrev rL (l : List Rat) : List (List AV) := rE (l.map rq)
def okR (l : List NRow) : Prop := ∀ r ∈ l, i64r r.1 ∧ i64r r.2.1 ∧ r.2.2 ≤ 255
theorem bF_ (l : List NRow) : ∀ e ∈ nR l, ∀ c ∈ e, Closed c := by
 intro e he c hc
 obtain ⟨r, _, rfl⟩ := List.mem_map.1 he
 exact cH_ _ _ _ c hc
theorem eH_ (l : List Rat) : ∀ e ∈ rL l, ∀ c ∈ e, Closed c := b3_ _
theorem lL_ {N D : Int} {p : Nat} (hN : i64r N) (hD : i64r D) : qs (numV N D p) ≤ 256 := by
 obtain ⟨d, hd⟩ : ∃ d, d = dNum D := ⟨_, rfl⟩
 have hd0 : d ≠ 0 := by rw [hd]; unfold dNum; split <;> omega
 have hdr : i64r d := by
  rw [hd]; unfold dNum i64r; unfold i64r at hD; split <;> omega
 unfold i64r at hN hdr
 obtain ⟨q, hq⟩ : ∃ q, q = Rat.divInt N d := ⟨_, rfl⟩
 have hnv : numV N D p = powQ q (p % 4) := by unfold numV; rw [← hd, ← hq]
 have hqs : qs q ≤ 64 := by
  have hb : ∀ z : Int, -9223372036854775808 ≤ z ∧ z ≤ 9223372036854775808 → bl z.natAbs ≤ 64 := fun z h => bl_le (k := 64) (by omega)
  rw [hq]
  by_cases hn : d < 0
  ·rw [e3_ N d hn]
   exact cr_ (by omega) (hb (-N) (by omega)) (hb d (by omega))
  ·rw [e2_ N d (by omega)]
   exact cr_ (by omega) (hb N (by omega)) (hb d (by omega))
 have h1 := lK_ q (p % 4)
 have h2 : (p % 4 + 1) * qs q ≤ 4 * 64 := Nat.mul_le_mul (by omega) hqs
 rw [hnv]; omega
theorem nL_qs {l : List NRow} (h : okR l) : ∀ q ∈ nL l, qs q ≤ 256 := by
 intro q hq
 obtain ⟨r, hr, rfl⟩ := List.mem_map.1 hq
 exact lL_ (h r hr).1 (h r hr).2.1
def liS (l : List NRow) : List Rat → Nat → AState
 | [], i => ⟨[(0, .arr (nR l)), (4, .emp), (5, .emp), (6, i64 i)], [], 1, 33⟩
 | q :: Q, i => ⟨[(0, .arr (nR l)), (4, .lsl 1 0 (Q.length + 1) none 3), (5, .lsl 2 0 (Q.length + 1) none 4), (6, i64 i)], [(1, some ⟨37, 3, pE (q :: Q)⟩), (2, some ⟨75, 4, rL (q :: Q)⟩)], 3, 33⟩
theorem hv_ (l : List NRow) (i : Nat) : liS l [] i = ⟨[(0, .arr (nR l)), (4, .emp), (5, .emp), (6, i64 i)], [], 1, 33⟩ := rfl
theorem eV_ (l : List NRow) (q : Rat) (Q : List Rat) (i : Nat) : liS l (q :: Q) i = ⟨[(0, .arr (nR l)), (4, .lsl 1 0 (Q.length + 1) none 3), (5, .lsl 2 0 (Q.length + 1) none 4), (6, i64 i)], [(1, some ⟨37, 3, pE (q :: Q)⟩), (2, some ⟨75, 4, rL (q :: Q)⟩)], 3, 33⟩ := rfl
theorem fs_List (l : List NRow) (hl : l.length ≤ 1099511627776) (hb : okR l) : FSpec Tryz.prog 80 [.arr (nR l)] (.tup [.arr (pE (nL l)), .arr (rL (nL l))]) := by
 have hcr : ∀ q : Rat, ∀ e ∈ [rC (rq q)], ∀ c ∈ e, Closed c := fun q => eH_ [q]
 refine f_n Tryz.func80 ?_ ?_
 ·exact aa_ (aw_ (bF_ l)) ab_
 refine r_z 2 ?_
 refine r_z 1 ?_
 refine r_z 1 ?_
 refine ac_ (r_z 1 ?_)
 refine au_ (fun _ : Unit => liS l (nL l) l.length) (fun _ => True) ?_ ?_
 ·refine ah_ (ao_ (fun i : Nat => liS l (nL (l.take i)) i) (fun i => l.length - i) (fun i => i ≤ l.length) 0 (Nat.zero_le _) ?_ ?_)
  ·show SEnt _ (liS l [] 0)
   rw [hv_]
   have := (aw_ (bF_ l))
   exact s_f []
  rintro i hi
  have hlen : (nR l).length = l.length := by simp [nR]
  by_cases hlt : i < l.length
  ·obtain ⟨n, hn⟩ : ∃ n, l[i]? = some n := ⟨_, List.getElem?_eq_getElem hlt⟩
   have hgt : (nR l)[((i : Nat) : Int).toNat]? = some (nuC n.1 n.2.1 n.2.2) := by
    show (nR l)[i]? = _
    simp [nR, hn]
   obtain ⟨hn1, hn2, hn3⟩ := hb n (List.mem_of_getElem? hn)
   have hbo := jR_ n.1 n.2.1 n.2.2 hn1 hn2 hn3
   obtain ⟨v, hv⟩ : ∃ v, v = numV n.1 n.2.1 n.2.2 := ⟨_, rfl⟩
   rw [← hv] at hbo
   have htk : nL (l.take (i + 1)) = nL (l.take i) ++ [v] := by rw [bS_ hn]; simp [nL, nV, hv]
   have hQl : (nL (l.take i)).length = i := by simp [nL]; omega
   cases hQ : nL (l.take i) with
   | nil =>
    simp only [hv_]
    refine ac_ (r_z 4 ?_)
    refine af_ rfl (fun h => ?_) (fun h => ?_)
    rotate_left
    ·exact absurd h (by simp [nR]; omega)
    refine ag_ (ac_ (ah_ (s_r 12 ?_)))
    refine a_2 ?_
    refine i_x hgt ?_
    refine l_x hgt ?_
    refine c_s (hbo) ?_
    refine a_z ?_
    refine r_d hmix 10 ?_
    refine a_8 ?_
    refine a_2 ?_
    refine aj_ (n_k ?_)
    refine r_m 3 ?_
    refine a_z ?_
    refine ⟨i + 1, by omega, hlt, ?_⟩
    simp only [htk, hQ, List.nil_append, eV_]
    refine ax_ [(1, 4), (2, 5)] rfl rfl rfl au_r (fun hs => ?_) (fun hs => ?_)
    ·repeat' (first | exact aX_ | refine aL_ rfl ?_ ?_)
     all_goals (first | (exact ar_ hs (aw_ (bF_ l))) | exact au_c)
    ·repeat' (first | exact as_ | refine an_ rfl rfl rfl rfl ?_ ?_)
     all_goals (first | ((try exact bl_ hs (aW_ [v])); (try exact bl_ hs (eH_ [v]))) | exact au_e | (refine aF_ ?_; repeat' (first | exact ap_ | refine ai_ ?_ ?_)))
     all_goals (first | (exact ar_ hs (aw_ (bF_ l))) | exact au_c)
   | cons q Q =>
    rw [hQ] at hQl
    simp at hQl
    simp only [eV_]
    refine ac_ (r_z 4 ?_)
    refine af_ rfl (fun h => ?_) (fun h => ?_)
    rotate_left
    ·exact absurd h (by simp [nR]; omega)
    refine ag_ (ac_ (ah_ (s_r 12 ?_)))
    refine a_2 ?_
    refine i_x hgt ?_
    refine l_x hgt ?_
    refine c_s (hbo) ?_
    refine a_z ?_
    refine r_d hmix 10 ?_
    refine a_8 ?_
    refine a_2 ?_
    refine aj_ (n_k ?_)
    refine r_m 3 ?_
    refine a_z ?_
    refine ⟨i + 1, by omega, hlt, ?_⟩
    simp only [htk, hQ, List.cons_append, eV_]
    have e : pE (q :: Q) ++ [qC v] = pE (q :: (Q ++ [v])) := by simp [pE]
    have e2 : rL (q :: Q) ++ [rC (rq v)] = rL (q :: (Q ++ [v])) := by simp [rE]
    refine ax_ [(1, 4), (2, 5)] rfl rfl rfl ?_ (fun hs => ?_) (fun hs => ?_)
    ·repeat' (first | exact ShrL.nil | refine ShrL.cons rfl rfl rfl rfl (by first | (simp) | rfl | (simp; done) | (simp <;> omega)) ?_)
    ·repeat' (first | exact aX_ | refine aL_ rfl ?_ ?_)
     all_goals (first | (exact ar_ hs (aw_ (bF_ l))) | exact au_c)
    ·repeat' (first | exact as_ | refine an_ rfl rfl rfl rfl ?_ ?_)
     all_goals (first | ((try exact az_ hs e (aW_ _)); (try exact az_ hs e2 (eH_ _))) | exact au_e | (refine aF_ ?_; repeat' (first | exact ap_ | refine ai_ ?_ ?_)))
     all_goals (first | (exact ar_ hs (aw_ (bF_ l))) | exact au_c)
  ·have hge : i = l.length := by omega
   subst hge
   simp only [List.take_length]
   cases hQ : nL l with
   | nil =>
    simp only [hv_]
    refine ac_ (r_z 4 ?_)
    refine af_ rfl (fun h => ?_) (fun h => ?_)
    ·exact absurd h (by simp [nR])
    ·refine al_ ⟨(), trivial, ?_⟩
     simp only [hQ, hv_]
     have := (aw_ (bF_ l))
     exact s_f []
   | cons q Q =>
    simp only [eV_]
    refine ac_ (r_z 4 ?_)
    refine af_ rfl (fun h => ?_) (fun h => ?_)
    ·exact absurd h (by simp [nR])
    ·refine al_ ⟨(), trivial, ?_⟩
     simp only [hQ, eV_]
     have := (aw_ (bF_ l))
     exact s_f []
 rintro _ _
 cases hQ : nL l with
 | nil =>
  simp only [hv_]
  refine r_z 4 ?_
  refine ae_ (Fin.many ⟨_, _, rfl, rfl, ⟨_, _, rfl, rfl, rfl⟩⟩ (nle rfl) ?_)
  exact ai_ (Cv.emp _) (ai_ (Cv.emp _) ap_)
 | cons q Q =>
  simp only [eV_]
  refine r_z 4 ?_
  refine ae_ (Fin.many ⟨_, _, rfl, rfl, ⟨_, _, rfl, rfl, rfl⟩⟩ (nle rfl) ?_)
  exact ai_ (Cv.sealE at_ rfl (fun _ _ h => by cases h) rfl (by simp) (aW_ _)) (ai_ (Cv.sealE at_ rfl (fun _ _ h => by cases h) rfl (by simp) (eH_ _)) ap_)
theorem na_ (l : List NRow) (hl : l.length ≤ 1099511627776) (hb : okR l) : FSpec Tryz.prog 15 [.arr (nR l)] (.tup [.arr (pE (nL l)), .arr (rL (nL l))]) := by
 refine f_n Tryz.func15 ?_ ?_
 ·exact aa_ (aw_ (bF_ l)) ab_
 refine r_z 2 ?_
 refine r_c 7 (fs_List l hl hb) ?_
 refine a_z ?_
 refine r_z 4 ?_
 refine ae_ (Fin.many ⟨_, _, rfl, rfl, ⟨_, _, rfl, rfl, rfl⟩⟩ (nle rfl) ?_)
 exact ai_ (ar_ at_ (aw_ (aW_ _))) (ai_ (ar_ at_ (aw_ (eH_ _))) ap_)
theorem dec_one {n : Nat} (h : Lib.decDigits n = [49]) : n = 1 := by
 by_cases h1 : n < 10
 ·rw [Lib.decDigits_one h1] at h
  have : ∀ n, n < 10 → [UInt8.ofNat (48 + n)] = [49] → n = 1 := by decide
  exact this n h1 h
 ·have h2 := Lib.decDigits_length n
  rw [h, Lib.nDigits_big h1] at h2
  have := Lib.nDigits_pos (n / 10)
  simp at h2; omega
theorem og_ (n : Nat) : ztx (n : Int) = Lib.decDigits n := by
 unfold ztx
 rw [if_neg (by omega), Int.natAbs_natCast]; rfl
theorem oh_ (z : Int) : (ztx z).length ≤ bl z.natAbs + 2 := by
 have := iQ_ z.natAbs
 unfold ztx
 split <;> simp <;> omega
theorem fs_rText (x : RQ) (hx : rok x) (h : qs x.1 ≤ 68719476736) : FSpec Tryz.prog 143 [.agg (rC x)] (tx (qtx x.1)) := by
 have hn := Nat.le_trans (bJ_ x.1) h
 have hd := Nat.le_trans (bv_ x.1) h
 have zn := m5_ x.1.num hn
 have zd := m5_ (x.1.den : Int) (by rw [Int.natAbs_natCast]; exact hd)
 have ln := oh_ x.1.num
 have ld := oh_ (x.1.den : Int)
 rw [Int.natAbs_natCast] at ld
 have hcx : Closed (.aptr [rC x] 0 0) := aP_ (cO_ x)
 refine f_n Tryz.func143 ?_ ?_
 ·exact aa_ (aV_ x) ab_
 refine r_z 2 ?_
 by_cases h1 : x.1.den = 1
 ·have e1 : decide (ztx (x.1.den : Int) = [49]) = true := decide_eq_true (by rw [h1]; decide +kernel)
  refine ac_ (r_c 4 (cw_ x hx) ?_)
  refine c_s (zd) ?_
  refine o_0 (.bin rfl rfl (vT j3_ e1)) ?_
  refine aj_ ?_
  refine cT (r_c 4 (zn) ?_)
  refine a_z ?_
  exact ae_ (aD_ rfl (by rw [qtx_eq, if_pos h1, List.append_nil]) (ad_ _))
 ·have e1 : decide (ztx (x.1.den : Int) = [49]) = false := decide_eq_false fun e => h1 (dec_one (by rw [← og_]; exact e))
  refine ac_ (r_c 4 (cw_ x hx) ?_)
  refine c_s (zd) ?_
  refine o_0 (.bin rfl rfl (vF j3_ e1)) ?_
  refine aj_ ?_
  refine cF (ag_ (ac_ (r_d hmix 9 ?_)))
  refine c_s (zn) ?_
  refine o_0 (.bin rfl rfl (bO_ (m := [47]) (by simp; omega))) ?_
  refine c_s (cw_ x hx) ?_
  refine c_s (zd) ?_
  refine o_0 (.bin rfl rfl (bO_ (by simp; omega))) ?_
  refine a_1 ?_
  refine aj_ (n_k ?_)
  exact ae_ (aD_ rfl (by rw [qtx_eq, if_neg h1, og_, List.append_assoc]; rfl) (ad_ _))
theorem fs_SameN (q : Rat) (x : RQ) (hx : rok x) (h : x.1 = q) (hs : qs q ≤ 68719476736) : FSpec Tryz.prog 62 [.agg (qC q), .agg (rC x)] (bln true) := by
 subst h
 have e1 : decide (qtx x.1 = qtx x.1) = true := decide_eq_true rfl
 refine f_n Tryz.func62 ?_ ?_
 ·exact aa_ (ak_ _) (aa_ (aV_ x) ab_)
 refine r_z 3 ?_
 refine ac_ (r_d hmix 6 ?_)
 refine c_s (pO_ x.1 hs) ?_
 refine c_s (fs_rText x hx hs) ?_
 refine o_0 (.bin rfl rfl (vT j3_ e1)) ?_
 refine a_1 ?_
 refine aj_ (n_k ?_)
 exact ae_ (t_e (ad_ _))
def vR (x : List RQ) : List Rat := x.map (·.1)
def okX (x : List RQ) : Prop := ∀ y ∈ x, rok y
def trimR (x : List RQ) : List RQ := x.take (trimQ (vR x)).length
theorem d6_ (x : List RQ) : vR (trimR x) = trimQ (vR x) := by
 unfold trimR
 rw [vR, List.map_take]
 exact (fy_ (vR x)).symm
theorem fD_ {x : List RQ} (h : okX x) : okX (trimR x) := fun y hy => h y (List.mem_of_mem_take hy)
@[simp] theorem aZ_ (x : List RQ) : (vR x).length = x.length := by simp [vR]
def lkS (l : List Rat) (x : List RQ) : Nat → AState
 | i => ⟨[(0, .arr (pE l)), (1, .arr (rE x)), (5, i64 i)], [], 1, 27⟩
theorem lkS_mk (l : List Rat) (x : List RQ) (i : Nat) : lkS l x i = ⟨[(0, .arr (pE l)), (1, .arr (rE x)), (5, i64 i)], [], 1, 27⟩ := rfl
theorem fs_Alike (l : List Rat) (x : List RQ) (hx : okX x) (h : vR x = l) (hs : bdL l 68719476736) (hl : l.length ≤ 1099511627776) : FSpec Tryz.prog 31 [.arr (pE l), .arr (rE x)] (bln true) := by
 have hxl : x.length = l.length := by rw [← h]; simp
 refine f_n Tryz.func31 ?_ ?_
 ·exact aa_ (am_ l) (aa_ (ay_ x) ab_)
 refine r_z 1 ?_
 refine ac_ (s_r 5 ?_)
 refine a_4 ?_
 refine o_0 (.bin rfl rfl (vF by_ ((by rw [hxl]; simp)))) ?_
 refine aj_ ?_
 refine cF (ag_ (ac_ (r_z 1 ?_)))
 refine au_ (fun _ : Unit => ⟨[(0, .arr (pE l)), (1, .arr (rE x))], [], 1, 27⟩) (fun _ => True) ?_ ?_
 ·refine ah_ (ao_ (lkS l x) (fun i => l.length - i) (fun i => i ≤ l.length) 0 (Nat.zero_le _) ?_ ?_)
  ·simp only [lkS_mk]
   exact s_e []
  rintro i hi
  simp only [lkS_mk]
  by_cases hlt : i < l.length
  ·obtain ⟨y, hy⟩ : ∃ y, x[i]? = some y := ⟨_, List.getElem?_eq_getElem (by omega)⟩
   have hq : l[i]? = some y.1 := by rw [← h, vR, List.getElem?_map, hy]; rfl
   have g1 : (pE l)[((i : Nat) : Int).toNat]? = some (qC y.1) := cj_ hq
   have g2 : (rE x)[((i : Nat) : Int).toNat]? = some (rC y) := dH_ hy
   refine ac_ (q_z 4 ?_)
   refine cT (ag_ (ac_ (ah_ (ac_ (r_d hmix 10 ?_)))))
   refine a_2 ?_
   refine i_x g1 ?_
   refine l_x g1 ?_
   refine a_2 ?_
   refine i_x g2 ?_
   refine l_x g2 ?_
   refine c_s (fs_SameN y.1 y (hx y (List.mem_of_getElem? hy)) rfl (hs _ (List.mem_of_getElem? hq))) ?_
   refine a_1 ?_
   refine aj_ (n_k ?_)
   refine cF (ag_ (r_m 3 ?_))
   refine a_z ?_
   refine ⟨i + 1, by omega, hlt, ?_⟩
   exact s_e []
  ·refine ac_ (q_z 4 ?_)
   refine cF (al_ ⟨(), trivial, ?_⟩)
   exact s_e []
 rintro _ _
 refine r_z 1 ?_
 exact ae_ (t_e (ad_ _))
def rtmS (x : List RQ) : Nat → AState
 | n => ⟨[(0, .arr (rE x)), (3, i64 n)], [], 1, 23⟩
theorem hh_ (x : List RQ) (n : Nat) : rtmS x n = ⟨[(0, .arr (rE x)), (3, i64 n)], [], 1, 23⟩ := rfl
theorem c3_ (x : List RQ) (hl : x.length ≤ 1099511627776) : FSpec Tryz.prog 100 [.arr (rE x)] (.arr (rE (trimR x))) := by
 obtain ⟨v, hv⟩ : ∃ v, v = vR x := ⟨_, rfl⟩
 have hvl : v.length = x.length := by rw [hv]; simp
 refine f_n Tryz.func100 ?_ ?_
 ·exact aa_ (ay_ x) ab_
 refine r_z 1 ?_
 refine r_z 3 ?_
 refine aO_ (rtmS x) (fun n => n ≤ v.length ∧ trimQ v = v.take n) ?_ ?_
 ·refine ah_ (ao_ (rtmS x) (fun n => n) (fun n => n ≤ v.length ∧ trimQ v = trimQ (v.take n)) v.length ⟨Nat.le_refl _, by rw [List.take_length]⟩ ?_ ?_)
  ·simp only [hh_]
   rw [hvl]
   exact s_e []
  rintro n ⟨hn, ht⟩
  simp only [hh_]
  cases n with
  | zero =>
   refine ac_ (s_r 11 ?_)
   refine a_1 ?_
   refine o_0 (.bin rfl rfl (vF ei_ ((by simp)))) ?_
   refine a_z ?_
   refine cF (al_ ⟨0, ⟨Nat.zero_le _, ?_⟩, ?_⟩)
   ·rw [ht]; rfl
   ·simp only [hh_]
    exact s_e []
  | succ n =>
   obtain ⟨y, hy⟩ : ∃ y, x[n]? = some y := ⟨_, List.getElem?_eq_getElem (by omega)⟩
   have hq : v[n]? = some y.1 := by rw [hv, vR, List.getElem?_map, hy]; rfl
   have g2 : (rE x)[(((n + 1 : Nat) : Int) - 1).toNat]? = some (rC y) := by
    rw [show (((n + 1 : Nat) : Int) - 1).toNat = n by omega]; exact dH_ hy
   have hs : trimQ (v.take (n + 1)) = if y.1 = 0 then trimQ (v.take n) else v.take (n + 1) := by
    rw [bS_ hq, eN_]
   by_cases h0 : y.1 = 0
   ·refine ac_ (s_r 11 ?_)
    refine d_6 ?_
    first | refine bI_ rfl rfl rfl (.index_l rfl rfl (by omega) (by omega) te_27.h) rfl rfl ?_ | refine bI_ rfl rfl rfl (.index_a rfl rfl (by omega) g2 rfl te_27.h) rfl rfl ?_
    first | refine bI_ rfl rfl rfl (.load_l rfl rfl g2 tg_75.h ts_75.h (nle rfl)) rfl rfl ?_ | refine bI_ rfl rfl rfl (.load_a rfl g2 tg_75.h ts_75.h (nle rfl)) rfl rfl ?_
    refine c_s (gU_ y) ?_
    refine bI_ rfl rfl rfl (.bin rfl rfl (vT a2_ ((by rw [h0]; decide)))) rfl rfl ?_
    refine a_z ?_
    refine cT (ag_ (ah_ (r_m 3 ?_)))
    refine a_z ?_
    refine ⟨n, Nat.lt_succ_self n, ⟨by omega, ?_⟩, ?_⟩
    ·rw [ht, hs, if_pos h0]
    ·exact s_e []
   ·have hz : (sgZ y.1.num == (0 : Int)) = false := by
     rw [beq_eq_false_iff_ne]
     exact fun e => h0 (sgZ_num_eq.1 e)
    refine ac_ (s_r 11 ?_)
    refine d_6 ?_
    first | refine bI_ rfl rfl rfl (.index_l rfl rfl (by omega) (by omega) te_27.h) rfl rfl ?_ | refine bI_ rfl rfl rfl (.index_a rfl rfl (by omega) g2 rfl te_27.h) rfl rfl ?_
    first | refine bI_ rfl rfl rfl (.load_l rfl rfl g2 tg_75.h ts_75.h (nle rfl)) rfl rfl ?_ | refine bI_ rfl rfl rfl (.load_a rfl g2 tg_75.h ts_75.h (nle rfl)) rfl rfl ?_
    refine c_s (gU_ y) ?_
    refine bI_ rfl rfl rfl (.bin rfl rfl (vF a2_ (hz))) rfl rfl ?_
    refine a_z ?_
    refine cF (al_ ⟨n + 1, ⟨hn, ?_⟩, ?_⟩)
    ·rw [ht, hs, if_neg h0]
    ·simp only [hh_]
     exact s_e []
 rintro n ⟨hn, ht⟩
 simp only [hh_]
 have hnl : (trimQ v).length = n := by rw [ht]; simp; omega
 have htr : trimR x = x.take n := by unfold trimR; rw [← hv, hnl]
 cases n with
 | zero =>
  refine s_r 5 ?_
  refine a_2 ?_
  refine o_0 (.sa_h rfl rfl (h := 0) rfl (by simp) te_27.h (i6_ _)) ?_
  refine o_0 (.append0 rfl rfl rfl te_27.h rfl rfl rfl (.arr (es := []) (by simp))) ?_
  refine a_z ?_
  refine ae_ ?_
  rw [htr]
  exact Fin.tmpN rfl
 | succ n =>
  obtain ⟨X, hX⟩ : ∃ X, X = x.take (n + 1) := ⟨_, rfl⟩
  have hXl : X.length = n + 1 := by rw [hX]; simp; omega
  have hXn : rE X ≠ [] := fun e => by have := congrArg List.length e; simp [hXl] at this
  have e4 : (rE x).take (n + 1) = rE X := by rw [rE_take, hX]
  have hXn' : (rE x).take (n + 1) ≠ [] := by rw [e4]; exact hXn
  refine s_r 5 ?_
  refine a_2 ?_
  refine o_0 (.sa_h rfl rfl (h := n + 1) rfl (by simp; omega) te_27.h (i6_ _)) ?_
  refine o_1 (.append_e rfl rfl rfl te_27.h rfl rfl rfl (.arr (by rw [e4]; exact i6_ _)) (by first | assumption | (simp; done)) tz_75.h rfl tb_75.h d_o (by first | (simp [maxLen]; done) | (simp [maxLen]; omega))) ?_
  refine a_z ?_
  refine ae_ ?_
  rw [htr, ← hX, ← e4]
  exact Fin.tmpS rfl rfl rfl rfl (by rw [e4]; exact b3_ _)
theorem fs_SameP (l : List Rat) (x : List RQ) (hx : okX x) (h : trimQ (vR x) = l) (hs : bdL l 68719476736) (hl : x.length ≤ 1099511627776) : FSpec Tryz.prog 23 [.arr (pE l), .arr (rE x)] (bln true) := by
 have hll : l.length ≤ x.length := by rw [← h]; have := aU_ (vR x); simpa using this
 refine f_n Tryz.func23 ?_ ?_
 ·exact aa_ (am_ l) (aa_ (ay_ x) ab_)
 refine r_z 1 ?_
 refine r_c 5 (c3_ x hl) ?_
 refine c_s (fs_Alike l (trimR x) (fD_ hx) ((d6_ x).trans h) hs (by omega)) ?_
 refine a_z ?_
 exact ae_ (t_e (ad_ _))
def oS (t n : Nat) (fr : Fr) : List RQ → AState
 | [] => ⟨(t, .emp) :: fr, [], 1, n⟩
 | y :: Y => ⟨(t, .lsl 1 0 (Y.length + 1) none 4) :: fr, [(1, some ⟨75, 4, rE (y :: Y)⟩)], 2, n⟩
theorem dI_ (t n : Nat) (fr : Fr) : oS t n fr [] = ⟨(t, .emp) :: fr, [], 1, n⟩ := rfl
theorem bP_ (t n : Nat) (fr : Fr) (y : RQ) (Y : List RQ) : oS t n fr (y :: Y) = ⟨(t, .lsl 1 0 (Y.length + 1) none 4) :: fr, [(1, some ⟨75, 4, rE (y :: Y)⟩)], 2, n⟩ := rfl
def rP (v : List Rat) : List RQ := v.map rq
theorem ct_ (v : List Rat) : okX (rP v) := fun y hy => by obtain ⟨q, _, rfl⟩ := List.mem_map.1 hy; exact bA_ q
theorem vR_rP (v : List Rat) : vR (rP v) = v := by
 unfold vR rP
 rw [List.map_map]
 exact List.map_id' v
@[simp] theorem a0_ (v : List Rat) : (rP v).length = v.length := by simp [rP]
theorem iX_ (v : List Rat) : trimR (rP v) = rP (trimQ v) := by
 unfold trimR
 rw [vR_rP, rP, ← List.map_take, ← fy_]; rfl
theorem fa_ {x : List RQ} {i : Nat} (h : i < x.length) : ∃ y, x[i]? = some y ∧ y.1 = coP (vR x) i := by
 refine ⟨_, List.getElem?_eq_getElem h, ?_⟩
 unfold coP vR
 rw [List.getD_eq_getElem?_getD, List.getElem?_map, List.getElem?_eq_getElem h]; rfl
theorem vR_bd {x : List RQ} {s : Nat} (h : bdL (vR x) s) {y : RQ} {i : Nat} (hy : x[i]? = some y) : qs y.1 ≤ s := h _ (List.mem_map.2 ⟨y, List.mem_of_getElem? hy, rfl⟩)
theorem take_succ' {V : List Rat} {j : Nat} (h : j < V.length) : V.take (j + 1) = V.take j ++ [coP V j] := bS_ (bn_ h)
theorem iE_ (x : List RQ) (s : Nat) (hx : okX x) (hs : bdL (vR x) s) (hlim : s + 64 ≤ 1099511627776) (hl : x.length ≤ 1000000) : FSpec Tryz.prog 25 [.arr (rE x)] (.arr (rE (rP (aB_ (vR x))))) := by
 obtain ⟨V, hV⟩ : ∃ V, V = tabP ((vR x).length - 1) (fun i => coP (vR x) (i + 1) * ((i + 1 : Nat) : Int)) := ⟨_, rfl⟩
 refine f_n Tryz.func25 ?_ ?_
 ·exact aa_ (ay_ x) ab_
 refine r_z 1 ?_
 refine r_z 1 ?_
 refine ac_ (r_z 1 ?_)
 have hVl : V.length = x.length - 1 := by rw [hV]; simp
 refine au_ (fun _ : Unit => oS 3 23 [(0, .arr (rE x))] (rP V)) (fun _ => True) ?_ ?_
 ·refine ah_ (ao_ (fun j : Nat => oS 3 23 [(4, i64 ((j + 1 : Nat) : Int)), (0, .arr (rE x))] (rP (V.take j))) (fun j => V.length - j) (fun j => j ≤ V.length) 0 (Nat.zero_le _) ?_ ?_)
  ·show SEnt _ (oS _ _ _ [])
   rw [dI_]
   exact s_e []
  rintro j hj
  by_cases hlt : j < V.length
  ·obtain ⟨y, hy, hyv⟩ := fa_ (x := x) (i := j + 1) (by omega)
   have hyb := vR_bd hs hy
   have hyo := hx y (List.mem_of_getElem? hy)
   have hgt : (rE x)[((j + 1 : Nat) : Int).toNat]? = some (rC y) := dH_ hy
   obtain ⟨c, hc⟩ : ∃ c, c = y.1 * ((j + 1 : Nat) : Int) := ⟨_, rfl⟩
   have hco : coP V j = c := by rw [hV, eG_, if_pos (by simp; omega), ← hyv, hc]
   have hm := hH_ y (rq (((j + 1 : Nat) : Int) : Rat)) hyo (bA_ _) (by have := i7_ (j + 1) (by omega); show qs y.1 + qs (((j + 1 : Nat) : Int) : Rat) ≤ _; omega)
   rw [show y.1 * (rq (((j + 1 : Nat) : Int) : Rat)).1 = c by rw [hc]; rfl] at hm
   have htk := take_succ' hlt
   rw [hco] at htk
   have hrp : rP (V.take (j + 1)) = rP (V.take j) ++ [rq c] := by rw [htk]; simp [rP]
   have hQl : (rP (V.take j)).length = j := by simp; omega
   cases hQ : rP (V.take j) with
   | nil =>
    rw [hQ, List.nil_append] at hrp
    simp only [dI_]
    refine ac_ (q_z 4 ?_)
    refine cT (ag_ (ac_ (ah_ (r_d hmix 11 ?_))))
    refine a_3 ?_
    refine i_x hgt ?_
    refine l_x hgt ?_
    refine c_s (dc_ ((j + 1 : Nat) : Int) (by omega)) ?_
    refine c_s (hm) ?_
    refine a_3 ?_
    refine aj_ (n_k ?_)
    refine r_m 3 ?_
    refine a_z ?_
    refine ⟨j + 1, by omega, hlt, ?_⟩
    rw [hrp, bP_]
    exact s_f [(1, 3)]
   | cons q Q =>
    rw [hQ] at hQl
    rw [hQ, List.cons_append] at hrp
    simp at hQl
    simp only [bP_]
    refine ac_ (q_z 4 ?_)
    refine cT (ag_ (ac_ (ah_ (r_d hmix 11 ?_))))
    refine a_3 ?_
    refine i_x hgt ?_
    refine l_x hgt ?_
    refine c_s (dc_ ((j + 1 : Nat) : Int) (by omega)) ?_
    refine c_s (hm) ?_
    refine a_3 ?_
    refine aj_ (n_k ?_)
    refine r_m 3 ?_
    refine a_z ?_
    refine ⟨j + 1, by omega, hlt, ?_⟩
    rw [hrp, bP_]
    have e : rE (q :: Q) ++ [rC (rq c)] = rE (q :: (Q ++ [rq c])) := by simp [rE]
    refine ax_ [(1, 3)] rfl rfl rfl ?_ (fun hs => au_f) (fun hs => ?_)
    ·repeat' (first | exact ShrL.nil | refine ShrL.cons rfl rfl rfl rfl (by first | (simp) | rfl | (simp; done) | (simp <;> omega)) ?_)
    ·repeat' (first | exact as_ | refine an_ rfl rfl rfl rfl ?_ ?_)
     all_goals (first | (exact az_ hs e (b3_ _)) | exact au_e)
  ·have hge : j = V.length := by omega
   subst hge
   rw [List.take_length]
   cases hQ : rP V with
   | nil =>
    simp only [dI_]
    refine ac_ (q_z 4 ?_)
    refine cF (al_ ⟨(), trivial, ?_⟩)
    exact s_e []
   | cons q Q =>
    simp only [bP_]
    refine ac_ (q_z 4 ?_)
    refine cF (al_ ⟨(), trivial, ?_⟩)
    exact s_f [(1, 3)]
 rintro _ _
 have htr := c3_ (rP V) (by simp; omega)
 rw [iX_] at htr
 cases hQ : rP V with
 | nil =>
  rw [hQ] at htr
  simp only [dI_]
  refine r_c 3 (htr) ?_
  refine a_z ?_
  refine ae_ (aD_ rfl ?_ ?_)
  ·rw [hV]; rfl
  ·exact ay_ _
 | cons q Q =>
  rw [hQ] at htr
  simp only [bP_]
  refine s_r 3 ?_
  refine a_1 ?_
  refine o_1 (.callS1 rfl rfl rfl (.shut rfl d_n (.nil)) rfl ((FSpec.argE htr (by rw [List.drop_zero]; exact List.take_of_length_le (by simp))))) ?_
  refine a_z ?_
  refine ae_ (aD_ rfl ?_ ?_)
  ·rw [hV]; rfl
  ·exact ay_ _
theorem dW_ (x : List RQ) (k : RQ) (s : Nat) (hx : okX x) (hk : rok k) (hs : bdL (vR x) s) (hlim : s + qs k.1 ≤ 1099511627776) (hl : x.length ≤ 1000000) : FSpec Tryz.prog 48 [.arr (rE x), .agg (rC k)] (.arr (rE (rP (aI_ (vR x) k.1)))) := by
 obtain ⟨V, hV⟩ : ∃ V, V = tabP (vR x).length (fun i => coP (vR x) i * k.1) := ⟨_, rfl⟩
 refine f_n Tryz.func48 ?_ ?_
 ·exact aa_ (ay_ x) (aa_ (aV_ k) ab_)
 have hkc : Closed (.aptr [rC k] 0 0) := aP_ (cO_ k)
 refine r_z 2 ?_
 refine AWp.ent (st' := ⟨[(3, .aptr [rC k] 0 0), (0, .arr (rE x))], [], 1, 24⟩) ?_ ?_
 ·have := cO_ k
  exact s_f []
 refine r_z 1 ?_
 refine ac_ (r_z 1 ?_)
 have hVl : V.length = x.length := by rw [hV]; simp
 refine au_ (fun _ : Unit => oS 5 24 [(3, .aptr [rC k] 0 0), (0, .arr (rE x))] (rP V)) (fun _ => True) ?_ ?_
 ·refine ah_ (ao_ (fun j : Nat => oS 5 24 [(6, i64 ((j : Nat) : Int)), (3, .aptr [rC k] 0 0), (0, .arr (rE x))] (rP (V.take j))) (fun j => V.length - j) (fun j => j ≤ V.length) 0 (Nat.zero_le _) ?_ ?_)
  ·show SEnt _ (oS _ _ _ [])
   rw [dI_]
   exact s_e []
  rintro j hj
  by_cases hlt : j < V.length
  ·obtain ⟨y, hy, hyv⟩ := fa_ (x := x) (i := j) (by omega)
   have hyb := vR_bd hs hy
   have hyo := hx y (List.mem_of_getElem? hy)
   have hgt : (rE x)[((j : Nat) : Int).toNat]? = some (rC y) := dH_ hy
   obtain ⟨c, hc⟩ : ∃ c, c = y.1 * k.1 := ⟨_, rfl⟩
   have hco : coP V j = c := by rw [hV, eG_, if_pos (by simp; omega), ← hyv, hc]
   have hm := hH_ y k hyo hk (by omega)
   rw [← hc] at hm
   have htk := take_succ' hlt
   rw [hco] at htk
   have hrp : rP (V.take (j + 1)) = rP (V.take j) ++ [rq c] := by rw [htk]; simp [rP]
   have hQl : (rP (V.take j)).length = j := by simp; omega
   cases hQ : rP (V.take j) with
   | nil =>
    rw [hQ, List.nil_append] at hrp
    simp only [dI_]
    refine ac_ (q_z 4 ?_)
    refine cT (ag_ (ac_ (ah_ (r_d hmix 10 ?_))))
    refine a_3 ?_
    refine i_x hgt ?_
    refine l_x hgt ?_
    refine c_s (hm) ?_
    refine a_3 ?_
    refine aj_ (n_k ?_)
    refine r_m 3 ?_
    refine a_z ?_
    refine ⟨j + 1, by omega, hlt, ?_⟩
    rw [hrp, bP_]
    exact s_f [(1, 5)]
   | cons q Q =>
    rw [hQ] at hQl
    rw [hQ, List.cons_append] at hrp
    simp at hQl
    simp only [bP_]
    refine ac_ (q_z 4 ?_)
    refine cT (ag_ (ac_ (ah_ (r_d hmix 10 ?_))))
    refine a_3 ?_
    refine i_x hgt ?_
    refine l_x hgt ?_
    refine c_s (hm) ?_
    refine a_3 ?_
    refine aj_ (n_k ?_)
    refine r_m 3 ?_
    refine a_z ?_
    refine ⟨j + 1, by omega, hlt, ?_⟩
    rw [hrp, bP_]
    have e : rE (q :: Q) ++ [rC (rq c)] = rE (q :: (Q ++ [rq c])) := by simp [rE]
    refine ax_ [(1, 5)] rfl rfl rfl ?_ (fun hs => au_f) (fun hs => ?_)
    ·repeat' (first | exact ShrL.nil | refine ShrL.cons rfl rfl rfl rfl (by first | (simp) | rfl | (simp; done) | (simp <;> omega)) ?_)
    ·repeat' (first | exact as_ | refine an_ rfl rfl rfl rfl ?_ ?_)
     all_goals (first | (exact az_ hs e (b3_ _)) | exact au_e)
  ·have hge : j = V.length := by omega
   subst hge
   rw [List.take_length]
   cases hQ : rP V with
   | nil =>
    simp only [dI_]
    refine ac_ (q_z 4 ?_)
    refine cF (al_ ⟨(), trivial, ?_⟩)
    exact s_e []
   | cons q Q =>
    simp only [bP_]
    refine ac_ (q_z 4 ?_)
    refine cF (al_ ⟨(), trivial, ?_⟩)
    exact s_f [(1, 5)]
 rintro _ _
 have htr := c3_ (rP V) (by simp; omega)
 rw [iX_] at htr
 cases hQ : rP V with
 | nil =>
  rw [hQ] at htr
  simp only [dI_]
  refine r_c 3 (htr) ?_
  refine a_z ?_
  refine ae_ (aD_ rfl ?_ ?_)
  ·rw [hV]; rfl
  ·exact ay_ _
 | cons q Q =>
  rw [hQ] at htr
  simp only [bP_]
  refine s_r 3 ?_
  refine a_1 ?_
  refine o_1 (.callS1 rfl rfl rfl (.shut rfl d_n (.nil)) rfl ((FSpec.argE htr (by rw [List.drop_zero]; exact List.take_of_length_le (by simp))))) ?_
  refine a_z ?_
  refine ae_ (aD_ rfl ?_ ?_)
  ·rw [hV]; rfl
  ·exact ay_ _
theorem mp_ {x : List RQ} {n : Nat} (h : (trimQ (vR x)).length = n + 1) : ∃ y, (trimR x)[n]? = some y ∧ y.1 = leadP (vR x) ∧ y ∈ x := by
 have e := d6_ x
 have g := bm_ h
 rw [← e, vR, List.getElem?_map] at g
 cases hy : (trimR x)[n]? with
 | none => rw [hy] at g; cases g
 | some y =>
  rw [hy] at g
  exact ⟨y, rfl, Option.some.inj g, List.mem_of_mem_take (List.mem_of_getElem? hy)⟩
@[simp] theorem bX_ (x : List RQ) : (trimR x).length = (trimQ (vR x)).length := by rw [← d6_, aZ_]
theorem do_ (x : List RQ) (hl : x.length ≤ 1000000) : FSpec Tryz.prog 29 [.arr (rE x)] (i64 (degP (vR x))) := by
 have htl := aU_ (vR x)
 rw [aZ_, ← bX_] at htl
 refine f_n Tryz.func29 ?_ ?_
 ·exact aa_ (ay_ x) ab_
 refine r_z 1 ?_
 refine r_c 5 (c3_ x (by omega)) ?_
 refine a_z ?_
 exact ae_ (aD_ rfl (by rw [bX_]; rfl) (ad_ _))
theorem gV_ (x : List RQ) (y : RQ) (hl : x.length ≤ 1000000) (hy : (trimR x).getLastD (rq 0) = y) : FSpec Tryz.prog 64 [.arr (rE x)] (.agg (rC y)) := by
 have hi0 : FSpec Tryz.prog 51 [i64 0] (.agg (rC (rq 0))) := dc_ 0 (by decide)
 have htr : (trimR x).length ≤ x.length := by rw [bX_, ← aZ_ x]; exact aU_ _
 refine f_n Tryz.func64 ?_ ?_
 ·exact aa_ (ay_ x) ab_
 refine r_z 1 ?_
 refine r_c 3 (c3_ x (by omega)) ?_
 refine a_z ?_
 cases hX : trimR x with
 | nil =>
  rw [hX] at hy
  cases hy
  refine ac_ (s_r 3 ?_)
  refine a_2 ?_
  refine o_0 (.bin rfl rfl (vT a2_ (decide_eq_true (by simp)))) ?_
  refine aj_ ?_
  refine cT (r_c 2 (hi0) ?_)
  refine a_z ?_
  exact ae_ (c_e (aV_ (rq 0)))
 | cons a A =>
  rw [hX] at htr
  rw [hX] at hy
  have hg : (rE (a :: A))[(((a :: A).length : Int) - 1).toNat]? = some (rC y) := by
   refine dH_ ?_
   rw [show (((a :: A).length : Int) - 1).toNat = A.length by simp, ← hy]
   rw [List.getLastD_eq_getLast?, List.getLast?_eq_getElem?]
   simp
  refine ac_ (s_r 3 ?_)
  refine a_2 ?_
  refine o_0 (.bin rfl rfl (vF a2_ (decide_eq_false (by simp; omega)))) ?_
  refine aj_ ?_
  refine cF (ag_ ?_)
  have hln : (a :: A).length = A.length + 1 := rfl
  refine s_r 7 ?_
  refine a_4 ?_
  refine i_x hg ?_
  refine l_x hg ?_
  refine a_z ?_
  exact ae_ (c_e (aV_ y))
def v9 : List Rat → AV
 | [] => .emp
 | _ :: Q => .lsl 1 0 (Q.length + 1) none 3
def h9 : List Rat → List (Nat × Option ABlk)
 | [] => []
 | q :: Q => [(1, some ⟨37, 3, pE (q :: Q)⟩)]
theorem cmpQ_eq (a b : Rat) : (cmpQ a b == (0 : Int)) = decide (a = b) := by
 unfold cmpQ
 by_cases h1 : a < b
 ·have h2 : a ≠ b := fun e => by rw [e] at h1; exact absurd h1 Rat.lt_irrefl
  simp [h1, h2]
 ·by_cases h2 : a = b
  ·simp [h1, h2, Rat.lt_irrefl]
  ·simp [h1, h2]


theorem jI_ (x y : List RQ) (s t : Nat) (hx : okX x) (hy : okX y) (hs : bdL (vR x) s) (ht : bdL (vR y) t) (hlim : s + t + 64 ≤ 1099511627776) (hxl : x.length ≤ 1000000) (hyl : y.length ≤ 1000000) : FSpec Tryz.prog 43 [.arr (rE x), .arr (rE y)] (.arr (rE (rP (addP (vR x) (vR y))))) := by
 obtain ⟨V, hV⟩ : ∃ V, V = tabP (max (vR x).length (vR y).length) (fun i => coP (vR x) i + coP (vR y) i) := ⟨_, rfl⟩
 have hi0 : FSpec Tryz.prog 51 [i64 0] (.agg (rC (rq 0))) := dc_ 0 (by decide)
 have q0 : qs (rq 0).1 ≤ 64 := by decide
 refine f_n Tryz.func43 ?_ ?_
 ·exact aa_ (ay_ x) (aa_ (ay_ y) ab_)
 refine r_z 1 ?_
 refine r_z 1 ?_
 refine ac_ (r_z 1 ?_)
 have hVl : V.length = max x.length y.length := by rw [hV]; simp
 refine au_ (fun _ : Unit => oS 5 47 [(0, .arr (rE x)), (1, .arr (rE y))] (rP V)) (fun _ => True) ?_ ?_
 ·refine ah_ (ao_ (fun j : Nat => oS 5 47 [(6, i64 ((j : Nat) : Int)), (0, .arr (rE x)), (1, .arr (rE y))] (rP (V.take j))) (fun j => V.length - j) (fun j => j ≤ V.length) 0 (Nat.zero_le _) ?_ ?_)
  ·show SEnt _ (oS _ _ _ [])
   rw [dI_]
   exact s_e []
  rintro j hj
  have hQl : (rP (V.take j)).length = j := by simp; omega
  by_cases hjx : j < x.length
  ·by_cases hjy : j < y.length
   ·obtain ⟨a, ha, hav⟩ := fa_ (x := x) (i := j) hjx
    have hab := vR_bd hs ha
    have hao := hx a (List.mem_of_getElem? ha)
    have hgx : (rE x)[((j : Nat) : Int).toNat]? = some (rC a) := dH_ ha
    obtain ⟨b, hb, hbv⟩ := fa_ (x := y) (i := j) hjy
    have hbb := vR_bd ht hb
    have hbo := hy b (List.mem_of_getElem? hb)
    have hgy : (rE y)[((j : Nat) : Int).toNat]? = some (rC b) := dH_ hb
    obtain ⟨c, hc⟩ : ∃ c, c = a.1 + b.1 := ⟨_, rfl⟩
    have hco : coP V j = c := by rw [hV, eG_, if_pos (by simp; omega), ← hav, ← hbv, hc]
    have m1 := gf_ (rq 0) a (bA_ _) hao (by omega)
    rw [show (rq 0).1 + a.1 = a.1 from Rat.zero_add _] at m1
    have m2 := gf_ (rq a.1) b (bA_ _) hbo (by show qs a.1 + qs b.1 ≤ _; omega)
    rw [show (rq a.1).1 + b.1 = c by rw [hc]; rfl] at m2
    have htk := take_succ' (V := V) (j := j) (by omega)
    rw [hco] at htk
    have hrp : rP (V.take (j + 1)) = rP (V.take j) ++ [rq c] := by rw [htk]; simp [rP]
    cases hQ : rP (V.take j) with
    | nil =>
     rw [hQ, List.nil_append] at hrp
     simp only [dI_]
     refine ac_ (q_z 10 ?_)
     refine cT (ag_ (ac_ (ah_ (r_c 3 (hi0) ?_))))
     refine a_z ?_
     refine ac_ (q_z 4 ?_)
     refine cT (r_d hmix 7 ?_)
     refine a_3 ?_
     refine i_x hgx ?_
     refine l_x hgx ?_
     refine c_s (m1) ?_
     refine a_1 ?_
     refine aj_ (n_k ?_)
     refine ac_ (q_z 4 ?_)
     refine cT (r_d hmix 7 ?_)
     refine a_3 ?_
     refine i_x hgy ?_
     refine l_x hgy ?_
     refine c_s (m2) ?_
     refine a_1 ?_
     refine aj_ (n_k ?_)
     refine r_m 5 ?_
     refine a_z ?_
     refine r_m 3 ?_
     refine a_z ?_
     refine ⟨j + 1, by omega, by omega, ?_⟩
     rw [hrp, bP_]
     exact s_f [(1, 5)]
    | cons q Q =>
     rw [hQ] at hQl
     rw [hQ, List.cons_append] at hrp
     simp at hQl
     simp only [bP_]
     refine ac_ (q_z 10 ?_)
     refine cT (ag_ (ac_ (ah_ (r_c 3 (hi0) ?_))))
     refine a_z ?_
     refine ac_ (q_z 4 ?_)
     refine cT (r_d hmix 7 ?_)
     refine a_3 ?_
     refine i_x hgx ?_
     refine l_x hgx ?_
     refine c_s (m1) ?_
     refine a_1 ?_
     refine aj_ (n_k ?_)
     refine ac_ (q_z 4 ?_)
     refine cT (r_d hmix 7 ?_)
     refine a_3 ?_
     refine i_x hgy ?_
     refine l_x hgy ?_
     refine c_s (m2) ?_
     refine a_1 ?_
     refine aj_ (n_k ?_)
     refine r_m 5 ?_
     refine a_z ?_
     refine r_m 3 ?_
     refine a_z ?_
     refine ⟨j + 1, by omega, by omega, ?_⟩
     rw [hrp, bP_]
     have e : rE (q :: Q) ++ [rC (rq c)] = rE (q :: (Q ++ [rq c])) := by simp [rE]
     refine ax_ [(1, 5)] rfl rfl rfl ?_ (fun hs => au_f) (fun hs => ?_)
     ·repeat' (first | exact ShrL.nil | refine ShrL.cons rfl rfl rfl rfl (by first | (simp) | rfl | (simp; done) | (simp <;> omega)) ?_)
     ·repeat' (first | exact as_ | refine an_ rfl rfl rfl rfl ?_ ?_)
      all_goals (first | (exact az_ hs e (b3_ _)) | exact au_e)
   ·obtain ⟨a, ha, hav⟩ := fa_ (x := x) (i := j) hjx
    have hab := vR_bd hs ha
    have hao := hx a (List.mem_of_getElem? ha)
    have hgx : (rE x)[((j : Nat) : Int).toNat]? = some (rC a) := dH_ ha
    obtain ⟨c, hc⟩ : ∃ c, c = a.1 := ⟨_, rfl⟩
    have hco : coP V j = c := by rw [hV, eG_, if_pos (by simp; omega), ← hav, cn_ (p := vR y) (by simp; omega), Rat.add_zero, hc]
    have m1 := gf_ (rq 0) a (bA_ _) hao (by omega)
    rw [show (rq 0).1 + a.1 = a.1 from Rat.zero_add _] at m1
    rw [← hc] at m1
    have htk := take_succ' (V := V) (j := j) (by omega)
    rw [hco] at htk
    have hrp : rP (V.take (j + 1)) = rP (V.take j) ++ [rq c] := by rw [htk]; simp [rP]
    cases hQ : rP (V.take j) with
    | nil =>
     rw [hQ, List.nil_append] at hrp
     simp only [dI_]
     refine ac_ (q_z 10 ?_)
     refine cT (ag_ (ac_ (ah_ (r_c 3 (hi0) ?_))))
     refine a_z ?_
     refine ac_ (q_z 4 ?_)
     refine cT (r_d hmix 7 ?_)
     refine a_3 ?_
     refine i_x hgx ?_
     refine l_x hgx ?_
     refine c_s (m1) ?_
     refine a_1 ?_
     refine aj_ (n_k ?_)
     refine ac_ (q_z 4 ?_)
     refine cF (ag_ (r_m 5 ?_))
     refine a_z ?_
     refine r_m 3 ?_
     refine a_z ?_
     refine ⟨j + 1, by omega, by omega, ?_⟩
     rw [hrp, bP_]
     exact s_f [(1, 5)]
    | cons q Q =>
     rw [hQ] at hQl
     rw [hQ, List.cons_append] at hrp
     simp at hQl
     simp only [bP_]
     refine ac_ (q_z 10 ?_)
     refine cT (ag_ (ac_ (ah_ (r_c 3 (hi0) ?_))))
     refine a_z ?_
     refine ac_ (q_z 4 ?_)
     refine cT (r_d hmix 7 ?_)
     refine a_3 ?_
     refine i_x hgx ?_
     refine l_x hgx ?_
     refine c_s (m1) ?_
     refine a_1 ?_
     refine aj_ (n_k ?_)
     refine ac_ (q_z 4 ?_)
     refine cF (ag_ (r_m 5 ?_))
     refine a_z ?_
     refine r_m 3 ?_
     refine a_z ?_
     refine ⟨j + 1, by omega, by omega, ?_⟩
     rw [hrp, bP_]
     have e : rE (q :: Q) ++ [rC (rq c)] = rE (q :: (Q ++ [rq c])) := by simp [rE]
     refine ax_ [(1, 5)] rfl rfl rfl ?_ (fun hs => au_f) (fun hs => ?_)
     ·repeat' (first | exact ShrL.nil | refine ShrL.cons rfl rfl rfl rfl (by first | (simp) | rfl | (simp; done) | (simp <;> omega)) ?_)
     ·repeat' (first | exact as_ | refine an_ rfl rfl rfl rfl ?_ ?_)
      all_goals (first | (exact az_ hs e (b3_ _)) | exact au_e)
  ·by_cases hjy : j < y.length
   ·obtain ⟨b, hb, hbv⟩ := fa_ (x := y) (i := j) hjy
    have hbb := vR_bd ht hb
    have hbo := hy b (List.mem_of_getElem? hb)
    have hgy : (rE y)[((j : Nat) : Int).toNat]? = some (rC b) := dH_ hb
    obtain ⟨c, hc⟩ : ∃ c, c = b.1 := ⟨_, rfl⟩
    have hco : coP V j = c := by rw [hV, eG_, if_pos (by simp; omega), cn_ (p := vR x) (by simp; omega), ← hbv, Rat.zero_add, hc]
    have m2 := gf_ (rq 0) b (bA_ _) hbo (by omega)
    rw [show (rq 0).1 + b.1 = c by rw [hc]; exact Rat.zero_add _] at m2
    have htk := take_succ' (V := V) (j := j) (by omega)
    rw [hco] at htk
    have hrp : rP (V.take (j + 1)) = rP (V.take j) ++ [rq c] := by rw [htk]; simp [rP]
    cases hQ : rP (V.take j) with
    | nil =>
     rw [hQ, List.nil_append] at hrp
     simp only [dI_]
     refine ac_ (q_z 10 ?_)
     refine cT (ag_ (ac_ (ah_ (r_c 3 (hi0) ?_))))
     refine a_z ?_
     refine ac_ (q_z 4 ?_)
     refine cF (ag_ (ac_ (q_z 4 ?_)))
     refine cT (r_d hmix 7 ?_)
     refine a_3 ?_
     refine i_x hgy ?_
     refine l_x hgy ?_
     refine c_s (m2) ?_
     refine a_1 ?_
     refine aj_ (n_k ?_)
     refine r_m 5 ?_
     refine a_z ?_
     refine r_m 3 ?_
     refine a_z ?_
     refine ⟨j + 1, by omega, by omega, ?_⟩
     rw [hrp, bP_]
     exact s_f [(1, 5)]
    | cons q Q =>
     rw [hQ] at hQl
     rw [hQ, List.cons_append] at hrp
     simp at hQl
     simp only [bP_]
     refine ac_ (q_z 10 ?_)
     refine cT (ag_ (ac_ (ah_ (r_c 3 (hi0) ?_))))
     refine a_z ?_
     refine ac_ (q_z 4 ?_)
     refine cF (ag_ (ac_ (q_z 4 ?_)))
     refine cT (r_d hmix 7 ?_)
     refine a_3 ?_
     refine i_x hgy ?_
     refine l_x hgy ?_
     refine c_s (m2) ?_
     refine a_1 ?_
     refine aj_ (n_k ?_)
     refine r_m 5 ?_
     refine a_z ?_
     refine r_m 3 ?_
     refine a_z ?_
     refine ⟨j + 1, by omega, by omega, ?_⟩
     rw [hrp, bP_]
     have e : rE (q :: Q) ++ [rC (rq c)] = rE (q :: (Q ++ [rq c])) := by simp [rE]
     refine ax_ [(1, 5)] rfl rfl rfl ?_ (fun hs => au_f) (fun hs => ?_)
     ·repeat' (first | exact ShrL.nil | refine ShrL.cons rfl rfl rfl rfl (by first | (simp) | rfl | (simp; done) | (simp <;> omega)) ?_)
     ·repeat' (first | exact as_ | refine an_ rfl rfl rfl rfl ?_ ?_)
      all_goals (first | (exact az_ hs e (b3_ _)) | exact au_e)
   ·have hge : V.take j = V := List.take_of_length_le (by omega)
    rw [hge]
    cases hQ : rP V with
    | nil =>
     simp only [dI_]
     refine ac_ (q_z 10 ?_)
     refine cF (al_ ⟨(), trivial, ?_⟩)
     exact s_e []
    | cons q Q =>
     simp only [bP_]
     refine ac_ (q_z 10 ?_)
     refine cF (al_ ⟨(), trivial, ?_⟩)
     exact s_f [(1, 5)]
 rintro _ _
 have htr := c3_ (rP V) (by simp; omega)
 rw [iX_] at htr
 cases hQ : rP V with
 | nil =>
  rw [hQ] at htr
  simp only [dI_]
  refine r_c 3 (htr) ?_
  refine a_z ?_
  refine ae_ (aD_ rfl ?_ ?_)
  ·rw [hV]; rfl
  ·exact ay_ _
 | cons q Q =>
  rw [hQ] at htr
  simp only [bP_]
  refine s_r 3 ?_
  refine a_1 ?_
  refine o_1 (.callS1 rfl rfl rfl (.shut rfl d_n (.nil)) rfl ((FSpec.argE htr (by rw [List.drop_zero]; exact List.take_of_length_le (by simp))))) ?_
  refine a_z ?_
  refine ae_ (aD_ rfl ?_ ?_)
  ·rw [hV]; rfl
  ·exact ay_ _
theorem nM_ : rq (((-1 : Int)) : Rat) = rq (-1) := rfl
theorem fs_rSubP (x y : List RQ) (s t : Nat) (hx : okX x) (hy : okX y) (hs : bdL (vR x) s) (ht : bdL (vR y) t) (ht1 : 1 ≤ t) (hlim : s + t + 128 ≤ 1099511627776) (hxl : x.length ≤ 1000000) (hyl : y.length ≤ 1000000) : FSpec Tryz.prog 45 [.arr (rE x), .arr (rE y)] (.arr (rE (rP (subP (vR x) (vR y))))) := by
 have h1 := dc_ (-1) (by decide)
 rw [nM_] at h1
 have q1 : qs (rq (-1)).1 ≤ 64 := by decide
 have h2 := dW_ y (rq (-1)) t hy (bA_ _) ht (by omega) hyl
 have hb : bdL (vR (rP (aI_ (vR y) (rq (-1)).1))) t := by
  rw [vR_rP]
  exact qt_ ht ht1
 have hlen : (rP (aI_ (vR y) (rq (-1)).1)).length ≤ y.length := by
  have := aU_ (tabP (vR y).length fun i => coP (vR y) i * (rq (-1)).1)
  rw [a0_]; unfold aI_; simp at this ⊢; exact this
 have h3 := jI_ x (rP (aI_ (vR y) (rq (-1)).1)) s t hx (ct_ _) hs hb (by omega) hxl (by omega)
 rw [vR_rP] at h3
 refine f_n Tryz.func45 ?_ ?_
 ·exact aa_ (ay_ x) (aa_ (ay_ y) ab_)
 refine r_z 1 ?_
 refine r_c 6 (h1) ?_
 refine c_s (h2) ?_
 refine c_s (h3) ?_
 refine a_z ?_
 exact ae_ (t_e (ay_ _))
theorem iw_ {x y : List RQ} (hx : okX x) (hy : okX y) : okX (x ++ y) := fun z hz => (List.mem_append.1 hz).elim (hx z) (hy z)
theorem kH_ (n : Nat) : okX (List.replicate n r0) := fun z hz => by rw [List.eq_of_mem_replicate hz]; exact rok_r0
theorem g8_ (x y : List RQ) : vR (x ++ y) = vR x ++ vR y := by simp [vR]
theorem iV_ (n : Nat) : vR (List.replicate n r0) = List.replicate n 0 := by simp [vR, r0]
def zR4 : List AV := [i64 0, .emp, i64 0, .emp]
theorem le_zR4 : LeL zR4 (rC r0) := by
 rw [show rC r0 = [i64 0, .arr [], i64 0, .arr []] from rC_r0]
 exact .cons (.refl _) (.cons .emp (.cons (.refl _) (.cons .emp .nil)))
theorem n9_ : ∀ c ∈ zR4, Closed c := aa_ (ad_ _) (aa_ cs_ (aa_ (ad_ _) (aa_ cs_ ab_)))
theorem iA_ (L : List RQ) : ∀ n, LeLL (List.replicate n zR4 ++ rE L) (rE (List.replicate n r0 ++ L))
 | 0 => LeLL.refl _
 | n + 1 => .cons le_zR4 (iA_ L n)
theorem ll_ (n : Nat) (L : List RQ) : Closed (.arr (List.replicate n zR4 ++ rE L)) := aw_ fun c hc => (List.mem_append.1 hc).elim (fun h => by rw [List.eq_of_mem_replicate h]; exact n9_) (b3_ L c)
theorem FSpec.zerosR {P : Program} {f n : Nat} {L : List RQ} {a r : AV} (h : FSpec P f [a, .arr (rE (List.replicate n r0 ++ L))] r) (ha : Closed a) : FSpec P f [a, .arr (List.replicate n zR4 ++ rE L)] r :=
 h.weak (.cons (Le.refl _) (.cons (Le.arr (iA_ L n)) .nil)) (aa_ ha (aa_ (ll_ n L) ab_))
theorem ok_ (n : Nat) : (List.replicate n zR4).all (·.all AV.one) = true := by
 simp only [List.all_replicate]
 cases n <;> rfl
theorem fs_rMulP (x y : List RQ) (s t B : Nat) (hx : okX x) (hy : okX y) (hs : bdL (vR x) s) (ht : bdL (vR y) t) (hs1 : 1 ≤ s) (hB : ∀ n, n ≤ y.length → bdL (mR (vR x) (vR y) n) B) (hlim : s + t + B + 64 ≤ 1099511627776) (hxl : x.length ≤ 100000) (hyl : y.length ≤ 100000) : FSpec Tryz.prog 46 [.arr (rE x), .arr (rE y)] (.arr (rE (rP (mulP (vR x) (vR y))))) := by
 obtain ⟨m, hm⟩ : ∃ m, m = mR (vR x) (vR y) := ⟨_, rfl⟩
 rw [← hm] at hB
 refine f_n Tryz.func46 ?_ ?_
 ·exact aa_ (ay_ x) (aa_ (ay_ y) ab_)
 refine r_z 1 ?_
 refine r_z 1 ?_
 refine ac_ (r_z 1 ?_)
 refine au_ (fun _ : Unit => ⟨[(5, .arr (rE (rP (m y.length)))), (0, .arr (rE x)), (1, .arr (rE y))], [], 1, 25⟩) (fun _ => True) ?_ ?_
 ·refine ah_ (ao_ (fun j : Nat => ⟨[(6, i64 ((j : Nat) : Int)), (5, .arr (rE (rP (m j)))), (0, .arr (rE x)), (1, .arr (rE y))], [], 1, 25⟩) (fun j => y.length - j) (fun j => j ≤ y.length) 0 (Nat.zero_le _) ?_ ?_)
  ·rw [hm]
   exact s_e []
  rintro j hj
  by_cases hlt : j < y.length
  ·obtain ⟨b, hb, hbv⟩ := fa_ (x := y) (i := j) hlt
   have hbb := vR_bd ht hb
   have hbo := hy b (List.mem_of_getElem? hb)
   have hgt : (rE y)[((j : Nat) : Int).toNat]? = some (rC b) := dH_ hb
   have h1 := dW_ x b s hx hbo hs (by omega) (by omega)
   have hl1 := pf_ (vR x) (vR y) j
   rw [← hm, aZ_] at hl1
   have hl2 := b7_ (vR x) b.1
   rw [aZ_] at hl2
   have hz : bdL (vR (List.replicate j r0 ++ rP (aI_ (vR x) b.1))) (s + qs b.1) := by
    rw [g8_, iV_, vR_rP]
    intro q hq
    rcases List.mem_append.1 hq with h | h
    ·rw [List.eq_of_mem_replicate h]
     have : qs 0 = 1 := by decide
     omega
    ·exact oe_ hs hs1 q h
   have h2 := jI_ (rP (m j)) (List.replicate j r0 ++ rP (aI_ (vR x) b.1)) B (s + qs b.1) (ct_ _) (iw_ (kH_ _) (ct_ _)) (by rw [vR_rP]; exact hB j (by omega)) hz (by omega) (by rw [a0_]; omega) (by rw [List.length_append, List.length_replicate, a0_]; omega)
   have hnx : addP (vR (rP (m j))) (vR (List.replicate j r0 ++ rP (aI_ (vR x) b.1))) = m (j + 1) := by
    rw [vR_rP, g8_, iV_, vR_rP, hm, mR, ← hbv]; rfl
   rw [hnx] at h2
   refine ac_ (q_z 4 ?_)
   refine cT (ag_ (ac_ (ah_ ?_)))
   have h3 := FSpec.zerosR h2 (ay_ _)
   refine r_d hmix 12 ?_
   refine a_6 ?_
   refine i_x hgt ?_
   refine l_x hgt ?_
   refine c_s (h1) ?_
   refine o_2 (.append_l rfl rfl rfl te_27.h rfl rfl rfl rfl rfl d_o (ok_ _) (cL_ _) rfl (.arr (i6_ _)) tz_75.h rfl tb_75.h d_o (by first | (simp [maxLen]; done) | (simp [maxLen]; omega))) ?_
   refine o_1 (.callS1 rfl rfl rfl (.keep (.shut rfl d_n (.nil))) rfl ((FSpec.argE2 h3 (by rw [List.drop_zero]; exact List.take_of_length_le (by simp))))) ?_
   refine a_1 ?_
   refine aj_ (n_k ?_)
   refine r_m 3 ?_
   refine a_z ?_
   refine ⟨j + 1, by omega, hlt, ?_⟩
   exact s_e []
  ·have hge : j = y.length := by omega
   subst hge
   refine ac_ (q_z 4 ?_)
   refine cF (al_ ⟨(), trivial, ?_⟩)
   exact s_e []
 rintro _ _
 refine r_z 2 ?_
 refine ae_ ?_
 have e : m y.length = mulP (vR x) (vR y) := by rw [hm, ← mR_, aZ_]
 rw [e]
 exact t_e (ay_ _)
def dSt (d : List Rat) (s : List Rat × List RQ) : List Rat × List RQ :=
 (addP s.1 (shP ((vR s.2).length - d.length) [leadP (vR s.2) / leadP d]), rP (subP (vR s.2) (mulP d (shP ((vR s.2).length - d.length) [leadP (vR s.2) / leadP d]))))
def dRn (d : List Rat) : Nat → List Rat × List RQ → List Rat × List RQ
 | 0, s => s
 | n + 1, s => if d.length ≤ s.2.length then dRn d n (dSt d s) else s
structure DInv (p d : List Rat) (t L : Nat) (s : List Rat × List RQ) : Prop where
 ok : okX s.2
 tr : trimQ (vR s.2) = vR s.2
 bd : ∃ b, 1 ≤ b ∧ bdL (vR s.2) b ∧ bdL s.1 b ∧ (b + 2 * t + 3) * 2 ^ s.2.length ≤ L
 ln : s.2.length ≤ p.length
 lq : s.1.length ≤ p.length
 ev : ∀ x, evalP p x = evalP s.1 x * evalP d x + evalP (vR s.2) x
theorem DInv.step {p d : List Rat} {t L : Nat} {s : List Rat × List RQ} (h : DInv p d t L s) (hd : trimQ d = d) (hd0 : d ≠ []) (hdt : bdL d t) (ht : 1 ≤ t) (hl : d.length ≤ s.2.length) : DInv p d t L (dSt d s) ∧ (dSt d s).2.length < s.2.length := by
 obtain ⟨q, X⟩ := s
 obtain ⟨ok, tr, ⟨b, b1, bx, bq, hb⟩, ln, lq, ev⟩ := h
 simp only at *
 have hdl := List.length_pos_iff.2 hd0
 have hlt := step_len tr hd hd0 (by rw [aZ_]; exact hl)
 obtain ⟨s1, s2, s3⟩ := oB_ bx hdt b1 ht hd0 ((vR X).length - d.length)
 obtain ⟨a, ha⟩ : ∃ a, a = leadP (vR X) / leadP d := ⟨_, rfl⟩
 unfold dSt
 simp only
 rw [aZ_] at hlt s2 s3 ⊢
 rw [← ha] at hlt s1 s2 s3 ⊢
 refine ⟨⟨ct_ _, ?_, ⟨2 * b + 2 * t + 3, by omega, ?_, ?_, ?_⟩, ?_, ?_, ?_⟩, ?_⟩
 ·rw [vR_rP]; exact ot_ _ _
 ·rw [vR_rP]; exact s3
 ·have h1 : bdL [a] (b + t) := fun x hx => by rw [List.mem_singleton.1 hx]; exact s1
  exact g5_ (nC_ bq (bdL_sh h1 (by omega) _) b1 (by omega)) (by omega)
 ·simp only [a0_]
  obtain ⟨n, hn⟩ : ∃ n, X.length = n + 1 := ⟨X.length - 1, by omega⟩
  have h1 : 2 ^ (subP (vR X) (mulP d (shP (X.length - d.length) [a]))).length ≤ 2 ^ n := Nat.pow_le_pow_right (by decide) (by omega)
  have h2 := Nat.mul_le_mul_left (2 * b + 2 * t + 3 + 2 * t + 3) h1
  have h3 : (b + 2 * t + 3) * 2 ^ X.length = (2 * b + 2 * t + 3 + 2 * t + 3) * 2 ^ n := by
   rw [hn, Nat.pow_succ, show 2 * b + 2 * t + 3 + 2 * t + 3 = (b + 2 * t + 3) * 2 by omega, Nat.mul_assoc, Nat.mul_comm 2 (2 ^ n)]
  omega
 ·simp only [a0_]; omega
 ·have h1 := j6_ q (shP (X.length - d.length) [a])
  rw [dS_] at h1
  simp at h1 ⊢; omega
 ·intro x
  rw [vR_rP, bU_, a3_, dz_, ev x]
  grind
 ·simp only [a0_]; exact hlt
theorem DInv.run {p d : List Rat} {t L : Nat} (hd : trimQ d = d) (hd0 : d ≠ []) (hdt : bdL d t) (ht : 1 ≤ t) : ∀ n s, DInv p d t L s → s.2.length ≤ n → DInv p d t L (dRn d n s) ∧ (dRn d n s).2.length < d.length
 | 0, s, h, hn => by
  have := List.length_pos_iff.2 hd0
  exact ⟨h, by unfold dRn; omega⟩
 | n + 1, s, h, hn => by
  unfold dRn
  by_cases hl : d.length ≤ s.2.length
  ·rw [if_pos hl]
   obtain ⟨h1, h2⟩ := h.step hd hd0 hdt ht hl
   exact DInv.run hd hd0 hdt ht n _ h1 (by omega)
  ·rw [if_neg hl]
   exact ⟨h, by omega⟩
theorem gF_ {x : List RQ} (h : trimQ (vR x) = vR x) : trimR x = x := by
 unfold trimR
 rw [h, aZ_, List.take_length]
theorem hy_ {x : List RQ} (h : trimQ (vR x) = vR x) (hx : x ≠ []) : ∃ y, x.getLastD (rq 0) = y ∧ y.1 = leadP (vR x) ∧ y ∈ x := by
 obtain ⟨n, hn⟩ : ∃ n, x.length = n + 1 := ⟨x.length - 1, by have := List.length_pos_iff.2 hx; omega⟩
 obtain ⟨y, h1, h2, h3⟩ := mp_ (x := x) (n := n) (by rw [h, aZ_]; exact hn)
 rw [gF_ h] at h1
 refine ⟨y, ?_, h2, h3⟩
 rw [List.getLastD_eq_getLast?, List.getLast?_eq_getElem?, hn, Nat.add_sub_cancel, h1]; rfl
theorem CvLL.zerosR {r : Ren} {hp hp' : Nat → Option ABlk} (h : Shr r hp hp') (L : List RQ) : ∀ n, CvLL r hp hp' (List.replicate n zR4 ++ rE L) (rE (List.replicate n r0 ++ L))
 | 0 => bl_ h (b3_ L)
 | n + 1 => by
  refine CvLL.cons (ys := rE (List.replicate n r0 ++ L)) ?_ (CvLL.zerosR h L n)
  show CvL r hp hp' zR4 (rC r0)
  rw [rC_r0]
  exact ai_ (ar_ h (ad_ _)) (ai_ (Cv.emp _) (ai_ (ar_ h (ad_ _)) (ai_ (Cv.emp _) ap_)))
theorem Cv.shutZ {r : Ren} {hp hp' : Nat → Option ABlk} {id sz n k : Nat} {cap : Option Nat} {c : Rat} {B : ABlk} (h : Shr r hp hp') (hi : cellF hp id = some B) (hi' : Dead r hp' id) (he : B.es = List.replicate k zR4 ++ [rC (rq c)]) (hn : n = k + 1) : Cv r hp hp' (.lsl id 0 n cap sz) (.arr (rE (List.replicate k r0 ++ [rq c]))) := by
 subst hn
 refine Cv.shut h hi hi' (by rw [he]; simp) ?_
 rw [he, List.drop_zero, List.take_of_length_le (by simp)]
 exact CvLL.zerosR h [rq c] k
theorem ge_ (x y : List RQ) (s t : Nat) (hx : okX x) (hy : okX y) (hs : bdL (vR x) s) (ht : bdL (vR y) t) (hs1 : 1 ≤ s) (ht1 : 1 ≤ t) (hy0 : nz (vR y)) (hlim : (s + 2 * t + 3) * 2 ^ x.length ≤ 274877906944) (hxl : x.length ≤ 50000) (hyl : y.length ≤ 50000) :
    ∃ (u : List Rat) (v : List RQ), okX v ∧ trimQ u = (divP (vR x) (vR y)).1 ∧ trimQ (vR v) = (divP (vR x) (vR y)).2 ∧ u.length ≤ x.length ∧ v.length ≤ x.length ∧ FSpec Tryz.prog 30 [.arr (rE x), .arr (rE y)] (.tup [.arr (rE (rP u)), .arr (rE v)]) := by
 obtain ⟨d, hd⟩ : ∃ d, d = vR (trimR y) := ⟨_, rfl⟩
 have hd' : d = trimQ (vR y) := hd.trans (d6_ y)
 have hdd : trimQ d = d := by rw [hd']; exact a1_ _
 have hd0 : d ≠ [] := by rw [hd']; exact hy0
 have hdt : bdL d t := by rw [hd']; exact g4_ ht
 have hdl : d.length = (trimR y).length := by rw [hd, aZ_]
 have hyt : (trimR y).length ≤ y.length := by rw [bX_, ← aZ_ y]; exact aU_ _
 have hxt : (trimR x).length ≤ x.length := by rw [bX_, ← aZ_ x]; exact aU_ _
 have hoy := fD_ hy
 have hty : trimQ (vR (trimR y)) = vR (trimR y) := by rw [← hd]; exact hdd
 have i0 : DInv (vR x) d t 274877906944 ([], trimR x) := by
  refine ⟨fD_ hx, by rw [d6_]; exact a1_ _, ⟨s, hs1, by rw [d6_]; exact g4_ hs, (fun _ h => by cases h), ?_⟩, by rw [aZ_]; exact hxt, Nat.zero_le _, fun z => by rw [d6_, bj_, aK_]; grind⟩
  exact Nat.le_trans (Nat.mul_le_mul_left _ (Nat.pow_le_pow_right (by decide) hxt)) hlim
 obtain ⟨⟨u, v⟩, hr⟩ : ∃ r, r = dRn d x.length ([], trimR x) := ⟨_, rfl⟩
 obtain ⟨hi, hlt⟩ := DInv.run hdd hd0 hdt ht1 x.length ([], trimR x) i0 hxt
 rw [← hr] at hi hlt
 have hu := div_uniq (p := vR x) (q := vR y) (u := u) (v := vR v) hy0 (fun z => by rw [hi.ev z, hd', bj_]) (by rw [hi.tr, aZ_, ← hd']; exact hlt)
 refine ⟨u, v, hi.ok, hu.1, hu.2, by have := hi.lq; rwa [aZ_] at this, by have := hi.ln; rwa [aZ_] at this, ?_⟩
 have hyn : trimR y ≠ [] := fun e => hd0 (by rw [hd, e]; rfl)
 obtain ⟨b, hb, hbl, hbm⟩ := hy_ hty hyn
 have hld : leadP d ≠ 0 := bp_ (by rw [hdd]; exact hd0)
 rw [← hd] at hbl
 have hbt : qs b.1 ≤ t := hdt _ (by rw [hd]; exact List.mem_map.2 ⟨b, hbm, rfl⟩)
 refine f_n Tryz.func30 ?_ ?_
 ·exact aa_ (ay_ x) (aa_ (ay_ y) ab_)
 refine r_z 2 ?_
 refine r_c 6 (c3_ x (by omega)) ?_
 refine c_s (c3_ y (by omega)) ?_
 refine a_z ?_
 refine r_z 1 ?_
 have hlb := gV_ (trimR y) b (by omega) (by rw [gF_ hty]; exact hb)
 refine ac_ (au_ (fun _ : Unit => ⟨[(0, .arr (rE v)), (6, .arr (rE (rP u)))], [], 1, 40⟩) (fun _ => True) ?_ ?_)
 ·refine ah_ (ao_ (fun s : List Rat × List RQ => ⟨[(0, .arr (rE s.2)), (1, .arr (rE (trimR y))), (6, .arr (rE (rP s.1)))], [], 1, 40⟩) (fun s => s.2.length) (fun s => DInv (vR x) d t 274877906944 s ∧ ∃ n, s.2.length ≤ n ∧ dRn d n s = (u, v)) ([], trimR x) ⟨i0, x.length, hxt, hr.symm⟩ ?_ ?_)
  ·exact s_e []
  rintro ⟨q, X⟩ ⟨hI, n, hn, hrn⟩
  have hI0 := hI
  obtain ⟨ok, tr, ⟨w, w1, wx, wq, hw⟩, ln, lq, ev⟩ := hI
  simp only at *
  rw [aZ_] at ln lq
  by_cases hle : (trimR y).length ≤ X.length
  ·have hstep := hI0.step hdd hd0 hdt ht1 (by simp only; omega)
   have hXn : X ≠ [] := fun e => by
    have := List.length_pos_iff.2 hyn
    rw [e] at hle
    have h0 : ([] : List RQ).length = 0 := rfl
    omega
   have hX1 := List.length_pos_iff.2 hXn
   obtain ⟨a, hal, hav, ham⟩ := hy_ tr hXn
   have hao := ok a ham
   have hab : qs a.1 ≤ w := wx _ (List.mem_map.2 ⟨a, ham, rfl⟩)
   have hla := gV_ X a (by omega) (by rw [gF_ tr]; exact hal)
   have hwL : 2 * (w + 2 * t + 3) ≤ 274877906944 := by
    have h1 : 2 ^ 1 ≤ 2 ^ X.length := Nat.pow_le_pow_right (by decide) hX1
    have h2 := Nat.mul_le_mul_left (w + 2 * t + 3) h1
    omega
   have hdv := jH_ a b hao (hoy b hbm) (by rw [hbl]; exact hld) (by omega)
   obtain ⟨k, hk⟩ : ∃ k, k = X.length - (trimR y).length := ⟨_, rfl⟩
   obtain ⟨c, hc⟩ : ∃ c, c = a.1 / b.1 := ⟨_, rfl⟩
   rw [← hc] at hdv
   have hck : c = leadP (vR X) / leadP d := by rw [hc, hav, hbl]
   obtain ⟨s1, s2, s3⟩ := oB_ wx hdt w1 ht1 hd0 k
   rw [← hck] at s1 s2 s3
   have hcb : bdL [c] (w + t) := fun z hz => by rw [List.mem_singleton.1 hz]; exact s1
   have hT : vR (List.replicate k r0 ++ [rq c]) = shP k [c] := by rw [g8_, iV_]; rfl
   have hTo : okX (List.replicate k r0 ++ [rq c]) := iw_ (kH_ _) (fun z hz => by rw [List.mem_singleton.1 hz]; exact bA_ _)
   have hTb : bdL (vR (List.replicate k r0 ++ [rq c])) (w + t) := by rw [hT]; exact bdL_sh hcb (by omega) _
   have hTl : (List.replicate k r0 ++ [rq c]).length = k + 1 := by simp
   have hA := jI_ (rP q) (List.replicate k r0 ++ [rq c]) w (w + t) (ct_ _) hTo (by rw [vR_rP]; exact wq) hTb (by omega) (by rw [a0_]; omega) (by omega)
   rw [vR_rP, hT] at hA
   have hM := fs_rMulP (trimR y) (List.replicate k r0 ++ [rq c]) t (w + t) (t + (w + t) + 2) hoy hTo (by rw [← hd]; exact hdt) hTb ht1 (fun i hi => by
    rw [← hd, hT]
    exact g5_ (iz_ hdt ht1 i (by omega)) (by omega)) (by omega) (by omega) (by omega)
   rw [← hd, hT] at hM
   have hS := fs_rSubP X (rP (mulP d (shP k [c]))) w (2 * t + w + 2) ok (ct_ _) wx (by rw [vR_rP]; exact s2) (by omega) (by omega) (by omega) (by
    have h9 := pf_ d (shP k [c]) (shP k [c]).length
    rw [mR_, dS_] at h9
    simp at h9 ⊢; omega)
   rw [vR_rP] at hS
   have hnext : dSt d (q, X) = (addP q (shP k [c]), rP (subP (vR X) (mulP d (shP k [c])))) := by
    unfold dSt; simp only; rw [aZ_, hdl, ← hk, ← hck]
   have hsub : ((X.length : Nat) : Int) - ((trimR y).length : Nat) = (k : Int) := by omega
   refine ac_ (q_z 5 ?_)
   refine cT (ag_ (ah_ (ac_ (r_d hmix 14 ?_))))
   refine a_5 ?_
   refine o_1 (.makeSlice (l := k) (c := k) (by rw [← hsub]; rfl) (by rw [← hsub]; rfl) te_27.h tz_75.h rfl tb_75.h (by first | omega | (simp; done) | (simp; omega)) (by first | omega | (simp; done) | (simp; omega)) (by unfold maxLen; first | omega | (simp; done) | (simp; omega))) ?_
   refine c_s (hla) ?_
   refine c_s (hlb) ?_
   refine c_s (hdv) ?_
   refine a_1 ?_
   refine o_2 (.append_l rfl rfl rfl te_27.h rfl rfl rfl rfl rfl d_o (ok_ _) rfl rfl (.lsl rfl (nle rfl)) tz_75.h rfl tb_75.h d_o (by first | (simp [maxLen]; done) | (simp [maxLen]; omega))) ?_
   refine a_1 ?_
   refine aj_ (n_k ?_)
   refine AWp.ent (st' := ⟨[(0, .arr (rE X)), (1, .arr (rE (trimR y))), (6, .arr (rE (rP q))), (7, .arr (rE (List.replicate k r0 ++ [rq c])))], [], 1, 40⟩) ?_ ?_
   ·refine ax_ [] rfl rfl rfl au_r (fun hs => ?_) (fun hs => ?_)
    ·repeat' (first | exact aX_ | refine aL_ rfl ?_ ?_)
     all_goals (first | (exact Cv.shutZ hs rfl (cd_ rfl) rfl rfl) | exact au_c)
    ·repeat' (first | exact as_ | refine an_ rfl rfl rfl rfl ?_ ?_)
     all_goals (first | exact au_e | (refine aF_ ?_; repeat' (first | exact ap_ | refine ai_ ?_ ?_)))
     all_goals (first | (exact Cv.shutZ hs rfl (cd_ rfl) rfl rfl) | exact au_c)
   refine r_c 4 (hA) ?_
   refine a_z ?_
   refine r_m 6 ?_
   refine c_s (hM) ?_
   refine c_s (hS) ?_
   refine a_z ?_
   refine ⟨dSt d (q, X), hstep.2, ⟨hstep.1, ?_⟩, ?_⟩
   ·cases n with
    | zero => omega
    | succ n =>
     refine ⟨n, by have := hstep.2; simp only at this; omega, ?_⟩
     rw [dRn, if_pos (by simp only; omega)] at hrn
     exact hrn
   ·rw [hnext]
    exact s_e []
  ·have hfin : (q, X) = (u, v) := by
    rw [← hrn]
    cases n with
    | zero => rfl
    | succ n => rw [dRn, if_neg (by simp only; omega)]
   cases hfin
   refine ac_ (q_z 5 ?_)
   refine cF (al_ ⟨(), trivial, ?_⟩)
   exact s_e []
 rintro _ _
 refine r_z 4 ?_
 refine ae_ (Fin.many ⟨_, _, rfl, rfl, ⟨_, _, rfl, rfl, rfl⟩⟩ (nle rfl) ?_)
 exact ai_ (ar_ at_ (ay_ _)) (ai_ (ar_ at_ (ay_ _)) ap_)
end Go.Proofs.YtdhedjbmdnnbkaaGreatDoor
namespace Go.Proofs.YtdhedjbmdnnbkaaGreatDoor
open Go.Abs Go.Deep Go.RowKit
set_option maxRecDepth 20000
theorem ess_of {M : Nat → Prop} {β : Nat → Option (Nat × Nat)} {w : World} {b s off : Nat} {f : Nat → List AV} : ∀ (n j : Nat), (∀ i, i < j + n → (f i).length = s ∧ RVcs M β w b (f i) (off + i * s)) → RVess M β w b s ((List.range' j n).map f) (off + j * s)
 | 0, _, _ => trivial
 | n + 1, j, h => by
  rw [List.range'_succ, List.map_cons]
  refine ⟨(h j (by omega)).1, (h j (by omega)).2, ?_⟩
  have := ess_of (M := M) (β := β) (w := w) (b := b) (s := s) (off := off) n (j + 1) (fun i hi => h i (by omega))
  rwa [Nat.add_mul, Nat.one_mul, ← Nat.add_assoc] at this
theorem ks_ {w : World} {b o : Nat} {v : Value} (h : w.cell? ⟨b, o, none⟩ = some v) : ∃ N, aC_ w b = some N := by
 unfold World.cell? at h
 unfold aC_
 split at h
 ·rename_i c _ _ e; rw [show w.heap[b]? = _ from e]; exact ⟨c.size, rfl⟩
 ·cases h
theorem tyS : (Tryz.prog).underlying 22 = some (.slice 82) := by kernel_rfl
theorem tyN : ∃ f0 f1 f2, (Tryz.prog).underlying 82 = some (.struct #[f0, f1, f2]) ∧ f0.type = 2 ∧ f0.offset = 0 ∧ f1.type = 2 ∧ f1.offset = 1 ∧ f2.type = 5 ∧ f2.offset = 2 :=
 ⟨{ name := "N", type := 2, offset := 0, embedded := false, tag := "", pkgPath := "", byteOffset := 0 }, { name := "D", type := 2, offset := 1, embedded := false, tag := "", pkgPath := "", byteOffset := 8 }, { name := "Pow", type := 5, offset := 2, embedded := false, tag := "", pkgPath := "", byteOffset := 16 }, by kernel_rfl, rfl, rfl, rfl, rfl, rfl, rfl⟩
theorem tyc82 : (Tryz.prog).cellsOf 82 = 3 := by kernel_rfl
theorem tyc2 : (Tryz.prog).cellsOf 2 = 1 := by kernel_rfl
theorem tyc5 : (Tryz.prog).cellsOf 5 = 1 := by kernel_rfl
theorem tyu2 : (Tryz.prog).underlying 2 = some (.int .i64) := by kernel_rfl
theorem tyu5 : (Tryz.prog).underlying 5 = some (.int .u8) := by kernel_rfl
theorem o7_ {H : Type} {enc : TypeId × Value → H} {W : World} {base n : Nat} {spare : Nat → Bool} {held : Bool} {cs : List Value} {x : DataW H × List MemPlace} (h : DataW.trod enc Tryz.prog W base spare held n 82 cs = some x) :
    ∃ r : NRow, i64r r.1 ∧ i64r r.2.1 ∧ r.2.2 ≤ 255 ∧ cs = [.int .i64 r.1, .int .i64 r.2.1, .int .u8 r.2.2] := by
 obtain ⟨f0, f1, f2, hu, h1, h2, h3, h4, h5, h6⟩ := tyN
 obtain ⟨y0, y1, y2, m, _, hl, g0, g1, g2⟩ := trod_struct3 hu h
 rw [h1, h2, tyc2] at g0
 rw [h3, h4, tyc2] at g1
 rw [h5, h6, tyc5] at g2
 rw [tyc82] at hl
 obtain ⟨n0, e0, _, w0⟩ := DataW.trod_int tyu2 g0
 obtain ⟨n1, e1, _, w1⟩ := DataW.trod_int tyu2 g1
 obtain ⟨n2, e2, _, w2⟩ := DataW.trod_int tyu5 g2
 match cs, hl with
 | [c0, c1, c2], _ =>
  simp at e0 e1 e2
  subst e0; subst e1; subst e2
  have b2 := bounds_u8 w2
  refine ⟨(n0, n1, n2.toNat), bounds_i64 w0, bounds_i64 w1, ?_, ?_⟩
  ·show n2.toNat ≤ 255; omega
  ·show _ = [_, _, Value.int .u8 ((n2.toNat : Nat) : Int)]
   rw [Int.toNat_of_nonneg b2.1]
theorem rows_of {H : Type} {enc : TypeId × Value → H} {W : World} {a : Option Addr} {len cap : Nat} {d : DataW H} {ps : List MemPlace} (h : DataW.Trod enc Tryz.prog W 0 (fun _ => true) true 22 (.slice a len cap) d ps) :
    ∃ l : List NRow, okR l ∧ RV (fun _ => False) (fun _ => none) W (.arr (nR l)) (.slice a len cap) := by
 obtain ⟨fuel, hf⟩ := h
 rcases open_slice tyS hf with ⟨hcs, _⟩ | ⟨x, len', cap', m, n, D, Pl, hcs, _, hl, hm, hmm, _, hx⟩
 ·simp [Value.cells] at hcs
  obtain ⟨rfl, rfl, rfl⟩ := hcs
  exact ⟨[], (fun r hr => by cases hr), none, 0, rfl, Nat.le_refl _, by decide, .inl rfl⟩
 ·simp [Value.cells] at hcs
  obtain ⟨rfl, rfl, rfl⟩ := hcs
  simp only [if_true] at hmm
  have hmc : m = cap := hmm
  rw [hmc] at hx
  rw [tyc82] at hx
  have hx' : ∀ i, i < len → ∃ r : NRow, (i64r r.1 ∧ i64r r.2.1 ∧ r.2.2 ≤ 255) ∧ W.cells? 0 (x.add (i * 3)) 3 = some [.int .i64 r.1, .int .i64 r.2.1, .int .u8 r.2.2] := fun i hi => by
   obtain ⟨cs', g1, g2⟩ := hx i (by omega)
   obtain ⟨r, r1, r2, r3, e⟩ := o7_ g2
   exact ⟨r, ⟨r1, r2, r3⟩, by rw [g1, e]⟩
  obtain ⟨R, hR⟩ := choose_lt (α := NRow) hx'
  refine ⟨(List.range len).map R, ?_, some x, cap, by simp [nR], by simpa [nR] using hl, hm, ?_⟩
  ·intro r hr
   obtain ⟨i, hi, rfl⟩ := List.mem_map.1 hr
   exact (hR i (List.mem_range.1 hi)).1
  ·by_cases h0 : len = 0
   ·subst h0; exact .inl rfl
   ·right
    have c : ∀ i, i < len → ∀ j (v : Value), [.int .i64 (R i).1, .int .i64 (R i).2.1, .int .u8 (R i).2.2][j]? = some v → W.cell? (x.add (i * 3 + j)) = some v := fun i hi j v hv => by
     have hj : j < 3 := by
      have := (List.getElem?_eq_some_iff.1 hv).1
      simpa using this
     have := (World.cells?_some (hR i hi).2).2.2 j hj
     rw [hv, Go.Deep.add_add] at this
     exact this
    have c0 := c 0 (by omega) 0 _ rfl
    obtain ⟨b, off, spot⟩ := x
    have hspot : spot = none := by simpa [Addr.add] using World.cell?_spot c0
    subst hspot
    have hadd : ∀ k, Addr.add ⟨b, off, none⟩ k = ⟨b, off + k, none⟩ := fun k => by
     unfold Addr.add
     by_cases hk : k = 0
     ·simp [hk]
     ·simp [hk]
    refine ⟨b, off, 3, rfl, ks_ (by rw [hadd] at c0; exact c0), (fun h => h), ?_⟩
    have := ess_of (M := fun _ => False) (β := fun _ => none) (w := W) (b := b) (s := 3) (off := off) (f := fun i => nuC (R i).1 (R i).2.1 (R i).2.2) len 0 (fun i hi => ⟨rfl, ?_⟩)
    ·rw [Nat.zero_mul, Nat.add_zero, ← List.range_eq_range'] at this
     rw [nR, List.map_map]
     exact this
    ·have hi' : i < len := by omega
     refine ⟨⟨_, ?_, rfl⟩, ⟨_, ?_, rfl⟩, ⟨_, ?_, rfl⟩, trivial⟩
     ·have := c i hi' 0 _ rfl; rw [hadd] at this; exact this
     ·have := c i hi' 1 _ rfl; rw [hadd] at this; rw [Nat.add_assoc]; exact this
     ·have := c i hi' 2 _ rfl; rw [hadd] at this; rw [Nat.add_assoc, Nat.add_assoc]; exact this
end Go.Proofs.YtdhedjbmdnnbkaaGreatDoor
namespace Go.Proofs.YtdhedjbmdnnbkaaGreatDoor
open Go.Abs
set_option maxRecDepth 20000
theorem of_ {p : List Rat} {s : Nat} (h : bdL p s) (hs : 1 ≤ s) (hl : p.length ≤ 1000000) : bdL (aB_ p) (s + 64) := fun q hq => by
 have h1 := be_ hq
 unfold tabP at h1
 obtain ⟨i, hi, rfl⟩ := List.mem_map.1 h1
 have h2 := c4_ (coP p (i + 1)) ((i + 1 : Nat) : Int)
 have h3 := i7_ (i + 1) (by have := List.mem_range.1 hi; omega)
 have h4 := bd_co' h hs (i + 1)
 omega
theorem mxL_le {p : List Rat} {s : Nat} (h : bdL p s) (hs : 1 ≤ s) : mxL p ≤ s := by
 unfold mxL
 induction p with
 | nil => exact hs
 | cons a l ih =>
  have h1 := h a (List.mem_cons_self ..)
  have h2 := ih fun q hq => h q (List.mem_cons_of_mem _ hq)
  rw [List.foldr_cons]
  omega

theorem hI_ (x : List RQ) (L : Nat) (hx : okX x) (hs : bdL (vR x) L) (hL : 1 ≤ L) (hlim : 2 * L + 64 ≤ 1099511627776) (hl : x.length ≤ 1000000) : FSpec Tryz.prog 153 [.arr (rE x)] (.arr (rE (rP (a9_ (vR x))))) := by
 have hi1 : FSpec Tryz.prog 51 [i64 1] (.agg (rC (rq 1))) := dc_ 1 (by decide)
 refine f_n Tryz.func153 ?_ ?_
 ·exact aa_ (ay_ x) ab_
 refine r_z 1 ?_
 refine ac_ (r_c 3 (do_ x (by omega)) ?_)
 refine a_z ?_
 refine af_ rfl (fun h1 => ?_) (fun h1 => ?_)
 ·have e : trimQ (vR x) = [] := degP_neg.1 (by simpa using h1)
  have em : a9_ (vR x) = [] := by unfold a9_; rw [if_pos e]
  refine r_z 1 ?_
  refine ae_ ?_
  rw [em]
  exact Fin.tmpN rfl
 ·have hz : nz (vR x) := fun e => by have := degP_neg.2 e; simp at h1; omega
  obtain ⟨n, hn⟩ : ∃ n, (trimQ (vR x)).length = n + 1 := ⟨(trimQ (vR x)).length - 1, by have := List.length_pos_iff.2 hz; omega⟩
  obtain ⟨y, y1, y2, y3⟩ := mp_ hn
  have yx : y ∈ x := y3
  have yo : rok y := hx y yx
  have yq : qs y.1 ≤ L := by rw [y2]; exact hw_ hs hL
  have y0 : y.1 ≠ 0 := by rw [y2]; exact bp_ hz
  have hy : (trimR x).getLastD (rq 0) = y := by
   rw [List.getLastD_eq_getLast?, List.getLast?_eq_getElem?, bX_, hn, Nat.add_sub_cancel, y1]; rfl
  have hdv := jH_ (rq 1) y (bA_ 1) yo y0 (by have : qs ((rq 1).1) = 1 := it_
                                             omega)
  have hk : qs (1 / y.1) ≤ 1 + L := Nat.le_trans (ek_ _ _) (by have := it_; omega)
  have hsc := dW_ x (rq (1 / y.1)) L hx (bA_ _) hs (by show L + qs (1 / y.1) ≤ _; omega) hl
  have em : a9_ (vR x) = aI_ (vR x) (1 / y.1) := by unfold a9_; rw [if_neg hz, y2]
  refine ag_ (r_c 7 (hi1) ?_)
  refine c_s (gV_ x y hl hy) ?_
  refine c_s (hdv) ?_
  refine c_s (hsc) ?_
  refine a_z ?_
  refine ae_ ?_
  rw [em]
  exact t_e (ay_ _)
def gR  : List RQ × List RQ → AState
 | (x, y) => ⟨[(0, .arr (rE x)), (1, .arr (rE y))], [], 1, 21⟩
theorem gR_mk  (x : List RQ) (y : List RQ) : gR  (x, y) = ⟨[(0, .arr (rE x)), (1, .arr (rE y))], [], 1, 21⟩ := rfl
theorem fs_rGcd (f B : Nat) (x y : List RQ) (g : List Rat) (hx : okX x) (hy : okX y) (hz : gsz f (vR x) (vR y) B) (hg : gcdM f (vR x) (vR y) = some g) (hB : 1 ≤ B) (hlim : (3 * B + 3) * 256 ≤ 274877906944) (hxl : x.length ≤ 8) (hyl : y.length ≤ 8) :
    FSpec Tryz.prog 152 [.arr (rE x), .arr (rE y)] (.arr (rE (rP g))) := by
 refine f_n Tryz.func152 ?_ ?_
 ·exact aa_ (ay_ x) (aa_ (ay_ y) ab_)
 refine r_z 1 ?_
 refine ac_ (au_ (fun p : List RQ => ⟨[(0, .arr (rE p))], [], 1, 21⟩) (fun p => okX p ∧ bdL (vR p) B ∧ p.length ≤ 8 ∧ a9_ (vR p) = g) ?_ ?_)
 ·refine ah_ (ao_ (fun s : Nat × List RQ × List RQ => gR (s.2.1, s.2.2)) (fun s => s.1) (fun s => okX s.2.1 ∧ okX s.2.2 ∧ gsz s.1 (vR s.2.1) (vR s.2.2) B ∧ gcdM s.1 (vR s.2.1) (vR s.2.2) = some g ∧ s.2.1.length ≤ 8 ∧ s.2.2.length ≤ 8) (f, x, y) ⟨hx, hy, hz, hg, hxl, hyl⟩ ?_ ?_)
  ·simp only [gR_mk]
   exact s_e []
  rintro ⟨f, x, y⟩ ⟨hx, hy, hz, hg, hxl, hyl⟩
  simp only at hx hy hz hg hxl hyl
  simp only [gR_mk]
  cases f with
  | zero => cases hg
  | succ f =>
   rw [gcdM] at hg
   obtain ⟨hbx, hz⟩ := hz
   refine ac_ (r_c 3 (do_ y (by omega)) ?_)
   refine a_z ?_
   refine af_ rfl (fun h1 => ?_) (fun h1 => ?_)
   ·have hn : nz (vR y) := fun e => by have := degP_neg.2 e; simp at h1; omega
    obtain ⟨hby, hz⟩ := hz hn
    rw [if_neg hn] at hg
    split at hg
    case isFalse => cases hg
    case isTrue hok =>
    have hp2 : (B + 2 * B + 3) * 2 ^ x.length ≤ 274877906944 := Nat.le_trans (Nat.mul_le_mul (show B + 2 * B + 3 ≤ 3 * B + 3 by omega) (Nat.pow_le_pow_right (by decide) hxl)) hlim
    obtain ⟨u, v, vo, v1, v2, v3, v4, hdv⟩ := ge_ x y B B hx hy hbx hby hB hB hn hp2 (by omega) (by omega)
    have hbr : bdL (vR v) 274877906944 := by
     refine df_ fun i => ?_
     rw [← a6_, v2]
     have := (hY_ (L := 274877906944) hbx hby hB hB hn (Nat.le_trans (Nat.mul_le_mul (Nat.pow_le_pow_right (by decide) (show _ ≤ 8 by
      have h1 := aU_ (vR x)
      have h2 := List.length_pos_iff.2 hn
      rw [aZ_] at h1
      omega)) (show B + 2 * B + 1 ≤ 3 * B + 3 by omega)) (by rw [Nat.mul_comm]; exact hlim))).2
     exact cq_ this (by decide) i
    have hmo := hI_ v 274877906944 vo hbr (by decide) (by decide) (by omega)
    rw [← hs_, v2] at hmo
    have hml := eU_ (divP (vR x) (vR y)).2
    have hdl : (divP (vR x) (vR y)).2.length ≤ 8 := by
     have := (e1_ (p := vR x) (q := vR y)).2
     rw [aZ_] at this; omega
    refine ag_ (ah_ (r_c 8 (hdv) ?_))
    refine a_z ?_
    refine r_m 5 ?_
    refine c_s (hmo) ?_
    refine a_z ?_
    refine ⟨(f, y, rP (a9_ (divP (vR x) (vR y)).2)), Nat.lt_succ_self f, ⟨hy, ct_ _, by rw [vR_rP]; exact hz, by rw [vR_rP]; exact hg, hyl, by rw [a0_]; omega⟩, ?_⟩
    simp only [gR_mk]
    exact s_e []
   ·have hn : trimQ (vR y) = [] := degP_neg.1 (by simpa using h1)
    rw [if_pos hn] at hg
    split at hg
    case isFalse => cases hg
    case isTrue =>
    cases hg
    refine al_ ⟨x, ⟨hx, hbx, hxl, rfl⟩, ?_⟩
    exact s_e []
 rintro p ⟨po, pb, pl, pe⟩
 have hmo := hI_ p B po pb hB (by omega) (by omega)
 rw [pe] at hmo
 refine r_c 3 (hmo) ?_
 refine a_z ?_
 exact ae_ (t_e (ay_ _))
theorem fh_ (f B : Nat) (x : List RQ) (s : List Rat) (hx : okX x) (hs : sqfM f (vR x) = some s) (hz : gsz f (vR x) (aB_ (vR x)) B) (hB : 1 ≤ B) (hlim : (3 * B + 3) * 256 ≤ 274877906944) (hgB : ∀ g, gcdM f (vR x) (aB_ (vR x)) = some g → bdL g B ∧ g.length ≤ 1000) (hxl : x.length ≤ 8) :
    FSpec Tryz.prog 71 [.arr (rE x)] (.arr (rE (rP s))) := by
 unfold sqfM at hs
 split at hs
 case isFalse => cases hs
 case isTrue hsm =>
 cases hg : gcdM f (vR x) (aB_ (vR x)) with
 | none => rw [hg] at hs; cases hs
 | some g =>
  rw [hg, Option.bind_some] at hs
  split at hs
  case isFalse => cases hs
  case isTrue hok =>
  cases hs
  have hdl := cX_ (vR x)
  rw [aZ_] at hdl
  have hbx : bdL (vR x) B := by
   cases f with
   | zero => cases hg
   | succ f => exact hz.1
  obtain ⟨hgb, hgl⟩ := hgB g hg
  have hde := iE_ x B hx hbx (by omega) (by omega)
  have hgc := fs_rGcd f B x (rP (aB_ (vR x))) g hx (ct_ _) (by rw [vR_rP]; exact hz) (by rw [vR_rP]; exact hg) hB hlim hxl (by rw [a0_]; omega)
  have hp2 : (B + 2 * B + 3) * 2 ^ x.length ≤ 274877906944 := Nat.le_trans (Nat.mul_le_mul (show B + 2 * B + 3 ≤ 3 * B + 3 by omega) (Nat.pow_le_pow_right (by decide) hxl)) hlim
  obtain ⟨u, v, vo, v1, v2, v3, v4, hdv⟩ := ge_ x (rP g) B B hx (ct_ _) hbx (by rw [vR_rP]; exact hgb) hB hB (by rw [vR_rP]; exact hok.1) hp2 (by omega) (by rw [a0_]; omega)
  rw [vR_rP] at v1 v2
  have hbr : bdL u 274877906944 := by
   refine df_ fun i => ?_
   rw [← a6_, v1]
   have := (hY_ (L := 274877906944) hbx hgb hB hB hok.1 (Nat.le_trans (Nat.mul_le_mul (Nat.pow_le_pow_right (by decide) (show _ ≤ 8 by
    have h1 := aU_ (vR x)
    have h2 := List.length_pos_iff.2 hok.1
    rw [aZ_] at h1
    omega)) (show B + 2 * B + 1 ≤ 3 * B + 3 by omega)) (by rw [Nat.mul_comm]; exact hlim))).1
   exact cq_ this (by decide) i
  have hmo := hI_ (rP u) 274877906944 (ct_ _) (by rw [vR_rP]; exact hbr) (by decide) (by decide) (by rw [a0_]; omega)
  rw [vR_rP, ← hs_, v1] at hmo
  refine f_n Tryz.func71 ?_ ?_
  ·exact aa_ (ay_ x) ab_
  refine r_z 1 ?_
  refine r_c 11 (hde) ?_
  refine c_s (hgc) ?_
  refine c_s (hdv) ?_
  refine a_z ?_
  refine r_c 3 (hmo) ?_
  refine a_z ?_
  exact ae_ (t_e (ay_ _))
theorem rP_get {l : List Rat} {i : Nat} (h : i < l.length) : (rE (rP l))[((i : Nat) : Int).toNat]? = some (rC (rq (coP l i))) :=
 dH_ (show (rP l)[i]? = some (rq (coP l i)) by rw [rP, List.getElem?_map, bn_ h]; rfl)
def kR (X : List RQ) : Nat × Nat → AState
 | (i, k) => ⟨[(0, .arr (rE X)), (3, .lptr 1 0 0), (4, i64 i)], [(1, some ⟨73, 2, [zZ (k : Int)]⟩)], 2, 48⟩
theorem kR_mk (X : List RQ) (i : Nat) (k : Nat) : kR X (i, k) = ⟨[(0, .arr (rE X)), (3, .lptr 1 0 0), (4, i64 i)], [(1, some ⟨73, 2, [zZ (k : Int)]⟩)], 2, 48⟩ := rfl
def nR2 (l : List Rat) : Nat × Nat → AState
 | (i, g) => ⟨[(0, .arr (rE (rP l))), (5, .lptr 1 0 0), (6, i64 i)], [(1, some ⟨73, 2, [zZ (g : Int)]⟩)], 2, 48⟩
theorem o9_ (l : List Rat) (i : Nat) (g : Nat) : nR2 l (i, g) = ⟨[(0, .arr (rE (rP l))), (5, .lptr 1 0 0), (6, i64 i)], [(1, some ⟨73, 2, [zZ (g : Int)]⟩)], 2, 48⟩ := rfl
theorem ed_ (x : List RQ) (s : Nat) (hx : okX x) (hs : bdL (vR x) s) (hs1 : 1 ≤ s) (hz : nz (vR x)) (hlim : (x.length + 4) * s ≤ 137438953472) (hl : x.length ≤ 1000000) :
    FSpec Tryz.prog 161 [.arr (rE x)] (.arr (rE (rP (primP (vR x))))) := by
 have hi1 : FSpec Tryz.prog 51 [i64 1] (.agg (rC (rq 1))) := dc_ 1 (by decide)
 obtain ⟨X, hX⟩ : ∃ X, X = trimR x := ⟨_, rfl⟩
 obtain ⟨t, ht⟩ : ∃ t, t = trimQ (vR x) := ⟨_, rfl⟩
 have hXt : vR X = t := by rw [hX, ht, d6_]
 have hXl : X.length = t.length := by rw [← hXt, aZ_]
 have hXx : X.length ≤ x.length := by rw [hX, bX_, ← aZ_ x]; exact aU_ _
 have hXo : okX X := by rw [hX]; exact fD_ hx
 have hbt : bdL t s := by rw [ht]; exact g4_ hs
 have hts : t.length * s ≤ x.length * s := Nat.mul_le_mul_right _ (by omega)
 rw [Nat.add_mul] at hlim
 obtain ⟨K, hK⟩ : ∃ K, K = denP t 1 := ⟨_, rfl⟩
 have hK0 : K ≠ 0 := by rw [hK]; exact l9_ t (by decide)
 have hKb : bl K ≤ 1 + t.length * s := by rw [hK]; exact p8_ t 1 hbt
 have hKq := qs_nQ (n := K) (k := 1 + t.length * s) hKb (by omega)
 obtain ⟨l, hle⟩ : ∃ l, l = aI_ t (nQ K) := ⟨_, rfl⟩
 have hll : l.length ≤ t.length := by rw [hle]; exact b7_ _ _
 have hlb : bdL l (s + (1 + t.length * s)) := by rw [hle]; exact oO_ hbt hs1 hKq
 obtain ⟨G, hG⟩ : ∃ G, G = gcdN l 0 := ⟨_, rfl⟩
 have hdoc := prim_doc hz
 rw [← ht, ← hK, ← hle, ← hG] at hdoc
 have hG0 : nQ G ≠ 0 := fun e => hdoc.2 (nQ_zero.1 e)
 rw [← hdoc.1]
 refine f_n Tryz.func161 ?_ ?_
 ·exact aa_ (ay_ x) ab_
 refine r_z 1 ?_
 refine r_c 3 (c3_ x (by omega)) ?_
 refine a_z ?_
 rw [← hX]
 refine r_c 3 (dP_ 1 (by decide)) ?_
 refine a_z ?_
 refine ac_ (r_z 1 ?_)
 refine au_ (fun _ : Unit => ⟨[(0, .arr (rE X)), (3, .lptr 1 0 0)], [(1, some ⟨73, 2, [zZ (K : Int)]⟩)], 2, 48⟩) (fun _ => True) ?_ ?_
 ·refine ah_ (ao_ (kR X) (fun x => X.length - x.1) (fun x => x.1 ≤ X.length ∧ bl x.2 + (t.length - x.1) * s ≤ 1 + t.length * s ∧ denP (t.drop x.1) x.2 = K) (0, 1) ⟨Nat.zero_le _, by simp only [eq_, Nat.sub_zero]; omega, by rw [hK]; rfl⟩ ?_ ?_)
  ·simp only [kR_mk]
   exact s_e [(1, 3)]
  rintro ⟨i, k⟩ ⟨hi, hkb, hk⟩
  simp only at hi hkb hk
  rw [kR_mk]
  refine ac_ (r_z 4 ?_)
  refine af_ rfl (fun h => ?_) (fun h => ?_)
  ·refine ag_ ?_
   have hlt : i < X.length := by simpa using h
   obtain ⟨y, hy, hyc⟩ := fa_ hlt
   have hym := List.mem_of_getElem? hy
   have hgt : (rE X)[((i : Nat) : Int).toNat]? = some (rC y) := dH_ hy
   rw [hXt] at hyc
   have hc := cq_ hbt hs1 i
   rw [← hyc] at hc
   have hd := bv_ y.1
   rw [gi_ (show i < t.length by omega), denP, ← hyc] at hk
   have e1 : (t.length - i) * s = (t.length - (i + 1)) * s + s := by
    rw [show t.length - i = t.length - (i + 1) + 1 by omega, Nat.succ_mul]
   have hmb := dD_ k y.1.den
   have hmu := dy_ (k : Int) (y.1.den : Int) (by unfold zl; rw [Int.natAbs_natCast]; omega) (by unfold zl; rw [Int.natAbs_natCast]; omega)
   rw [← Int.natCast_mul] at hmu
   refine ac_ (ah_ (r_d hmix 8 ?_))
   refine a_3 ?_
   refine i_x hgt ?_
   refine l_x hgt ?_
   refine c_s (fs_rDen y (hXo y hym)) ?_
   refine c_s (hmu) ?_
   refine a_1 ?_
   refine aj_ (n_k ?_)
   refine r_m 3 ?_
   refine a_z ?_
   refine ⟨(i + 1, k * y.1.den), by simp only; omega, ⟨hlt, by simp only; omega, hk⟩, ?_⟩
   simp only [kR_mk]
   exact s_e []
  ·have hge : i = X.length := by
    have : ¬ i < X.length := by simpa using h
    omega
   subst hge
   rw [hXl, List.drop_length] at hk
   have hk' : k = K := hk
   subst hk'
   refine al_ ⟨(), trivial, ?_⟩
   exact s_e []
 rintro _ _
 have hsc := dW_ X (rq (nQ K)) s hXo (bA_ _) (by rw [hXt]; exact hbt) (by show s + qs (nQ K) ≤ _; omega) (by omega)
 rw [hXt] at hsc
 have hsc' : FSpec Tryz.prog 48 [.arr (rE X), .agg (rC (rq (nQ K)))] (.arr (rE (rP l))) := by rw [hle]; exact hsc
 refine r_c 5 (kS_ (K : Int)) ?_
 refine c_s (hsc') ?_
 refine a_z ?_
 refine r_c 3 (dP_ 0 (by decide)) ?_
 refine a_z ?_
 refine ac_ (r_z 1 ?_)
 refine au_ (fun _ : Unit => ⟨[(0, .arr (rE (rP l))), (5, .lptr 1 0 0)], [(1, some ⟨73, 2, [zZ (G : Int)]⟩)], 2, 48⟩) (fun _ => bl G ≤ s + (1 + t.length * s)) ?_ ?_
 ·refine ah_ (ao_ (nR2 l) (fun x => l.length - x.1) (fun x => x.1 ≤ l.length ∧ bl x.2 ≤ s + (1 + t.length * s) ∧ gcdN (l.drop x.1) x.2 = G) (0, 0) ⟨Nat.zero_le _, by rw [qp_]; exact Nat.zero_le _, by rw [hG]; rfl⟩ ?_ ?_)
  ·simp only [o9_]
   exact s_e [(1, 5)]
  rintro ⟨i, g⟩ ⟨hi, hgb, hg⟩
  simp only at hi hgb hg
  rw [o9_]
  refine ac_ (r_z 4 ?_)
  refine af_ rfl (fun h => ?_) (fun h => ?_)
  ·refine ag_ ?_
   have hlt : i < l.length := by simpa using h
   have hgt := rP_get hlt
   have hc := cq_ hlb (by omega) i
   have hn := bJ_ (absQ (coP l i))
   rw [kB_] at hn
   rw [gi_ hlt, gcdN] at hg
   have hgg := qr_ g (absQ (coP l i)).num.natAbs
   have hzg := pH_ (g : Int) (absQ (coP l i)).num (by rw [Int.natAbs_natCast]; omega) (by omega)
   rw [Int.natAbs_natCast] at hzg
   refine ac_ (ah_ (r_d hmix 9 ?_))
   refine a_3 ?_
   refine i_x hgt ?_
   refine l_x hgt ?_
   refine c_s (pA_ (rq (coP l i)) (bA_ _)) ?_
   refine c_s (fs_rNum (rq (absQ (coP l i)))) ?_
   refine c_s (hzg) ?_
   refine a_1 ?_
   refine aj_ (n_k ?_)
   refine r_m 3 ?_
   refine a_z ?_
   refine ⟨(i + 1, Nat.gcd g (absQ (coP l i)).num.natAbs), by simp only; omega, ⟨hlt, by simp only; omega, hg⟩, ?_⟩
   simp only [o9_]
   exact s_e []
  ·have hge : i = l.length := by
    have : ¬ i < l.length := by simpa using h
    omega
   subst hge
   rw [List.drop_length] at hg
   have hg' : g = G := hg
   subst hg'
   refine al_ ⟨(), hgb, ?_⟩
   exact s_e []
 rintro _ hGb
 have hGq := qs_nQ (n := G) (k := s + (1 + t.length * s)) hGb (by omega)
 have q1 : qs ((rq 1).1) = 1 := it_
 have hdv := jH_ (rq 1) (rq (nQ G)) (bA_ 1) (bA_ _) hG0 (by rw [q1]; show 1 + qs (nQ G) ≤ _; omega)
 have hqd := ek_ 1 (nQ G)
 have q2 := it_
 have hsc2 := dW_ (rP l) (rq (1 / nQ G)) (s + (1 + t.length * s)) (ct_ _) (bA_ _) (by rw [vR_rP]; exact hlb) (by show _ + qs (1 / nQ G) ≤ _; omega) (by rw [a0_]; omega)
 rw [vR_rP] at hsc2
 have hsc2' : FSpec Tryz.prog 48 [.arr (rE (rP l)), .agg (rC (rq (1 / nQ G)))] (.arr (rE (rP (aI_ l (1 / nQ G))))) := hsc2
 refine ac_ (r_d hmix 7 ?_)
 refine c_s (hi1) ?_
 refine c_s (kS_ (G : Int)) ?_
 refine c_s (hdv) ?_
 refine c_s (hsc2') ?_
 refine a_1 ?_
 refine aj_ (n_k ?_)
 exact ae_ (t_e (ay_ _))
end Go.Proofs.YtdhedjbmdnnbkaaGreatDoor
