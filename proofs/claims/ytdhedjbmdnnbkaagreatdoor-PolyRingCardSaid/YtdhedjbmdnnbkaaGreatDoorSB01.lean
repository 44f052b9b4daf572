/- For every input the law PolyRing returns true, and each argument reads behind the call as it read before; the listed variables start as the program's text lays them (tied). -/
import Derived.Test.YtdhedjbmdnnbkaaGreatDoorS20
import Derived.Test.YtdhedjbmdnnbkaaGreatDoorTie
import Derived.Test.YtdhedjbmdnnbkaaGreatDoorCards
import Derived.LaidMore
import Derived.Stop.Joined
import Derived.SevenTiedAt
set_option linter.all false
namespace Go.Proofs.YtdhedjbmdnnbkaaGreatDoor
open Go.Abs Go.Deep Go.RowKit Go.WideShapes
set_option maxRecDepth 20000
def okN (r : NRow) : Prop := i64r r.1 ∧ i64r r.2.1 ∧ r.2.2 ≤ 255
theorem numP_of {H : Type} {enc : TypeId × Value → H} {W : World} {base : Nat} {v : Value} {d : DataW H} {ps : List MemPlace} (hv : Value.okWide Tryz.prog W .any base 82 v) (h : DataW.Trod enc Tryz.prog W 0 (fun _ => true) true 82 v d ps) :
    ∃ r : NRow, okN r ∧ RV (fun _ => False) (fun _ => none) W (.agg (nuC r.1 r.2.1 r.2.2)) v := by
 obtain ⟨f0, f1, f2, hu, _⟩ := tyN
 obtain ⟨cs, rfl, _⟩ : ∃ cs, v = .agg cs ∧ True := by
  unfold Value.okWide at hv
  rw [hu] at hv
  obtain ⟨cs, h1, _⟩ := hv
  exact ⟨cs, h1, trivial⟩
 obtain ⟨fuel, hf⟩ := h
 obtain ⟨r, r1, r2, r3, e⟩ := num_of hf
 refine ⟨r, ⟨r1, r2, r3⟩, cs, rfl, ?_⟩
 have e' : cs.toList = [.int .i64 r.1, .int .i64 r.2.1, .int .u8 r.2.2] := by simpa [Value.cells] using e
 rw [e']
 exact ⟨_, _, rfl, rfl, _, _, rfl, rfl, _, _, rfl, rfl, rfl⟩
end Go.Proofs.YtdhedjbmdnnbkaaGreatDoor
namespace Go.Abs
def lag (v : List Rat) : Nat → Rat
 | 0 => 0
 | m + 1 => coP v m
theorem coP_line (v : List Rat) (c : Rat) (n : Nat) : coP (mulP v [c, 1]) n = coP v n * c + lag v n := by
 have e : trimQ (mulP v [c, 1]) = trimQ (mulP [c, 1] v) := eval_ext fun x => by rw [evalP_mul, evalP_mul]; grind
 rw [trim_iff.1 e n, coP_mul]
 show coP (addL (scaleL v c) (0 :: addL (scaleL v 1) (0 :: []))) n = _
 rw [coP_addL, coP_scaleL]
 cases n with
 | zero => rw [coP_zero]; rfl
 | succ m =>
  rw [coP_succ, coP_addL, coP_scaleL]
  have : coP [(0 : Rat)] m = 0 := by cases m <;> rfl
  rw [this]; show _ + (coP v m * 1 + 0) = _ + coP v m; grind
theorem mulP_line_bd {v : List Rat} {c : Rat} {B t : Nat} (hv : bdL v B) (hB : 1 ≤ B) (hc : qs c ≤ t) : bdL (mulP v [c, 1]) (2 * B + t + 1) :=
 coP_bd fun i => by
  rw [coP_line]
  have h1 := bdL_co hv hB i
  have h2 := qs_mul (coP v i) c
  have h3 := qs_add (coP v i * c) (lag v i)
  have h4 : qs (lag v i) ≤ B := by
   cases i with
   | zero => exact Nat.le_trans (by decide : qs 0 ≤ 1) hB
   | succ m => exact bdL_co hv hB m
  omega
theorem mulP_line_len (v : List Rat) (c : Rat) : (mulP v [c, 1]).length ≤ v.length + 1 := by
 by_cases h : v = []
 ·subst h; unfold mulP; simp
 ·have := mulP_len1 v [c, 1] h; simpa using this
theorem compP_line (c : Rat) (s t : Nat) (hs : 1 ≤ s) (hc : qs c ≤ t) (ht : 1 ≤ t) (hlim : 8 * (256 * (s + t + 4) + t + 2) + 1 ≤ 137438953472) : ∀ l : List Rat, l.length ≤ 8 → bdL l s → okComp [c, 1] l ∧ bdL (compP [c, 1] l) (2 ^ l.length * (s + t + 4) - (s + t + 2)) ∧ (compP [c, 1] l).length ≤ l.length
 | [], _, _ => ⟨trivial, (fun q hq => by cases hq), Nat.le_refl _⟩
 | a :: l, hl, hb => by
  have hl' : l.length ≤ 7 := by simpa using hl
  obtain ⟨h1, h2, h3⟩ := compP_line c s t hs hc ht hlim l (by omega) fun q hq => hb q (List.mem_cons_of_mem _ hq)
  have ha := hb a (List.mem_cons_self ..)
  have hp1 : 1 ≤ 2 ^ l.length := Nat.one_le_two_pow
  have hp2 : 2 ^ l.length ≤ 2 ^ 7 := Nat.pow_le_pow_right (by decide) hl'
  obtain ⟨W, hW⟩ : ∃ W, W = 2 ^ l.length := ⟨_, rfl⟩
  obtain ⟨u, hu⟩ : ∃ u, u = s + t + 4 := ⟨_, rfl⟩
  rw [← hW, ← hu] at h2
  rw [← hW] at hp1 hp2
  have hWu : u ≤ W * u := by have := Nat.mul_le_mul_right u hp1; omega
  have hWu2 : W * u ≤ 128 * u := Nat.mul_le_mul_right u hp2
  have hB : 1 ≤ W * u - (s + t + 2) := by omega
  have hmx := mxL_le h2 hB
  have hmc : mxL [c, 1] ≤ t := mxL_le (fun q hq => by
   rcases List.mem_cons.1 hq with rfl | hq
   ·exact hc
   ·rw [List.mem_singleton.1 hq]; exact Nat.le_trans (by decide : qs 1 ≤ 1) ht) ht
  have hml := mulP_line_len (compP [c, 1] l) c
  have hok : okMul (compP [c, 1] l) [c, 1] := by
   have h5 : (compP [c, 1] l).length * (mxL (compP [c, 1] l) + mxL [c, 1] + 1) ≤ 8 * (256 * u + t + 2) := Nat.mul_le_mul (by omega) (by omega)
   exact ⟨by omega, by omega, by omega, by simp⟩
  refine ⟨⟨h1, hok, by unfold sm; omega, by omega⟩, ?_, ?_⟩
  ·show bdL (addP (mulP (compP [c, 1] l) [c, 1]) (constP a)) _
   have g1 := mulP_line_bd h2 hB hc
   have g2 : bdL (constP a) s := fun q hq => by
    have := trimQ_mem (l := [a]) hq
    rw [List.mem_singleton.1 this]; exact ha
   have g3 := addP_bd g1 g2 (by omega) hs
   intro q hq
   have := g3 q hq
   rw [List.length_cons, Nat.pow_succ, ← hW, ← hu, Nat.mul_right_comm]
   omega
  ·show (addP (mulP (compP [c, 1] l) [c, 1]) (constP a)).length ≤ l.length + 1
   have g1 := addP_len (mulP (compP [c, 1] l) [c, 1]) (constP a)
   have g2 := constP_len a
   omega
theorem integralP_len (p : List Rat) : (integralP p).length ≤ p.length + 1 := by
 have := trimQ_len (tabP (p.length + 1) fun i => if i = 0 then 0 else coP p (i - 1) / ((i : Nat) : Int))
 simp at this
 unfold integralP; omega
theorem subP_len (p q : List Rat) : (subP p q).length ≤ max p.length q.length := by
 have h1 := addP_len p (scaleP q (-1))
 have h2 := scaleP_len q (-1)
 unfold subP; omega
theorem bdL_mono {l : List Rat} {a b : Nat} (h : bdL l a) (hab : a ≤ b) : bdL l b := fun q hq => Nat.le_trans (h q hq) hab
end Go.Abs
namespace Go.Proofs.YtdhedjbmdnnbkaaGreatDoor
open Go.Abs
set_option maxRecDepth 20000
theorem deriveP_bd {p : List Rat} {s : Nat} (h : bdL p s) (hs : 1 ≤ s) (hl : p.length ≤ 1099511627776) : bdL (deriveP p) (s + 64) :=
 coP_bd fun i => by
  rw [coP_derive]
  by_cases hi : i + 1 < p.length
  ·have h1 := qs_mul (coP p (i + 1)) ((i + 1 : Nat) : Int)
   have h2 := bdL_co h hs (i + 1)
   have h3 := qs_small (i + 1) (by omega)
   omega
  ·rw [coP_out (by omega), show (0 : Rat) * _ = 0 by grind]
   exact Nat.le_trans (by decide : qs 0 ≤ 1) (by omega)
theorem integralP_bd {p : List Rat} {s : Nat} (h : bdL p s) (hs : 1 ≤ s) (hl : p.length ≤ 1099511627775) : bdL (integralP p) (s + 64) :=
 coP_bd fun i => by
  rw [coP_integral]
  split
  ·exact Nat.le_trans (by decide : qs 0 ≤ 1) (by omega)
  ·by_cases hi : i - 1 < p.length
   ·have h1 := qs_div (coP p (i - 1)) ((i : Nat) : Int)
    have h2 := bdL_co h hs (i - 1)
    have h3 := qs_small i (by omega)
    omega
   ·rw [coP_out (by omega), show (0 : Rat) / _ = 0 by grind]
    exact Nat.le_trans (by decide : qs 0 ≤ 1) (by omega)
set_option maxHeartbeats 2000000 in
theorem fs_PolyRing (pr qr rr : List NRow) (x y : NRow) (hp : okR pr) (hq : okR qr) (hr : okR rr) (hx : okN x) (hy : okN y) : FSpec Tryz.prog 10 [.arr (nR pr), .arr (nR qr), .arr (nR rr), .agg (nuC x.1 x.2.1 x.2.2), .agg (nuC y.1 y.2.1 y.2.2)] (.v (.bool true)) := by
 have hnp : (nR pr).length = pr.length := by simp [nR]
 have hnq : (nR qr).length = qr.length := by simp [nR]
 have hnr : (nR rr).length = rr.length := by simp [nR]
 refine FSpec.enter Tryz.func10 rfl (by kernel_rfl) rfl rfl rfl ?_ rfl ?_
 ·exact closed_cons (closed_arr (closed_nR pr)) (closed_cons (closed_arr (closed_nR qr)) (closed_cons (closed_arr (closed_nR rr)) (closed_cons (closed_agg (closed_nuC _ _ _)) (closed_cons (closed_agg (closed_nuC _ _ _)) closed_nil))))
 refine s_r 3 ?_
 refine o_1 (.box rfl rfl) ?_
 refine o_1 (.box rfl rfl) ?_
 refine o_0 (.assign rfl) ?_
 refine AR.nil ?_
 by_cases h1 : pr.length > 8
 ·refine AWp.seq ?_
  refine s_r 13 ?_
  refine o_0 (.move rfl) ?_
  first | refine AR.op0 (.lenD rfl rfl rfl rfl te_22.h) rfl rfl ?_ | refine AR.op0 (.lenI rfl rfl rfl rfl te_22.h) rfl rfl ?_ | refine AR.op0 (.lenP rfl rfl rfl rfl te_22.h) rfl rfl ?_ | refine AR.op0 (.lenC rfl rfl rfl rfl te_22.h) rfl rfl ?_ | refine AR.op0 (.lenR rfl rfl rfl rfl te_22.h) rfl rfl ?_ | refine AR.op0 (.len rfl rfl rfl rfl rfl te_22.h) rfl rfl ?_
  refine o_0 (.bin rfl rfl (vT binI_gtr (decide_eq_true (by omega)))) ?_
  refine o_0 (.move rfl) ?_
  first | refine AR.op0y rfl rfl rfl (.move rfl) rfl rfl ?_ | refine AR.opN rfl rfl (by simp [boolOf]) rfl rfl ?_
  first | refine AR.op0y rfl rfl rfl (.lenD rfl rfl rfl rfl te_22.h) rfl rfl ?_ | refine AR.op0y rfl rfl rfl (.lenI rfl rfl rfl rfl te_22.h) rfl rfl ?_ | refine AR.op0y rfl rfl rfl (.lenP rfl rfl rfl rfl te_22.h) rfl rfl ?_ | refine AR.op0y rfl rfl rfl (.lenC rfl rfl rfl rfl te_22.h) rfl rfl ?_ | refine AR.op0y rfl rfl rfl (.lenR rfl rfl rfl rfl te_22.h) rfl rfl ?_ | refine AR.op0y rfl rfl rfl (.len rfl rfl rfl rfl rfl te_22.h) rfl rfl ?_ | refine AR.opN rfl rfl (by simp [boolOf]) rfl rfl ?_
  first | refine AR.op0y rfl rfl rfl (.bin rfl rfl binI_gtr) rfl rfl ?_ | refine AR.opN rfl rfl (by simp [boolOf]) rfl rfl ?_
  first | refine AR.op0 (.pick rfl (fun _ => rfl) (fun _ => rfl)) rfl rfl ?_ | refine AR.op0 (.pick rfl (fun _ => rfl) (fun h => absurd h (by decide))) rfl rfl ?_ | refine AR.op0 (.pick rfl (fun h => absurd h (by decide)) (fun _ => rfl)) rfl rfl ?_
  refine o_0 (.move rfl) ?_
  first | refine AR.op0y rfl rfl rfl (.move rfl) rfl rfl ?_ | refine AR.opN rfl rfl (by simp [boolOf]) rfl rfl ?_
  first | refine AR.op0y rfl rfl rfl (.lenD rfl rfl rfl rfl te_22.h) rfl rfl ?_ | refine AR.op0y rfl rfl rfl (.lenI rfl rfl rfl rfl te_22.h) rfl rfl ?_ | refine AR.op0y rfl rfl rfl (.lenP rfl rfl rfl rfl te_22.h) rfl rfl ?_ | refine AR.op0y rfl rfl rfl (.lenC rfl rfl rfl rfl te_22.h) rfl rfl ?_ | refine AR.op0y rfl rfl rfl (.lenR rfl rfl rfl rfl te_22.h) rfl rfl ?_ | refine AR.op0y rfl rfl rfl (.len rfl rfl rfl rfl rfl te_22.h) rfl rfl ?_ | refine AR.opN rfl rfl (by simp [boolOf]) rfl rfl ?_
  first | refine AR.op0y rfl rfl rfl (.bin rfl rfl binI_gtr) rfl rfl ?_ | refine AR.opN rfl rfl (by simp [boolOf]) rfl rfl ?_
  first | refine AR.op0 (.pick rfl (fun _ => rfl) (fun _ => rfl)) rfl rfl ?_ | refine AR.op0 (.pick rfl (fun _ => rfl) (fun h => absurd h (by decide))) rfl rfl ?_ | refine AR.op0 (.pick rfl (fun h => absurd h (by decide)) (fun _ => rfl)) rfl rfl ?_
  refine AR.nil ?_
  refine AWp.cond rfl (fun h => ?_) (fun h => ?_)
  ·refine s_r 2 ?_
   refine o_0 (.call rfl rfl rfl (fs_wakes)) ?_
   refine o_0 (.assign rfl) ?_
   refine AR.nil ?_
   refine AWp.ret ?_
   exact Fin.tmpE rfl rfl (closed_v _)
  ·cases h
 by_cases h2 : qr.length > 8
 ·refine AWp.seq ?_
  refine s_r 13 ?_
  refine o_0 (.move rfl) ?_
  first | refine AR.op0 (.lenD rfl rfl rfl rfl te_22.h) rfl rfl ?_ | refine AR.op0 (.lenI rfl rfl rfl rfl te_22.h) rfl rfl ?_ | refine AR.op0 (.lenP rfl rfl rfl rfl te_22.h) rfl rfl ?_ | refine AR.op0 (.lenC rfl rfl rfl rfl te_22.h) rfl rfl ?_ | refine AR.op0 (.lenR rfl rfl rfl rfl te_22.h) rfl rfl ?_ | refine AR.op0 (.len rfl rfl rfl rfl rfl te_22.h) rfl rfl ?_
  refine o_0 (.bin rfl rfl (vF binI_gtr (decide_eq_false (by omega)))) ?_
  refine o_0 (.move rfl) ?_
  first | refine AR.op0y rfl rfl rfl (.move rfl) rfl rfl ?_ | refine AR.opN rfl rfl (by simp [boolOf]) rfl rfl ?_
  first | refine AR.op0y rfl rfl rfl (.lenD rfl rfl rfl rfl te_22.h) rfl rfl ?_ | refine AR.op0y rfl rfl rfl (.lenI rfl rfl rfl rfl te_22.h) rfl rfl ?_ | refine AR.op0y rfl rfl rfl (.lenP rfl rfl rfl rfl te_22.h) rfl rfl ?_ | refine AR.op0y rfl rfl rfl (.lenC rfl rfl rfl rfl te_22.h) rfl rfl ?_ | refine AR.op0y rfl rfl rfl (.lenR rfl rfl rfl rfl te_22.h) rfl rfl ?_ | refine AR.op0y rfl rfl rfl (.len rfl rfl rfl rfl rfl te_22.h) rfl rfl ?_ | refine AR.opN rfl rfl (by simp [boolOf]) rfl rfl ?_
  refine AR.op0y rfl rfl rfl (.bin rfl rfl (vT binI_gtr (decide_eq_true (by omega)))) rfl rfl ?_
  first | refine AR.op0 (.pick rfl (fun _ => rfl) (fun _ => rfl)) rfl rfl ?_ | refine AR.op0 (.pick rfl (fun _ => rfl) (fun h => absurd h (by decide))) rfl rfl ?_ | refine AR.op0 (.pick rfl (fun h => absurd h (by decide)) (fun _ => rfl)) rfl rfl ?_
  refine o_0 (.move rfl) ?_
  first | refine AR.op0y rfl rfl rfl (.move rfl) rfl rfl ?_ | refine AR.opN rfl rfl (by simp [boolOf]) rfl rfl ?_
  first | refine AR.op0y rfl rfl rfl (.lenD rfl rfl rfl rfl te_22.h) rfl rfl ?_ | refine AR.op0y rfl rfl rfl (.lenI rfl rfl rfl rfl te_22.h) rfl rfl ?_ | refine AR.op0y rfl rfl rfl (.lenP rfl rfl rfl rfl te_22.h) rfl rfl ?_ | refine AR.op0y rfl rfl rfl (.lenC rfl rfl rfl rfl te_22.h) rfl rfl ?_ | refine AR.op0y rfl rfl rfl (.lenR rfl rfl rfl rfl te_22.h) rfl rfl ?_ | refine AR.op0y rfl rfl rfl (.len rfl rfl rfl rfl rfl te_22.h) rfl rfl ?_ | refine AR.opN rfl rfl (by simp [boolOf]) rfl rfl ?_
  first | refine AR.op0y rfl rfl rfl (.bin rfl rfl binI_gtr) rfl rfl ?_ | refine AR.opN rfl rfl (by simp [boolOf]) rfl rfl ?_
  first | refine AR.op0 (.pick rfl (fun _ => rfl) (fun _ => rfl)) rfl rfl ?_ | refine AR.op0 (.pick rfl (fun _ => rfl) (fun h => absurd h (by decide))) rfl rfl ?_ | refine AR.op0 (.pick rfl (fun h => absurd h (by decide)) (fun _ => rfl)) rfl rfl ?_
  refine AR.nil ?_
  refine AWp.cond rfl (fun h => ?_) (fun h => ?_)
  ·refine s_r 2 ?_
   refine o_0 (.call rfl rfl rfl (fs_wakes)) ?_
   refine o_0 (.assign rfl) ?_
   refine AR.nil ?_
   refine AWp.ret ?_
   exact Fin.tmpE rfl rfl (closed_v _)
  ·cases h
 by_cases h3 : rr.length > 8
 ·refine AWp.seq ?_
  refine s_r 13 ?_
  refine o_0 (.move rfl) ?_
  first | refine AR.op0 (.lenD rfl rfl rfl rfl te_22.h) rfl rfl ?_ | refine AR.op0 (.lenI rfl rfl rfl rfl te_22.h) rfl rfl ?_ | refine AR.op0 (.lenP rfl rfl rfl rfl te_22.h) rfl rfl ?_ | refine AR.op0 (.lenC rfl rfl rfl rfl te_22.h) rfl rfl ?_ | refine AR.op0 (.lenR rfl rfl rfl rfl te_22.h) rfl rfl ?_ | refine AR.op0 (.len rfl rfl rfl rfl rfl te_22.h) rfl rfl ?_
  refine o_0 (.bin rfl rfl (vF binI_gtr (decide_eq_false (by omega)))) ?_
  refine o_0 (.move rfl) ?_
  first | refine AR.op0y rfl rfl rfl (.move rfl) rfl rfl ?_ | refine AR.opN rfl rfl (by simp [boolOf]) rfl rfl ?_
  first | refine AR.op0y rfl rfl rfl (.lenD rfl rfl rfl rfl te_22.h) rfl rfl ?_ | refine AR.op0y rfl rfl rfl (.lenI rfl rfl rfl rfl te_22.h) rfl rfl ?_ | refine AR.op0y rfl rfl rfl (.lenP rfl rfl rfl rfl te_22.h) rfl rfl ?_ | refine AR.op0y rfl rfl rfl (.lenC rfl rfl rfl rfl te_22.h) rfl rfl ?_ | refine AR.op0y rfl rfl rfl (.lenR rfl rfl rfl rfl te_22.h) rfl rfl ?_ | refine AR.op0y rfl rfl rfl (.len rfl rfl rfl rfl rfl te_22.h) rfl rfl ?_ | refine AR.opN rfl rfl (by simp [boolOf]) rfl rfl ?_
  refine AR.op0y rfl rfl rfl (.bin rfl rfl (vF binI_gtr (decide_eq_false (by omega)))) rfl rfl ?_
  first | refine AR.op0 (.pick rfl (fun _ => rfl) (fun _ => rfl)) rfl rfl ?_ | refine AR.op0 (.pick rfl (fun _ => rfl) (fun h => absurd h (by decide))) rfl rfl ?_ | refine AR.op0 (.pick rfl (fun h => absurd h (by decide)) (fun _ => rfl)) rfl rfl ?_
  refine o_0 (.move rfl) ?_
  first | refine AR.op0y rfl rfl rfl (.move rfl) rfl rfl ?_ | refine AR.opN rfl rfl (by simp [boolOf]) rfl rfl ?_
  first | refine AR.op0y rfl rfl rfl (.lenD rfl rfl rfl rfl te_22.h) rfl rfl ?_ | refine AR.op0y rfl rfl rfl (.lenI rfl rfl rfl rfl te_22.h) rfl rfl ?_ | refine AR.op0y rfl rfl rfl (.lenP rfl rfl rfl rfl te_22.h) rfl rfl ?_ | refine AR.op0y rfl rfl rfl (.lenC rfl rfl rfl rfl te_22.h) rfl rfl ?_ | refine AR.op0y rfl rfl rfl (.lenR rfl rfl rfl rfl te_22.h) rfl rfl ?_ | refine AR.op0y rfl rfl rfl (.len rfl rfl rfl rfl rfl te_22.h) rfl rfl ?_ | refine AR.opN rfl rfl (by simp [boolOf]) rfl rfl ?_
  refine AR.op0y rfl rfl rfl (.bin rfl rfl (vT binI_gtr (decide_eq_true (by omega)))) rfl rfl ?_
  first | refine AR.op0 (.pick rfl (fun _ => rfl) (fun _ => rfl)) rfl rfl ?_ | refine AR.op0 (.pick rfl (fun _ => rfl) (fun h => absurd h (by decide))) rfl rfl ?_ | refine AR.op0 (.pick rfl (fun h => absurd h (by decide)) (fun _ => rfl)) rfl rfl ?_
  refine AR.nil ?_
  refine AWp.cond rfl (fun h => ?_) (fun h => ?_)
  ·refine s_r 2 ?_
   refine o_0 (.call rfl rfl rfl (fs_wakes)) ?_
   refine o_0 (.assign rfl) ?_
   refine AR.nil ?_
   refine AWp.ret ?_
   exact Fin.tmpE rfl rfl (closed_v _)
  ·cases h
 refine AWp.seq ?_
 refine s_r 13 ?_
 refine o_0 (.move rfl) ?_
 first | refine AR.op0 (.lenD rfl rfl rfl rfl te_22.h) rfl rfl ?_ | refine AR.op0 (.lenI rfl rfl rfl rfl te_22.h) rfl rfl ?_ | refine AR.op0 (.lenP rfl rfl rfl rfl te_22.h) rfl rfl ?_ | refine AR.op0 (.lenC rfl rfl rfl rfl te_22.h) rfl rfl ?_ | refine AR.op0 (.lenR rfl rfl rfl rfl te_22.h) rfl rfl ?_ | refine AR.op0 (.len rfl rfl rfl rfl rfl te_22.h) rfl rfl ?_
 refine o_0 (.bin rfl rfl (vF binI_gtr (decide_eq_false (by omega)))) ?_
 refine o_0 (.move rfl) ?_
 first | refine AR.op0y rfl rfl rfl (.move rfl) rfl rfl ?_ | refine AR.opN rfl rfl (by simp [boolOf]) rfl rfl ?_
 first | refine AR.op0y rfl rfl rfl (.lenD rfl rfl rfl rfl te_22.h) rfl rfl ?_ | refine AR.op0y rfl rfl rfl (.lenI rfl rfl rfl rfl te_22.h) rfl rfl ?_ | refine AR.op0y rfl rfl rfl (.lenP rfl rfl rfl rfl te_22.h) rfl rfl ?_ | refine AR.op0y rfl rfl rfl (.lenC rfl rfl rfl rfl te_22.h) rfl rfl ?_ | refine AR.op0y rfl rfl rfl (.lenR rfl rfl rfl rfl te_22.h) rfl rfl ?_ | refine AR.op0y rfl rfl rfl (.len rfl rfl rfl rfl rfl te_22.h) rfl rfl ?_ | refine AR.opN rfl rfl (by simp [boolOf]) rfl rfl ?_
 refine AR.op0y rfl rfl rfl (.bin rfl rfl (vF binI_gtr (decide_eq_false (by omega)))) rfl rfl ?_
 first | refine AR.op0 (.pick rfl (fun _ => rfl) (fun _ => rfl)) rfl rfl ?_ | refine AR.op0 (.pick rfl (fun _ => rfl) (fun h => absurd h (by decide))) rfl rfl ?_ | refine AR.op0 (.pick rfl (fun h => absurd h (by decide)) (fun _ => rfl)) rfl rfl ?_
 refine o_0 (.move rfl) ?_
 first | refine AR.op0y rfl rfl rfl (.move rfl) rfl rfl ?_ | refine AR.opN rfl rfl (by simp [boolOf]) rfl rfl ?_
 first | refine AR.op0y rfl rfl rfl (.lenD rfl rfl rfl rfl te_22.h) rfl rfl ?_ | refine AR.op0y rfl rfl rfl (.lenI rfl rfl rfl rfl te_22.h) rfl rfl ?_ | refine AR.op0y rfl rfl rfl (.lenP rfl rfl rfl rfl te_22.h) rfl rfl ?_ | refine AR.op0y rfl rfl rfl (.lenC rfl rfl rfl rfl te_22.h) rfl rfl ?_ | refine AR.op0y rfl rfl rfl (.lenR rfl rfl rfl rfl te_22.h) rfl rfl ?_ | refine AR.op0y rfl rfl rfl (.len rfl rfl rfl rfl rfl te_22.h) rfl rfl ?_ | refine AR.opN rfl rfl (by simp [boolOf]) rfl rfl ?_
 refine AR.op0y rfl rfl rfl (.bin rfl rfl (vF binI_gtr (decide_eq_false (by omega)))) rfl rfl ?_
 first | refine AR.op0 (.pick rfl (fun _ => rfl) (fun _ => rfl)) rfl rfl ?_ | refine AR.op0 (.pick rfl (fun _ => rfl) (fun h => absurd h (by decide))) rfl rfl ?_ | refine AR.op0 (.pick rfl (fun h => absurd h (by decide)) (fun _ => rfl)) rfl rfl ?_
 refine AR.nil ?_
 refine AWp.cond rfl (fun h => ?_) (fun h => ?_)
 ·cases h
 refine AWp.skip ?_
 have bp := fs_BothP pr (by omega) hp
 have bq := fs_BothP qr (by omega) hq
 have br := fs_BothP rr (by omega) hr
 have ba := fs_Both1 x.1 x.2.1 x.2.2 hx.1 hx.2.1 hx.2.2
 have bb := fs_Both1 y.1 y.2.1 y.2.2 hy.1 hy.2.1 hy.2.2
 have sa := numV_qs (p := x.2.2) hx.1 hx.2.1
 have sb := numV_qs (p := y.2.2) hy.1 hy.2.1
 have sp := nL_qs hp
 have sq := nL_qs hq
 have sr := nL_qs hr
 have lp : (nL pr).length ≤ 8 := by simp [nL]; omega
 have lq : (nL qr).length ≤ 8 := by simp [nL]; omega
 have lr : (nL rr).length ≤ 8 := by simp [nL]; omega
 obtain ⟨p, hpe⟩ : ∃ p, p = nL pr := ⟨_, rfl⟩
 obtain ⟨q, hqe⟩ : ∃ q, q = nL qr := ⟨_, rfl⟩
 obtain ⟨r, hre⟩ : ∃ r, r = nL rr := ⟨_, rfl⟩
 obtain ⟨a, hae⟩ : ∃ a, a = numV x.1 x.2.1 x.2.2 := ⟨_, rfl⟩
 obtain ⟨b, hbe⟩ : ∃ b, b = numV y.1 y.2.1 y.2.2 := ⟨_, rfl⟩
 rw [← hpe] at bp sp lp
 rw [← hqe] at bq sq lq
 rw [← hre] at br sr lr
 rw [← hae] at ba sa
 rw [← hbe] at bb sb
 have sp' : bdL p 256 := sp
 have sq' : bdL q 256 := sq
 have sr' : bdL r 256 := sr
 refine s_r 7 ?_
 refine o_0 (.move rfl) ?_
 refine o_0 (.call rfl rfl rfl (bp)) ?_
 refine o_0 (.move rfl) ?_
 refine o_0 (.extract rfl rfl) ?_
 refine o_0 (.extract rfl rfl) ?_
 refine o_0 (.assign rfl) ?_
 refine o_0 (.assign rfl) ?_
 refine AR.nil ?_
 refine s_r 7 ?_
 refine o_0 (.move rfl) ?_
 refine o_0 (.call rfl rfl rfl (bq)) ?_
 refine o_0 (.move rfl) ?_
 refine o_0 (.extract rfl rfl) ?_
 refine o_0 (.extract rfl rfl) ?_
 refine o_0 (.assign rfl) ?_
 refine o_0 (.assign rfl) ?_
 refine AR.nil ?_
 refine s_r 7 ?_
 refine o_0 (.move rfl) ?_
 refine o_0 (.call rfl rfl rfl (br)) ?_
 refine o_0 (.move rfl) ?_
 refine o_0 (.extract rfl rfl) ?_
 refine o_0 (.extract rfl rfl) ?_
 refine o_0 (.assign rfl) ?_
 refine o_0 (.assign rfl) ?_
 refine AR.nil ?_
 refine s_r 9 ?_
 first | refine AR.op0 (.load_l rfl rfl rfl tg_82.h ts_82.h (nle rfl)) rfl rfl ?_ | refine AR.op0 (.load_a rfl rfl tg_82.h ts_82.h (nle rfl)) rfl rfl ?_
 refine o_0 (.call rfl rfl rfl (ba)) ?_
 refine o_0 (.move rfl) ?_
 refine o_0 (.extract rfl rfl) ?_
 refine o_0 (.extract rfl rfl) ?_
 refine o_1 (.alloc tz_37.h) ?_
 refine o_1 (.alloc tz_75.h) ?_
 refine o_1n (.store rfl rfl rfl rfl rfl rfl ts_37.h (nle rfl)) ?_
 refine o_1n (.store rfl rfl rfl rfl rfl rfl ts_75.h (nle rfl)) ?_
 refine AR.nil ?_
 refine s_r 9 ?_
 first | refine AR.op0 (.load_l rfl rfl rfl tg_82.h ts_82.h (nle rfl)) rfl rfl ?_ | refine AR.op0 (.load_a rfl rfl tg_82.h ts_82.h (nle rfl)) rfl rfl ?_
 refine o_0 (.call rfl rfl rfl (bb)) ?_
 refine o_0 (.move rfl) ?_
 refine o_0 (.extract rfl rfl) ?_
 refine o_0 (.extract rfl rfl) ?_
 refine o_1 (.alloc tz_37.h) ?_
 refine o_1 (.alloc tz_75.h) ?_
 refine o_1n (.store rfl rfl rfl rfl rfl rfl ts_37.h (nle rfl)) ?_
 refine o_1n (.store rfl rfl rfl rfl rfl rfl ts_75.h (nle rfl)) ?_
 refine AR.nil ?_
 have M : ∀ {u v : List Rat} {s t j k n m : Nat}, bdL u s → bdL v t → u.length ≤ j → v.length ≤ k → 1 ≤ s → 1 ≤ t → j ≤ 1000 → k ≤ 1000 → j * (s + t + 1) + 1 ≤ n → j + k ≤ m → n ≤ 137438953472 → t ≤ 137438953472 → FSpec Tryz.prog 20 [.arr (pE u), .arr (pE v)] (.arr (pE (mulP u v))) ∧ bdL (mulP u v) n ∧ (mulP u v).length ≤ m := by
  intro u v s t j k n m hu hv hj hk hs ht hj2 hk2 hn hm hlim hlt
  have h5 : u.length * (s + t + 1) ≤ j * (s + t + 1) := Nat.mul_le_mul_right _ hj
  have h6 := mulP_bd hu hv hs ht
  have h7 := mulP_len u v
  exact ⟨fs_Mul u v s t hu hv hs ht (by omega) hlt (by omega) (by omega), bdL_mono h6 (by omega), by omega⟩
 have A : ∀ {u v : List Rat} {s t n m : Nat}, bdL u s → bdL v t → u.length ≤ m → v.length ≤ m → 1 ≤ s → 1 ≤ t → s + t + 1 ≤ n → n ≤ 137438953472 → m ≤ 1000 → FSpec Tryz.prog 42 [.arr (pE u), .arr (pE v)] (.arr (pE (addP u v))) ∧ bdL (addP u v) n ∧ (addP u v).length ≤ m := by
  intro u v s t n m hu hv hj hk hs ht hn hlim hm
  have h7 := addP_len u v
  exact ⟨fs_Add u v (bdL_sm hu (by omega)) (bdL_sm hv (by omega)) (by omega) (by omega), bdL_mono (addP_bd hu hv hs ht) (by omega), by omega⟩
 have S : ∀ {u v : List Rat} {s t j k : Nat}, sameP u v = true → bdL u s → bdL v t → u.length ≤ j → v.length ≤ k → s ≤ 137438953472 → t ≤ 137438953472 → j ≤ 1000 → k ≤ 1000 → FSpec Tryz.prog 60 [.arr (pE u), .arr (pE v)] (bln true) := by
  intro u v s t j k h hu hv hj hk hs ht hj2 hk2
  have := fs_Same u v (bdL_sm hu hs) (bdL_sm hv ht) (by omega) (by omega)
  rwa [h] at this
 have V : ∀ {u : List Rat} {s j n : Nat}, bdL u s → u.length ≤ j → 1 ≤ s → s + 64 ≤ n → n ≤ 137438953472 → j ≤ 1000 → FSpec Tryz.prog 24 [.arr (pE u)] (.arr (pE (deriveP u))) ∧ bdL (deriveP u) n ∧ (deriveP u).length ≤ j := by
  intro u s j n hu hj hs hn hlim hj2
  have h7 := deriveP_len u
  exact ⟨fs_Derive u (bdL_sm hu (by omega)) (by omega), bdL_mono (deriveP_bd hu hs (by omega)) hn, by omega⟩
 obtain ⟨apq, bapq, lapq⟩ := A (n := 513) (m := 8) sp' sq' lp lq (by decide) (by decide) (by decide) (by decide) (by decide)
 obtain ⟨aqp, baqp, laqp⟩ := A (n := 513) (m := 8) sq' sp' lq lp (by decide) (by decide) (by decide) (by decide) (by decide)
 obtain ⟨aqr, baqr, laqr⟩ := A (n := 513) (m := 8) sq' sr' lq lr (by decide) (by decide) (by decide) (by decide) (by decide)
 obtain ⟨mpq, bmpq, lmpq⟩ := M (n := 4105) (m := 16) sp' sq' lp lq (by decide) (by decide) (by decide) (by decide) (by decide) (by decide) (by decide) (by decide)
 obtain ⟨mqp, bmqp, lmqp⟩ := M (n := 4105) (m := 16) sq' sp' lq lp (by decide) (by decide) (by decide) (by decide) (by decide) (by decide) (by decide) (by decide)
 obtain ⟨mqr, bmqr, lmqr⟩ := M (n := 4105) (m := 16) sq' sr' lq lr (by decide) (by decide) (by decide) (by decide) (by decide) (by decide) (by decide) (by decide)
 obtain ⟨mpr, bmpr, lmpr⟩ := M (n := 4105) (m := 16) sp' sr' lp lr (by decide) (by decide) (by decide) (by decide) (by decide) (by decide) (by decide) (by decide)
 obtain ⟨m1, bm1, lm1⟩ := M (n := 70000) (m := 24) bmpq sr' lmpq lr (by decide) (by decide) (by decide) (by decide) (by decide) (by decide) (by decide) (by decide)
 obtain ⟨m2, bm2, lm2⟩ := M (n := 70000) (m := 24) sp' bmqr lp lmqr (by decide) (by decide) (by decide) (by decide) (by decide) (by decide) (by decide) (by decide)
 obtain ⟨m3, bm3, lm3⟩ := M (n := 70000) (m := 16) sp' baqr lp laqr (by decide) (by decide) (by decide) (by decide) (by decide) (by decide) (by decide) (by decide)
 obtain ⟨a4, ba4, la4⟩ := A (n := 70000) (m := 16) bmpq bmpr lmpq lmpr (by decide) (by decide) (by decide) (by decide) (by decide)
 obtain ⟨vpq, bvpq, lvpq⟩ := V (n := 5000) bmpq lmpq (by decide) (by decide) (by decide) (by decide)
 obtain ⟨vp, bvp, lvp⟩ := V (n := 320) sp' lp (by decide) (by decide) (by decide) (by decide)
 obtain ⟨vq, bvq, lvq⟩ := V (n := 320) sq' lq (by decide) (by decide) (by decide) (by decide)
 obtain ⟨m5, bm5, lm5⟩ := M (n := 5000) (m := 16) bvp sq' lvp lq (by decide) (by decide) (by decide) (by decide) (by decide) (by decide) (by decide) (by decide)
 obtain ⟨m6, bm6, lm6⟩ := M (n := 5000) (m := 16) sp' bvq lp lvq (by decide) (by decide) (by decide) (by decide) (by decide) (by decide) (by decide) (by decide)
 obtain ⟨a7, ba7, la7⟩ := A (n := 20000) (m := 16) bm5 bm6 lm5 lm6 (by decide) (by decide) (by decide) (by decide) (by decide)
 have ip := fs_Integral p (bdL_sm sp' (by decide)) (by omega)
 have bip : bdL (integralP p) 320 := integralP_bd sp' (by decide) (by omega)
 have lip : (integralP p).length ≤ 9 := by have := integralP_len p; omega
 obtain ⟨vi, bvi, lvi⟩ := V (n := 384) bip lip (by decide) (by decide) (by decide) (by decide)
 have C : ∀ {u : List Rat} {s t : Nat} (c : Rat), bdL u s → 1 ≤ s → qs c ≤ t → 1 ≤ t → u.length ≤ 8 → 8 * (256 * (s + t + 4) + t + 2) + 1 ≤ 137438953472 → FSpec Tryz.prog 72 [.arr (pE u), .agg (qC c)] (.arr (pE (compP [c, 1] u))) ∧ bdL (compP [c, 1] u) (256 * (s + t + 4)) ∧ (compP [c, 1] u).length ≤ 8 := by
  intro u s t c hu hs hc ht hl hlim
  obtain ⟨e1, e2, e3⟩ := compP_line c s t hs hc ht hlim u hl hu
  refine ⟨fs_Shift u c e1 (by omega), fun z hz => ?_, by omega⟩
  have h5 := e2 z hz
  have h6 : 2 ^ u.length ≤ 2 ^ 8 := Nat.pow_le_pow_right (by decide) hl
  have h7 := Nat.mul_le_mul_right (s + t + 4) h6
  rw [show (2 : Nat) ^ 8 = 256 by decide] at h7
  omega
 have sab : qs (a + b) ≤ 513 := by have := qs_add a b; omega
 obtain ⟨ca, bca, lca⟩ := C (t := 256) a sp' (by decide) sa (by decide) lp (by decide)
 obtain ⟨cb, bcb, lcb⟩ := C (t := 256) b bca (by decide) sb (by decide) lca (by decide)
 obtain ⟨cc, bcc, lcc⟩ := C (t := 513) (a + b) sp' (by decide) sab (by decide) lp (by decide)
 have E : ∀ {u : List Rat} {s j : Nat}, bdL u s → 1 ≤ s → u.length ≤ j → s ≤ 10000 → j ≤ 1000 → FSpec Tryz.prog 59 [.arr (pE u), .agg (qC a)] (.agg (qC (evalP u a))) ∧ sm (evalP u a) := by
  intro u s j hu hs hl hs2 hj
  have hm := mxL_le hu hs
  have ho : okEval u a := by
   have h3 : u.length * (mxL u + qs a + 1) ≤ 1000 * (10000 + 256 + 1) := Nat.mul_le_mul (by omega) (by omega)
   exact ⟨by omega, by omega⟩
  exact ⟨fs_Eval u a ho, evalP_sm ho⟩
 obtain ⟨e1, k1⟩ := E bmpq (by decide) lmpq (by decide) (by decide)
 obtain ⟨e2, k2⟩ := E sp' (by decide) lp (by decide) (by decide)
 obtain ⟨e3, k3⟩ := E sq' (by decide) lq (by decide) (by decide)
 have k4 : sm (evalP p a * evalP q a) := by rw [← law9]; exact k1
 have hz9 : (cmpQ (evalP (mulP p q) a) (evalP p a * evalP q a) != (0 : Int)) = false := by
  have e : ∀ c : Rat, cmpQ c c = 0 := fun c => by unfold cmpQ; rw [if_neg Rat.lt_irrefl, if_pos rfl]
  rw [law9, e]; rfl
 have d5 := fs_Degree (subP p p) (by have := subP_len p p; omega)
 rw [law5] at d5
 refine AWp.seq ?_
 refine s_r 55 ?_
 refine o_0 (.move rfl) ?_
 refine o_0 (.move rfl) ?_
 refine o_0 (.call rfl rfl rfl (apq)) ?_
 refine o_0 (.move rfl) ?_
 refine o_0 (.move rfl) ?_
 refine o_0 (.call rfl rfl rfl (aqp)) ?_
 refine o_0 (.call rfl rfl rfl (S (law1 p q) bapq baqp lapq laqp (by decide) (by decide) (by decide) (by decide))) ?_
 refine o_0 (.un rfl un_not) ?_
 refine o_0 (.move rfl) ?_
 first | refine AR.op0y rfl rfl rfl (.move rfl) rfl rfl ?_ | refine AR.opN rfl rfl (by simp [boolOf]) rfl rfl ?_
 first | refine AR.op0y rfl rfl rfl (.move rfl) rfl rfl ?_ | refine AR.opN rfl rfl (by simp [boolOf]) rfl rfl ?_
 refine AR.op0y rfl rfl rfl (.call rfl rfl rfl (mpq)) rfl rfl ?_
 first | refine AR.op0y rfl rfl rfl (.move rfl) rfl rfl ?_ | refine AR.opN rfl rfl (by simp [boolOf]) rfl rfl ?_
 first | refine AR.op0y rfl rfl rfl (.move rfl) rfl rfl ?_ | refine AR.opN rfl rfl (by simp [boolOf]) rfl rfl ?_
 refine AR.op0y rfl rfl rfl (.call rfl rfl rfl (mqp)) rfl rfl ?_
 refine AR.op0y rfl rfl rfl (.call rfl rfl rfl (S (law2 p q) bmpq bmqp lmpq lmqp (by decide) (by decide) (by decide) (by decide))) rfl rfl ?_
 first | refine AR.op0y rfl rfl rfl (.un rfl un_not) rfl rfl ?_ | refine AR.opN rfl rfl (by simp [boolOf]) rfl rfl ?_
 first | refine AR.op0 (.pick rfl (fun _ => rfl) (fun _ => rfl)) rfl rfl ?_ | refine AR.op0 (.pick rfl (fun _ => rfl) (fun h => absurd h (by decide))) rfl rfl ?_ | refine AR.op0 (.pick rfl (fun h => absurd h (by decide)) (fun _ => rfl)) rfl rfl ?_
 refine o_0 (.move rfl) ?_
 first | refine AR.op0y rfl rfl rfl (.move rfl) rfl rfl ?_ | refine AR.opN rfl rfl (by simp [boolOf]) rfl rfl ?_
 first | refine AR.op0y rfl rfl rfl (.move rfl) rfl rfl ?_ | refine AR.opN rfl rfl (by simp [boolOf]) rfl rfl ?_
 refine AR.op0y rfl rfl rfl (.call rfl rfl rfl (mpq)) rfl rfl ?_
 first | refine AR.op0y rfl rfl rfl (.move rfl) rfl rfl ?_ | refine AR.opN rfl rfl (by simp [boolOf]) rfl rfl ?_
 refine AR.op0y rfl rfl rfl (.call rfl rfl rfl (m1)) rfl rfl ?_
 first | refine AR.op0y rfl rfl rfl (.move rfl) rfl rfl ?_ | refine AR.opN rfl rfl (by simp [boolOf]) rfl rfl ?_
 first | refine AR.op0y rfl rfl rfl (.move rfl) rfl rfl ?_ | refine AR.opN rfl rfl (by simp [boolOf]) rfl rfl ?_
 first | refine AR.op0y rfl rfl rfl (.move rfl) rfl rfl ?_ | refine AR.opN rfl rfl (by simp [boolOf]) rfl rfl ?_
 refine AR.op0y rfl rfl rfl (.call rfl rfl rfl (mqr)) rfl rfl ?_
 refine AR.op0y rfl rfl rfl (.call rfl rfl rfl (m2)) rfl rfl ?_
 refine AR.op0y rfl rfl rfl (.call rfl rfl rfl (S (law3 p q r) bm1 bm2 lm1 lm2 (by decide) (by decide) (by decide) (by decide))) rfl rfl ?_
 first | refine AR.op0y rfl rfl rfl (.un rfl un_not) rfl rfl ?_ | refine AR.opN rfl rfl (by simp [boolOf]) rfl rfl ?_
 first | refine AR.op0 (.pick rfl (fun _ => rfl) (fun _ => rfl)) rfl rfl ?_ | refine AR.op0 (.pick rfl (fun _ => rfl) (fun h => absurd h (by decide))) rfl rfl ?_ | refine AR.op0 (.pick rfl (fun h => absurd h (by decide)) (fun _ => rfl)) rfl rfl ?_
 refine o_0 (.move rfl) ?_
 first | refine AR.op0y rfl rfl rfl (.move rfl) rfl rfl ?_ | refine AR.opN rfl rfl (by simp [boolOf]) rfl rfl ?_
 first | refine AR.op0y rfl rfl rfl (.move rfl) rfl rfl ?_ | refine AR.opN rfl rfl (by simp [boolOf]) rfl rfl ?_
 first | refine AR.op0y rfl rfl rfl (.move rfl) rfl rfl ?_ | refine AR.opN rfl rfl (by simp [boolOf]) rfl rfl ?_
 refine AR.op0y rfl rfl rfl (.call rfl rfl rfl (aqr)) rfl rfl ?_
 refine AR.op0y rfl rfl rfl (.call rfl rfl rfl (m3)) rfl rfl ?_
 first | refine AR.op0y rfl rfl rfl (.move rfl) rfl rfl ?_ | refine AR.opN rfl rfl (by simp [boolOf]) rfl rfl ?_
 first | refine AR.op0y rfl rfl rfl (.move rfl) rfl rfl ?_ | refine AR.opN rfl rfl (by simp [boolOf]) rfl rfl ?_
 refine AR.op0y rfl rfl rfl (.call rfl rfl rfl (mpq)) rfl rfl ?_
 first | refine AR.op0y rfl rfl rfl (.move rfl) rfl rfl ?_ | refine AR.opN rfl rfl (by simp [boolOf]) rfl rfl ?_
 first | refine AR.op0y rfl rfl rfl (.move rfl) rfl rfl ?_ | refine AR.opN rfl rfl (by simp [boolOf]) rfl rfl ?_
 refine AR.op0y rfl rfl rfl (.call rfl rfl rfl (mpr)) rfl rfl ?_
 refine AR.op0y rfl rfl rfl (.call rfl rfl rfl (a4)) rfl rfl ?_
 refine AR.op0y rfl rfl rfl (.call rfl rfl rfl (S (law4 p q r) bm3 ba4 lm3 la4 (by decide) (by decide) (by decide) (by decide))) rfl rfl ?_
 first | refine AR.op0y rfl rfl rfl (.un rfl un_not) rfl rfl ?_ | refine AR.opN rfl rfl (by simp [boolOf]) rfl rfl ?_
 first | refine AR.op0 (.pick rfl (fun _ => rfl) (fun _ => rfl)) rfl rfl ?_ | refine AR.op0 (.pick rfl (fun _ => rfl) (fun h => absurd h (by decide))) rfl rfl ?_ | refine AR.op0 (.pick rfl (fun h => absurd h (by decide)) (fun _ => rfl)) rfl rfl ?_
 refine o_0 (.move rfl) ?_
 first | refine AR.op0y rfl rfl rfl (.move rfl) rfl rfl ?_ | refine AR.opN rfl rfl (by simp [boolOf]) rfl rfl ?_
 first | refine AR.op0y rfl rfl rfl (.move rfl) rfl rfl ?_ | refine AR.opN rfl rfl (by simp [boolOf]) rfl rfl ?_
 refine AR.op0y rfl rfl rfl (.call rfl rfl rfl (fs_Sub p p (bdL_sm sp' (by decide)) (bdL_sm sp' (by decide)) (by omega) (by omega))) rfl rfl ?_
 refine AR.op0y rfl rfl rfl (.call rfl rfl rfl (d5)) rfl rfl ?_
 first | refine AR.op0y rfl rfl rfl (.bin rfl rfl binI_neq) rfl rfl ?_ | refine AR.opN rfl rfl (by simp [boolOf]) rfl rfl ?_
 first | refine AR.op0 (.pick rfl (fun _ => rfl) (fun _ => rfl)) rfl rfl ?_ | refine AR.op0 (.pick rfl (fun _ => rfl) (fun h => absurd h (by decide))) rfl rfl ?_ | refine AR.op0 (.pick rfl (fun h => absurd h (by decide)) (fun _ => rfl)) rfl rfl ?_
 refine AR.nil ?_
 refine AWp.cond rfl (fun h => ?_) (fun h => ?_)
 ·cases h
 refine AWp.skip ?_
 refine AWp.seq ?_
 refine AWp.seq ?_
 refine AWp.regD hmix (m := 53) rfl ?_
 refine o_0 (.move rfl) ?_
 refine o_0 (.move rfl) ?_
 refine o_0 (.call rfl rfl rfl (mpq)) ?_
 refine o_0 (.call rfl rfl rfl (vpq)) ?_
 refine o_0 (.move rfl) ?_
 refine o_0 (.call rfl rfl rfl (vp)) ?_
 refine o_0 (.move rfl) ?_
 refine o_0 (.call rfl rfl rfl (m5)) ?_
 refine o_0 (.move rfl) ?_
 refine o_0 (.move rfl) ?_
 refine o_0 (.call rfl rfl rfl (vq)) ?_
 refine o_0 (.call rfl rfl rfl (m6)) ?_
 refine o_0 (.call rfl rfl rfl (a7)) ?_
 refine o_0 (.call rfl rfl rfl (S (law6 p q) bvpq ba7 lvpq la7 (by decide) (by decide) (by decide) (by decide))) ?_
 refine o_0 (.un rfl un_not) ?_
 refine o_0 (.move rfl) ?_
 first | refine AR.op0y rfl rfl rfl (.move rfl) rfl rfl ?_ | refine AR.opN rfl rfl (by simp [boolOf]) rfl rfl ?_
 refine AR.op0y rfl rfl rfl (.call rfl rfl rfl (ip)) rfl rfl ?_
 refine AR.op0y rfl rfl rfl (.call rfl rfl rfl (vi)) rfl rfl ?_
 first | refine AR.op0y rfl rfl rfl (.move rfl) rfl rfl ?_ | refine AR.opN rfl rfl (by simp [boolOf]) rfl rfl ?_
 refine AR.op0y rfl rfl rfl (.call rfl rfl rfl (S (law7 p) bvi sp' lvi lp (by decide) (by decide) (by decide) (by decide))) rfl rfl ?_
 first | refine AR.op0y rfl rfl rfl (.un rfl un_not) rfl rfl ?_ | refine AR.opN rfl rfl (by simp [boolOf]) rfl rfl ?_
 first | refine AR.op0 (.pick rfl (fun _ => rfl) (fun _ => rfl)) rfl rfl ?_ | refine AR.op0 (.pick rfl (fun _ => rfl) (fun h => absurd h (by decide))) rfl rfl ?_ | refine AR.op0 (.pick rfl (fun h => absurd h (by decide)) (fun _ => rfl)) rfl rfl ?_
 refine o_0 (.move rfl) ?_
 first | refine AR.op0y rfl rfl rfl (.move rfl) rfl rfl ?_ | refine AR.opN rfl rfl (by simp [boolOf]) rfl rfl ?_
 first | refine AR.op0y rfl rfl rfl (.load_l rfl rfl rfl tg_37.h ts_37.h (nle rfl)) rfl rfl ?_ | refine AR.op0y rfl rfl rfl (.load_a rfl rfl tg_37.h ts_37.h (nle rfl)) rfl rfl ?_ | refine AR.opN rfl rfl (by simp [boolOf]) rfl rfl ?_
 refine AR.op0y rfl rfl rfl (.call rfl rfl rfl (ca)) rfl rfl ?_
 first | refine AR.op0y rfl rfl rfl (.load_l rfl rfl rfl tg_37.h ts_37.h (nle rfl)) rfl rfl ?_ | refine AR.op0y rfl rfl rfl (.load_a rfl rfl tg_37.h ts_37.h (nle rfl)) rfl rfl ?_ | refine AR.opN rfl rfl (by simp [boolOf]) rfl rfl ?_
 refine AR.op0y rfl rfl rfl (.call rfl rfl rfl (cb)) rfl rfl ?_
 first | refine AR.op0y rfl rfl rfl (.move rfl) rfl rfl ?_ | refine AR.opN rfl rfl (by simp [boolOf]) rfl rfl ?_
 first | refine AR.op0y rfl rfl rfl (.load_l rfl rfl rfl tg_37.h ts_37.h (nle rfl)) rfl rfl ?_ | refine AR.op0y rfl rfl rfl (.load_a rfl rfl tg_37.h ts_37.h (nle rfl)) rfl rfl ?_ | refine AR.opN rfl rfl (by simp [boolOf]) rfl rfl ?_
 first | refine AR.op0y rfl rfl rfl (.load_l rfl rfl rfl tg_37.h ts_37.h (nle rfl)) rfl rfl ?_ | refine AR.op0y rfl rfl rfl (.load_a rfl rfl tg_37.h ts_37.h (nle rfl)) rfl rfl ?_ | refine AR.opN rfl rfl (by simp [boolOf]) rfl rfl ?_
 refine AR.op0y rfl rfl rfl (.call rfl rfl rfl (fs_add a b (by omega))) rfl rfl ?_
 refine AR.op0y rfl rfl rfl (.call rfl rfl rfl (cc)) rfl rfl ?_
 refine AR.op0y rfl rfl rfl (.call rfl rfl rfl (S (law8 p a b) bcb bcc lcb lcc (by decide) (by decide) (by decide) (by decide))) rfl rfl ?_
 first | refine AR.op0y rfl rfl rfl (.un rfl un_not) rfl rfl ?_ | refine AR.opN rfl rfl (by simp [boolOf]) rfl rfl ?_
 first | refine AR.op0 (.pick rfl (fun _ => rfl) (fun _ => rfl)) rfl rfl ?_ | refine AR.op0 (.pick rfl (fun _ => rfl) (fun h => absurd h (by decide))) rfl rfl ?_ | refine AR.op0 (.pick rfl (fun h => absurd h (by decide)) (fun _ => rfl)) rfl rfl ?_
 refine o_0 (.move rfl) ?_
 first | refine AR.op0y rfl rfl rfl (.move rfl) rfl rfl ?_ | refine AR.opN rfl rfl (by simp [boolOf]) rfl rfl ?_
 first | refine AR.op0y rfl rfl rfl (.move rfl) rfl rfl ?_ | refine AR.opN rfl rfl (by simp [boolOf]) rfl rfl ?_
 refine AR.op0y rfl rfl rfl (.call rfl rfl rfl (mpq)) rfl rfl ?_
 first | refine AR.op0y rfl rfl rfl (.load_l rfl rfl rfl tg_37.h ts_37.h (nle rfl)) rfl rfl ?_ | refine AR.op0y rfl rfl rfl (.load_a rfl rfl tg_37.h ts_37.h (nle rfl)) rfl rfl ?_ | refine AR.opN rfl rfl (by simp [boolOf]) rfl rfl ?_
 refine AR.op0y rfl rfl rfl (.call rfl rfl rfl (e1)) rfl rfl ?_
 first | refine AR.op0y rfl rfl rfl (.move rfl) rfl rfl ?_ | refine AR.opN rfl rfl (by simp [boolOf]) rfl rfl ?_
 first | refine AR.op0y rfl rfl rfl (.load_l rfl rfl rfl tg_37.h ts_37.h (nle rfl)) rfl rfl ?_ | refine AR.op0y rfl rfl rfl (.load_a rfl rfl tg_37.h ts_37.h (nle rfl)) rfl rfl ?_ | refine AR.opN rfl rfl (by simp [boolOf]) rfl rfl ?_
 refine AR.op0y rfl rfl rfl (.call rfl rfl rfl (e2)) rfl rfl ?_
 first | refine AR.op0y rfl rfl rfl (.move rfl) rfl rfl ?_ | refine AR.opN rfl rfl (by simp [boolOf]) rfl rfl ?_
 first | refine AR.op0y rfl rfl rfl (.load_l rfl rfl rfl tg_37.h ts_37.h (nle rfl)) rfl rfl ?_ | refine AR.op0y rfl rfl rfl (.load_a rfl rfl tg_37.h ts_37.h (nle rfl)) rfl rfl ?_ | refine AR.opN rfl rfl (by simp [boolOf]) rfl rfl ?_
 refine AR.op0y rfl rfl rfl (.call rfl rfl rfl (e3)) rfl rfl ?_
 refine AR.op0y rfl rfl rfl (.call rfl rfl rfl (fs_mul (evalP p a) (evalP q a) (sm2 k2 k3))) rfl rfl ?_
 refine AR.op0y rfl rfl rfl (.call rfl rfl rfl (fs_cmp (evalP (mulP p q) a) (evalP p a * evalP q a) k1 k4)) rfl rfl ?_
 refine AR.op0y rfl rfl rfl (.bin rfl rfl (vF binI_neq (hz9))) rfl rfl ?_
 first | refine AR.op0 (.pick rfl (fun _ => rfl) (fun _ => rfl)) rfl rfl ?_ | refine AR.op0 (.pick rfl (fun _ => rfl) (fun h => absurd h (by decide))) rfl rfl ?_ | refine AR.op0 (.pick rfl (fun h => absurd h (by decide)) (fun _ => rfl)) rfl rfl ?_
 refine AR.nil ⟨by kernel_rfl, ?_⟩
 refine AWp.cond rfl (fun h => ?_) (fun h => ?_)
 ·cases h
 refine AWp.skip ?_
 have dq := fs_Degree q (by omega)
 by_cases g : trimQ q = []
 ·refine s_r 10 ?_
  refine o_0 (.move rfl) ?_
  refine o_0 (.move rfl) ?_
  refine o_0 (.call rfl rfl rfl (fs_Divide0 p q (by omega) g)) ?_
  refine o_0 (.move rfl) ?_
  refine o_0 (.extract rfl rfl) ?_
  refine o_0 (.extract rfl rfl) ?_
  refine o_0 (.extract rfl rfl) ?_
  refine o_0 (.assign rfl) ?_
  refine o_0 (.assign rfl) ?_
  refine o_0 (.assign rfl) ?_
  refine AR.nil ?_
  refine AWp.seq ?_
  refine s_r 3 ?_
  refine o_0 (.move rfl) ?_
  refine o_0 (.call rfl rfl rfl (dq)) ?_
  refine o_0 (.bin rfl rfl (vT binI_lss (decide_eq_true (degP_neg.2 g)))) ?_
  refine AR.nil ?_
  refine AWp.cond rfl (fun h => ?_) (fun h => ?_)
  ·refine s_r 6 ?_
   refine o_0 (.move rfl) ?_
   refine o_0 (.bin rfl rfl binI_eql) ?_
   refine o_0 (.move rfl) ?_
   refine AR.op0y rfl rfl rfl (.call rfl rfl rfl (fs_wakes)) rfl rfl ?_
   first | refine AR.op0 (.pick rfl (fun _ => rfl) (fun _ => rfl)) rfl rfl ?_ | refine AR.op0 (.pick rfl (fun _ => rfl) (fun h => absurd h (by decide))) rfl rfl ?_ | refine AR.op0 (.pick rfl (fun h => absurd h (by decide)) (fun _ => rfl)) rfl rfl ?_
   refine o_0 (.assign rfl) ?_
   refine AR.nil ?_
   refine AWp.ret ?_
   exact Fin.tmpE rfl rfl (closed_v _)
  ·cases h
 have hmp := mxL_le sp' (by decide)
 have hmq := mxL_le sq' (by decide)
 have tp := trimQ_len p
 have hpow : 2 ^ ((trimQ p).length + 1 - (trimQ q).length) ≤ 2 ^ 9 := Nat.pow_le_pow_right (by decide) (by omega)
 have hL : 2 ^ ((trimQ p).length + 1 - (trimQ q).length) * (256 + 2 * 256 + 1) ≤ 393728 := Nat.le_trans (Nat.mul_le_mul_right _ hpow) (by decide)
 have hok : okDiv p q := by
  have h5 : 2 ^ ((trimQ p).length + 1 - (trimQ q).length) * (mxL p + 2 * mxL q + 1) ≤ 2 ^ 9 * (256 + 2 * 256 + 1) := Nat.mul_le_mul hpow (by omega)
  exact ⟨by omega, by omega, by omega⟩
 obtain ⟨bu, bv⟩ := divP_bd sp' sq' (by decide) (by decide) g hL
 obtain ⟨lu, lv⟩ := divP_len (p := p) (q := q)
 obtain ⟨m8, bm8, lm8⟩ := M (j := 9) (n := 4000000) (m := 17) bu sq' (by omega) lq (by decide) (by decide) (by decide) (by decide) (by decide) (by decide) (by decide) (by decide)
 obtain ⟨a8, ba8, la8⟩ := A (n := 8000000) (m := 17) bm8 bv lm8 (by omega) (by decide) (by decide) (by decide) (by decide) (by decide)
 have hlt : decide (degP (divP p q).2 < degP q) = true := decide_eq_true (degP_lt (divP_spec p q g).2)
 refine s_r 10 ?_
 refine o_0 (.move rfl) ?_
 refine o_0 (.move rfl) ?_
 refine o_0 (.call rfl rfl rfl (fs_Divide p q hok g)) ?_
 refine o_0 (.move rfl) ?_
 refine o_0 (.extract rfl rfl) ?_
 refine o_0 (.extract rfl rfl) ?_
 refine o_0 (.extract rfl rfl) ?_
 refine o_0 (.assign rfl) ?_
 refine o_0 (.assign rfl) ?_
 refine o_0 (.assign rfl) ?_
 refine AR.nil ?_
 refine AWp.seq ?_
 refine s_r 3 ?_
 refine o_0 (.move rfl) ?_
 refine o_0 (.call rfl rfl rfl (dq)) ?_
 refine o_0 (.bin rfl rfl (vF binI_lss (decide_eq_false fun e => g (degP_neg.1 e)))) ?_
 refine AR.nil ?_
 refine AWp.cond rfl (fun h => ?_) (fun h => ?_)
 ·cases h
 refine AWp.skip ?_
 refine s_r 22 ?_
 refine o_0 (.move rfl) ?_
 refine o_0 (.bin rfl rfl binI_eql) ?_
 refine o_0 (.move rfl) ?_
 first | refine AR.op0y rfl rfl rfl (.move rfl) rfl rfl ?_ | refine AR.opN rfl rfl (by simp [boolOf]) rfl rfl ?_
 first | refine AR.op0y rfl rfl rfl (.move rfl) rfl rfl ?_ | refine AR.opN rfl rfl (by simp [boolOf]) rfl rfl ?_
 refine AR.op0y rfl rfl rfl (.call rfl rfl rfl (m8)) rfl rfl ?_
 first | refine AR.op0y rfl rfl rfl (.move rfl) rfl rfl ?_ | refine AR.opN rfl rfl (by simp [boolOf]) rfl rfl ?_
 refine AR.op0y rfl rfl rfl (.call rfl rfl rfl (a8)) rfl rfl ?_
 first | refine AR.op0y rfl rfl rfl (.move rfl) rfl rfl ?_ | refine AR.opN rfl rfl (by simp [boolOf]) rfl rfl ?_
 refine AR.op0y rfl rfl rfl (.call rfl rfl rfl (S (law10 p q g) ba8 sp' la8 lp (by decide) (by decide) (by decide) (by decide))) rfl rfl ?_
 first | refine AR.op0 (.pick rfl (fun _ => rfl) (fun _ => rfl)) rfl rfl ?_ | refine AR.op0 (.pick rfl (fun _ => rfl) (fun h => absurd h (by decide))) rfl rfl ?_ | refine AR.op0 (.pick rfl (fun h => absurd h (by decide)) (fun _ => rfl)) rfl rfl ?_
 refine o_0 (.move rfl) ?_
 first | refine AR.op0y rfl rfl rfl (.move rfl) rfl rfl ?_ | refine AR.opN rfl rfl (by simp [boolOf]) rfl rfl ?_
 refine AR.op0y rfl rfl rfl (.call rfl rfl rfl (fs_Degree (divP p q).2 (by omega))) rfl rfl ?_
 first | refine AR.op0y rfl rfl rfl (.move rfl) rfl rfl ?_ | refine AR.opN rfl rfl (by simp [boolOf]) rfl rfl ?_
 refine AR.op0y rfl rfl rfl (.call rfl rfl rfl (dq)) rfl rfl ?_
 refine AR.op0y rfl rfl rfl (.bin rfl rfl (vT binI_lss (hlt))) rfl rfl ?_
 first | refine AR.op0 (.pick rfl (fun _ => rfl) (fun _ => rfl)) rfl rfl ?_ | refine AR.op0 (.pick rfl (fun _ => rfl) (fun h => absurd h (by decide))) rfl rfl ?_ | refine AR.op0 (.pick rfl (fun h => absurd h (by decide)) (fun _ => rfl)) rfl rfl ?_
 refine o_0 (.move rfl) ?_
 refine AR.op0y rfl rfl rfl (.call rfl rfl rfl (fs_wakes)) rfl rfl ?_
 first | refine AR.op0 (.pick rfl (fun _ => rfl) (fun _ => rfl)) rfl rfl ?_ | refine AR.op0 (.pick rfl (fun _ => rfl) (fun h => absurd h (by decide))) rfl rfl ?_ | refine AR.op0 (.pick rfl (fun h => absurd h (by decide)) (fun _ => rfl)) rfl rfl ?_
 refine o_0 (.assign rfl) ?_
 refine AR.nil ?_
 refine AWp.ret ?_
 exact Fin.tmpE rfl rfl (closed_v _)
end Go.Proofs.YtdhedjbmdnnbkaaGreatDoor
namespace Go.Proofs.YtdhedjbmdnnbkaaGreatDoor
open Go
theorem polyRing_wf : Rows.polyRingRow.wf (OpenSpec.ofChange Rows.polyRingSpec) = true := by kernel_rfl
theorem polyRing_rr : Tryz.f10.params.all (Tryz.prog.readableRec ·) = true := by kernel_rfl
theorem polyRing_nt : namedTie Tryz.prog Rows.polyRingRow.named Rows.polyRingSpec.vars = true := by kernel_rfl
theorem polyRing_st : ((Rows.polyRingRow.stops == []) && (Tryz.prog.stops == []) && (Rows.polyRingRow.knobs == []) && (Tryz.prog.stopKnobs == [])) = true := by kernel_rfl
theorem polyRing_ip : (Rows.polyRingRow.inPlace == Tryz.prog.inPlace 10) = true := by kernel_rfl
theorem polyRing_uf : (Rows.polyRingRow.unfollowed == Tryz.prog.unfollowed 10) = true := by kernel_rfl
theorem polyRing_rc : (Rows.polyRingRow.recurses == Tryz.prog.recurses 10) = true := by kernel_rfl
theorem polyRing_vn : (Rows.polyRingRow.named == Tryz.prog.varsNamed 10) = true := by kernel_rfl
theorem polyRing_mp : ((Rows.polyRingRow.maps == (Tryz.f10.params.toList ++ Rows.polyRingSpec.plain.varTypes Tryz.prog).any (Tryz.prog.mapsRec ·)) && (Rows.polyRingRow.ifaces == (Tryz.f10.params.toList ++ Rows.polyRingSpec.plain.varTypes Tryz.prog).any (Tryz.prog.ifacesRec ·)) && (Rows.polyRingRow.mapsOut == Tryz.prog.mapsAmong Tryz.f10.resultTypes.toList)) = true := by kernel_rfl
theorem polyRing_lp : ((Rows.polyRingRow.loops == (Tryz.f10.params.toList ++ Rows.polyRingSpec.plain.varTypes Tryz.prog).any (Tryz.prog.loopsFrom ·)) && (Rows.polyRingRow.wideKeys == (Tryz.f10.params.toList ++ Rows.polyRingSpec.plain.varTypes Tryz.prog ++ Tryz.f10.resultTypes.toList).any (Tryz.prog.wideKeysFrom ·))) = true := by kernel_rfl
theorem polyRing_vr : (Rows.polyRingSpec.vars.all (Tryz.prog.varReadable ·) && Tryz.f10.resultTypes.all (fun t => Tryz.prog.readableRec t && decide (t < Tryz.prog.types.size)) && (Rows.polyRingRow.ifacesOut == Tryz.f10.resultTypes.toList.any (Tryz.prog.ifacesRec ·)) && (Rows.polyRingRow.loopsOut == Tryz.f10.resultTypes.toList.any (Tryz.prog.loopsFrom ·)) && (Rows.polyRingRow.plainKeys == Tryz.prog.plainKeys) && Rows.polyRingRow.shortTexts.isNone) = true := by kernel_rfl
theorem polyRing_ve : ((Rows.polyRingRow.veiled == (Tryz.f10.params.toList ++ Rows.polyRingSpec.plain.varTypes Tryz.prog ++ Tryz.f10.resultTypes.toList).any (Tryz.prog.veiledRec ·)) && Rows.polyRingRow.veiledFits Tryz.prog Tryz.f10.params.toList (Tryz.f10.params.toList ++ Rows.polyRingSpec.plain.varTypes Tryz.prog ++ Tryz.f10.resultTypes.toList)) = true := by kernel_rfl
theorem polyRing_wt : Rows.polyRingRow.wfByText (OpenSpec.ofChange Rows.polyRingSpec) = true := by kernel_rfl
theorem polyRing_gb : false = Rows.polyRingRow.goesBy Tryz.prog := by kernel_rfl
theorem polyRing_fn : Tryz.prog.funcNamed Rows.polyRingRow.func = some 10 := by kernel_rfl
theorem polyRing_is : decide (Tryz.f10.isInstance Tryz.prog Rows.polyRingRow.origin Rows.polyRingRow.targs) = true := by kernel_rfl
theorem polyRing_ws : (Tryz.f10.params.toList.all fun u => !Tryz.prog.wantsStandIn u) = true := by kernel_rfl
theorem polyRing_mk : mkF Tryz.prog Tryz.f10 Rows.polyRingRow = true := by kernel_rfl
theorem polyRing_lf : (Rows.polyRingRow.lifted == Tryz.prog.liftsFinal) = true := by rw [all_lf]; kernel_rfl
theorem polyRing_joined : joinedFacts Tryz.prog 10 Tryz.f10 Rows.polyRingSpec Rows.polyRingRow = true :=
 joined_of polyRing_wf all_lo all_mr polyRing_rr polyRing_nt polyRing_st polyRing_ip polyRing_uf polyRing_rc polyRing_vn polyRing_mp polyRing_lp polyRing_vr all_sh all_me polyRing_lf polyRing_mk polyRing_ve
theorem polyRing_wrap : Tryz.f10.isWrapper Tryz.prog Rows.polyRingRow.wrapper Rows.polyRingRow.mainSum := by
 unfold Func.isWrapper; first | (rw [if_pos (by decide +kernel)]; kernel_rfl) | (rw [if_neg (by decide +kernel)]; exact ⟨rfl, rfl⟩)
end Go.Proofs.YtdhedjbmdnnbkaaGreatDoor
namespace Go.Proofs.YtdhedjbmdnnbkaaGreatDoor
open Go.Abs Go.ChangeAt Go.ChangeShapes Go.RowKit Go.WideShapes
theorem own : ownKnob Tryz.prog.godebug = none := by kernel_rfl
theorem und4 : Tryz.prog.underlying 4 = some .bool := by kernel_rfl
abbrev laid3 : List (String × DataW Unit) := Rows.polyRingRow.laid
theorem door_met (os : Os) (args : Array Value) : laidMetH Tryz.prog laid3 ((World.doorLaid Tryz.prog 24 os).forCall (fun _ _ => 0) ⟨#[], args, []⟩).memory :=
 laidMetH_of_parts3 (fuel := 8) (laidMet_of_run' 8 (by kernel_rfl) (by kernel_rfl)) (by kernel_rfl) (by kernel_rfl)
set_option maxRecDepth 100000 in
theorem polyRing_lifted (os : Os) (started : os.Started) (H : Type) (enc : TypeId × Value → H) :
    ReturnsInHanded {} Tryz.checked os 10 .any (fun w args => (Rows.polyRingSpec.pre enc Tryz.prog Tryz.f10 [] false w args ∧ laidMetH Tryz.prog laid3 w) ∧ sizedMet enc Tryz.prog Tryz.f10 (OpenSpec.ofChange Rows.polyRingSpec) false w args)
     (Rows.polyRingSpec.post enc Tryz.prog Tryz.f10 false true false false) := by
 refine returnsInHanded_of_change_and (C := Tryz.checked) (X := fun w _ => laidMetH Tryz.prog laid3 w) (fun _ _ _ hh h => h.of_heap hh) own started (by kernel_rfl) Tryz.func10
  (ChangeSpec.witness_shaped (enc := enc) (C := Tryz.checked) (os := os) (X := fun w _ => laidMetH Tryz.prog laid3 w) false (World.doorLaid Tryz.prog 24 os) #[.slice none 0 0, .slice none 0 0, .slice none 0 0, (.agg #[.int .i64 0, .int .i64 0, .int .u8 0]), (.agg #[.int .i64 0, .int .i64 0, .int .u8 0])] 8 rfl (World.shaped_of_RefB (by kernel_rfl) (by kernel_rfl)) (by kernel_rfl) (by kernel_rfl) (by kernel_rfl) (door_met os _)) ?_
 intro W base args ds gs before hval0 hW _ _ _ _
 have hval : ∀ (j : Nat) t v, Tryz.f10.params[j]? = some t → args[j]? = some v → Value.okWide Tryz.prog W .any base t v := hval0
 have hW' := hW
 obtain ⟨p, q, hA0, hV, rfl, hfz, hnd⟩ := hW
 have hA : DataW.TrodAll enc Tryz.prog W 0 (fun _ => true) true Tryz.f10.params.toList args.toList ds p := hA0
 rw [Tryz.params10] at hA hval
 obtain ⟨v0, vs0, d0, ds0, p0, q0, hargs, rfl, rfl, h0, r0⟩ := trodAll_cons hA
 obtain ⟨v1, vs1, d1, ds1, p1, q1, rfl, rfl, rfl, h1, r1⟩ := trodAll_cons r0
 obtain ⟨v2, vs2, d2, ds2, p2, q2, rfl, rfl, rfl, h2, r2⟩ := trodAll_cons r1
 obtain ⟨v3, vs3, d3, ds3, p3, q3, rfl, rfl, rfl, h3, r3⟩ := trodAll_cons r2
 obtain ⟨v4, vs4, d4, ds4, p4, q4, rfl, rfl, rfl, h4, r4⟩ := trodAll_cons r3
 obtain ⟨rfl, rfl, rfl⟩ := trodAll_nil r4
 obtain rfl : args = #[v0, v1, v2, v3, v4] := by cases args; simp_all
 obtain ⟨rfl, rfl⟩ := trodVars_none hV
 obtain ⟨a0, len0, cap0, rfl⟩ := okWide_slice tyS (hval 0 22 v0 rfl rfl)
 obtain ⟨a1, len1, cap1, rfl⟩ := okWide_slice tyS (hval 1 22 v1 rfl rfl)
 obtain ⟨a2, len2, cap2, rfl⟩ := okWide_slice tyS (hval 2 22 v2 rfl rfl)
 have lt0 : ∀ x ∈ p0, x.block < W.heap.size := by obtain ⟨m, hm⟩ := h0; exact DataW.trod_lt m _ _ _ hm
 have lt1 : ∀ x ∈ p1, x.block < W.heap.size := by obtain ⟨m, hm⟩ := h1; exact DataW.trod_lt m _ _ _ hm
 have lt2 : ∀ x ∈ p2, x.block < W.heap.size := by obtain ⟨m, hm⟩ := h2; exact DataW.trod_lt m _ _ _ hm
 have lt3 : ∀ x ∈ p3, x.block < W.heap.size := by obtain ⟨m, hm⟩ := h3; exact DataW.trod_lt m _ _ _ hm
 have lt4 : ∀ x ∈ p4, x.block < W.heap.size := by obtain ⟨m, hm⟩ := h4; exact DataW.trod_lt m _ _ _ hm
 obtain ⟨l0, o0, g0⟩ := rows_of h0
 obtain ⟨l1, o1, g1⟩ := rows_of h1
 obtain ⟨l2, o2, g2⟩ := rows_of h2
 obtain ⟨l3, o3, g3⟩ := numP_of (hval 3 82 v3 rfl rfl) h3
 obtain ⟨l4, o4, g4⟩ := numP_of (hval 4 82 v4 rfl rfl) h4
 clear hA0 hval0
 refine ((fs_PolyRing l0 l1 l2 l3 l4 o0 o1 o2 o3 o4).calls (fun _ => False) W [.slice a0 len0 cap0, .slice a1 len1 cap1, .slice a2 len2 cap2, v3, v4] (fun _ h => h.elim) ⟨_, _, rfl, g0, ⟨_, _, rfl, g1, ⟨_, _, rfl, g2, ⟨_, _, rfl, g3, ⟨_, _, rfl, g4, rfl⟩⟩⟩⟩⟩).mono fun e W' ⟨y, he, hy, bel⟩ => ?_
 have hy' : y = .bool true := hy
 subst he; subst hy'
 exact ⟨_, rfl, _, _, _, [], _, [], hW', trodAll_mk1 (shut_bool und4 _), (trodAll_cons_mk (Below.trod all_lo (by kernel_rfl) (of_decide_eq_true (by kernel_rfl)) h0 bel lt0) (trodAll_cons_mk (Below.trod all_lo (by kernel_rfl) (of_decide_eq_true (by kernel_rfl)) h1 bel lt1) (trodAll_cons_mk (Below.trod all_lo (by kernel_rfl) (of_decide_eq_true (by kernel_rfl)) h2 bel lt2) (trodAll_cons_mk (Below.trod all_lo (by kernel_rfl) (of_decide_eq_true (by kernel_rfl)) h3 bel lt3) (trodAll_cons_mk (Below.trod all_lo (by kernel_rfl) (of_decide_eq_true (by kernel_rfl)) h4 bel lt4) trodAll_mk0))))), rfl, bel.frame _, fun h => by cases h⟩
theorem polyRing_row : Rows.PolyRingSaid :=
 OpenClaim.holds_of_wide 10 Tryz.f10 rfl rfl rfl rfl rfl rfl rfl ⟨rfl, rfl, rfl, rfl, rfl⟩ rfl rfl rfl rfl rfl polyRing_fn Tryz.func10 polyRing_joined
  (of_decide_eq_true polyRing_is) polyRing_wrap
  (fun os started H enc _ => polyRing_lifted os started H enc)
theorem polyRing_card : Rows.PolyRingCardSaid :=
 Claim7.holds_tied_plain_at .later [] [.data, .data, .data] true (true, "3282ea10664338544b9e7d29bc655aa318bb5383d19a7a3f41182a047c2a096f") false
  polyRing_row (fun _ h => by cases h) polyRing_wt (fun _ h => by cases h) polyRing_row_tie rfl ⟨rfl, rfl⟩ all_mi rfl
  (fun f fn hf hfn => by
   obtain rfl : f = 10 := Option.some.inj (polyRing_fn.symm.trans hf) |>.symm
   obtain rfl : fn = Tryz.f10 := (Option.some.inj (Tryz.func10.symm.trans hfn)).symm
   exact ⟨all_lk, fun j t ht => by
    have hm : t ∈ Tryz.f10.params.toList := by simpa using Array.mem_of_getElem? ht
    exact (show Tryz.prog.wantsStandIn t = false by simpa using List.all_eq_true.1 polyRing_ws t hm)⟩)
  polyRing_gb
#print axioms polyRing_card
end Go.Proofs.YtdhedjbmdnnbkaaGreatDoor
