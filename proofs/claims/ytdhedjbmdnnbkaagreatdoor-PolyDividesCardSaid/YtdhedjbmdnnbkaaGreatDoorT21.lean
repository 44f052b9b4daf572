/- For every input the law PolyDivides returns true, and each argument reads behind the call as it read before; the listed variables start as the program's text lays them (tied). -/
import Derived.Test.YtdhedjbmdnnbkaaGreatDoorT20
import Derived.ProofKit
import Derived.OpenShut
import Derived.Carry
import Derived.Deep.Slices
import Derived.Deep.Strs
import Derived.Test.YtdhedjbmdnnbkaaGreatDoorRows
import Derived.JoinedOf
import Derived.SevenTiedAt
import Derived.Lib.LaidTab
import Derived.Test.YtdhedjbmdnnbkaaGreatDoorTie
import Derived.Test.YtdhedjbmdnnbkaaGreatDoorCards
import Derived.LaidMore
import Derived.Stop.Joined
import Derived.MakeChecks
set_option linter.all false
namespace Go.Proofs.YtdhedjbmdnnbkaaGreatDoor
open Go.Abs Go.Deep Go.RowKit
set_option maxRecDepth 20000
theorem ess_of {M : Nat → Prop} {β : Nat → Option (Nat × Nat)} {w : World} {b s off : Nat} {f : Nat → List AV} : ∀ (n j : Nat), (∀ i, i < j + n → (f i).length = s ∧ RVcs M β w b (f i) (off + i * s)) → RVess M β w b s ((List.range' j n).map f) (off + j * s)
 | 0, _, _ => trivial
 | n + 1, j, h => by
  rw [List.range'_succ, List.map_cons]
  refine ⟨(h j (by omega)).1, (h j (by omega)).2, ?_⟩
  have := ess_of (M := M) (β := β) (w := w) (b := b) (s := s) (off := off) n (j + 1) (fun i hi => h i (by omega))
  rwa [Nat.add_mul, Nat.one_mul, ← Nat.add_assoc] at this
theorem size_of_cell {w : World} {b o : Nat} {v : Value} (h : w.cell? ⟨b, o, none⟩ = some v) : ∃ N, sizeAt w b = some N := by
 unfold World.cell? at h
 unfold sizeAt
 split at h
 ·rename_i c _ _ e; rw [show w.heap[b]? = _ from e]; exact ⟨c.size, rfl⟩
 ·cases h
theorem tyS : (Tryz.prog).underlying 22 = some (.slice 82) := by kernel_rfl
theorem tyN : ∃ f0 f1 f2, (Tryz.prog).underlying 82 = some (.struct #[f0, f1, f2]) ∧ f0.type = 2 ∧ f0.offset = 0 ∧ f1.type = 2 ∧ f1.offset = 1 ∧ f2.type = 5 ∧ f2.offset = 2 :=
 ⟨{ name := "N", type := 2, offset := 0, embedded := false, tag := "", pkgPath := "", byteOffset := 0 }, { name := "D", type := 2, offset := 1, embedded := false, tag := "", pkgPath := "", byteOffset := 8 }, { name := "Pow", type := 5, offset := 2, embedded := false, tag := "", pkgPath := "", byteOffset := 16 }, by kernel_rfl, rfl, rfl, rfl, rfl, rfl, rfl⟩
theorem tyc82 : (Tryz.prog).cellsOf 82 = 3 := by kernel_rfl
theorem tyc2 : (Tryz.prog).cellsOf 2 = 1 := by kernel_rfl
theorem tyc5 : (Tryz.prog).cellsOf 5 = 1 := by kernel_rfl
theorem tyu2 : (Tryz.prog).underlying 2 = some (.int .i64) := by kernel_rfl
theorem tyu5 : (Tryz.prog).underlying 5 = some (.int .u8) := by kernel_rfl
theorem num_of {H : Type} {enc : TypeId × Value → H} {W : World} {base n : Nat} {spare : Nat → Bool} {held : Bool} {cs : List Value} {x : DataW H × List MemPlace} (h : DataW.trod enc Tryz.prog W base spare held n 82 cs = some x) :
    ∃ r : NRow, i64r r.1 ∧ i64r r.2.1 ∧ r.2.2 ≤ 255 ∧ cs = [.int .i64 r.1, .int .i64 r.2.1, .int .u8 r.2.2] := by
 obtain ⟨f0, f1, f2, hu, h1, h2, h3, h4, h5, h6⟩ := tyN
 obtain ⟨y0, y1, y2, m, _, hl, g0, g1, g2⟩ := trod_struct3 hu h
 rw [h1, h2, tyc2] at g0
 rw [h3, h4, tyc2] at g1
 rw [h5, h6, tyc5] at g2
 rw [tyc82] at hl
 obtain ⟨n0, e0, _, w0⟩ := DataW.trod_int tyu2 g0
 obtain ⟨n1, e1, _, w1⟩ := DataW.trod_int tyu2 g1
 obtain ⟨n2, e2, _, w2⟩ := DataW.trod_int tyu5 g2
 match cs, hl with
 | [c0, c1, c2], _ =>
  simp at e0 e1 e2
  subst e0; subst e1; subst e2
  have b2 := bounds_u8 w2
  refine ⟨(n0, n1, n2.toNat), bounds_i64 w0, bounds_i64 w1, ?_, ?_⟩
  ·show n2.toNat ≤ 255; omega
  ·show _ = [_, _, Value.int .u8 ((n2.toNat : Nat) : Int)]
   rw [Int.toNat_of_nonneg b2.1]
theorem rows_of {H : Type} {enc : TypeId × Value → H} {W : World} {a : Option Addr} {len cap : Nat} {d : DataW H} {ps : List MemPlace} (h : DataW.Trod enc Tryz.prog W 0 (fun _ => true) true 22 (.slice a len cap) d ps) :
    ∃ l : List NRow, okR l ∧ RV (fun _ => False) (fun _ => none) W (.arr (nR l)) (.slice a len cap) := by
 obtain ⟨fuel, hf⟩ := h
 rcases open_slice tyS hf with ⟨hcs, _⟩ | ⟨x, len', cap', m, n, D, Pl, hcs, _, hl, hm, hmm, _, hx⟩
 ·simp [Value.cells] at hcs
  obtain ⟨rfl, rfl, rfl⟩ := hcs
  exact ⟨[], (fun r hr => by cases hr), none, 0, rfl, Nat.le_refl _, by decide, .inl rfl⟩
 ·simp [Value.cells] at hcs
  obtain ⟨rfl, rfl, rfl⟩ := hcs
  simp only [if_true] at hmm
  have hmc : m = cap := hmm
  rw [hmc] at hx
  rw [tyc82] at hx
  have hx' : ∀ i, i < len → ∃ r : NRow, (i64r r.1 ∧ i64r r.2.1 ∧ r.2.2 ≤ 255) ∧ W.cells? 0 (x.add (i * 3)) 3 = some [.int .i64 r.1, .int .i64 r.2.1, .int .u8 r.2.2] := fun i hi => by
   obtain ⟨cs', g1, g2⟩ := hx i (by omega)
   obtain ⟨r, r1, r2, r3, e⟩ := num_of g2
   exact ⟨r, ⟨r1, r2, r3⟩, by rw [g1, e]⟩
  obtain ⟨R, hR⟩ := choose_lt (α := NRow) hx'
  refine ⟨(List.range len).map R, ?_, some x, cap, by simp [nR], by simpa [nR] using hl, hm, ?_⟩
  ·intro r hr
   obtain ⟨i, hi, rfl⟩ := List.mem_map.1 hr
   exact (hR i (List.mem_range.1 hi)).1
  ·by_cases h0 : len = 0
   ·subst h0; exact .inl rfl
   ·right
    have c : ∀ i, i < len → ∀ j (v : Value), [.int .i64 (R i).1, .int .i64 (R i).2.1, .int .u8 (R i).2.2][j]? = some v → W.cell? (x.add (i * 3 + j)) = some v := fun i hi j v hv => by
     have hj : j < 3 := by
      have := (List.getElem?_eq_some_iff.1 hv).1
      simpa using this
     have := (World.cells?_some (hR i hi).2).2.2 j hj
     rw [hv, Go.Deep.add_add] at this
     exact this
    have c0 := c 0 (by omega) 0 _ rfl
    obtain ⟨b, off, spot⟩ := x
    have hspot : spot = none := by simpa [Addr.add] using World.cell?_spot c0
    subst hspot
    have hadd : ∀ k, Addr.add ⟨b, off, none⟩ k = ⟨b, off + k, none⟩ := fun k => by
     unfold Addr.add
     by_cases hk : k = 0
     ·simp [hk]
     ·simp [hk]
    refine ⟨b, off, 3, rfl, size_of_cell (by rw [hadd] at c0; exact c0), (fun h => h), ?_⟩
    have := ess_of (M := fun _ => False) (β := fun _ => none) (w := W) (b := b) (s := 3) (off := off) (f := fun i => nuC (R i).1 (R i).2.1 (R i).2.2) len 0 (fun i hi => ⟨rfl, ?_⟩)
    ·rw [Nat.zero_mul, Nat.add_zero, ← List.range_eq_range'] at this
     rw [nR, List.map_map]
     exact this
    ·have hi' : i < len := by omega
     refine ⟨⟨_, ?_, rfl⟩, ⟨_, ?_, rfl⟩, ⟨_, ?_, rfl⟩, trivial⟩
     ·have := c i hi' 0 _ rfl; rw [hadd] at this; exact this
     ·have := c i hi' 1 _ rfl; rw [hadd] at this; rw [Nat.add_assoc]; exact this
     ·have := c i hi' 2 _ rfl; rw [hadd] at this; rw [Nat.add_assoc, Nat.add_assoc]; exact this
end Go.Proofs.YtdhedjbmdnnbkaaGreatDoor
namespace Go.Proofs.YtdhedjbmdnnbkaaGreatDoor
open Go.Abs
set_option maxRecDepth 20000
theorem bdL_derive {p : List Rat} {s : Nat} (h : bdL p s) (hs : 1 ≤ s) (hl : p.length ≤ 1000000) : bdL (deriveP p) (s + 64) := fun q hq => by
 have h1 := trimQ_mem hq
 unfold tabP at h1
 obtain ⟨i, hi, rfl⟩ := List.mem_map.1 h1
 have h2 := qs_mul (coP p (i + 1)) ((i + 1 : Nat) : Int)
 have h3 := qs_small (i + 1) (by have := List.mem_range.1 hi; omega)
 have h4 := bd_co' h hs (i + 1)
 omega
theorem bdL_integral {p : List Rat} {s : Nat} (h : bdL p s) (hs : 1 ≤ s) (hl : p.length ≤ 1000000) : bdL (integralP p) (s + 64) := fun q hq => by
 have h1 := trimQ_mem hq
 unfold tabP at h1
 obtain ⟨i, hi, rfl⟩ := List.mem_map.1 h1
 split
 ·have : qs 0 = 1 := by decide
  omega
 ·have h2 := qs_div (coP p (i - 1)) ((i : Nat) : Int)
  have h3 := qs_small i (by have := List.mem_range.1 hi; omega)
  have h4 := bd_co' h hs (i - 1)
  omega
theorem trim_derive (p : List Rat) : trimQ (deriveP p) = deriveP p := trimQ_idem _
theorem trim_integral (p : List Rat) : trimQ (integralP p) = integralP p := trimQ_idem _
theorem derive_len (p : List Rat) : (deriveP p).length ≤ p.length := by
 unfold deriveP
 have := trimQ_len (tabP (p.length - 1) fun i => coP p (i + 1) * ((i + 1 : Nat) : Int))
 rw [tabP_length] at this
 omega
theorem mxL_le {p : List Rat} {s : Nat} (h : bdL p s) (hs : 1 ≤ s) : mxL p ≤ s := by
 unfold mxL
 induction p with
 | nil => exact hs
 | cons a l ih =>
  have h1 := h a (List.mem_cons_self ..)
  have h2 := ih fun q hq => h q (List.mem_cons_of_mem _ hq)
  rw [List.foldr_cons]
  omega
theorem fs_PolyDivides (pr qr : List NRow) (hp : okR pr) (hq : okR qr) : FSpec Tryz.prog 4 [.arr (nR pr), .arr (nR qr)] (.v (.bool true)) := by
 have hnp : (nR pr).length = pr.length := by simp [nR]
 have hnq : (nR qr).length = qr.length := by simp [nR]
 refine FSpec.enter Tryz.func4 rfl (by kernel_rfl) rfl rfl rfl ?_ rfl ?_
 ·exact closed_cons (closed_arr (closed_nR pr)) (closed_cons (closed_arr (closed_nR qr)) closed_nil)
 refine r_z 1 ?_
 by_cases h1 : pr.length > 20
 ·refine AWp.seq ?_
  refine s_r 8 ?_
  refine a_2 ?_
  refine o_0 (.bin rfl rfl (vT binI_gtr (decide_eq_true (by omega)))) ?_
  refine a_z ?_
  refine AWp.cond rfl (fun h => ?_) (fun h => ?_)
  ·refine r_c 2 (fs_wakes) ?_
   refine a_z ?_
   refine AWp.ret ?_
   exact Fin.tmpE rfl rfl (closed_v _)
  ·cases h
 by_cases h2 : qr.length > 20
 ·refine AWp.seq ?_
  refine s_r 8 ?_
  refine a_2 ?_
  refine o_0 (.bin rfl rfl (vF binI_gtr (decide_eq_false (by omega)))) ?_
  refine a_1 ?_
  first | refine AR.op0y rfl rfl rfl (.move rfl) rfl rfl ?_ | refine AR.opN rfl rfl (by simp [boolOf]) rfl rfl ?_
  first | refine AR.op0y rfl rfl rfl (.lenD rfl rfl rfl rfl te_22.h) rfl rfl ?_ | refine AR.op0y rfl rfl rfl (.lenI rfl rfl rfl rfl te_22.h) rfl rfl ?_ | refine AR.op0y rfl rfl rfl (.lenP rfl rfl rfl rfl te_22.h) rfl rfl ?_ | refine AR.op0y rfl rfl rfl (.lenC rfl rfl rfl rfl te_22.h) rfl rfl ?_ | refine AR.op0y rfl rfl rfl (.lenR rfl rfl rfl rfl te_22.h) rfl rfl ?_ | refine AR.op0y rfl rfl rfl (.len rfl rfl rfl rfl rfl te_22.h) rfl rfl ?_ | refine AR.opN rfl rfl (by simp [boolOf]) rfl rfl ?_
  refine AR.op0y rfl rfl rfl (.bin rfl rfl (vT binI_gtr (decide_eq_true (by omega)))) rfl rfl ?_
  refine a_z ?_
  refine AWp.cond rfl (fun h => ?_) (fun h => ?_)
  ·refine r_c 2 (fs_wakes) ?_
   refine a_z ?_
   refine AWp.ret ?_
   exact Fin.tmpE rfl rfl (closed_v _)
  ·cases h
 refine AWp.seq ?_
 refine s_r 8 ?_
 refine a_2 ?_
 refine o_0 (.bin rfl rfl (vF binI_gtr (decide_eq_false (by omega)))) ?_
 refine a_1 ?_
 first | refine AR.op0y rfl rfl rfl (.move rfl) rfl rfl ?_ | refine AR.opN rfl rfl (by simp [boolOf]) rfl rfl ?_
 first | refine AR.op0y rfl rfl rfl (.lenD rfl rfl rfl rfl te_22.h) rfl rfl ?_ | refine AR.op0y rfl rfl rfl (.lenI rfl rfl rfl rfl te_22.h) rfl rfl ?_ | refine AR.op0y rfl rfl rfl (.lenP rfl rfl rfl rfl te_22.h) rfl rfl ?_ | refine AR.op0y rfl rfl rfl (.lenC rfl rfl rfl rfl te_22.h) rfl rfl ?_ | refine AR.op0y rfl rfl rfl (.lenR rfl rfl rfl rfl te_22.h) rfl rfl ?_ | refine AR.op0y rfl rfl rfl (.len rfl rfl rfl rfl rfl te_22.h) rfl rfl ?_ | refine AR.opN rfl rfl (by simp [boolOf]) rfl rfl ?_
 refine AR.op0y rfl rfl rfl (.bin rfl rfl (vF binI_gtr (decide_eq_false (by omega)))) rfl rfl ?_
 refine a_z ?_
 refine AWp.cond rfl (fun h => ?_) (fun h => ?_)
 ·cases h
 refine AWp.skip ?_
 have bp := fs_BothP pr (by omega) hp
 have bq := fs_BothP qr (by omega) hq
 have sp : bdL (nL pr) 256 := nL_qs hp
 have sq : bdL (nL qr) 256 := nL_qs hq
 have lp : (nL pr).length ≤ 20 := by simp [nL]; omega
 have lq : (nL qr).length ≤ 20 := by simp [nL]; omega
 obtain ⟨p, hpe⟩ : ∃ p, p = nL pr := ⟨_, rfl⟩
 obtain ⟨q, hqe⟩ : ∃ q, q = nL qr := ⟨_, rfl⟩
 rw [← hpe] at bp sp lp
 rw [← hqe] at bq sq lq
 have bp' : FSpec Tryz.prog 15 [.arr (nR pr)] (.tup [.arr (pE p), .arr (rE (rP p))]) := bp
 have bq' : FSpec Tryz.prog 15 [.arr (nR qr)] (.tup [.arr (pE q), .arr (rE (rP q))]) := bq
 have rpl : (rP p).length ≤ 20 := by rw [rP_length]; exact lp
 have rql : (rP q).length ≤ 20 := by rw [rP_length]; exact lq
 have smp : smL p := bdL_sm sp (by decide)
 have smq : smL q := bdL_sm sq (by decide)
 have spR : bdL (vR (rP p)) 256 := by rw [vR_rP]; exact sp
 have sqR : bdL (vR (rP q)) 256 := by rw [vR_rP]; exact sq
 have dD := fs_Derive p smp (by omega)
 have dI := fs_Integral p smp (by omega)
 have rD := fs_rDerive (rP p) 256 (okX_rP p) spR (by decide) (by omega)
 have rI := fs_rIntegral (rP p) 256 (okX_rP p) spR (by decide) (by omega)
 rw [vR_rP] at rD rI
 have ldp := derive_len p
 have lip := integralP_len p
 have sD := fs_SameP (deriveP p) (rP (deriveP p)) (okX_rP _) (by rw [vR_rP]; exact trim_derive p) (bdL_mono (bdL_derive sp (by decide) (by omega)) (by decide)) (by rw [rP_length]; omega)
 have sI := fs_SameP (integralP p) (rP (integralP p)) (okX_rP _) (by rw [vR_rP]; exact trim_integral p) (bdL_mono (bdL_integral sp (by decide) (by omega)) (by decide)) (by rw [rP_length]; omega)
 refine r_c 7 (bp') ?_
 refine a_z ?_
 refine r_c 7 (bq') ?_
 refine a_z ?_
 refine AWp.seq ?_
 refine r_c 14 (dD) ?_
 refine c_s (rD) ?_
 refine c_s (sD) ?_
 refine c_s (dI) ?_
 refine c_s (rI) ?_
 refine c_s (sI) ?_
 refine a_z ?_
 refine AWp.cond rfl (fun h => ?_) (fun h => ?_)
 ·cases h
 refine AWp.skip ?_
 have rdq := fs_rDegree (rP q) (by omega)
 rw [vR_rP] at rdq
 by_cases hz : nz q
 ·have hdg : ¬ degP q < 0 := fun e => degP_nil.1 e hz
  have mp := mxL_le sp (by decide)
  have mq := mxL_le sq (by decide)
  have tpl := trimQ_len p
  have hpow : 2 ^ ((trimQ p).length + 1 - (trimQ q).length) * (256 + 2 * 256 + 1) ≤ 2 ^ 21 * 769 := Nat.mul_le_mul (Nat.pow_le_pow_right (by decide) (by omega)) (by decide)
  have okd : okDiv p q := ⟨Nat.le_trans (Nat.mul_le_mul_left _ (by omega)) (Nat.le_trans hpow (by decide)), by omega, by omega⟩
  have dV := fs_Divide p q okd hz
  obtain ⟨bd1, bd2⟩ := divP_bd sp sq (by decide) (by decide) hz hpow
  obtain ⟨u, v, okv, hu, hv, lu, lv, rV⟩ := fs_rDivide (rP p) (rP q) 256 256 (okX_rP p) (okX_rP q) spR sqR (by decide) (by decide) (by rw [vR_rP]; exact hz) (by
   have h1 : 2 ^ (rP p).length ≤ 2 ^ 20 := Nat.pow_le_pow_right (by decide) rpl
   have h2 := Nat.mul_le_mul_left (256 + 2 * 256 + 3) h1
   exact Nat.le_trans h2 (by decide)) (by omega) (by omega)
  rw [vR_rP, vR_rP] at hu hv
  have sQ := fs_SameP (divP p q).1 (rP u) (okX_rP _) (by rw [vR_rP]; exact hu) (bdL_mono bd1 (by decide)) (by rw [rP_length]; omega)
  have sR := fs_SameP (divP p q).2 v okv hv (bdL_mono bd2 (by decide)) (by omega)
  have aP := fs_Alike p (rP p) (okX_rP p) (vR_rP p) (bdL_mono sp (by decide)) (by omega)
  have aQ := fs_Alike q (rP q) (okX_rP q) (vR_rP q) (bdL_mono sq (by decide)) (by omega)
  refine r_c 10 (dV) ?_
  refine a_z ?_
  refine AWp.seq ?_
  refine r_c 3 (rdq) ?_
  refine o_0 (.bin rfl rfl (vF binI_lss (decide_eq_false hdg))) ?_
  refine AR.nil ?_
  refine AWp.cond rfl (fun h => ?_) (fun h => ?_)
  ·cases h
  refine AWp.skip ?_
  refine r_c 8 (rV) ?_
  refine a_z ?_
  refine r_c 26 (sQ) ?_
  refine c_s (sR) ?_
  refine c_s (aP) ?_
  refine c_s (aQ) ?_
  refine c_s (fs_wakes) ?_
  refine a_z ?_
  refine AWp.ret ?_
  exact Fin.tmpE rfl rfl (closed_v _)
 ·have hdg : degP q < 0 := degP_nil.2 hz
  have hq0 : trimQ q = [] := Classical.byContradiction hz
  have dV := fs_Divide0 p q (by omega) hq0
  have hpe0 : (pE []).length = 0 := rfl
  refine r_c 10 (dV) ?_
  refine a_z ?_
  refine AWp.seq ?_
  refine r_c 3 (rdq) ?_
  refine o_0 (.bin rfl rfl (vT binI_lss (decide_eq_true hdg))) ?_
  refine AR.nil ?_
  refine AWp.cond rfl (fun h => ?_) (fun h => ?_)
  ·refine s_r 14 ?_
   refine a_3 ?_
   first | refine AR.op0y rfl rfl rfl (.move rfl) rfl rfl ?_ | refine AR.opN rfl rfl (by simp [boolOf]) rfl rfl ?_
   first | refine AR.op0y rfl rfl rfl (.lenD rfl rfl rfl rfl te_25.h) rfl rfl ?_ | refine AR.op0y rfl rfl rfl (.lenI rfl rfl rfl rfl te_25.h) rfl rfl ?_ | refine AR.op0y rfl rfl rfl (.lenP rfl rfl rfl rfl te_25.h) rfl rfl ?_ | refine AR.op0y rfl rfl rfl (.lenC rfl rfl rfl rfl te_25.h) rfl rfl ?_ | refine AR.op0y rfl rfl rfl (.lenR rfl rfl rfl rfl te_25.h) rfl rfl ?_ | refine AR.op0y rfl rfl rfl (.len rfl rfl rfl rfl rfl te_25.h) rfl rfl ?_ | refine AR.opN rfl rfl (by simp [boolOf]) rfl rfl ?_
   first | refine AR.op0y rfl rfl rfl (.move rfl) rfl rfl ?_ | refine AR.opN rfl rfl (by simp [boolOf]) rfl rfl ?_
   first | refine AR.op0y rfl rfl rfl (.lenD rfl rfl rfl rfl te_25.h) rfl rfl ?_ | refine AR.op0y rfl rfl rfl (.lenI rfl rfl rfl rfl te_25.h) rfl rfl ?_ | refine AR.op0y rfl rfl rfl (.lenP rfl rfl rfl rfl te_25.h) rfl rfl ?_ | refine AR.op0y rfl rfl rfl (.lenC rfl rfl rfl rfl te_25.h) rfl rfl ?_ | refine AR.op0y rfl rfl rfl (.lenR rfl rfl rfl rfl te_25.h) rfl rfl ?_ | refine AR.op0y rfl rfl rfl (.len rfl rfl rfl rfl rfl te_25.h) rfl rfl ?_ | refine AR.opN rfl rfl (by simp [boolOf]) rfl rfl ?_
   refine AR.op0y rfl rfl rfl (.bin rfl rfl (bI64_add (by decide))) rfl rfl ?_
   refine c_s (fs_wakes) ?_
   refine a_z ?_
   refine AWp.ret ?_
   exact Fin.tmpE rfl rfl (closed_v _)
  ·cases h
end Go.Proofs.YtdhedjbmdnnbkaaGreatDoor
namespace Go.Proofs.YtdhedjbmdnnbkaaGreatDoor
open Go
def mkF (P : Program) (fn : Func) (c : OpenClaim) : Bool := (P.make == some c.make) && (c.kinds == (if c.domain.isEmpty then [] else fn.params.toList.map fun t => match P.underlying t with | some (.int k) => some k | _ => none)) && (c.pinned == c.pinnedBy)
section
variable {P : Program} {f : FuncId} {fn : Func} {s : ChangeSpec} {c : OpenClaim}
theorem joined_of (h1 : c.wf (OpenSpec.ofChange s) = true) (h2 : laidOutB P = true) (h3 : mapsRowed P = true)
    (h4 : fn.params.all (P.readableRec ·) = true) (h5 : namedTie P c.named s.vars = true)
    (h6 : ((c.stops == []) && (P.stops == []) && (c.knobs == []) && (P.stopKnobs == [])) = true)
    (h7 : (c.inPlace == P.inPlace f) = true) (h8 : (c.unfollowed == P.unfollowed f) = true) (h9 : (c.recurses == P.recurses f) = true) (h10 : (c.named == P.varsNamed f) = true)
    (h11 : ((c.maps == (fn.params.toList ++ s.plain.varTypes P).any (P.mapsRec ·)) && (c.ifaces == (fn.params.toList ++ s.plain.varTypes P).any (P.ifacesRec ·)) && (c.mapsOut == P.mapsAmong fn.resultTypes.toList)) = true)
    (h12 : ((c.loops == (fn.params.toList ++ s.plain.varTypes P).any (P.loopsFrom ·)) && (c.wideKeys == (fn.params.toList ++ s.plain.varTypes P ++ fn.resultTypes.toList).any (P.wideKeysFrom ·))) = true)
    (h13 : (s.vars.all (P.varReadable ·) && fn.resultTypes.all (fun t => P.readableRec t && decide (t < P.types.size)) && (c.ifacesOut == fn.resultTypes.toList.any (P.ifacesRec ·)) && (c.loopsOut == fn.resultTypes.toList.any (P.loopsFrom ·)) && (c.plainKeys == P.plainKeys) && c.shortTexts.isNone) = true)
    (h14 : P.stopsHeard = true) (h15 : P.mayEnter = true) (h16 : (c.lifted == P.liftsFinal) = true)
    (h17 : mkF P fn c = true)
    (h18 : ((c.veiled == (fn.params.toList ++ s.plain.varTypes P ++ fn.resultTypes.toList).any (P.veiledRec ·)) && c.veiledFits P fn.params.toList (fn.params.toList ++ s.plain.varTypes P ++ fn.resultTypes.toList)) = true) :
    joinedFacts P f fn s c = true := by
 unfold mkF at h17
 simp only [Bool.and_eq_true] at h6 h11 h12 h13 h17 h18
 simp only [joinedFacts, Bool.and_eq_true]
 and_intros
 all_goals first | assumption | exact h6.1.1.1 | exact h6.1.1.2 | exact h6.1.2 | exact h6.2 | exact h11.1.1 | exact h11.1.2 | exact h11.2 | exact h12.1 | exact h12.2 | exact h13.1.1.1.1.1 | exact h13.1.1.1.1.2 | exact h13.1.1.1.2 | exact h13.1.1.2 | exact h13.1.2 | exact h13.2 | exact h17.1.1 | exact h17.1.2 | exact h17.2 | exact h18.1 | exact h18.2
end
theorem all_lo : laidOutB Tryz.prog = true := by kernel_rfl
theorem all_mr : mapsRowed Tryz.prog = true := by kernel_rfl
theorem all_sh : Tryz.prog.stopsHeard = true := by kernel_rfl
theorem all_me : Tryz.prog.mayEnter = true := by kernel_rfl
theorem all_lk : false = Tryz.prog.looks [] := by kernel_rfl
theorem all_mi : Tryz.prog.mainIs = some (true, ("3282ea10664338544b9e7d29bc655aa318bb5383d19a7a3f41182a047c2a096f" : String).toList) := by kernel_rfl
theorem all_lf : Tryz.prog.liftsFinal = Rows.polyThroughRow.lifted := by kernel_rfl
theorem polyDivides_wf : Rows.polyDividesRow.wf (OpenSpec.ofChange Rows.polyDividesSpec) = true := by kernel_rfl
theorem polyDivides_rr : Tryz.f4.params.all (Tryz.prog.readableRec ·) = true := by kernel_rfl
theorem polyDivides_nt : namedTie Tryz.prog Rows.polyDividesRow.named Rows.polyDividesSpec.vars = true := by kernel_rfl
theorem polyDivides_st : ((Rows.polyDividesRow.stops == []) && (Tryz.prog.stops == []) && (Rows.polyDividesRow.knobs == []) && (Tryz.prog.stopKnobs == [])) = true := by kernel_rfl
theorem polyDivides_ip : (Rows.polyDividesRow.inPlace == Tryz.prog.inPlace 4) = true := by kernel_rfl
theorem polyDivides_uf : (Rows.polyDividesRow.unfollowed == Tryz.prog.unfollowed 4) = true := by kernel_rfl
theorem polyDivides_rc : (Rows.polyDividesRow.recurses == Tryz.prog.recurses 4) = true := by kernel_rfl
theorem polyDivides_vn : (Rows.polyDividesRow.named == Tryz.prog.varsNamed 4) = true := by kernel_rfl
theorem polyDivides_mp : ((Rows.polyDividesRow.maps == (Tryz.f4.params.toList ++ Rows.polyDividesSpec.plain.varTypes Tryz.prog).any (Tryz.prog.mapsRec ·)) && (Rows.polyDividesRow.ifaces == (Tryz.f4.params.toList ++ Rows.polyDividesSpec.plain.varTypes Tryz.prog).any (Tryz.prog.ifacesRec ·)) && (Rows.polyDividesRow.mapsOut == Tryz.prog.mapsAmong Tryz.f4.resultTypes.toList)) = true := by kernel_rfl
theorem polyDivides_lp : ((Rows.polyDividesRow.loops == (Tryz.f4.params.toList ++ Rows.polyDividesSpec.plain.varTypes Tryz.prog).any (Tryz.prog.loopsFrom ·)) && (Rows.polyDividesRow.wideKeys == (Tryz.f4.params.toList ++ Rows.polyDividesSpec.plain.varTypes Tryz.prog ++ Tryz.f4.resultTypes.toList).any (Tryz.prog.wideKeysFrom ·))) = true := by kernel_rfl
theorem polyDivides_vr : (Rows.polyDividesSpec.vars.all (Tryz.prog.varReadable ·) && Tryz.f4.resultTypes.all (fun t => Tryz.prog.readableRec t && decide (t < Tryz.prog.types.size)) && (Rows.polyDividesRow.ifacesOut == Tryz.f4.resultTypes.toList.any (Tryz.prog.ifacesRec ·)) && (Rows.polyDividesRow.loopsOut == Tryz.f4.resultTypes.toList.any (Tryz.prog.loopsFrom ·)) && (Rows.polyDividesRow.plainKeys == Tryz.prog.plainKeys) && Rows.polyDividesRow.shortTexts.isNone) = true := by kernel_rfl
theorem polyDivides_ve : ((Rows.polyDividesRow.veiled == (Tryz.f4.params.toList ++ Rows.polyDividesSpec.plain.varTypes Tryz.prog ++ Tryz.f4.resultTypes.toList).any (Tryz.prog.veiledRec ·)) && Rows.polyDividesRow.veiledFits Tryz.prog Tryz.f4.params.toList (Tryz.f4.params.toList ++ Rows.polyDividesSpec.plain.varTypes Tryz.prog ++ Tryz.f4.resultTypes.toList)) = true := by kernel_rfl
theorem polyDivides_wt : Rows.polyDividesRow.wfByText (OpenSpec.ofChange Rows.polyDividesSpec) = true := by kernel_rfl
theorem polyDivides_gb : false = Rows.polyDividesRow.goesBy Tryz.prog := by kernel_rfl
theorem polyDivides_fn : Tryz.prog.funcNamed Rows.polyDividesRow.func = some 4 := by kernel_rfl
theorem polyDivides_is : decide (Tryz.f4.isInstance Tryz.prog Rows.polyDividesRow.origin Rows.polyDividesRow.targs) = true := by kernel_rfl
theorem polyDivides_ws : (Tryz.f4.params.toList.all fun u => !Tryz.prog.wantsStandIn u) = true := by kernel_rfl
theorem polyDivides_mk : mkF Tryz.prog Tryz.f4 Rows.polyDividesRow = true := by kernel_rfl
theorem polyDivides_lf : (Rows.polyDividesRow.lifted == Tryz.prog.liftsFinal) = true := by rw [all_lf]; kernel_rfl
theorem polyDivides_joined : joinedFacts Tryz.prog 4 Tryz.f4 Rows.polyDividesSpec Rows.polyDividesRow = true :=
 joined_of polyDivides_wf all_lo all_mr polyDivides_rr polyDivides_nt polyDivides_st polyDivides_ip polyDivides_uf polyDivides_rc polyDivides_vn polyDivides_mp polyDivides_lp polyDivides_vr all_sh all_me polyDivides_lf polyDivides_mk polyDivides_ve
theorem polyDivides_wrap : Tryz.f4.isWrapper Tryz.prog Rows.polyDividesRow.wrapper Rows.polyDividesRow.mainSum := by
 unfold Func.isWrapper; first | (rw [if_pos (by decide +kernel)]; kernel_rfl) | (rw [if_neg (by decide +kernel)]; exact ⟨rfl, rfl⟩)
end Go.Proofs.YtdhedjbmdnnbkaaGreatDoor
namespace Go.Proofs.YtdhedjbmdnnbkaaGreatDoor
open Go.Abs Go.RowKit
theorem tab_of {n1 n2 : String} {a b : DataW Unit} {W : World} (h : laidMet Tryz.prog [(n1, a), (n2, b), ("internal/strconv.uint64pow10", Lib.tabData .u64 Lib.pow10Tab)] W) : TabW W := by
 obtain ⟨ps, ⟨g1, t1, c1, u1, p1, q1, _, _, _, _, ⟨g2, t2, c2, u2, p2, q2, _, _, _, _, ⟨g, t, cs, fuel, p, q, hg, ht, hv, hd, _, _⟩, _⟩, _⟩, _, _⟩ := h
 obtain rfl := Option.some.inj (tab_glob.symm.trans hg)
 have hT : ((Tryz.prog).globals[GT]?).map (·.type) = some 298 := by kernel_rfl
 have hu : (Tryz.prog).underlying 298 = some (.array 20 207) := by kernel_rfl
 have he : (Tryz.prog).underlying 207 = some (.int .u64) := by kernel_rfl
 have hce : (Tryz.prog).cellsOf 207 = 1 := by kernel_rfl
 have hct : (Tryz.prog).cellsOf 298 = 20 := by kernel_rfl
 obtain rfl := Option.some.inj (hT.symm.trans ht)
 have hc := Lib.cells_of_tab (zs := Lib.pow10Tab) hu he hce hct hd
 unfold World.var? at hv
 rw [tab_glob] at hv
 have hv' : (match W.heap[GT]? with | some (.cells cs _ _) => some cs | _ => none) = some cs := hv
 cases hh : W.heap[GT]? with
 | none => rw [hh] at hv'; cases hv'
 | some o =>
  rw [hh] at hv'
  cases o with
  | cells a b c =>
   obtain rfl : a = cs := Option.some.inj hv'
   refine ⟨b, c, ?_⟩
   rw [hh]
   have : a = tabA := by
    unfold tabA
    rw [← hc]
   rw [this]
  | _ => cases hv'
end Go.Proofs.YtdhedjbmdnnbkaaGreatDoor
namespace Go.Proofs.YtdhedjbmdnnbkaaGreatDoor
open Go.Abs Go.ChangeAt Go.ChangeShapes Go.RowKit Go.WideShapes
theorem own : ownKnob Tryz.prog.godebug = none := by kernel_rfl
theorem und4 : Tryz.prog.underlying 4 = some .bool := by kernel_rfl
abbrev laid3 : List (String × DataW Unit) := Rows.polyDividesRow.laid
theorem door_met (os : Os) (args : Array Value) : laidMetH Tryz.prog laid3 ((World.doorLaid Tryz.prog 24 os).forCall (fun _ _ => 0) ⟨#[], args, []⟩).memory :=
 laidMetH_of_parts3 (fuel := 8) (laidMet_of_run' 8 (by kernel_rfl) (by kernel_rfl)) (by kernel_rfl) (by kernel_rfl)
set_option maxRecDepth 100000 in
theorem polyDivides_lifted (os : Os) (started : os.Started) (H : Type) (enc : TypeId × Value → H) :
    ReturnsInHanded {} Tryz.checked os 4 .any (fun w args => (Rows.polyDividesSpec.pre enc Tryz.prog Tryz.f4 [] false w args ∧ laidMetH Tryz.prog laid3 w) ∧ sizedMet enc Tryz.prog Tryz.f4 (OpenSpec.ofChange Rows.polyDividesSpec) false w args)
     (Rows.polyDividesSpec.post enc Tryz.prog Tryz.f4 false true false false) := by
 refine returnsInHanded_of_change_and (C := Tryz.checked) (X := fun w _ => laidMetH Tryz.prog laid3 w) (fun _ _ _ hh h => h.of_heap hh) own started (by kernel_rfl) Tryz.func4
  (ChangeSpec.witness_shaped (enc := enc) (C := Tryz.checked) (os := os) (X := fun w _ => laidMetH Tryz.prog laid3 w) false (World.doorLaid Tryz.prog 24 os) #[.slice none 0 0, .slice none 0 0] 8 rfl (World.shaped_of_RefB (by kernel_rfl) (by kernel_rfl)) (by kernel_rfl) (by kernel_rfl) (by kernel_rfl) (door_met os _)) ?_
 intro W base args ds gs before hval0 hW _ _ hX _
 have hval : ∀ (j : Nat) t v, Tryz.f4.params[j]? = some t → args[j]? = some v → Value.okWide Tryz.prog W .any base t v := hval0
 have hW' := hW
 obtain ⟨p, q, hA0, hV, rfl, hfz, hnd⟩ := hW
 have hA : DataW.TrodAll enc Tryz.prog W 0 (fun _ => true) true Tryz.f4.params.toList args.toList ds p := hA0
 rw [Tryz.params4] at hA hval
 obtain ⟨v0, vs0, d0, ds0, p0, q0, hargs, rfl, rfl, h0, r0⟩ := trodAll_cons hA
 obtain ⟨v1, vs1, d1, ds1, p1, q1, rfl, rfl, rfl, h1, r1⟩ := trodAll_cons r0
 obtain ⟨rfl, rfl, rfl⟩ := trodAll_nil r1
 obtain rfl : args = #[v0, v1] := by cases args; simp_all
 obtain ⟨rfl, rfl⟩ := trodVars_none hV
 obtain ⟨a0, len0, cap0, rfl⟩ := okWide_slice tyS (hval 0 22 v0 rfl rfl)
 obtain ⟨a1, len1, cap1, rfl⟩ := okWide_slice tyS (hval 1 22 v1 rfl rfl)
 have lt0 : ∀ x ∈ p0, x.block < W.heap.size := by obtain ⟨m, hm⟩ := h0; exact DataW.trod_lt m _ _ _ hm
 have lt1 : ∀ x ∈ p1, x.block < W.heap.size := by obtain ⟨m, hm⟩ := h1; exact DataW.trod_lt m _ _ _ hm
 obtain ⟨l0, o0, g0⟩ := rows_of h0
 obtain ⟨l1, o1, g1⟩ := rows_of h1
 clear hA0 hval0
 refine ((fs_PolyDivides l0 l1 o0 o1).calls (fun _ => False) W [.slice a0 len0 cap0, .slice a1 len1 cap1] ⟨fun _ h => h.elim, fun h => h, tab_of (by rw [MakeChecks.laidMetH_plain _ _ _ (by kernel_rfl)] at hX; exact hX)⟩ ⟨_, _, rfl, g0, ⟨_, _, rfl, g1, rfl⟩⟩).mono fun e W' ⟨y, he, hy, bel⟩ => ?_
 have hy' : y = .bool true := hy
 subst he; subst hy'
 exact ⟨_, rfl, _, _, _, [], _, [], hW', trodAll_mk1 (shut_bool und4 _), (trodAll_cons_mk (Below.trod all_lo (by kernel_rfl) (of_decide_eq_true (by kernel_rfl)) h0 bel lt0) (trodAll_cons_mk (Below.trod all_lo (by kernel_rfl) (of_decide_eq_true (by kernel_rfl)) h1 bel lt1) trodAll_mk0)), rfl, bel.frame _, fun h => by cases h⟩
theorem polyDivides_row : Rows.PolyDividesSaid :=
 OpenClaim.holds_of_wide 4 Tryz.f4 rfl rfl rfl rfl rfl rfl rfl ⟨rfl, rfl, rfl, rfl, rfl⟩ rfl rfl rfl rfl rfl polyDivides_fn Tryz.func4 polyDivides_joined
  (of_decide_eq_true polyDivides_is) polyDivides_wrap
  (fun os started H enc _ => polyDivides_lifted os started H enc)
theorem polyDivides_card : Rows.PolyDividesCardSaid :=
 Claim7.holds_tied_plain_at .later [] [.data, .data, .data] true (true, "3282ea10664338544b9e7d29bc655aa318bb5383d19a7a3f41182a047c2a096f") false
  polyDivides_row (fun _ h => by cases h) polyDivides_wt (fun _ h => by cases h) polyDivides_row_tie rfl ⟨rfl, rfl⟩ all_mi rfl
  (fun f fn hf hfn => by
   obtain rfl : f = 4 := Option.some.inj (polyDivides_fn.symm.trans hf) |>.symm
   obtain rfl : fn = Tryz.f4 := (Option.some.inj (Tryz.func4.symm.trans hfn)).symm
   exact ⟨all_lk, fun j t ht => by
    have hm : t ∈ Tryz.f4.params.toList := by simpa using Array.mem_of_getElem? ht
    exact (show Tryz.prog.wantsStandIn t = false by simpa using List.all_eq_true.1 polyDivides_ws t hm)⟩)
  polyDivides_gb
#print axioms polyDivides_card
end Go.Proofs.YtdhedjbmdnnbkaaGreatDoor
