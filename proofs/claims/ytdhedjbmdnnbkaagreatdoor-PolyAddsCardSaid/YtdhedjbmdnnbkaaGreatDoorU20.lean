/- For every input the law PolyAdds returns true, and each argument reads behind the call as it read before; the listed variables start as the program's text lays them (tied). -/
import Derived.Test.YtdhedjbmdnnbkaaGreatDoorU19
import Derived.ProofKit
import Derived.OpenShut
import Derived.Carry
import Derived.Deep.Slices
import Derived.Deep.Strs
import Derived.Test.YtdhedjbmdnnbkaaGreatDoorRows
import Derived.JoinedOf
import Derived.SevenTiedAt
import Derived.Lib.LaidTab
import Derived.Test.YtdhedjbmdnnbkaaGreatDoorTie
import Derived.Test.YtdhedjbmdnnbkaaGreatDoorCards
import Derived.LaidMore
import Derived.Stop.Joined
import Derived.MakeChecks
set_option linter.all false
namespace Go.Abs
theorem coP_mono (d : List Rat) (a : Rat) (k j : Nat) : coP (mulP d (shP k [a])) j = if j < k then 0 else coP d (j - k) * a := by
 have e : mR d (shP k [a]) (shP k [a]).length = mulP d (shP k [a]) := mR_mul _ _
 rw [← e, show (shP k [a]).length = k + 1 by rw [shP_length]; rfl, mR, coP_add, mR_mono k (Nat.le_refl _), coP_nil, Rat.zero_add, coP_sh, coP_scale, coP_sh, if_neg (Nat.lt_irrefl k), Nat.sub_self, coP_zero]
theorem leadP_co {v : List Rat} {n : Nat} (h : trimQ v = v) (hn : v.length = n + 1) : coP v n = leadP v := by
 have := leadP_get (l := v) (n := n) (by rw [h]; exact hn)
 rw [h, coP_get (by omega)] at this
 exact Option.some.inj this
theorem step_len {v d : List Rat} (hv : trimQ v = v) (hd : trimQ d = d) (hd0 : d ≠ []) (hl : d.length ≤ v.length) : (subP v (mulP d (shP (v.length - d.length) [leadP v / leadP d]))).length < v.length := by
 have hdl := List.length_pos_iff.2 hd0
 obtain ⟨m, hm⟩ : ∃ m, d.length = m + 1 := ⟨d.length - 1, by omega⟩
 obtain ⟨n, hn⟩ : ∃ n, v.length = n + 1 := ⟨v.length - 1, by omega⟩
 have hld : leadP d ≠ 0 := leadP_ne (by rw [hd]; exact hd0)
 have key : ∀ j, n ≤ j → coP (subP v (mulP d (shP (v.length - d.length) [leadP v / leadP d]))) j = 0 := fun j hj => by
  rw [coP_sub, coP_mono, if_neg (by omega)]
  by_cases h : j = n
  ·subst h
   rw [leadP_co hv hn, show j - (v.length - d.length) = m by omega, leadP_co hd hm]
   grind
  ·rw [coP_out (p := v) (by omega), coP_out (p := d) (by omega)]
   grind
 have h1 := trimQ_len_of key
 have h2 : trimQ (subP v (mulP d (shP (v.length - d.length) [leadP v / leadP d]))) = subP v (mulP d (shP (v.length - d.length) [leadP v / leadP d])) := trimQ_idem _
 rw [h2] at h1
 omega
theorem trim_subP (p q : List Rat) : trimQ (subP p q) = subP p q := trimQ_idem _
theorem trim_addP (p q : List Rat) : trimQ (addP p q) = addP p q := trimQ_idem _
theorem step_bd {v d : List Rat} {b t : Nat} (hv : bdL v b) (hd : bdL d t) (hb : 1 ≤ b) (ht : 1 ≤ t) (hd0 : d ≠ []) (k : Nat) : qs (leadP v / leadP d) ≤ b + t ∧ bdL (mulP d (shP k [leadP v / leadP d])) (2 * t + b + 2) ∧ bdL (subP v (mulP d (shP k [leadP v / leadP d]))) (2 * b + 2 * t + 3) := by
 have h1 := lead_qs hv hb
 have h2 := lead_qs hd ht
 have h3 := qs_div (leadP v) (leadP d)
 have h4 : bdL (mulP d (shP k [leadP v / leadP d])) (2 * t + b + 2) := by
  have := mR_mono_bd (a := leadP v / leadP d) (d := k) hd ht (k + 1) (Nat.le_refl _)
  rw [show k + 1 = (shP k [leadP v / leadP d]).length by rw [shP_length]; rfl, mR_mul] at this
  exact bdL_mono this (by omega)
 exact ⟨by omega, h4, bdL_mono (bdL_subP hv h4 hb (by omega)) (by omega)⟩
theorem bdL_sh {v : List Rat} {b : Nat} (h : bdL v b) (hb : 1 ≤ b) (k : Nat) : bdL (shP k v) b := fun q hq => by
 rcases List.mem_append.1 hq with h' | h'
 ·rw [List.eq_of_mem_replicate h']
  have : qs 0 = 1 := by decide
  omega
 ·exact h q h'
end Go.Abs
namespace Go.Proofs.YtdhedjbmdnnbkaaGreatDoor
open Go.Abs
set_option maxRecDepth 20000
def dSt (d : List Rat) (s : List Rat × List RQ) : List Rat × List RQ :=
 (addP s.1 (shP ((vR s.2).length - d.length) [leadP (vR s.2) / leadP d]), rP (subP (vR s.2) (mulP d (shP ((vR s.2).length - d.length) [leadP (vR s.2) / leadP d]))))
def dRn (d : List Rat) : Nat → List Rat × List RQ → List Rat × List RQ
 | 0, s => s
 | n + 1, s => if d.length ≤ s.2.length then dRn d n (dSt d s) else s
structure DInv (p d : List Rat) (t L : Nat) (s : List Rat × List RQ) : Prop where
 ok : okX s.2
 tr : trimQ (vR s.2) = vR s.2
 bd : ∃ b, 1 ≤ b ∧ bdL (vR s.2) b ∧ bdL s.1 b ∧ (b + 2 * t + 3) * 2 ^ s.2.length ≤ L
 ln : s.2.length ≤ p.length
 lq : s.1.length ≤ p.length
 ev : ∀ x, evalP p x = evalP s.1 x * evalP d x + evalP (vR s.2) x
theorem DInv.step {p d : List Rat} {t L : Nat} {s : List Rat × List RQ} (h : DInv p d t L s) (hd : trimQ d = d) (hd0 : d ≠ []) (hdt : bdL d t) (ht : 1 ≤ t) (hl : d.length ≤ s.2.length) : DInv p d t L (dSt d s) ∧ (dSt d s).2.length < s.2.length := by
 obtain ⟨q, X⟩ := s
 obtain ⟨ok, tr, ⟨b, b1, bx, bq, hb⟩, ln, lq, ev⟩ := h
 simp only at *
 have hdl := List.length_pos_iff.2 hd0
 have hlt := step_len tr hd hd0 (by rw [vR_length]; exact hl)
 obtain ⟨s1, s2, s3⟩ := step_bd bx hdt b1 ht hd0 ((vR X).length - d.length)
 obtain ⟨a, ha⟩ : ∃ a, a = leadP (vR X) / leadP d := ⟨_, rfl⟩
 unfold dSt
 simp only
 rw [vR_length] at hlt s2 s3 ⊢
 rw [← ha] at hlt s1 s2 s3 ⊢
 refine ⟨⟨okX_rP _, ?_, ⟨2 * b + 2 * t + 3, by omega, ?_, ?_, ?_⟩, ?_, ?_, ?_⟩, ?_⟩
 ·rw [vR_rP]; exact trim_subP _ _
 ·rw [vR_rP]; exact s3
 ·have h1 : bdL [a] (b + t) := fun x hx => by rw [List.mem_singleton.1 hx]; exact s1
  exact bdL_mono (bdL_addP bq (bdL_sh h1 (by omega) _) b1 (by omega)) (by omega)
 ·simp only [rP_length]
  obtain ⟨n, hn⟩ : ∃ n, X.length = n + 1 := ⟨X.length - 1, by omega⟩
  have h1 : 2 ^ (subP (vR X) (mulP d (shP (X.length - d.length) [a]))).length ≤ 2 ^ n := Nat.pow_le_pow_right (by decide) (by omega)
  have h2 := Nat.mul_le_mul_left (2 * b + 2 * t + 3 + 2 * t + 3) h1
  have h3 : (b + 2 * t + 3) * 2 ^ X.length = (2 * b + 2 * t + 3 + 2 * t + 3) * 2 ^ n := by
   rw [hn, Nat.pow_succ, show 2 * b + 2 * t + 3 + 2 * t + 3 = (b + 2 * t + 3) * 2 by omega, Nat.mul_assoc, Nat.mul_comm 2 (2 ^ n)]
  omega
 ·simp only [rP_length]; omega
 ·have h1 := addP_len q (shP (X.length - d.length) [a])
  rw [shP_length] at h1
  simp at h1 ⊢; omega
 ·intro x
  rw [vR_rP, evalP_sub, evalP_mul, evalP_add, ev x]
  grind
 ·simp only [rP_length]; exact hlt
theorem DInv.run {p d : List Rat} {t L : Nat} (hd : trimQ d = d) (hd0 : d ≠ []) (hdt : bdL d t) (ht : 1 ≤ t) : ∀ n s, DInv p d t L s → s.2.length ≤ n → DInv p d t L (dRn d n s) ∧ (dRn d n s).2.length < d.length
 | 0, s, h, hn => by
  have := List.length_pos_iff.2 hd0
  exact ⟨h, by unfold dRn; omega⟩
 | n + 1, s, h, hn => by
  unfold dRn
  by_cases hl : d.length ≤ s.2.length
  ·rw [if_pos hl]
   obtain ⟨h1, h2⟩ := h.step hd hd0 hdt ht hl
   exact DInv.run hd hd0 hdt ht n _ h1 (by omega)
  ·rw [if_neg hl]
   exact ⟨h, by omega⟩
theorem CvLL.zerosR {r : Ren} {hp hp' : Nat → Option ABlk} (h : Shr r hp hp') (L : List RQ) : ∀ n, CvLL r hp hp' (List.replicate n zR4 ++ rE L) (rE (List.replicate n r0 ++ L))
 | 0 => CvLL.clo h (closed_rE L)
 | n + 1 => by
  refine CvLL.cons (ys := rE (List.replicate n r0 ++ L)) ?_ (CvLL.zerosR h L n)
  show CvL r hp hp' zR4 (rC r0)
  rw [rC_r0]
  exact CvL.cons (Cv.clo h (closed_v _)) (CvL.cons (Cv.emp _) (CvL.cons (Cv.clo h (closed_v _)) (CvL.cons (Cv.emp _) CvL.nil)))
def v9 : List Rat → AV
 | [] => .emp
 | _ :: Q => .lsl 1 0 (Q.length + 1) none 3
def h9 : List Rat → List (Nat × Option ABlk)
 | [] => []
 | q :: Q => [(1, some ⟨37, 3, pE (q :: Q)⟩)]
theorem cmpQ_eq (a b : Rat) : (cmpQ a b == (0 : Int)) = decide (a = b) := by
 unfold cmpQ
 by_cases h1 : a < b
 ·have h2 : a ≠ b := fun e => by rw [e] at h1; exact absurd h1 Rat.lt_irrefl
  simp [h1, h2]
 ·by_cases h2 : a = b
  ·simp [h1, h2, Rat.lt_irrefl]
  ·simp [h1, h2]
end Go.Proofs.YtdhedjbmdnnbkaaGreatDoor
namespace Go.Proofs.YtdhedjbmdnnbkaaGreatDoor
open Go.Abs Go.Deep Go.RowKit
set_option maxRecDepth 20000
theorem ess_of {M : Nat → Prop} {β : Nat → Option (Nat × Nat)} {w : World} {b s off : Nat} {f : Nat → List AV} : ∀ (n j : Nat), (∀ i, i < j + n → (f i).length = s ∧ RVcs M β w b (f i) (off + i * s)) → RVess M β w b s ((List.range' j n).map f) (off + j * s)
 | 0, _, _ => trivial
 | n + 1, j, h => by
  rw [List.range'_succ, List.map_cons]
  refine ⟨(h j (by omega)).1, (h j (by omega)).2, ?_⟩
  have := ess_of (M := M) (β := β) (w := w) (b := b) (s := s) (off := off) n (j + 1) (fun i hi => h i (by omega))
  rwa [Nat.add_mul, Nat.one_mul, ← Nat.add_assoc] at this
theorem size_of_cell {w : World} {b o : Nat} {v : Value} (h : w.cell? ⟨b, o, none⟩ = some v) : ∃ N, sizeAt w b = some N := by
 unfold World.cell? at h
 unfold sizeAt
 split at h
 ·rename_i c _ _ e; rw [show w.heap[b]? = _ from e]; exact ⟨c.size, rfl⟩
 ·cases h
theorem tyS : (Tryz.prog).underlying 22 = some (.slice 82) := by kernel_rfl
theorem tyN : ∃ f0 f1 f2, (Tryz.prog).underlying 82 = some (.struct #[f0, f1, f2]) ∧ f0.type = 2 ∧ f0.offset = 0 ∧ f1.type = 2 ∧ f1.offset = 1 ∧ f2.type = 5 ∧ f2.offset = 2 :=
 ⟨{ name := "N", type := 2, offset := 0, embedded := false, tag := "", pkgPath := "", byteOffset := 0 }, { name := "D", type := 2, offset := 1, embedded := false, tag := "", pkgPath := "", byteOffset := 8 }, { name := "Pow", type := 5, offset := 2, embedded := false, tag := "", pkgPath := "", byteOffset := 16 }, by kernel_rfl, rfl, rfl, rfl, rfl, rfl, rfl⟩
theorem tyc82 : (Tryz.prog).cellsOf 82 = 3 := by kernel_rfl
theorem tyc2 : (Tryz.prog).cellsOf 2 = 1 := by kernel_rfl
theorem tyc5 : (Tryz.prog).cellsOf 5 = 1 := by kernel_rfl
theorem tyu2 : (Tryz.prog).underlying 2 = some (.int .i64) := by kernel_rfl
theorem tyu5 : (Tryz.prog).underlying 5 = some (.int .u8) := by kernel_rfl
theorem num_of {H : Type} {enc : TypeId × Value → H} {W : World} {base n : Nat} {spare : Nat → Bool} {held : Bool} {cs : List Value} {x : DataW H × List MemPlace} (h : DataW.trod enc Tryz.prog W base spare held n 82 cs = some x) :
    ∃ r : NRow, i64r r.1 ∧ i64r r.2.1 ∧ r.2.2 ≤ 255 ∧ cs = [.int .i64 r.1, .int .i64 r.2.1, .int .u8 r.2.2] := by
 obtain ⟨f0, f1, f2, hu, h1, h2, h3, h4, h5, h6⟩ := tyN
 obtain ⟨y0, y1, y2, m, _, hl, g0, g1, g2⟩ := trod_struct3 hu h
 rw [h1, h2, tyc2] at g0
 rw [h3, h4, tyc2] at g1
 rw [h5, h6, tyc5] at g2
 rw [tyc82] at hl
 obtain ⟨n0, e0, _, w0⟩ := DataW.trod_int tyu2 g0
 obtain ⟨n1, e1, _, w1⟩ := DataW.trod_int tyu2 g1
 obtain ⟨n2, e2, _, w2⟩ := DataW.trod_int tyu5 g2
 match cs, hl with
 | [c0, c1, c2], _ =>
  simp at e0 e1 e2
  subst e0; subst e1; subst e2
  have b2 := bounds_u8 w2
  refine ⟨(n0, n1, n2.toNat), bounds_i64 w0, bounds_i64 w1, ?_, ?_⟩
  ·show n2.toNat ≤ 255; omega
  ·show _ = [_, _, Value.int .u8 ((n2.toNat : Nat) : Int)]
   rw [Int.toNat_of_nonneg b2.1]
theorem rows_of {H : Type} {enc : TypeId × Value → H} {W : World} {a : Option Addr} {len cap : Nat} {d : DataW H} {ps : List MemPlace} (h : DataW.Trod enc Tryz.prog W 0 (fun _ => true) true 22 (.slice a len cap) d ps) :
    ∃ l : List NRow, okR l ∧ RV (fun _ => False) (fun _ => none) W (.arr (nR l)) (.slice a len cap) := by
 obtain ⟨fuel, hf⟩ := h
 rcases open_slice tyS hf with ⟨hcs, _⟩ | ⟨x, len', cap', m, n, D, Pl, hcs, _, hl, hm, hmm, _, hx⟩
 ·simp [Value.cells] at hcs
  obtain ⟨rfl, rfl, rfl⟩ := hcs
  exact ⟨[], (fun r hr => by cases hr), none, 0, rfl, Nat.le_refl _, by decide, .inl rfl⟩
 ·simp [Value.cells] at hcs
  obtain ⟨rfl, rfl, rfl⟩ := hcs
  simp only [if_true] at hmm
  have hmc : m = cap := hmm
  rw [hmc] at hx
  rw [tyc82] at hx
  have hx' : ∀ i, i < len → ∃ r : NRow, (i64r r.1 ∧ i64r r.2.1 ∧ r.2.2 ≤ 255) ∧ W.cells? 0 (x.add (i * 3)) 3 = some [.int .i64 r.1, .int .i64 r.2.1, .int .u8 r.2.2] := fun i hi => by
   obtain ⟨cs', g1, g2⟩ := hx i (by omega)
   obtain ⟨r, r1, r2, r3, e⟩ := num_of g2
   exact ⟨r, ⟨r1, r2, r3⟩, by rw [g1, e]⟩
  obtain ⟨R, hR⟩ := choose_lt (α := NRow) hx'
  refine ⟨(List.range len).map R, ?_, some x, cap, by simp [nR], by simpa [nR] using hl, hm, ?_⟩
  ·intro r hr
   obtain ⟨i, hi, rfl⟩ := List.mem_map.1 hr
   exact (hR i (List.mem_range.1 hi)).1
  ·by_cases h0 : len = 0
   ·subst h0; exact .inl rfl
   ·right
    have c : ∀ i, i < len → ∀ j (v : Value), [.int .i64 (R i).1, .int .i64 (R i).2.1, .int .u8 (R i).2.2][j]? = some v → W.cell? (x.add (i * 3 + j)) = some v := fun i hi j v hv => by
     have hj : j < 3 := by
      have := (List.getElem?_eq_some_iff.1 hv).1
      simpa using this
     have := (World.cells?_some (hR i hi).2).2.2 j hj
     rw [hv, Go.Deep.add_add] at this
     exact this
    have c0 := c 0 (by omega) 0 _ rfl
    obtain ⟨b, off, spot⟩ := x
    have hspot : spot = none := by simpa [Addr.add] using World.cell?_spot c0
    subst hspot
    have hadd : ∀ k, Addr.add ⟨b, off, none⟩ k = ⟨b, off + k, none⟩ := fun k => by
     unfold Addr.add
     by_cases hk : k = 0
     ·simp [hk]
     ·simp [hk]
    refine ⟨b, off, 3, rfl, size_of_cell (by rw [hadd] at c0; exact c0), (fun h => h), ?_⟩
    have := ess_of (M := fun _ => False) (β := fun _ => none) (w := W) (b := b) (s := 3) (off := off) (f := fun i => nuC (R i).1 (R i).2.1 (R i).2.2) len 0 (fun i hi => ⟨rfl, ?_⟩)
    ·rw [Nat.zero_mul, Nat.add_zero, ← List.range_eq_range'] at this
     rw [nR, List.map_map]
     exact this
    ·have hi' : i < len := by omega
     refine ⟨⟨_, ?_, rfl⟩, ⟨_, ?_, rfl⟩, ⟨_, ?_, rfl⟩, trivial⟩
     ·have := c i hi' 0 _ rfl; rw [hadd] at this; exact this
     ·have := c i hi' 1 _ rfl; rw [hadd] at this; rw [Nat.add_assoc]; exact this
     ·have := c i hi' 2 _ rfl; rw [hadd] at this; rw [Nat.add_assoc, Nat.add_assoc]; exact this
end Go.Proofs.YtdhedjbmdnnbkaaGreatDoor
namespace Go.Proofs.YtdhedjbmdnnbkaaGreatDoor
open Go.Abs
set_option maxRecDepth 20000

end Go.Proofs.YtdhedjbmdnnbkaaGreatDoor
namespace Go.Abs
section
variable {P : Program} {ops : Array Oper} {nx n j : Nat} {rest : List Oper} {fr : Fr} {hp : Hp} {K : Fps → Fr → Hp → Prop} {dst : Option Nat} {op : Op} {ty : Nat} {pos : String} {after : Array Edge} {g t d : Nat} {want b : Bool}
theorem g_u (ht : (ops[g]?).bind (·.dst) = some t) (hx : evF (look fr) (.tmp t) = some (.v undef)) (hnd : notDefer op = true) (hd : Nat.blt d n = true) (h : AR P ops nx n (j + 1) rest ((d, .v undef) :: fr) hp fun fps f h => K (([], []) :: fps) f h) : AR P ops nx n j (⟨some d, op, ty, pos, after, some (g, want)⟩ :: rest) fr hp K :=
 AR.opN ht hx nofun hnd hd h
end
theorem w_1 {p q : Prop} (h : q) (f : Hid q → p := by
 intro h0
 first
 | (apply k_lss; first | exact o_0 (.bin rfl rfl (vT binI_lss (decide_eq_true (by omega)))) h0.h | exact o_0 (.bin rfl rfl (vF binI_lss (decide_eq_false (by omega)))) h0.h)
 | (apply k_gtr; first | exact o_0 (.bin rfl rfl (vT binI_gtr (decide_eq_true (by omega)))) h0.h | exact o_0 (.bin rfl rfl (vF binI_gtr (decide_eq_false (by omega)))) h0.h)
 | (apply k_leq; first | exact o_0 (.bin rfl rfl (vT binI_leq (decide_eq_true (by omega)))) h0.h | exact o_0 (.bin rfl rfl (vF binI_leq (decide_eq_false (by omega)))) h0.h)
 | (apply k_geq; first | exact o_0 (.bin rfl rfl (vT binI_geq (decide_eq_true (by omega)))) h0.h | exact o_0 (.bin rfl rfl (vF binI_geq (decide_eq_false (by omega)))) h0.h)
 | (apply k_eql; first | exact o_0 (.bin rfl rfl (vT binI_eql (decide_eq_true (by omega)))) h0.h | exact o_0 (.bin rfl rfl (vF binI_eql (decide_eq_false (by omega)))) h0.h)) : p := f ⟨h⟩
theorem m_1 {p q : Prop} (h : q) (f : Hid q → p := by
 intro h0
 first
 | (apply k_bin; exact w_1 h0.h)
 | exact g_n rfl rfl rfl rfl rfl h0.h
 | exact g_nn rfl rfl rfl rfl h0.h
 | exact g_u rfl rfl rfl rfl h0.h
 | (refine g_y rfl rfl ?_; first | (apply k_bin; exact w_1 h0.h) | exact a_1 h0.h)
 | exact a_1 h0.h) : p := f ⟨h⟩
theorem d_2 {p q : Prop} (h : q) (f : Hid q → p := by intro h0; (iterate 2 (refine m_1 ?_)); exact h0.h) : p := f ⟨h⟩
theorem d_z {p q : Prop} (h : q) (f : Hid q → p := by intro h0; (repeat (refine m_1 ?_)); exact AR.nil h0.h) : p := f ⟨h⟩
section
variable {P : Program} {ops : Array Oper} {nx n : Nat} {fr : Fr} {hp : Hp}
theorem q_z {ρ : Option Nat} {Q : Exit → AState → Prop} {id : Nat} {y : Code} (m : Nat) {q : Prop} (h : q) (f : Hid q → AR P ops nx n 0 ops.toList fr hp fun _ f h => thenA (AWp ρ P y Q) Q .normal ⟨f, h, nx + m, n⟩ := by intro h0; (repeat (refine m_1 ?_)); exact AR.nil h0.h) (hsz : ops.size = m := by exact rfl) : AWp ρ P (.seq (.region id ops false) y) Q ⟨fr, hp, nx, n⟩ := s_r m (f ⟨h⟩) hsz
end
end Go.Abs
namespace Go.Proofs.YtdhedjbmdnnbkaaGreatDoor
open Go.Abs
set_option maxRecDepth 20000
def goodN (r : NRow) : Bool := decide (¬ ((r.2.2 : Int) % 4 ≠ 0) ∧ ¬ r.1 > 999999 ∧ ¬ r.1 < -999999 ∧ ¬ r.2.1 > 999999 ∧ ¬ r.2.1 < -999999)
def tameB (l : List NRow) (k : Nat) : Bool := l.all goodN && decide (l.length ≤ k)
theorem fs_Tame (l : List NRow) (k : Nat) (hl : l.length ≤ 1099511627776) (hk : k ≤ 1000000) : FSpec Tryz.prog 40 [.arr (nR l), i64 k] (bln (tameB l k)) := by
 have hnl : (nR l).length = l.length := by simp [nR]
 refine FSpec.enter Tryz.func40 rfl (by kernel_rfl) rfl rfl rfl ?_ rfl ?_
 ·exact closed_cons (closed_arr (closed_nR l)) (closed_cons (closed_v _) closed_nil)
 refine r_z 1 ?_
 refine AWp.seq ?_
 refine r_z 1 ?_
 refine AWp.cutT (fun _ : Unit => ⟨[(0, .arr (nR l)), (1, i64 k)], [], 1, 45⟩) (fun _ => l.all goodN = true) ?_ ?_
 ·refine AWp.block ?_
  refine AWp.loopS (fun j : Nat => ⟨[(5, i64 ((j : Nat) : Int)), (0, .arr (nR l)), (1, i64 k)], [], 1, 45⟩) (fun j => l.length - j) (fun j => j ≤ l.length ∧ (l.take j).all goodN = true) 0 ⟨Nat.zero_le _, rfl⟩ ?_ ?_
  ·refine SEnt.to [] rfl rfl rfl au_r (fun hs => ?_) (fun hs => ?_)
   ·repeat' (first | exact CvF.nil | refine CvF.cons rfl ?_ ?_)
    all_goals (first | (exact Cv.clo hs (closed_arr (closed_nR l))) | exact au_c)
   ·repeat' (first | exact CvH.nil | refine CvH.cons rfl rfl rfl rfl ?_ ?_)
    all_goals (first | exact au_e | (refine CvLL.box ?_; repeat' (first | exact CvL.nil | refine CvL.cons ?_ ?_)))
    all_goals (first | (exact Cv.clo hs (closed_arr (closed_nR l))) | exact au_c)
  rintro j ⟨hj, hg⟩
  by_cases hlt : j < l.length
  ·obtain ⟨r, hr⟩ : ∃ r, l[j]? = some r := ⟨_, List.getElem?_eq_getElem hlt⟩
   have hgt : (nR l)[((j : Nat) : Int).toNat]? = some (nuC r.1 r.2.1 r.2.2) := by
    rw [Int.toNat_natCast, nR, List.getElem?_map, hr]; rfl
   have hbad : goodN r = false → tameB l k = false := fun h => by
    unfold tameB
    rw [Bool.and_eq_false_iff]
    exact .inl (List.all_eq_false.2 ⟨r, List.mem_of_getElem? hr, by rw [h]; decide⟩)
   refine AWp.seq ?_
   refine q_z 4 ?_
   refine AWp.cond rfl (fun h => ?_) (fun h => ?_)
   rotate_left
   ·cases h
   refine AWp.skip ?_
   refine AWp.seq ?_
   refine AWp.block ?_
   refine s_r 6 ?_
   refine a_2 ?_
   first | refine AR.op0 (.index_l rfl rfl (by omega) (by omega) te_22.h) rfl rfl ?_ | refine AR.op0 (.index_a rfl rfl (by omega) hgt rfl te_22.h) rfl rfl ?_
   first | refine AR.op0 (.load_l rfl rfl hgt tg_82.h ts_82.h (nle rfl)) rfl rfl ?_ | refine AR.op0 (.load_a rfl hgt tg_82.h ts_82.h (nle rfl)) rfl rfl ?_
   refine a_z ?_
   by_cases c0 : ((r.2.2 : Int) % 4 ≠ 0)
   ·have hgd : goodN r = false := decide_eq_false (by rintro ⟨e0, e1, e2, e3, e4⟩; exact e0 c0)
    rw [hbad hgd]
    refine s_r 24 ?_
    refine a_3 ?_
    refine o_0 (.bin rfl rfl (vT binI_neq ((by simpa using c0)))) ?_
    refine a_z ?_
    refine AWp.cond rfl (fun h => ?_) (fun h => ?_)
    rotate_left
    ·cases h
    refine r_z 1 ?_
    refine AWp.ret ?_
    exact Fin.tmpE rfl rfl (closed_v _)
   by_cases c1 : r.1 > 999999
   ·have hgd : goodN r = false := decide_eq_false (by rintro ⟨e0, e1, e2, e3, e4⟩; exact e1 c1)
    rw [hbad hgd]
    refine s_r 24 ?_
    refine a_3 ?_
    refine o_0 (.bin rfl rfl (vF binI_neq ((by simpa using c0)))) ?_
    refine d_z ?_
    refine AWp.cond rfl (fun h => ?_) (fun h => ?_)
    rotate_left
    ·cases h
    refine r_z 1 ?_
    refine AWp.ret ?_
    exact Fin.tmpE rfl rfl (closed_v _)
   by_cases c2 : r.1 < -999999
   ·have hgd : goodN r = false := decide_eq_false (by rintro ⟨e0, e1, e2, e3, e4⟩; exact e2 c2)
    rw [hbad hgd]
    refine s_r 24 ?_
    refine a_3 ?_
    refine o_0 (.bin rfl rfl (vF binI_neq ((by simpa using c0)))) ?_
    refine d_z ?_
    refine AWp.cond rfl (fun h => ?_) (fun h => ?_)
    rotate_left
    ·cases h
    refine r_z 1 ?_
    refine AWp.ret ?_
    exact Fin.tmpE rfl rfl (closed_v _)
   by_cases c3 : r.2.1 > 999999
   ·have hgd : goodN r = false := decide_eq_false (by rintro ⟨e0, e1, e2, e3, e4⟩; exact e3 c3)
    rw [hbad hgd]
    refine s_r 24 ?_
    refine a_3 ?_
    refine o_0 (.bin rfl rfl (vF binI_neq ((by simpa using c0)))) ?_
    refine d_z ?_
    refine AWp.cond rfl (fun h => ?_) (fun h => ?_)
    rotate_left
    ·cases h
    refine r_z 1 ?_
    refine AWp.ret ?_
    exact Fin.tmpE rfl rfl (closed_v _)
   by_cases c4 : r.2.1 < -999999
   ·have hgd : goodN r = false := decide_eq_false (by rintro ⟨e0, e1, e2, e3, e4⟩; exact e4 c4)
    rw [hbad hgd]
    refine s_r 24 ?_
    refine a_3 ?_
    refine o_0 (.bin rfl rfl (vF binI_neq ((by simpa using c0)))) ?_
    refine d_z ?_
    refine AWp.cond rfl (fun h => ?_) (fun h => ?_)
    rotate_left
    ·cases h
    refine r_z 1 ?_
    refine AWp.ret ?_
    exact Fin.tmpE rfl rfl (closed_v _)
   have hgd : goodN r = true := decide_eq_true ⟨c0, c1, c2, c3, c4⟩
   refine s_r 24 ?_
   refine a_3 ?_
   refine o_0 (.bin rfl rfl (vF binI_neq ((by simpa using c0)))) ?_
   refine d_z ?_
   refine AWp.cond rfl (fun h => ?_) (fun h => ?_)
   ·cases h
   refine AWp.skip ?_
   refine AWp.reg (m := 3) rfl ?_
   refine a_z ?_
   refine ⟨j + 1, by omega, ⟨hlt, ?_⟩, ?_⟩
   ·rw [take_snoc hr, List.all_append, hg]; simp [hgd]
   ·refine SEnt.to [] rfl rfl rfl au_r (fun hs => ?_) (fun hs => ?_)
    ·repeat' (first | exact CvF.nil | refine CvF.cons rfl ?_ ?_)
     all_goals (first | (exact Cv.clo hs (closed_arr (closed_nR l))) | exact au_c)
    ·repeat' (first | exact CvH.nil | refine CvH.cons rfl rfl rfl rfl ?_ ?_)
     all_goals (first | exact au_e | (refine CvLL.box ?_; repeat' (first | exact CvL.nil | refine CvL.cons ?_ ?_)))
     all_goals (first | (exact Cv.clo hs (closed_arr (closed_nR l))) | exact au_c)
  ·have hge : l.take j = l := List.take_of_length_le (by omega)
   rw [hge] at hg
   refine AWp.seq ?_
   refine q_z 4 ?_
   refine AWp.cond rfl (fun h => ?_) (fun h => ?_)
   ·cases h
   refine AWp.exit ⟨(), hg, ?_⟩
   refine SEnt.to [] rfl rfl rfl au_r (fun hs => ?_) (fun hs => ?_)
   ·repeat' (first | exact CvF.nil | refine CvF.cons rfl ?_ ?_)
    all_goals (first | (exact Cv.clo hs (closed_arr (closed_nR l))) | exact au_c)
   ·repeat' (first | exact CvH.nil | refine CvH.cons rfl rfl rfl rfl ?_ ?_)
    all_goals (first | exact au_e | (refine CvLL.box ?_; repeat' (first | exact CvL.nil | refine CvL.cons ?_ ?_)))
    all_goals (first | (exact Cv.clo hs (closed_arr (closed_nR l))) | exact au_c)
 rintro _ hg
 have e : tameB l k = decide ((((nR l).length : Nat) : Int) ≤ (k : Int)) := by
  unfold tameB
  rw [hg, Bool.true_and, hnl]
  exact decide_eq_decide.2 (by omega)
 rw [e]
 refine r_z 5 ?_
 refine AWp.ret ?_
 exact Fin.tmpE rfl rfl (closed_v _)
end Go.Proofs.YtdhedjbmdnnbkaaGreatDoor
namespace Go.Abs
def powP (p : List Rat) : Nat → List Rat
 | 0 => constP 1
 | n + 1 => mulP (powP p n) p
def pB (L : Nat) : Nat → Nat
 | 0 => 1
 | n + 1 => (n * L + 1) * (pB L n + 257) + 1
theorem mulP_le (p q : List Rat) : (mulP p q).length ≤ p.length + q.length := by
 have h := mR_len p q q.length
 rw [mR_mul] at h
 omega
theorem powP_len (p : List Rat) : ∀ n, (powP p n).length ≤ n * p.length + 1
 | 0 => by
  have h := trimQ_len [1]
  have e : ([1] : List Rat).length = 1 := rfl
  show (trimQ [1]).length ≤ _
  omega
 | n + 1 => by
  have h1 := powP_len p n
  have h2 := mulP_le (powP p n) p
  rw [powP, Nat.succ_mul]
  omega
theorem pB_pos (L : Nat) : ∀ n, 1 ≤ pB L n
 | 0 => Nat.le_refl _
 | n + 1 => Nat.le_add_left _ _
theorem powP_bd {p : List Rat} (h : bdL p 256) : ∀ n, bdL (powP p n) (pB p.length n)
 | 0 => fun q hq => by
  have := trimQ_mem (l := [1]) hq
  rw [List.mem_singleton.1 this]
  show qs 1 ≤ 1
  decide
 | n + 1 => fun q hq => by
  have h1 := mulP_bd (powP_bd h n) h (pB_pos _ _) (by decide) q hq
  have h2 := Nat.mul_le_mul_right (pB p.length n + 256 + 1) (powP_len p n)
  show qs q ≤ (n * p.length + 1) * (pB p.length n + 257) + 1
  obtain ⟨a, ha⟩ : ∃ a, a = (powP p n).length * (pB p.length n + 256 + 1) := ⟨_, rfl⟩
  obtain ⟨b, hb⟩ : ∃ b, b = (n * p.length + 1) * (pB p.length n + 256 + 1) := ⟨_, rfl⟩
  rw [← ha] at h1 h2
  rw [← hb] at h2
  rw [show pB p.length n + 257 = pB p.length n + 256 + 1 from rfl, ← hb]
  omega
theorem pB_ok : ((List.range 13).all fun L => (List.range 7).all fun n => decide (2 < n ∧ 6 < L) || decide (pB L n ≤ 1073741824)) = true := by decide +kernel
theorem pB_le {L n : Nat} (hL : L ≤ 12) (hn : n ≤ 6) (h : n ≤ 2 ∨ L ≤ 6) : pB L n ≤ 1073741824 := by
 have h1 := List.all_eq_true.1 pB_ok L (List.mem_range.2 (by omega))
 have h2 := List.all_eq_true.1 h1 n (List.mem_range.2 (by omega))
 rcases Bool.or_eq_true _ _ ▸ h2 with h3 | h3
 ·have := of_decide_eq_true h3
  omega
 ·exact of_decide_eq_true h3
end Go.Abs
namespace Go.Proofs.YtdhedjbmdnnbkaaGreatDoor
open Go.Abs
set_option maxRecDepth 20000
theorem fs_Power0 (p : List Rat) (n : Int) (hn : n < 0 ∨ n > 40) : FSpec Tryz.prog 49 [.arr (pE p), i64 n] (.tup [.arr (pE []), i64 3]) := by
 refine FSpec.enter Tryz.func49 rfl (by kernel_rfl) rfl rfl rfl ?_ rfl ?_
 ·exact closed_cons (closed_pA p) (closed_cons (closed_v _) closed_nil)
 refine r_z 2 ?_
 refine AWp.seq ?_
 refine AWp.block ?_
 by_cases h0 : n < 0
 ·refine q_z 7 ?_
  refine AWp.cond rfl (fun h => ?_) (fun h => ?_)
  rotate_left
  ·cases h
  refine r_z 2 ?_
  refine AWp.ret ?_
  refine Fin.many ⟨_, _, rfl, rfl, ⟨_, _, rfl, rfl, rfl⟩⟩ (nle rfl) ?_
  exact CvL.cons (Cv.emp _) (CvL.cons (Cv.clo shr_nil (closed_v _)) CvL.nil)
 ·have h1 : n > 40 := by omega
  refine q_z 7 ?_
  refine AWp.cond rfl (fun h => ?_) (fun h => ?_)
  rotate_left
  ·cases h
  refine r_z 2 ?_
  refine AWp.ret ?_
  refine Fin.many ⟨_, _, rfl, rfl, ⟨_, _, rfl, rfl, rfl⟩⟩ (nle rfl) ?_
  exact CvL.cons (Cv.emp _) (CvL.cons (Cv.clo shr_nil (closed_v _)) CvL.nil)
theorem fs_Power (p : List Rat) (n : Nat) (hs : bdL p 256) (hl : p.length ≤ 12) (hn : n ≤ 6) (hb : ∀ k, k ≤ n → pB p.length k ≤ 1073741824) : FSpec Tryz.prog 49 [.arr (pE p), i64 n] (.tup [.arr (pE (powP p n)), i64 0]) := by
 have hdg : (0 : Int) ≤ degP p + 1 ∧ degP p ≤ 12 := by
  have := trimQ_len p
  unfold degP
  omega
 have hmx : (if (0 : Int) > degP p then (0 : Int) else degP p) * n ≤ 72 ∧ 0 ≤ (if (0 : Int) > degP p then (0 : Int) else degP p) * n := by
  have h1 : (0 : Int) ≤ (if (0 : Int) > degP p then (0 : Int) else degP p) ∧ (if (0 : Int) > degP p then (0 : Int) else degP p) ≤ 12 := by split <;> omega
  generalize (if (0 : Int) > degP p then (0 : Int) else degP p) = m at h1 ⊢
  have h2 : m * n ≤ 12 * 6 := Int.mul_le_mul h1.2 (by omega) (by omega) (by decide)
  exact ⟨h2, Int.mul_nonneg h1.1 (by omega)⟩
 refine FSpec.enter Tryz.func49 rfl (by kernel_rfl) rfl rfl rfl ?_ rfl ?_
 ·exact closed_cons (closed_pA p) (closed_cons (closed_v _) closed_nil)
 refine r_z 2 ?_
 refine AWp.seq ?_
 refine AWp.block ?_
 refine q_z 7 ?_
 refine AWp.cond rfl (fun h => ?_) (fun h => ?_)
 ·cases h
 refine r_c 7 (fs_Degree p (by omega)) ?_
 refine a_2 ?_
 refine o_0 (.bin rfl rfl (bI64_mul (by omega))) ?_
 refine d_z ?_
 refine AWp.cond rfl (fun h => ?_) (fun h => ?_)
 ·cases h
 refine AWp.skip ?_
 have h1 := fs_Int 1 (by decide)
 have h2 := fs_constant 1
 refine r_c 3 (h1) ?_
 refine c_s (h2) ?_
 refine a_z ?_
 refine AWp.seq ?_
 refine r_z 2 ?_
 refine AWp.cutT (fun _ : Unit => ⟨[(6, .arr (pE (powP p n)))], [], 1, 31⟩) (fun _ => True) ?_ ?_
 ·refine AWp.block ?_
  refine AWp.loopS (fun j : Nat => ⟨[(24, i64 ((j : Nat) : Int)), (23, i64 ((n : Nat) : Int)), (6, .arr (pE (powP p j))), (0, .arr (pE p))], [], 1, 31⟩) (fun j => n - j) (fun j => j ≤ n) 0 (Nat.zero_le _) ?_ ?_
  ·exact s_e []
  rintro j hj
  by_cases hlt : j < n
  ·have hB := hb (j + 1) hlt
   have hB0 := hb j hj
   have hll := powP_len p j
   have hjl : j * p.length ≤ 6 * 12 := Nat.mul_le_mul (by omega) hl
   have hbj := powP_bd hs j
   have hpos := pB_pos p.length j
   have hm := fs_Mul (powP p j) p (pB p.length j) 256 hbj hs hpos (by decide) (by
    have h3 := Nat.mul_le_mul_right (pB p.length j + 256 + 1) hll
    have h4 : (j * p.length + 1) * (pB p.length j + 256 + 1) + 1 ≤ 1073741824 := hB
    omega) (by decide) (by omega) (by omega)
   refine q_z 1 ?_
   refine AWp.seq ?_
   refine AWp.cond rfl (fun h => ?_) (fun h => ?_)
   rotate_left
   ·cases h
   refine AWp.skip ?_
   refine AWp.seq ?_
   refine AWp.block ?_
   refine AWp.reg (m := 4) rfl ?_
   refine c_s (hm) ?_
   refine a_z ?_
   refine AWp.reg (m := 2) rfl ?_
   refine a_z ?_
   refine ⟨j + 1, by omega, hlt, ?_⟩
   exact s_e []
  ·have hge : j = n := by omega
   subst hge
   refine q_z 1 ?_
   refine AWp.seq ?_
   refine AWp.cond rfl (fun h => ?_) (fun h => ?_)
   ·cases h
   refine AWp.exit ⟨(), trivial, ?_⟩
   exact s_e []
 rintro _ _
 refine r_z 3 ?_
 refine AWp.ret ?_
 refine Fin.many ⟨_, _, rfl, rfl, ⟨_, _, rfl, rfl, rfl⟩⟩ (nle rfl) ?_
 exact CvL.cons (Cv.clo shr_nil (closed_pA _)) (CvL.cons (Cv.clo shr_nil (closed_v _)) CvL.nil)
end Go.Proofs.YtdhedjbmdnnbkaaGreatDoor
namespace Go.Proofs.YtdhedjbmdnnbkaaGreatDoor
open Go.Abs Go.Deep Go.RowKit Go.WideShapes
set_option maxRecDepth 20000
def okN (r : NRow) : Prop := i64r r.1 ∧ i64r r.2.1 ∧ r.2.2 ≤ 255
theorem numP_of {H : Type} {enc : TypeId × Value → H} {W : World} {base : Nat} {v : Value} {d : DataW H} {ps : List MemPlace} (hv : Value.okWide Tryz.prog W .any base 82 v) (h : DataW.Trod enc Tryz.prog W 0 (fun _ => true) true 82 v d ps) :
    ∃ r : NRow, okN r ∧ RV (fun _ => False) (fun _ => none) W (.agg (nuC r.1 r.2.1 r.2.2)) v := by
 obtain ⟨f0, f1, f2, hu, _⟩ := tyN
 obtain ⟨cs, rfl, _⟩ : ∃ cs, v = .agg cs ∧ True := by
  unfold Value.okWide at hv
  rw [hu] at hv
  obtain ⟨cs, h1, _⟩ := hv
  exact ⟨cs, h1, trivial⟩
 obtain ⟨fuel, hf⟩ := h
 obtain ⟨r, r1, r2, r3, e⟩ := num_of hf
 refine ⟨r, ⟨r1, r2, r3⟩, cs, rfl, ?_⟩
 have e' : cs.toList = [.int .i64 r.1, .int .i64 r.2.1, .int .u8 r.2.2] := by simpa [Value.cells] using e
 rw [e']
 exact ⟨_, _, rfl, rfl, _, _, rfl, rfl, _, _, rfl, rfl, rfl⟩
theorem tyu3 : (Tryz.prog).underlying 3 = some (.int .i64) := by kernel_rfl
theorem intP_of {H : Type} {enc : TypeId × Value → H} {W : World} {base : Nat} {v : Value} {d : DataW H} {ps : List MemPlace} (hv : Value.okWide Tryz.prog W .any base 3 v) (h : DataW.Trod enc Tryz.prog W 0 (fun _ => true) true 3 v d ps) :
    ∃ r : Int, i64r r ∧ RV (fun _ => False) (fun _ => none) W (i64 r) v := by
 obtain ⟨n, rfl⟩ : ∃ n, v = .int .i64 n := by
  unfold Value.okWide at hv
  rw [tyu3] at hv
  cases v with
  | int k n => obtain ⟨rfl, _⟩ := hv; exact ⟨n, rfl⟩
  | _ => exact False.elim hv
 obtain ⟨fuel, hf⟩ := h
 obtain ⟨n0, e0, _, w0⟩ := DataW.trod_int tyu3 hf
 have e : n = n0 := by simpa [Value.cells] using e0
 subst e
 exact ⟨n, bounds_i64 w0, rfl⟩
end Go.Proofs.YtdhedjbmdnnbkaaGreatDoor
namespace Go.Proofs.YtdhedjbmdnnbkaaGreatDoor
open Go.Abs
set_option maxRecDepth 20000
set_option maxHeartbeats 1000000
theorem trim_powP (p : List Rat) : ∀ n, trimQ (powP p n) = powP p n
 | 0 => trimQ_idem _
 | n + 1 => trim_mulP _ _
theorem trim_scaleP (p : List Rat) (k : Rat) : trimQ (scaleP p k) = scaleP p k := trimQ_idem _
theorem closed_bN (r : NRow) : Closed (.aptr [nuC r.1 r.2.1 r.2.2] 0 0) := closed_box (closed_nuC _ _ _)
theorem closed_bR (q : Rat) : Closed (.aptr [rC (rq q)] 0 0) := closed_box (closed_rC _)
theorem fs_PolyAdds (pr qr : List NRow) (kr : NRow) (n : Int) (hp : okR pr) (hq : okR qr) (hk : okN kr) (hn : i64r n) : FSpec Tryz.prog 6 [.arr (nR pr), .arr (nR qr), .agg (nuC kr.1 kr.2.1 kr.2.2), i64 n] (.v (.bool true)) := by
 have hnp : (nR pr).length = pr.length := by simp [nR]
 have hnq : (nR qr).length = qr.length := by simp [nR]
 unfold i64r at hn
 have cR : ∀ l, Closed (.arr (nR l)) := fun l => closed_arr (closed_nR l)
 refine FSpec.enter Tryz.func6 rfl (by kernel_rfl) rfl rfl rfl ?_ rfl ?_
 ·exact closed_cons (cR pr) (closed_cons (cR qr) (closed_cons (closed_agg (closed_nuC _ _ _)) (closed_cons (closed_v _) closed_nil)))
 refine r_z 2 ?_
 have cN := closed_bN kr
 have cP := cR pr
 have cQ := cR qr
 refine AWp.cut (fun _ : Unit => ⟨[(0, .arr (nR pr)), (1, .arr (nR qr)), (3, i64 n), (6, .aptr [nuC kr.1 kr.2.1 kr.2.2] 0 0)], [], 1, 173⟩) (fun _ => pr.length ≤ 12 ∧ qr.length ≤ 12 ∧ (n ≤ 6 ∨ n > 40)) ?_ ?_
 ·by_cases h1 : pr.length > 12
  ·refine q_z 16 ?_
   refine AWp.cond rfl (fun h => ?_) (fun h => ?_)
   ·refine r_c 2 (fs_wakes) ?_
    refine a_z ?_
    refine AWp.ret ?_
    exact Fin.tmpE rfl rfl (closed_v _)
   ·cases h
  by_cases h2 : qr.length > 12
  ·refine q_z 16 ?_
   refine AWp.cond rfl (fun h => ?_) (fun h => ?_)
   ·refine r_c 2 (fs_wakes) ?_
    refine a_z ?_
    refine AWp.ret ?_
    exact Fin.tmpE rfl rfl (closed_v _)
   ·cases h
  by_cases h3 : n > 6
  ·by_cases h4 : n ≤ 40
   ·refine q_z 16 ?_
    refine AWp.cond rfl (fun h => ?_) (fun h => ?_)
    ·refine r_c 2 (fs_wakes) ?_
     refine a_z ?_
     refine AWp.ret ?_
     exact Fin.tmpE rfl rfl (closed_v _)
    ·cases h
   ·refine q_z 16 ?_
    refine AWp.cond rfl (fun h => ?_) (fun h => ?_)
    ·cases h
    refine AWp.skip ⟨(), ⟨by omega, by omega, by omega⟩, ?_⟩
    refine SEnt.to [] rfl rfl rfl au_r (fun hs => ?_) (fun hs => ?_)
    ·repeat' (first | exact CvF.nil | refine CvF.cons rfl ?_ ?_)
     all_goals (first | (exact Cv.boxp hs rfl (dead_of rfl) rfl (closed_nuC _ _ _)) | exact au_c)
    ·repeat' (first | exact CvH.nil | refine CvH.cons rfl rfl rfl rfl ?_ ?_)
     all_goals (first | exact au_e | (refine CvLL.box ?_; repeat' (first | exact CvL.nil | refine CvL.cons ?_ ?_)))
     all_goals (first | (exact Cv.boxp hs rfl (dead_of rfl) rfl (closed_nuC _ _ _)) | exact au_c)
  ·refine q_z 16 ?_
   refine AWp.cond rfl (fun h => ?_) (fun h => ?_)
   ·cases h
   refine AWp.skip ⟨(), ⟨by omega, by omega, by omega⟩, ?_⟩
   refine SEnt.to [] rfl rfl rfl au_r (fun hs => ?_) (fun hs => ?_)
   ·repeat' (first | exact CvF.nil | refine CvF.cons rfl ?_ ?_)
    all_goals (first | (exact Cv.boxp hs rfl (dead_of rfl) rfl (closed_nuC _ _ _)) | exact au_c)
   ·repeat' (first | exact CvH.nil | refine CvH.cons rfl rfl rfl rfl ?_ ?_)
    all_goals (first | exact au_e | (refine CvLL.box ?_; repeat' (first | exact CvL.nil | refine CvL.cons ?_ ?_)))
    all_goals (first | (exact Cv.boxp hs rfl (dead_of rfl) rfl (closed_nuC _ _ _)) | exact au_c)
 rintro _ ⟨lp0, lq0, n1⟩
 have tP := fs_Tame pr 12 (by omega) (by decide)
 have tQ := fs_Tame qr 12 (by omega) (by decide)
 refine AWp.cut (fun w : Bool => ⟨[(0, .arr (nR pr)), (1, .arr (nR qr)), (3, i64 n), (6, .aptr [nuC kr.1 kr.2.1 kr.2.2] 0 0), (9, bln w)], [], 1, 173⟩) (fun _ => True) ?_ ?_
 ·cases hb1 : tameB pr 12 with
  | false =>
   rw [hb1] at tP
   refine AWp.reg (m := 9) rfl ?_
   refine c_s (tP) ?_
   refine a_z ?_
   refine ⟨true, trivial, ?_⟩
   exact s_e []
  | true =>
   rw [hb1] at tP
   cases hb2 : tameB qr 12 with
   | false =>
    rw [hb2] at tQ
    refine AWp.reg (m := 9) rfl ?_
    refine c_s (tP) ?_
    refine c_s (tQ) ?_
    refine a_z ?_
    refine ⟨true, trivial, ?_⟩
    exact s_e []
   | true =>
    rw [hb2] at tQ
    refine AWp.reg (m := 9) rfl ?_
    refine c_s (tP) ?_
    refine c_s (tQ) ?_
    refine a_z ?_
    refine ⟨false, trivial, ?_⟩
    exact s_e []
 rintro w _
 refine AWp.cut (fun _ : Unit => ⟨[(0, .arr (nR pr)), (1, .arr (nR qr)), (3, i64 n), (6, .aptr [nuC kr.1 kr.2.1 kr.2.2] 0 0)], [], 1, 173⟩) (fun _ => n ≤ 2 ∨ n > 6 ∨ pr.length ≤ 6) ?_ ?_
 ·cases w with
  | true =>
   by_cases f1 : pr.length > 5
   ·refine q_z 27 ?_
    refine AWp.cond rfl (fun h => ?_) (fun h => ?_)
    ·refine r_c 2 (fs_wakes) ?_
     refine a_z ?_
     refine AWp.ret ?_
     exact Fin.tmpE rfl rfl (closed_v _)
    ·cases h
   by_cases f2 : qr.length > 5
   ·refine q_z 27 ?_
    refine AWp.cond rfl (fun h => ?_) (fun h => ?_)
    ·refine r_c 2 (fs_wakes) ?_
     refine a_z ?_
     refine AWp.ret ?_
     exact Fin.tmpE rfl rfl (closed_v _)
    ·cases h
   by_cases g1 : n > 2
   ·by_cases g2 : n ≤ 6
    ·refine q_z 27 ?_
     refine AWp.cond rfl (fun h => ?_) (fun h => ?_)
     ·refine r_c 2 (fs_wakes) ?_
      refine a_z ?_
      refine AWp.ret ?_
      exact Fin.tmpE rfl rfl (closed_v _)
     ·cases h
    ·refine q_z 27 ?_
     refine AWp.cond rfl (fun h => ?_) (fun h => ?_)
     ·cases h
     refine AWp.skip ⟨(), by omega, ?_⟩
     exact s_e []
   ·refine q_z 27 ?_
    refine AWp.cond rfl (fun h => ?_) (fun h => ?_)
    ·cases h
    refine AWp.skip ⟨(), by omega, ?_⟩
    exact s_e []
  | false =>
   by_cases g1 : n > 2
   ·by_cases g2 : n ≤ 6
    ·by_cases g3 : pr.length > 6
     ·refine q_z 27 ?_
      refine AWp.cond rfl (fun h => ?_) (fun h => ?_)
      ·refine r_c 2 (fs_wakes) ?_
       refine a_z ?_
       refine AWp.ret ?_
       exact Fin.tmpE rfl rfl (closed_v _)
      ·cases h
     ·refine q_z 27 ?_
      refine AWp.cond rfl (fun h => ?_) (fun h => ?_)
      ·cases h
      refine AWp.skip ⟨(), by omega, ?_⟩
      exact s_e []
    ·refine q_z 27 ?_
     refine AWp.cond rfl (fun h => ?_) (fun h => ?_)
     ·cases h
     refine AWp.skip ⟨(), by omega, ?_⟩
     exact s_e []
   ·refine q_z 27 ?_
    refine AWp.cond rfl (fun h => ?_) (fun h => ?_)
    ·cases h
    refine AWp.skip ⟨(), by omega, ?_⟩
    exact s_e []
 rintro _ n2
 have lp12 : pr.length ≤ 12 := lp0
 have bp := fs_BothP pr (by omega) hp
 have bq := fs_BothP qr (by omega) hq
 have sp : bdL (nL pr) 256 := nL_qs hp
 have sq : bdL (nL qr) 256 := nL_qs hq
 have lp : (nL pr).length = pr.length := by simp [nL]
 have lq : (nL qr).length ≤ 12 := by simp [nL]; omega
 obtain ⟨p, hpe⟩ : ∃ p, p = nL pr := ⟨_, rfl⟩
 obtain ⟨q, hqe⟩ : ∃ q, q = nL qr := ⟨_, rfl⟩
 rw [← hpe] at bp sp lp
 rw [← hqe] at bq sq lq
 have bp' : FSpec Tryz.prog 15 [.arr (nR pr)] (.tup [.arr (pE p), .arr (rE (rP p))]) := bp
 have bq' : FSpec Tryz.prog 15 [.arr (nR qr)] (.tup [.arr (pE q), .arr (rE (rP q))]) := bq
 have rpl : (rP p).length ≤ 12 := by rw [rP_length]; omega
 have rql : (rP q).length ≤ 12 := by rw [rP_length]; exact lq
 have smp : smL p := bdL_sm sp (by decide)
 have smq : smL q := bdL_sm sq (by decide)
 have spR : bdL (vR (rP p)) 256 := by rw [vR_rP]; exact sp
 have sqR : bdL (vR (rP q)) 256 := by rw [vR_rP]; exact sq
 have hkn := hk
 obtain ⟨k1, k2, k3⟩ := hkn
 obtain ⟨c, hc⟩ : ∃ c, c = numV kr.1 kr.2.1 kr.2.2 := ⟨_, rfl⟩
 have bk := fs_Both1 kr.1 kr.2.1 kr.2.2 k1 k2 k3
 have sc : qs c ≤ 256 := by rw [hc]; exact numV_qs k1 k2
 rw [← hc] at bk
 have smc : sm c := by unfold sm; omega
 refine r_c 7 (bp') ?_
 refine a_z ?_
 refine r_c 7 (bq') ?_
 refine a_z ?_
 refine r_c 9 (bk) ?_
 refine a_z ?_
 have cA := closed_bQ c
 have cB := closed_bR c
 refine AWp.ent (st' := ⟨[(3, i64 n), (10, .arr (pE p)), (11, .arr (rE (rP p))), (12, .arr (pE q)), (13, .arr (rE (rP q))), (14, bQ c), (15, .aptr [rC (rq c)] 0 0)], [], 1, 173⟩) ?_ ?_
 ·exact s_e []
 -- sums, differences, products, multiples
 have e1 := fs_Add p q smp smq (by omega) (by omega)
 have e2 := fs_Sub p q smp smq (by omega) (by omega)
 have e3 := fs_Mul p q 256 256 sp sq (by decide) (by decide) (by have := Nat.mul_le_mul_right (256 + 256 + 1) (show p.length ≤ 12 by omega); omega) (by decide) (by omega) (by omega)
 have e4 := fs_Scale p c smp smc (by omega)
 have r1 := fs_rAddP (rP p) (rP q) 256 256 (okX_rP _) (okX_rP _) spR sqR (by decide) (by omega) (by omega)
 have r2 := fs_rSubP (rP p) (rP q) 256 256 (okX_rP _) (okX_rP _) spR sqR (by decide) (by decide) (by omega) (by omega)
 have mb : ∀ i, i ≤ q.length → bdL (mR p q i) 6157 := fun i hi => bdL_mono (mR_bd sp sq (by decide) (by decide) i) (by have := Nat.mul_le_mul_right (256 + 256 + 1) (show i ≤ 12 by omega); omega)
 have r3 := fs_rMulP (rP p) (rP q) 256 256 6157 (okX_rP _) (okX_rP _) spR sqR (by decide) (by rw [rP_length, vR_rP, vR_rP]; exact mb) (by decide) (by omega) (by omega)
 have r4 := fs_rScale (rP p) (rq c) 256 (okX_rP _) (rok_rq c) spR (by show 256 + qs c ≤ _; omega) (by omega)
 rw [vR_rP, vR_rP] at r1 r2 r3
 rw [vR_rP] at r4
 have l1 := addP_len p q
 have l2 := subP_len p q
 have l3 := mulP_le p q
 have l4 := scaleP_len p c
 have m3 : bdL (mulP p q) 68719476736 := bdL_mono (mulP_bd sp sq (by decide) (by decide)) (by have := Nat.mul_le_mul_right (256 + 256 + 1) (show p.length ≤ 12 by omega); omega)
 have s1 := fs_SameP (addP p q) (rP (addP p q)) (okX_rP _) (by rw [vR_rP]; exact trim_addP p q) (bdL_mono (bdL_addP sp sq (by decide) (by decide)) (by decide)) (by rw [rP_length]; omega)
 have s2 := fs_SameP (subP p q) (rP (subP p q)) (okX_rP _) (by rw [vR_rP]; exact trim_subP p q) (bdL_mono (bdL_subP sp sq (by decide) (by decide)) (by decide)) (by rw [rP_length]; omega)
 have s3 := fs_SameP (mulP p q) (rP (mulP p q)) (okX_rP _) (by rw [vR_rP]; exact trim_mulP p q) m3 (by rw [rP_length]; omega)
 have s4 := fs_SameP (scaleP p c) (rP (scaleP p c)) (okX_rP _) (by rw [vR_rP]; exact trim_scaleP p c) (bdL_mono (bdL_scaleP sp (by decide)) (by omega)) (by rw [rP_length]; omega)
 have r4' : FSpec Tryz.prog 48 [.arr (rE (rP p)), .agg (rC (rq c))] (.arr (rE (rP (scaleP p c)))) := r4
 refine AWp.seq ?_
 refine AWp.seq ?_
 refine AWp.regD hmix (m := 38) rfl ?_
 refine c_s (e1) ?_
 refine c_s (r1) ?_
 refine c_s (s1) ?_
 refine c_s (e2) ?_
 refine c_s (r2) ?_
 refine c_s (s2) ?_
 refine c_s (e3) ?_
 refine c_s (r3) ?_
 refine c_s (s3) ?_
 refine c_s (e4) ?_
 refine c_s (r4') ?_
 refine c_s (s4) ?_
 refine d_2 ?_
 refine AR.nil ⟨by kernel_rfl, ?_⟩
 refine AWp.cond rfl (fun h => ?_) (fun h => ?_)
 ·cases h
 refine AWp.skip ?_
 by_cases g0 : n < 0 ∨ n > 40
 ·have pw := fs_Power0 p n g0
  have hpe0 : (pE []).length = 0 := rfl
  refine r_c 8 (pw) ?_
  refine a_z ?_
  by_cases g1 : n < 0
  ·refine AWp.seq ?_
   refine q_z 6 ?_
   refine AWp.cond rfl (fun h => ?_) (fun h => ?_)
   ·refine r_c 11 (fs_wakes) ?_
    refine a_z ?_
    refine AWp.ret ?_
    exact Fin.tmpE rfl rfl (closed_v _)
   ·cases h
  ·refine AWp.seq ?_
   refine q_z 6 ?_
   refine AWp.cond rfl (fun h => ?_) (fun h => ?_)
   ·refine r_c 11 (fs_wakes) ?_
    refine a_z ?_
    refine AWp.ret ?_
    exact Fin.tmpE rfl rfl (closed_v _)
   ·cases h
 obtain ⟨N, rfl⟩ : ∃ N : Nat, n = (N : Int) := ⟨n.toNat, by omega⟩
 have hN6 : N ≤ 6 := by omega
 have hpB : ∀ k, k ≤ N → pB p.length k ≤ 1073741824 := fun k hk => pB_le (by omega) (by omega) (by omega)
 have pw := fs_Power p N sp (by omega) hN6 hpB
 have i1 := fs_rInt 1 (by decide)
 have i2 := fs_rConstant (((1 : Int)) : Rat)
 have i2' : FSpec Tryz.prog 50 [.agg (rC (rq ((1 : Int) : Rat)))] (.arr (rE (rP (powP p 0)))) := i2
 have aP := fs_Alike p (rP p) (okX_rP p) (vR_rP p) (bdL_mono sp (by decide)) (by omega)
 have lw := powP_len p N
 have hNl : N * p.length ≤ 6 * 12 := Nat.mul_le_mul hN6 (by omega)
 have sw := fs_SameP (powP p N) (rP (powP p N)) (okX_rP _) (by rw [vR_rP]; exact trim_powP p N) (bdL_mono (powP_bd sp N) (Nat.le_trans (hpB N (Nat.le_refl _)) (by decide))) (by rw [rP_length]; omega)
 refine r_c 8 (pw) ?_
 refine a_z ?_
 refine AWp.seq ?_
 refine q_z 6 ?_
 refine AWp.cond rfl (fun h => ?_) (fun h => ?_)
 ·cases h
 refine AWp.skip ?_
 refine r_c 3 (i1) ?_
 refine c_s (i2') ?_
 refine a_z ?_
 refine AWp.seq ?_
 refine r_z 1 ?_
 refine AWp.cutT (fun _ : Unit => ⟨[(18, .arr (rE (rP (powP p N)))), (10, .arr (pE p)), (11, .arr (rE (rP p))), (16, .arr (pE (powP p N))), (17, i64 0)], [], 1, 173⟩) (fun _ => True) ?_ ?_
 ·refine AWp.block ?_
  refine AWp.loopS (fun j : Nat => ⟨[(19, i64 ((j : Nat) : Int)), (3, i64 ((N : Nat) : Int)), (18, .arr (rE (rP (powP p j)))), (10, .arr (pE p)), (11, .arr (rE (rP p))), (16, .arr (pE (powP p N))), (17, i64 0)], [], 1, 173⟩) (fun j => N - j) (fun j => j ≤ N) 0 (Nat.zero_le _) ?_ ?_
  ·exact s_e []
  rintro j hj
  by_cases hlt : j < N
  ·have hB0 := hpB j hj
   have hll := powP_len p j
   have hjl : j * p.length ≤ 6 * 12 := Nat.mul_le_mul (by omega) (by omega)
   have hbj := powP_bd sp j
   have hpos := pB_pos p.length j
   have hmm : ∀ i, i ≤ p.length → bdL (mR (powP p j) p i) 16777216000 := fun i hi => bdL_mono (mR_bd hbj sp hpos (by decide) i) (by
    have := Nat.mul_le_mul (show i ≤ 12 by omega) (show pB p.length j + 256 + 1 ≤ 1073742081 by omega)
    omega)
   have hm := fs_rMulP (rP (powP p j)) (rP p) (pB p.length j) 256 16777216000 (okX_rP _) (okX_rP _) (by rw [vR_rP]; exact hbj) spR hpos (by rw [rP_length, vR_rP, vR_rP]; exact hmm) (by omega) (by rw [rP_length]; omega) (by omega)
   rw [vR_rP, vR_rP] at hm
   refine AWp.seq ?_
   refine q_z 3 ?_
   refine AWp.cond rfl (fun h => ?_) (fun h => ?_)
   rotate_left
   ·cases h
   refine AWp.skip ?_
   refine AWp.seq ?_
   refine AWp.block ?_
   refine AWp.reg (m := 4) rfl ?_
   refine c_s (hm) ?_
   refine a_z ?_
   refine AWp.reg (m := 3) rfl ?_
   refine a_z ?_
   refine ⟨j + 1, by omega, hlt, ?_⟩
   exact s_e []
  ·have hge : j = N := by omega
   subst hge
   refine AWp.seq ?_
   refine q_z 3 ?_
   refine AWp.cond rfl (fun h => ?_) (fun h => ?_)
   ·cases h
   refine AWp.exit ⟨(), trivial, ?_⟩
   exact s_e []
 rintro _ _
 refine r_c 16 (sw) ?_
 refine c_s (aP) ?_
 refine c_s (fs_wakes) ?_
 refine a_z ?_
 refine AWp.ret ?_
 exact Fin.tmpE rfl rfl (closed_v _)
end Go.Proofs.YtdhedjbmdnnbkaaGreatDoor
namespace Go.Proofs.YtdhedjbmdnnbkaaGreatDoor
open Go
def mkF (P : Program) (fn : Func) (c : OpenClaim) : Bool := (P.make == some c.make) && (c.kinds == (if c.domain.isEmpty then [] else fn.params.toList.map fun t => match P.underlying t with | some (.int k) => some k | _ => none)) && (c.pinned == c.pinnedBy)
section
variable {P : Program} {f : FuncId} {fn : Func} {s : ChangeSpec} {c : OpenClaim}
theorem joined_of (h1 : c.wf (OpenSpec.ofChange s) = true) (h2 : laidOutB P = true) (h3 : mapsRowed P = true)
    (h4 : fn.params.all (P.readableRec ·) = true) (h5 : namedTie P c.named s.vars = true)
    (h6 : ((c.stops == []) && (P.stops == []) && (c.knobs == []) && (P.stopKnobs == [])) = true)
    (h7 : (c.inPlace == P.inPlace f) = true) (h8 : (c.unfollowed == P.unfollowed f) = true) (h9 : (c.recurses == P.recurses f) = true) (h10 : (c.named == P.varsNamed f) = true)
    (h11 : ((c.maps == (fn.params.toList ++ s.plain.varTypes P).any (P.mapsRec ·)) && (c.ifaces == (fn.params.toList ++ s.plain.varTypes P).any (P.ifacesRec ·)) && (c.mapsOut == P.mapsAmong fn.resultTypes.toList)) = true)
    (h12 : ((c.loops == (fn.params.toList ++ s.plain.varTypes P).any (P.loopsFrom ·)) && (c.wideKeys == (fn.params.toList ++ s.plain.varTypes P ++ fn.resultTypes.toList).any (P.wideKeysFrom ·))) = true)
    (h13 : (s.vars.all (P.varReadable ·) && fn.resultTypes.all (fun t => P.readableRec t && decide (t < P.types.size)) && (c.ifacesOut == fn.resultTypes.toList.any (P.ifacesRec ·)) && (c.loopsOut == fn.resultTypes.toList.any (P.loopsFrom ·)) && (c.plainKeys == P.plainKeys) && c.shortTexts.isNone) = true)
    (h14 : P.stopsHeard = true) (h15 : P.mayEnter = true) (h16 : (c.lifted == P.liftsFinal) = true)
    (h17 : mkF P fn c = true)
    (h18 : ((c.veiled == (fn.params.toList ++ s.plain.varTypes P ++ fn.resultTypes.toList).any (P.veiledRec ·)) && c.veiledFits P fn.params.toList (fn.params.toList ++ s.plain.varTypes P ++ fn.resultTypes.toList)) = true) :
    joinedFacts P f fn s c = true := by
 unfold mkF at h17
 simp only [Bool.and_eq_true] at h6 h11 h12 h13 h17 h18
 simp only [joinedFacts, Bool.and_eq_true]
 and_intros
 all_goals first | assumption | exact h6.1.1.1 | exact h6.1.1.2 | exact h6.1.2 | exact h6.2 | exact h11.1.1 | exact h11.1.2 | exact h11.2 | exact h12.1 | exact h12.2 | exact h13.1.1.1.1.1 | exact h13.1.1.1.1.2 | exact h13.1.1.1.2 | exact h13.1.1.2 | exact h13.1.2 | exact h13.2 | exact h17.1.1 | exact h17.1.2 | exact h17.2 | exact h18.1 | exact h18.2
end
theorem all_lo : laidOutB Tryz.prog = true := by kernel_rfl
theorem all_mr : mapsRowed Tryz.prog = true := by kernel_rfl
theorem all_sh : Tryz.prog.stopsHeard = true := by kernel_rfl
theorem all_me : Tryz.prog.mayEnter = true := by kernel_rfl
theorem all_lk : false = Tryz.prog.looks [] := by kernel_rfl
theorem all_mi : Tryz.prog.mainIs = some (true, ("3282ea10664338544b9e7d29bc655aa318bb5383d19a7a3f41182a047c2a096f" : String).toList) := by kernel_rfl
theorem all_lf : Tryz.prog.liftsFinal = Rows.polyThroughRow.lifted := by kernel_rfl
theorem polyAdds_wf : Rows.polyAddsRow.wf (OpenSpec.ofChange Rows.polyAddsSpec) = true := by kernel_rfl
theorem polyAdds_rr : Tryz.f6.params.all (Tryz.prog.readableRec ·) = true := by kernel_rfl
theorem polyAdds_nt : namedTie Tryz.prog Rows.polyAddsRow.named Rows.polyAddsSpec.vars = true := by kernel_rfl
theorem polyAdds_st : ((Rows.polyAddsRow.stops == []) && (Tryz.prog.stops == []) && (Rows.polyAddsRow.knobs == []) && (Tryz.prog.stopKnobs == [])) = true := by kernel_rfl
theorem polyAdds_ip : (Rows.polyAddsRow.inPlace == Tryz.prog.inPlace 6) = true := by kernel_rfl
theorem polyAdds_uf : (Rows.polyAddsRow.unfollowed == Tryz.prog.unfollowed 6) = true := by kernel_rfl
theorem polyAdds_rc : (Rows.polyAddsRow.recurses == Tryz.prog.recurses 6) = true := by kernel_rfl
theorem polyAdds_vn : (Rows.polyAddsRow.named == Tryz.prog.varsNamed 6) = true := by kernel_rfl
theorem polyAdds_mp : ((Rows.polyAddsRow.maps == (Tryz.f6.params.toList ++ Rows.polyAddsSpec.plain.varTypes Tryz.prog).any (Tryz.prog.mapsRec ·)) && (Rows.polyAddsRow.ifaces == (Tryz.f6.params.toList ++ Rows.polyAddsSpec.plain.varTypes Tryz.prog).any (Tryz.prog.ifacesRec ·)) && (Rows.polyAddsRow.mapsOut == Tryz.prog.mapsAmong Tryz.f6.resultTypes.toList)) = true := by kernel_rfl
theorem polyAdds_lp : ((Rows.polyAddsRow.loops == (Tryz.f6.params.toList ++ Rows.polyAddsSpec.plain.varTypes Tryz.prog).any (Tryz.prog.loopsFrom ·)) && (Rows.polyAddsRow.wideKeys == (Tryz.f6.params.toList ++ Rows.polyAddsSpec.plain.varTypes Tryz.prog ++ Tryz.f6.resultTypes.toList).any (Tryz.prog.wideKeysFrom ·))) = true := by kernel_rfl
theorem polyAdds_vr : (Rows.polyAddsSpec.vars.all (Tryz.prog.varReadable ·) && Tryz.f6.resultTypes.all (fun t => Tryz.prog.readableRec t && decide (t < Tryz.prog.types.size)) && (Rows.polyAddsRow.ifacesOut == Tryz.f6.resultTypes.toList.any (Tryz.prog.ifacesRec ·)) && (Rows.polyAddsRow.loopsOut == Tryz.f6.resultTypes.toList.any (Tryz.prog.loopsFrom ·)) && (Rows.polyAddsRow.plainKeys == Tryz.prog.plainKeys) && Rows.polyAddsRow.shortTexts.isNone) = true := by kernel_rfl
theorem polyAdds_ve : ((Rows.polyAddsRow.veiled == (Tryz.f6.params.toList ++ Rows.polyAddsSpec.plain.varTypes Tryz.prog ++ Tryz.f6.resultTypes.toList).any (Tryz.prog.veiledRec ·)) && Rows.polyAddsRow.veiledFits Tryz.prog Tryz.f6.params.toList (Tryz.f6.params.toList ++ Rows.polyAddsSpec.plain.varTypes Tryz.prog ++ Tryz.f6.resultTypes.toList)) = true := by kernel_rfl
theorem polyAdds_wt : Rows.polyAddsRow.wfByText (OpenSpec.ofChange Rows.polyAddsSpec) = true := by kernel_rfl
theorem polyAdds_gb : false = Rows.polyAddsRow.goesBy Tryz.prog := by kernel_rfl
theorem polyAdds_fn : Tryz.prog.funcNamed Rows.polyAddsRow.func = some 6 := by kernel_rfl
theorem polyAdds_is : decide (Tryz.f6.isInstance Tryz.prog Rows.polyAddsRow.origin Rows.polyAddsRow.targs) = true := by kernel_rfl
theorem polyAdds_ws : (Tryz.f6.params.toList.all fun u => !Tryz.prog.wantsStandIn u) = true := by kernel_rfl
theorem polyAdds_mk : mkF Tryz.prog Tryz.f6 Rows.polyAddsRow = true := by kernel_rfl
theorem polyAdds_lf : (Rows.polyAddsRow.lifted == Tryz.prog.liftsFinal) = true := by rw [all_lf]; kernel_rfl
theorem polyAdds_joined : joinedFacts Tryz.prog 6 Tryz.f6 Rows.polyAddsSpec Rows.polyAddsRow = true :=
 joined_of polyAdds_wf all_lo all_mr polyAdds_rr polyAdds_nt polyAdds_st polyAdds_ip polyAdds_uf polyAdds_rc polyAdds_vn polyAdds_mp polyAdds_lp polyAdds_vr all_sh all_me polyAdds_lf polyAdds_mk polyAdds_ve
theorem polyAdds_wrap : Tryz.f6.isWrapper Tryz.prog Rows.polyAddsRow.wrapper Rows.polyAddsRow.mainSum := by
 unfold Func.isWrapper; first | (rw [if_pos (by decide +kernel)]; kernel_rfl) | (rw [if_neg (by decide +kernel)]; exact ⟨rfl, rfl⟩)
end Go.Proofs.YtdhedjbmdnnbkaaGreatDoor
namespace Go.Proofs.YtdhedjbmdnnbkaaGreatDoor
open Go.Abs Go.RowKit
theorem tab_of {n1 n2 : String} {a b : DataW Unit} {W : World} (h : laidMet Tryz.prog [(n1, a), (n2, b), ("internal/strconv.uint64pow10", Lib.tabData .u64 Lib.pow10Tab)] W) : TabW W := by
 obtain ⟨ps, ⟨g1, t1, c1, u1, p1, q1, _, _, _, _, ⟨g2, t2, c2, u2, p2, q2, _, _, _, _, ⟨g, t, cs, fuel, p, q, hg, ht, hv, hd, _, _⟩, _⟩, _⟩, _, _⟩ := h
 obtain rfl := Option.some.inj (tab_glob.symm.trans hg)
 have hT : ((Tryz.prog).globals[GT]?).map (·.type) = some 298 := by kernel_rfl
 have hu : (Tryz.prog).underlying 298 = some (.array 20 207) := by kernel_rfl
 have he : (Tryz.prog).underlying 207 = some (.int .u64) := by kernel_rfl
 have hce : (Tryz.prog).cellsOf 207 = 1 := by kernel_rfl
 have hct : (Tryz.prog).cellsOf 298 = 20 := by kernel_rfl
 obtain rfl := Option.some.inj (hT.symm.trans ht)
 have hc := Lib.cells_of_tab (zs := Lib.pow10Tab) hu he hce hct hd
 unfold World.var? at hv
 rw [tab_glob] at hv
 have hv' : (match W.heap[GT]? with | some (.cells cs _ _) => some cs | _ => none) = some cs := hv
 cases hh : W.heap[GT]? with
 | none => rw [hh] at hv'; cases hv'
 | some o =>
  rw [hh] at hv'
  cases o with
  | cells a b c =>
   obtain rfl : a = cs := Option.some.inj hv'
   refine ⟨b, c, ?_⟩
   rw [hh]
   have : a = tabA := by
    unfold tabA
    rw [← hc]
   rw [this]
  | _ => cases hv'
end Go.Proofs.YtdhedjbmdnnbkaaGreatDoor
namespace Go.Proofs.YtdhedjbmdnnbkaaGreatDoor
open Go.Abs Go.ChangeAt Go.ChangeShapes Go.RowKit Go.WideShapes
theorem own : ownKnob Tryz.prog.godebug = none := by kernel_rfl
theorem und4 : Tryz.prog.underlying 4 = some .bool := by kernel_rfl
abbrev laid3 : List (String × DataW Unit) := Rows.polyAddsRow.laid
theorem door_met (os : Os) (args : Array Value) : laidMetH Tryz.prog laid3 ((World.doorLaid Tryz.prog 24 os).forCall (fun _ _ => 0) ⟨#[], args, []⟩).memory :=
 laidMetH_of_parts3 (fuel := 8) (laidMet_of_run' 8 (by kernel_rfl) (by kernel_rfl)) (by kernel_rfl) (by kernel_rfl)
set_option maxRecDepth 100000 in
theorem polyAdds_lifted (os : Os) (started : os.Started) (H : Type) (enc : TypeId × Value → H) :
    ReturnsInHanded {} Tryz.checked os 6 .any (fun w args => (Rows.polyAddsSpec.pre enc Tryz.prog Tryz.f6 [] false w args ∧ laidMetH Tryz.prog laid3 w) ∧ sizedMet enc Tryz.prog Tryz.f6 (OpenSpec.ofChange Rows.polyAddsSpec) false w args)
     (Rows.polyAddsSpec.post enc Tryz.prog Tryz.f6 false true false false) := by
 refine returnsInHanded_of_change_and (C := Tryz.checked) (X := fun w _ => laidMetH Tryz.prog laid3 w) (fun _ _ _ hh h => h.of_heap hh) own started (by kernel_rfl) Tryz.func6
  (ChangeSpec.witness_shaped (enc := enc) (C := Tryz.checked) (os := os) (X := fun w _ => laidMetH Tryz.prog laid3 w) false (World.doorLaid Tryz.prog 24 os) #[.slice none 0 0, .slice none 0 0, (.agg #[.int .i64 0, .int .i64 0, .int .u8 0]), (.int .i64 0)] 8 rfl (World.shaped_of_RefB (by kernel_rfl) (by kernel_rfl)) (by kernel_rfl) (by kernel_rfl) (by kernel_rfl) (door_met os _)) ?_
 intro W base args ds gs before hval0 hW _ _ hX _
 have hval : ∀ (j : Nat) t v, Tryz.f6.params[j]? = some t → args[j]? = some v → Value.okWide Tryz.prog W .any base t v := hval0
 have hW' := hW
 obtain ⟨p, q, hA0, hV, rfl, hfz, hnd⟩ := hW
 have hA : DataW.TrodAll enc Tryz.prog W 0 (fun _ => true) true Tryz.f6.params.toList args.toList ds p := hA0
 rw [Tryz.params6] at hA hval
 obtain ⟨v0, vs0, d0, ds0, p0, q0, hargs, rfl, rfl, h0, r0⟩ := trodAll_cons hA
 obtain ⟨v1, vs1, d1, ds1, p1, q1, rfl, rfl, rfl, h1, r1⟩ := trodAll_cons r0
 obtain ⟨v2, vs2, d2, ds2, p2, q2, rfl, rfl, rfl, h2, r2⟩ := trodAll_cons r1
 obtain ⟨v3, vs3, d3, ds3, p3, q3, rfl, rfl, rfl, h3, r3⟩ := trodAll_cons r2
 obtain ⟨rfl, rfl, rfl⟩ := trodAll_nil r3
 obtain rfl : args = #[v0, v1, v2, v3] := by cases args; simp_all
 obtain ⟨rfl, rfl⟩ := trodVars_none hV
 obtain ⟨a0, len0, cap0, rfl⟩ := okWide_slice tyS (hval 0 22 v0 rfl rfl)
 obtain ⟨a1, len1, cap1, rfl⟩ := okWide_slice tyS (hval 1 22 v1 rfl rfl)
 have lt0 : ∀ x ∈ p0, x.block < W.heap.size := by obtain ⟨m, hm⟩ := h0; exact DataW.trod_lt m _ _ _ hm
 have lt1 : ∀ x ∈ p1, x.block < W.heap.size := by obtain ⟨m, hm⟩ := h1; exact DataW.trod_lt m _ _ _ hm
 have lt2 : ∀ x ∈ p2, x.block < W.heap.size := by obtain ⟨m, hm⟩ := h2; exact DataW.trod_lt m _ _ _ hm
 have lt3 : ∀ x ∈ p3, x.block < W.heap.size := by obtain ⟨m, hm⟩ := h3; exact DataW.trod_lt m _ _ _ hm
 obtain ⟨l0, o0, g0⟩ := rows_of h0
 obtain ⟨l1, o1, g1⟩ := rows_of h1
 obtain ⟨l2, o2, g2⟩ := numP_of (hval 2 82 v2 rfl rfl) h2
 obtain ⟨l3, o3, g3⟩ := intP_of (hval 3 3 v3 rfl rfl) h3
 clear hA0 hval0
 refine ((fs_PolyAdds l0 l1 l2 l3 o0 o1 o2 o3).calls (fun _ => False) W [.slice a0 len0 cap0, .slice a1 len1 cap1, v2, v3] ⟨fun _ h => h.elim, fun h => h, tab_of (by rw [MakeChecks.laidMetH_plain _ _ _ (by kernel_rfl)] at hX; exact hX)⟩ ⟨_, _, rfl, g0, ⟨_, _, rfl, g1, ⟨_, _, rfl, g2, ⟨_, _, rfl, g3, rfl⟩⟩⟩⟩).mono fun e W' ⟨y, he, hy, bel⟩ => ?_
 have hy' : y = .bool true := hy
 subst he; subst hy'
 exact ⟨_, rfl, _, _, _, [], _, [], hW', trodAll_mk1 (shut_bool und4 _), (trodAll_cons_mk (Below.trod all_lo (by kernel_rfl) (of_decide_eq_true (by kernel_rfl)) h0 bel lt0) (trodAll_cons_mk (Below.trod all_lo (by kernel_rfl) (of_decide_eq_true (by kernel_rfl)) h1 bel lt1) (trodAll_cons_mk (Below.trod all_lo (by kernel_rfl) (of_decide_eq_true (by kernel_rfl)) h2 bel lt2) (trodAll_cons_mk (Below.trod all_lo (by kernel_rfl) (of_decide_eq_true (by kernel_rfl)) h3 bel lt3) trodAll_mk0)))), rfl, bel.frame _, fun h => by cases h⟩
theorem polyAdds_row : Rows.PolyAddsSaid :=
 OpenClaim.holds_of_wide 6 Tryz.f6 rfl rfl rfl rfl rfl rfl rfl ⟨rfl, rfl, rfl, rfl, rfl⟩ rfl rfl rfl rfl rfl polyAdds_fn Tryz.func6 polyAdds_joined
  (of_decide_eq_true polyAdds_is) polyAdds_wrap
  (fun os started H enc _ => polyAdds_lifted os started H enc)
theorem polyAdds_card : Rows.PolyAddsCardSaid :=
 Claim7.holds_tied_plain_at .later [] [.data, .data, .data] true (true, "3282ea10664338544b9e7d29bc655aa318bb5383d19a7a3f41182a047c2a096f") false
  polyAdds_row (fun _ h => by cases h) polyAdds_wt (fun _ h => by cases h) polyAdds_row_tie rfl ⟨rfl, rfl⟩ all_mi rfl
  (fun f fn hf hfn => by
   obtain rfl : f = 6 := Option.some.inj (polyAdds_fn.symm.trans hf) |>.symm
   obtain rfl : fn = Tryz.f6 := (Option.some.inj (Tryz.func6.symm.trans hfn)).symm
   exact ⟨all_lk, fun j t ht => by
    have hm : t ∈ Tryz.f6.params.toList := by simpa using Array.mem_of_getElem? ht
    exact (show Tryz.prog.wantsStandIn t = false by simpa using List.all_eq_true.1 polyAdds_ws t hm)⟩)
  polyAdds_gb
#print axioms polyAdds_card
end Go.Proofs.YtdhedjbmdnnbkaaGreatDoor
