/- For every input the law PolyMembers returns true; the listed variables start as the program's text lays them (tied). -/
import Derived.Test.YtdjfjpeoddmamaaGreatDoorQ16
import Derived.ProofKit
import Derived.OpenShut
import Derived.Carry
import Derived.Deep.Slices
import Derived.Deep.Strs
import Derived.Test.YtdjfjpeoddmamaaGreatDoorRows
import Derived.JoinedOf
import Derived.SevenTiedAt
import Derived.Lib.LaidTab
import Derived.Test.YtdjfjpeoddmamaaGreatDoorTie
import Derived.Test.YtdjfjpeoddmamaaGreatDoorCards
import Derived.LaidMore
import Derived.Stop.Joined
import Derived.MakeChecks
set_option linter.all false
namespace Go.Proofs.YtdjfjpeoddmamaaGreatDoor
open Go.Abs
set_option maxRecDepth 100000
set_option maxHeartbeats 2000000
section
variable {P : Go.Program} {T : Nat} {x y : Operand}
theorem binS_neT {l m : List UInt8} : ∀ w, (do eqGuard .neq T x y (.string ⟨l.toArray⟩) (.string ⟨m.toArray⟩); binOp .neq T (.string ⟨l.toArray⟩) (.string ⟨m.toArray⟩) : Sem Value).run P w = .ok (.bool (!decide (l = m))) w := fun w => by
 rw [binS_neq]
 congr 2
 have e : ∀ l : List UInt8, (⟨l.toArray⟩ : ByteArray).toList = l := by
  intro l
  have := ByteArray.toList_eq (bs := ⟨l.toArray⟩)
  simpa using this
 rw [e, e]
 rw [Bool.eq_iff_iff]; simp
end
def sgnTx (o : Option (List UInt8)) (c : Rat) : Option (List UInt8) :=
 match o with
 | none => if c < 0 then some [45] else none
 | some s => if c < 0 then some (s ++ [32, 45, 32]) else some (s ++ [32, 43, 32])
def wrO (o : Option (List UInt8)) (t : List UInt8) : Option (List UInt8) := some (o.getD [] ++ t)
def sizeTx (o : Option (List UInt8)) (t : List UInt8) : Option (List UInt8) := if t = [49] then o else wrO o (t ++ [32])
def stepTx (tq : Rat → List UInt8) (ti : Nat → List UInt8) (o : Option (List UInt8)) (c : Rat) (n : Nat) : Option (List UInt8) :=
 if n = 0 then wrO (sgnTx o c) (tq (absQ c))
 else if 1 < n then wrO (wrO (sizeTx (sgnTx o c) (tq (absQ c))) [120]) ([94] ++ ti n) else wrO (sizeTx (sgnTx o c) (tq (absQ c))) [120]
def textR (tq : Rat → List UInt8) (ti : Nat → List UInt8) (p : List Rat) : Nat → Option (List UInt8) → Option (List UInt8)
 | 0, o => o
 | n + 1, o => textR tq ti p n (if coP p n = 0 then o else stepTx tq ti o (coP p n) n)
def textG (tq : Rat → List UInt8) (ti : Nat → List UInt8) (p : List Rat) : List UInt8 := (textR tq ti (trimQ p) (trimQ p).length none).getD [48]
def textP (p : List Rat) : List UInt8 := textG textQ dec2 p
def okPT (p : List Rat) : Prop := p.length ≤ 1000 ∧ (trimQ p).length ≤ 99 ∧ (∀ c ∈ trimQ p, okT c)
instance (p : List Rat) : Decidable (okPT p) := inferInstanceAs (Decidable (_ ∧ _ ∧ _))
def pb0 (p : List Rat) : Int → AState
 | n => ⟨[(0, .arr (pE p)), (3, .lptr 1 0 0), (4, i64 n)], [(1, some ⟨223, 2, [bldC 1 2 none]⟩)], 4, 67⟩
theorem pb0_mk (p : List Rat) (n : Int) : pb0 p n = ⟨[(0, .arr (pE p)), (3, .lptr 1 0 0), (4, i64 n)], [(1, some ⟨223, 2, [bldC 1 2 none]⟩)], 4, 67⟩ := rfl
def pb1 (p : List Rat) : Int × List UInt8 → AState
 | (n, s) => ⟨[(0, .arr (pE p)), (3, .lptr 1 0 0), (4, i64 n)], [(1, some ⟨223, 2, [bldC 1 2 (some s)]⟩), (2, some ⟨5, 1, bE s⟩)], 4, 67⟩
theorem pb1_mk (p : List Rat) (n : Int) (s : List UInt8) : pb1 p (n, s) = ⟨[(0, .arr (pE p)), (3, .lptr 1 0 0), (4, i64 n)], [(1, some ⟨223, 2, [bldC 1 2 (some s)]⟩), (2, some ⟨5, 1, bE s⟩)], 4, 67⟩ := rfl
def pbS (p : List Rat) (n : Int) : Option (List UInt8) → AState
 | none => pb0 p n
 | some s => pb1 p (n, s)
def pc0 (p : List Rat) (c : Rat) : Int → AState
 | n => ⟨[(0, .arr (pE p)), (3, .lptr 1 0 0), (4, i64 n), (5, .lptr 3 0 0)], [(1, some ⟨223, 2, [bldC 1 2 none]⟩), (3, some ⟨35, 3, [qC c]⟩)], 4, 67⟩
theorem pc0_mk (p : List Rat) (c : Rat) (n : Int) : pc0 p c n = ⟨[(0, .arr (pE p)), (3, .lptr 1 0 0), (4, i64 n), (5, .lptr 3 0 0)], [(1, some ⟨223, 2, [bldC 1 2 none]⟩), (3, some ⟨35, 3, [qC c]⟩)], 4, 67⟩ := rfl
def pc1 (p : List Rat) (c : Rat) : Int × List UInt8 → AState
 | (n, s) => ⟨[(0, .arr (pE p)), (3, .lptr 1 0 0), (4, i64 n), (5, .lptr 3 0 0)], [(1, some ⟨223, 2, [bldC 1 2 (some s)]⟩), (2, some ⟨5, 1, bE s⟩), (3, some ⟨35, 3, [qC c]⟩)], 4, 67⟩
theorem pc1_mk (p : List Rat) (c : Rat) (n : Int) (s : List UInt8) : pc1 p c (n, s) = ⟨[(0, .arr (pE p)), (3, .lptr 1 0 0), (4, i64 n), (5, .lptr 3 0 0)], [(1, some ⟨223, 2, [bldC 1 2 (some s)]⟩), (2, some ⟨5, 1, bE s⟩), (3, some ⟨35, 3, [qC c]⟩)], 4, 67⟩ := rfl
def pcS (p : List Rat) (c : Rat) (n : Int) : Option (List UInt8) → AState
 | none => pc0 p c n
 | some s => pc1 p c (n, s)
def pd0 (p : List Rat) (t : List UInt8) : Int → AState
 | n => ⟨[(0, .arr (pE p)), (3, .lptr 1 0 0), (4, i64 n), (6, tx t)], [(1, some ⟨223, 2, [bldC 1 2 none]⟩)], 4, 67⟩
theorem pd0_mk (p : List Rat) (t : List UInt8) (n : Int) : pd0 p t n = ⟨[(0, .arr (pE p)), (3, .lptr 1 0 0), (4, i64 n), (6, tx t)], [(1, some ⟨223, 2, [bldC 1 2 none]⟩)], 4, 67⟩ := rfl
def pd1 (p : List Rat) (t : List UInt8) : Int × List UInt8 → AState
 | (n, s) => ⟨[(0, .arr (pE p)), (3, .lptr 1 0 0), (4, i64 n), (6, tx t)], [(1, some ⟨223, 2, [bldC 1 2 (some s)]⟩), (2, some ⟨5, 1, bE s⟩)], 4, 67⟩
theorem pd1_mk (p : List Rat) (t : List UInt8) (n : Int) (s : List UInt8) : pd1 p t (n, s) = ⟨[(0, .arr (pE p)), (3, .lptr 1 0 0), (4, i64 n), (6, tx t)], [(1, some ⟨223, 2, [bldC 1 2 (some s)]⟩), (2, some ⟨5, 1, bE s⟩)], 4, 67⟩ := rfl
def pdS (p : List Rat) (t : List UInt8) (n : Int) : Option (List UInt8) → AState
 | none => pd0 p t n
 | some s => pd1 p t (n, s)
def okOx (o : Option (List UInt8)) (n : Nat) : Prop := ∀ s, o = some s → s ≠ [] ∧ s.length ≤ n
theorem okO_none (n : Nat) : okOx none n := fun s h => by cases h
theorem okO_wr {o : Option (List UInt8)} {n : Nat} {t : List UInt8} (h : okOx o n) (h0 : t ≠ []) : okOx (wrO o t) (n + t.length) := by
 intro s hs
 cases hs
 cases o with
 | none => exact ⟨by simpa using h0, by simp⟩
 | some q => exact ⟨by simp [h0], by have := (h q rfl).2; simp; omega⟩
theorem okO_sign {o : Option (List UInt8)} {n : Nat} (h : okOx o n) (c : Rat) : okOx (sgnTx o c) (n + 3) := by
 intro s hs
 cases o with
 | none =>
  simp only [sgnTx] at hs
  split at hs
  ·cases hs; exact ⟨by simp, by simp⟩
  ·cases hs
 | some q =>
  have := (h q rfl).2
  simp only [sgnTx] at hs
  split at hs <;> cases hs <;> exact ⟨by simp, by simp; omega⟩
theorem okO_mono {o : Option (List UInt8)} {n m : Nat} (h : okOx o n) (hm : n ≤ m) : okOx o m := fun s hs => ⟨(h s hs).1, Nat.le_trans (h s hs).2 hm⟩
theorem textQ_ne (q : Rat) : textQ q ≠ [] := List.length_pos_iff.1 (textQ_len (q := q)).2
theorem sgZ_neg (c : Rat) : sgZ c.num < 0 ↔ c < 0 := by
 rw [← num_neg]
 unfold sgZ
 split
 ·omega
 ·split <;> omega
theorem okT_abs {c : Rat} (h : okT c) : okT (absQ c) := by
 rw [absQ_eq]
 split
 ·obtain ⟨h1, h2⟩ := h
  exact ⟨by rw [Rat.neg_num]; simpa using h1, by rw [Rat.neg_den]; exact h2⟩
 ·exact h
theorem fs_PTextG (tq : Rat → List UInt8) (ti : Nat → List UInt8) (L : Nat) (p : List Rat) (h1 : p.length ≤ 1000) (hL : L ≤ 10000) (h3 : ∀ c ∈ trimQ p, FSpec Tryz.prog 74 [.agg (qC (absQ c))] (tx (tq (absQ c))) ∧ tq (absQ c) ≠ [] ∧ (tq (absQ c)).length ≤ L) (hI : ∀ n, n < (trimQ p).length → FSpec Tryz.prog 172 [i64 n] (tx (ti n)) ∧ (ti n).length ≤ 20) : FSpec Tryz.prog 75 [.arr (pE p)] (tx (textG tq ti p)) := by
 have htr := fs_Trim p (by omega)
 obtain ⟨q, hq⟩ : ∃ q, q = trimQ p := ⟨_, rfl⟩
 have hR : textG tq ti p = (textR tq ti q q.length none).getD [48] := by unfold textG; rw [hq]
 rw [hR]
 have h2 := trimQ_len p
 rw [← hq] at htr h2 h3 hI
 have hall : ∀ k, (q.length - k) * (L + 30) ≤ 10030000 := fun k => Nat.mul_le_mul (show q.length - k ≤ 1000 by omega) (show L + 30 ≤ 10030 by omega)
 refine FSpec.enter Tryz.func75 rfl (by kernel_rfl) rfl rfl rfl ?_ rfl ?_
 ·exact closed_cons (closed_pA p) closed_nil
 refine r_z 1 ?_
 refine r_z 1 ?_
 refine r_c 3 (htr) ?_
 refine a_z ?_
 refine AWp.seq ?_
 refine r_z 4 ?_
 refine AWp.cutT (pbS q (-1)) (fun o => o = textR tq ti q q.length none ∧ okOx o 20000000) ?_ ?_
 ·refine AWp.block ?_
  refine AWp.loopS (fun x : Nat × Option (List UInt8) => pbS q ((x.1 : Int) - 1) x.2) (fun x => x.1) (fun x => x.1 ≤ q.length ∧ textR tq ti q x.1 x.2 = textR tq ti q q.length none ∧ okOx x.2 ((q.length - x.1) * (L + 30))) (q.length, none) ⟨Nat.le_refl _, rfl, okO_none _⟩ ?_ ?_
  ·show SEnt _ (pb0 q ((q.length : Int) - 1))
   rw [pb0_mk]
   exact s_e [(1, 3)]
  rintro ⟨n, o⟩ ⟨hn, hr, ho⟩
  simp only at hn hr ho
  cases n with
  | zero =>
   cases o with
   | none =>
    show AWp _ _ _ _ (pb0 q (((0 : Nat) : Int) - 1))
    rw [pb0_mk]
    refine AWp.seq ?_
    refine r_z 2 ?_
    refine AWp.cond rfl (fun h4 => ?_) (fun h4 => ?_)
    ·exact absurd h4 (by simp)
    ·refine AWp.exit ⟨none, ⟨hr, okO_none _⟩, ?_⟩
     show SEnt _ (pb0 q (-1))
     rw [pb0_mk]
     exact s_e []
   | some s =>
    show AWp _ _ _ _ (pb1 q (((0 : Nat) : Int) - 1, s))
    rw [pb1_mk]
    refine AWp.seq ?_
    refine r_z 2 ?_
    refine AWp.cond rfl (fun h4 => ?_) (fun h4 => ?_)
    ·exact absurd h4 (by simp)
    ·refine AWp.exit ⟨some s, ⟨hr, okO_mono ho (by have := hall 0; omega)⟩, ?_⟩
     show SEnt _ (pb1 q (-1, s))
     rw [pb1_mk]
     exact s_e []
  | succ n =>
   have hcn : ((n + 1 : Nat) : Int) - 1 = (n : Int) := by omega
   rw [hcn]
   rw [textR] at hr
   have hlt : n < q.length := by omega
   obtain ⟨c, hc⟩ : ∃ c, c = coP q n := ⟨_, rfl⟩
   rw [← hc] at hr
   have hg : (pE q)[((n : Nat) : Int).toNat]? = some (qC c) := by rw [Int.toNat_natCast, hc]; exact pE_get (coP_get hlt)
   obtain ⟨fT, htn, htl⟩ := h3 c (by rw [hc]; exact List.mem_of_getElem? (coP_get hlt))
   have hm : (q.length - n) * (L + 30) = (q.length - (n + 1)) * (L + 30) + (L + 30) := by
    rw [show q.length - n = (q.length - (n + 1)) + 1 by omega, Nat.add_mul, Nat.one_mul]
   obtain ⟨B, hB⟩ : ∃ B, B = (q.length - (n + 1)) * (L + 30) := ⟨_, rfl⟩
   have hmx : B ≤ 10030000 := by rw [hB]; exact hall _
   rw [← hB] at ho hm
   obtain ⟨t, ht⟩ : ∃ t, t = tq (absQ c) := ⟨_, rfl⟩
   rw [← ht] at htn htl fT
   obtain ⟨fI, hd2⟩ := hI n hlt
   refine AWp.cut (fun _ : Unit => pbS q n o) (fun _ => True) ?_ ?_
   ·cases o with
    | none =>
     show AWp _ _ _ _ (pb0 q n)
     rw [pb0_mk]
     refine r_z 2 ?_
     refine AWp.cond rfl (fun h4 => ?_) (fun h4 => ?_)
     ·refine AWp.skip ⟨(), trivial, ?_⟩
      show SEnt _ (pb0 q n)
      rw [pb0_mk]
      exact s_e []
     ·exact absurd h4 (by simp)
    | some s =>
     show AWp _ _ _ _ (pb1 q (n, s))
     rw [pb1_mk]
     refine r_z 2 ?_
     refine AWp.cond rfl (fun h4 => ?_) (fun h4 => ?_)
     ·refine AWp.skip ⟨(), trivial, ?_⟩
      show SEnt _ (pb1 q (n, s))
      rw [pb1_mk]
      exact s_e []
     ·exact absurd h4 (by simp)
   rintro _ _
   refine AWp.cut (pbS q n) (fun o' => o' = (if c = 0 then o else stepTx tq ti o c n)) ?_ ?_
   ·refine AWp.block ?_
    refine AWp.cut (fun _ : Unit => pcS q c n o) (fun _ => True) ?_ ?_
    ·cases o with
     | none =>
      show AWp _ _ _ _ (pb0 q n)
      rw [pb0_mk]
      refine AWp.reg (m := 6) rfl ?_
      refine a_2 ?_
      first | refine AR.op0 (.index_l rfl rfl (by omega) (by omega) te_55.h) rfl rfl ?_ | refine AR.op0 (.index_a rfl rfl (by omega) hg rfl te_55.h) rfl rfl ?_
      first | refine AR.op0 (.load_l rfl rfl hg tg_35.h ts_35.h (nle rfl)) rfl rfl ?_ | refine AR.op0 (.load_a rfl hg tg_35.h ts_35.h (nle rfl)) rfl rfl ?_
      refine a_z ?_
      refine ⟨(), trivial, ?_⟩
      show SEnt _ (pc0 q c n)
      rw [pc0_mk]
      refine SEnt.to [(3, 5)] rfl rfl rfl au_r (fun hs => au_f) (fun hs => ?_)
      ·repeat' (first | exact CvH.nil | refine CvH.cons rfl rfl rfl rfl ?_ ?_)
       all_goals (first | (exact CvLL.clo hs (closed_cons (closed_qC c) closed_nil)) | exact au_e)
     | some s =>
      show AWp _ _ _ _ (pb1 q (n, s))
      rw [pb1_mk]
      refine AWp.reg (m := 6) rfl ?_
      refine a_2 ?_
      first | refine AR.op0 (.index_l rfl rfl (by omega) (by omega) te_55.h) rfl rfl ?_ | refine AR.op0 (.index_a rfl rfl (by omega) hg rfl te_55.h) rfl rfl ?_
      first | refine AR.op0 (.load_l rfl rfl hg tg_35.h ts_35.h (nle rfl)) rfl rfl ?_ | refine AR.op0 (.load_a rfl hg tg_35.h ts_35.h (nle rfl)) rfl rfl ?_
      refine a_z ?_
      refine ⟨(), trivial, ?_⟩
      show SEnt _ (pc1 q c (n, s))
      rw [pc1_mk]
      refine SEnt.to [(3, 5)] rfl rfl rfl au_r (fun hs => au_f) (fun hs => ?_)
      ·repeat' (first | exact CvH.nil | refine CvH.cons rfl rfl rfl rfl ?_ ?_)
       all_goals (first | (exact CvLL.clo hs (closed_cons (closed_qC c) closed_nil)) | exact au_e)
    rintro _ _
    refine AWp.cut (fun _ : Unit => pcS q c n o) (fun _ => c ≠ 0) ?_ ?_
    ·cases o with
     | none =>
      show AWp _ _ _ _ (pc0 q c n)
      rw [pc0_mk]
      refine r_c 3 (fs_Sign c) ?_
      refine a_z ?_
      refine AWp.cond rfl (fun h4 => ?_) (fun h4 => ?_)
      ·have h5 : c = 0 := sgZ_num_eq.1 (by simpa using h4)
       refine AWp.exit ⟨none, by rw [if_pos h5], ?_⟩
       show SEnt _ (pb0 q n)
       rw [pb0_mk]
       exact s_e []
      ·have h5 : c ≠ 0 := fun e => by have h6 := sgZ_num_eq.2 e; simp [h6] at h4
       refine AWp.skip ⟨(), h5, ?_⟩
       show SEnt _ (pc0 q c n)
       rw [pc0_mk]
       exact s_e []
     | some s =>
      show AWp _ _ _ _ (pc1 q c (n, s))
      rw [pc1_mk]
      refine r_c 3 (fs_Sign c) ?_
      refine a_z ?_
      refine AWp.cond rfl (fun h4 => ?_) (fun h4 => ?_)
      ·have h5 : c = 0 := sgZ_num_eq.1 (by simpa using h4)
       refine AWp.exit ⟨some s, by rw [if_pos h5], ?_⟩
       show SEnt _ (pb1 q (n, s))
       rw [pb1_mk]
       exact s_e []
      ·have h5 : c ≠ 0 := fun e => by have h6 := sgZ_num_eq.2 e; simp [h6] at h4
       refine AWp.skip ⟨(), h5, ?_⟩
       show SEnt _ (pc1 q c (n, s))
       rw [pc1_mk]
       exact s_e []
    rintro _ hc0
    rw [if_neg hc0]
    have hsg : (sgZ c.num < 0) ↔ c < 0 := sgZ_neg c
    refine AWp.cut (pcS q c n) (fun o' => o' = sgnTx o c) ?_ ?_
    ·refine AWp.block ?_
     cases o with
     | none =>
      show AWp _ _ _ _ (pc0 q c n)
      rw [pc0_mk]
      refine s_r 8 ?_
      refine o_0 (.callR (s := none) (j := 0) (tb := 0) rfl rfl rfl rfl rfl (fun _ h => by cases h) (fs_Len0)) ?_
      refine a_2 ?_
      first | refine AR.op0y rfl rfl (gy (by first | rfl | assumption | exact decide_eq_true (by omega) | (simp; done) | (simp; omega))) (.load_l rfl rfl rfl tg_35.h ts_35.h (nle rfl)) rfl rfl ?_ | refine AR.op0y rfl rfl (gy (by first | rfl | assumption | exact decide_eq_true (by omega) | (simp; done) | (simp; omega))) (.load_a rfl rfl tg_35.h ts_35.h (nle rfl)) rfl rfl ?_
      refine AR.op0y rfl rfl (gy (by first | rfl | assumption | exact decide_eq_true (by omega) | (simp; done) | (simp; omega))) (.call rfl rfl rfl (fs_Sign c)) rfl rfl ?_
      refine AR.op0y rfl rfl (gy (by first | rfl | assumption | exact decide_eq_true (by omega) | (simp; done) | (simp; omega))) (.bin rfl rfl binI_lss) rfl rfl ?_
      refine o_0 (.pickT rfl (by first | rfl | assumption | exact decide_eq_true (by omega) | (simp; done) | (simp; omega)) rfl) ?_
      refine a_z ?_
      refine AWp.cond rfl (fun h4 => ?_) (fun h4 => ?_)
      ·have h5 : c < 0 := hsg.1 (by simpa using h4)
       refine AWp.reg (m := 1) rfl ?_
       refine o_2 (.callB (s := none) (j := 0) rfl rfl rfl rfl rfl rfl (fun _ h => by cases h) (bs_Write0 [45] (by simp) (by simp))) ?_
       refine AR.nil ?_
       refine ⟨some [45], by simp only [sgnTx]; rw [if_pos h5], ?_⟩
       show SEnt _ (pc1 q c (n, [45]))
       rw [pc1_mk]
       refine SEnt.to2 [(2, 100012)] rfl rfl rfl au_r (fun hs => au_f) (fun hs => ?_)
       ·repeat' (first | exact CvH.nil | refine CvH.cons rfl rfl rfl rfl ?_ ?_)
        all_goals (first | (exact CvLL.clo hs (closed_cons (closed_qC c) closed_nil)) | exact au_e)
      ·have h5 : ¬ c < 0 := fun e => by have h6 := hsg.2 e; simp [h6] at h4
       refine s_r 8 ?_
       refine o_0 (.callR (s := none) (j := 0) (tb := 0) rfl rfl rfl rfl rfl (fun _ h => by cases h) (fs_Len0)) ?_
       refine a_2 ?_
       refine AR.opN rfl rfl (gn (by first | rfl | assumption | exact decide_eq_false (by omega) | (simp; done) | (simp; omega))) rfl rfl ?_
       refine AR.opN rfl rfl (gn (by first | rfl | assumption | exact decide_eq_false (by omega) | (simp; done) | (simp; omega))) rfl rfl ?_
       refine AR.opN rfl rfl (gn (by first | rfl | assumption | exact decide_eq_false (by omega) | (simp; done) | (simp; omega))) rfl rfl ?_
       refine o_0 (.pickF rfl (by first | rfl | assumption | exact decide_eq_false (by omega) | (simp; done) | (simp; omega)) rfl) ?_
       refine a_z ?_
       refine AWp.cond rfl (fun h6 => ?_) (fun h6 => ?_)
       ·cases h6
       refine s_r 3 ?_
       refine o_0 (.callR (s := none) (j := 0) (tb := 0) rfl rfl rfl rfl rfl (fun _ h => by cases h) (fs_Len0)) ?_
       refine a_z ?_
       refine AWp.cond rfl (fun h7 => ?_) (fun h7 => ?_)
       ·exact absurd h7 (by simp)
       refine AWp.skip ⟨none, by simp only [sgnTx]; rw [if_neg h5], ?_⟩
       show SEnt _ (pc0 q c n)
       rw [pc0_mk]
       exact s_e []
     | some s =>
      have hsn := (ho s rfl).1
      have hsl := (ho s rfl).2
      have hs0 : s.length ≠ 0 := by simpa using hsn
      show AWp _ _ _ _ (pc1 q c (n, s))
      rw [pc1_mk]
      refine s_r 8 ?_
      refine o_0 (.callR (s := some _) rfl rfl rfl rfl rfl (fun _ h => by cases h; exact rfl) (fs_Len1 s)) ?_
      refine a_2 ?_
      refine AR.opN rfl rfl (gn (by simp; omega)) rfl rfl ?_
      refine AR.opN rfl rfl (gn (by simp; omega)) rfl rfl ?_
      refine AR.opN rfl rfl (gn (by simp; omega)) rfl rfl ?_
      refine o_0 (.pickF rfl (by simp; omega) rfl) ?_
      refine a_z ?_
      refine AWp.cond rfl (fun h4 => ?_) (fun h4 => ?_)
      ·first | (simp at h4; done) | (simp at h4; omega) | (simp at h4; exact absurd h4 hsn)
      refine s_r 8 ?_
      refine o_0 (.callR (s := some _) rfl rfl rfl rfl rfl (fun _ h => by cases h; exact rfl) (fs_Len1 s)) ?_
      refine a_2 ?_
      first | refine AR.op0y rfl rfl (gy (by simp; omega)) (.load_l rfl rfl rfl tg_35.h ts_35.h (nle rfl)) rfl rfl ?_ | refine AR.op0y rfl rfl (gy (by simp; omega)) (.load_a rfl rfl tg_35.h ts_35.h (nle rfl)) rfl rfl ?_
      refine AR.op0y rfl rfl (gy (by simp; omega)) (.call rfl rfl rfl (fs_Sign c)) rfl rfl ?_
      refine AR.op0y rfl rfl (gy (by simp; omega)) (.bin rfl rfl binI_lss) rfl rfl ?_
      refine o_0 (.pickT rfl (by simp; omega) rfl) ?_
      refine a_z ?_
      refine AWp.cond rfl (fun h6 => ?_) (fun h6 => ?_)
      ·have h5 : c < 0 := hsg.1 (by simpa using h6)
       refine AWp.reg (m := 1) rfl ?_
       refine o_3 (.callB (s := some _) rfl rfl rfl rfl rfl rfl (fun _ h => by cases h; exact ⟨rfl, by decide⟩) (bs_Write1 s [32, 45, 32] (by simp; omega))) ?_
       refine AR.nil ?_
       refine ⟨some (s ++ [32, 45, 32]), by simp only [sgnTx]; rw [if_pos h5], ?_⟩
       show SEnt _ (pc1 q c (n, s ++ [32, 45, 32]))
       rw [pc1_mk]
       refine SEnt.to2 [(2, 100020)] rfl rfl rfl au_r (fun hs => au_f) (fun hs => ?_)
       ·repeat' (first | exact CvH.nil | refine CvH.cons rfl rfl rfl rfl ?_ ?_)
        all_goals (first | (exact CvLL.clo hs (closed_cons (closed_qC c) closed_nil)) | exact au_e)
      ·have h5 : ¬ c < 0 := fun e => by have h7 := hsg.2 e; simp [h7] at h6
       refine s_r 3 ?_
       refine o_0 (.callR (s := some _) rfl rfl rfl rfl rfl (fun _ h => by cases h; exact rfl) (fs_Len1 s)) ?_
       refine a_z ?_
       refine AWp.cond rfl (fun h7 => ?_) (fun h7 => ?_)
       ·refine AWp.reg (m := 1) rfl ?_
        refine o_3 (.callB (s := some _) rfl rfl rfl rfl rfl rfl (fun _ h => by cases h; exact ⟨rfl, by decide⟩) (bs_Write1 s [32, 43, 32] (by simp; omega))) ?_
        refine AR.nil ?_
        refine ⟨some (s ++ [32, 43, 32]), by simp only [sgnTx]; rw [if_neg h5], ?_⟩
        show SEnt _ (pc1 q c (n, s ++ [32, 43, 32]))
        rw [pc1_mk]
        refine SEnt.to2 [(2, 100023)] rfl rfl rfl au_r (fun hs => au_f) (fun hs => ?_)
        ·repeat' (first | exact CvH.nil | refine CvH.cons rfl rfl rfl rfl ?_ ?_)
         all_goals (first | (exact CvLL.clo hs (closed_cons (closed_qC c) closed_nil)) | exact au_e)
       ·first | (simp at h7; done) | (simp at h7; omega) | (simp at h7; exact absurd h7 hsn)
    rintro o1 rfl
    have ho1 := okO_sign ho c
    obtain ⟨o1, ho1e⟩ : ∃ o1, o1 = sgnTx o c := ⟨_, rfl⟩
    rw [← ho1e] at ho1 ⊢
    refine AWp.cut (fun _ : Unit => pdS q t n o1) (fun _ => True) ?_ ?_
    ·cases o1 with
     | none =>
      show AWp _ _ _ _ (pc0 q c n)
      rw [pc0_mk]
      refine AWp.reg (m := 4) rfl ?_
      refine c_s (fs_abs c) ?_
      refine c_s (fT) ?_
      refine a_z ?_
      refine ⟨(), trivial, ?_⟩
      show SEnt _ (pd0 q t n)
      rw [pd0_mk]
      exact s_e []
     | some s =>
      show AWp _ _ _ _ (pc1 q c (n, s))
      rw [pc1_mk]
      refine AWp.reg (m := 4) rfl ?_
      refine c_s (fs_abs c) ?_
      refine c_s (fT) ?_
      refine a_z ?_
      refine ⟨(), trivial, ?_⟩
      show SEnt _ (pd1 q t (n, s))
      rw [pd1_mk]
      exact s_e []
    rintro _ _
    refine AWp.cut (fun _ : Unit => pdS q t n o1) (fun _ => n ≠ 0) ?_ ?_
    ·cases o1 with
     | none =>
      show AWp _ _ _ _ (pd0 q t n)
      rw [pd0_mk]
      refine r_z 2 ?_
      refine AWp.cond rfl (fun h4 => ?_) (fun h4 => ?_)
      ·have h5 : n = 0 := by simpa using h4
       subst h5
       refine s_r 2 ?_
       refine a_1 ?_
       refine o_2 (.callB (s := none) (j := 0) rfl rfl rfl rfl rfl rfl (fun _ h => by cases h) (bs_Write0 t htn (by omega))) ?_
       refine AR.nil ?_
       refine AWp.exit ⟨some t, by unfold stepTx; rw [if_pos rfl, ← ho1e, ← ht]; rfl, ?_⟩
       show SEnt _ (pb1 q (((0 : Nat) : Int), t))
       rw [pb1_mk]
       refine SEnt.to2 [(2, 100007)] rfl rfl rfl au_r (fun hs => au_f) (fun hs => au_h)
      ·have h5 : n ≠ 0 := fun e => by simp [e] at h4
       refine AWp.skip ⟨(), h5, ?_⟩
       show SEnt _ (pd0 q t n)
       rw [pd0_mk]
       exact s_e []
     | some s =>
      have hsl := (ho1 s rfl).2
      show AWp _ _ _ _ (pd1 q t (n, s))
      rw [pd1_mk]
      refine r_z 2 ?_
      refine AWp.cond rfl (fun h4 => ?_) (fun h4 => ?_)
      ·have h5 : n = 0 := by simpa using h4
       subst h5
       refine s_r 2 ?_
       refine a_1 ?_
       refine o_3 (.callB (s := some _) rfl rfl rfl rfl rfl rfl (fun _ h => by cases h; exact ⟨rfl, by decide⟩) (bs_Write1 s t (by omega))) ?_
       refine AR.nil ?_
       refine AWp.exit ⟨some (s ++ t), by unfold stepTx; rw [if_pos rfl, ← ho1e, ← ht]; rfl, ?_⟩
       show SEnt _ (pb1 q (((0 : Nat) : Int), s ++ t))
       rw [pb1_mk]
       refine SEnt.to2 [(2, 100007)] rfl rfl rfl au_r (fun hs => au_f) (fun hs => au_h)
      ·have h5 : n ≠ 0 := fun e => by simp [e] at h4
       refine AWp.skip ⟨(), h5, ?_⟩
       show SEnt _ (pd1 q t (n, s))
       rw [pd1_mk]
       exact s_e []
    rintro _ hn0
    refine AWp.cut (pbS q n) (fun o' => o' = sizeTx o1 t) ?_ ?_
    ·cases o1 with
     | none =>
      show AWp _ _ _ _ (pd0 q t n)
      rw [pd0_mk]
      refine s_r 2 ?_
      refine a_1 ?_
      refine o_0 (.bin rfl rfl (binS_neT (m := [49]))) ?_
      refine AR.nil ?_
      refine AWp.cond rfl (fun h4 => ?_) (fun h4 => ?_)
      ·have h5 : ¬ t = [49] := by simpa using h4
       refine AWp.reg (m := 3) rfl ?_
       refine a_1 ?_
       refine o_0 (.bin rfl rfl (binS_add (m := [32]) (by simp; omega))) ?_
       refine o_2 (.callB (s := none) (j := 0) rfl rfl rfl rfl rfl rfl (fun _ h => by cases h) (bs_Write0 (t ++ [32]) (by simp) (by simp; omega))) ?_
       refine AR.nil ?_
       refine ⟨some (t ++ [32]), by unfold sizeTx; rw [if_neg h5]; rfl, ?_⟩
       show SEnt _ (pb1 q (n, t ++ [32]))
       rw [pb1_mk]
       refine SEnt.to2 [(2, 100008)] rfl rfl rfl au_r (fun hs => au_f) (fun hs => au_h)
      ·have h5 : t = [49] := by simpa using h4
       refine AWp.skip ⟨none, by unfold sizeTx; rw [if_pos h5], ?_⟩
       show SEnt _ (pb0 q n)
       rw [pb0_mk]
       exact s_e []
     | some s =>
      have hsl := (ho1 s rfl).2
      show AWp _ _ _ _ (pd1 q t (n, s))
      rw [pd1_mk]
      refine s_r 2 ?_
      refine a_1 ?_
      refine o_0 (.bin rfl rfl (binS_neT (m := [49]))) ?_
      refine AR.nil ?_
      refine AWp.cond rfl (fun h4 => ?_) (fun h4 => ?_)
      ·have h5 : ¬ t = [49] := by simpa using h4
       refine AWp.reg (m := 3) rfl ?_
       refine a_1 ?_
       refine o_0 (.bin rfl rfl (binS_add (m := [32]) (by simp; omega))) ?_
       refine o_3 (.callB (s := some _) rfl rfl rfl rfl rfl rfl (fun _ h => by cases h; exact ⟨rfl, by decide⟩) (bs_Write1 s (t ++ [32]) (by simp; omega))) ?_
       refine AR.nil ?_
       refine ⟨some (s ++ (t ++ [32])), by unfold sizeTx; rw [if_neg h5]; rfl, ?_⟩
       show SEnt _ (pb1 q (n, s ++ (t ++ [32])))
       rw [pb1_mk]
       refine SEnt.to2 [(2, 100008)] rfl rfl rfl au_r (fun hs => au_f) (fun hs => au_h)
      ·have h5 : t = [49] := by simpa using h4
       refine AWp.skip ⟨some s, by unfold sizeTx; rw [if_pos h5], ?_⟩
       show SEnt _ (pb1 q (n, s))
       rw [pb1_mk]
       exact s_e []
    rintro o2 ho2e
    have ho2 : okOx o2 (B + L + 4) := by
     rw [ho2e]; unfold sizeTx
     split
     ·exact okO_mono ho1 (by omega)
     ·exact okO_mono (okO_wr ho1 (t := t ++ [32]) (by simp)) (by simp; omega)
    refine AWp.cut (fun s => pb1 q (n, s)) (fun s => wrO o2 [120] = some s) ?_ ?_
    ·cases o2 with
     | none =>
      show AWp _ _ _ _ (pb0 q n)
      rw [pb0_mk]
      refine AWp.reg (m := 1) rfl ?_
      refine o_2 (.callB (s := none) (j := 0) rfl rfl rfl rfl rfl rfl (fun _ h => by cases h) (bs_Write0 [120] (by simp) (by simp))) ?_
      refine AR.nil ?_
      refine ⟨[120], rfl, ?_⟩
      simp only [pb1_mk]
      refine SEnt.to2 [(2, 100004)] rfl rfl rfl au_r (fun hs => au_f) (fun hs => au_h)
     | some s =>
      have hsl := (ho2 s rfl).2
      show AWp _ _ _ _ (pb1 q (n, s))
      rw [pb1_mk]
      refine AWp.reg (m := 1) rfl ?_
      refine o_3 (.callB (s := some _) rfl rfl rfl rfl rfl rfl (fun _ h => by cases h; exact ⟨rfl, by decide⟩) (bs_Write1 s [120] (by simp; omega))) ?_
      refine AR.nil ?_
      refine ⟨s ++ [120], rfl, ?_⟩
      simp only [pb1_mk]
      refine SEnt.to2 [(2, 100004)] rfl rfl rfl au_r (fun hs => au_f) (fun hs => au_h)
    rintro s hs3
    have ho3 := okO_wr ho2 (t := [120]) (by simp) s hs3
    have hsl : s.length ≤ B + L + 5 := ho3.2
    simp only [pb1_mk]
    refine r_z 2 ?_
    refine AWp.cond rfl (fun h4 => ?_) (fun h4 => ?_)
    ·have h5 : 1 < n := by simp at h4; omega
     refine AWp.reg (m := 4) rfl ?_
     refine c_s (fI) ?_
     refine o_0 (.bin rfl rfl (binS_add (l := [94]) (by simp; omega))) ?_
     refine o_3 (.callB (s := some _) rfl rfl rfl rfl rfl rfl (fun _ h => by cases h; exact ⟨rfl, by decide⟩) (bs_Write1 s ([94] ++ ti n) (by simp; omega))) ?_
     refine AR.nil ?_
     refine ⟨some (s ++ ([94] ++ ti n)), by unfold stepTx; rw [if_neg hn0, if_pos h5, ← ho1e, ← ht, ← ho2e, hs3]; rfl, ?_⟩
     show SEnt _ (pb1 q (n, s ++ ([94] ++ ti n)))
     rw [pb1_mk]
     refine SEnt.to2 [(2, 100009)] rfl rfl rfl au_r (fun hs => au_f) (fun hs => au_h)
    ·have h5 : ¬ 1 < n := by simp at h4; omega
     refine AWp.skip ⟨some s, by unfold stepTx; rw [if_neg hn0, if_neg h5, ← ho1e, ← ht, ← ho2e, hs3], ?_⟩
     show SEnt _ (pb1 q (n, s))
     rw [pb1_mk]
     exact s_e []
   rintro o' ho'
   have hok' : okOx o' (B + (L + 30)) := by
    rw [ho']
    split
    ·exact okO_mono ho (by omega)
    ·have g1 := okO_sign ho c
     unfold stepTx
     rw [← ht]
     have g2 : okOx (sizeTx (sgnTx o c) t) (B + L + 4) := by
      unfold sizeTx
      split
      ·exact okO_mono g1 (by omega)
      ·exact okO_mono (okO_wr g1 (t := t ++ [32]) (by simp)) (by simp; omega)
     have g3 := okO_wr g2 (t := [120]) (by simp)
     split
     ·exact okO_mono (okO_wr g1 htn) (by omega)
     ·split
      ·exact okO_mono (okO_wr g3 (t := [94] ++ ti n) (by simp)) (by simp; omega)
      ·exact okO_mono g3 (by simp; omega)
   rw [← ho'] at hr
   cases o' with
   | none =>
    show AWp _ _ _ _ (pb0 q n)
    rw [pb0_mk]
    refine AWp.reg (m := 3) rfl ?_
    refine a_z ?_
    refine ⟨(n, none), Nat.lt_succ_self n, ⟨by simp only; omega, hr, okO_none _⟩, ?_⟩
    show SEnt _ (pb0 q ((n : Int) - 1))
    rw [pb0_mk]
    exact s_e []
   | some s =>
    show AWp _ _ _ _ (pb1 q (n, s))
    rw [pb1_mk]
    refine AWp.reg (m := 3) rfl ?_
    refine a_z ?_
    refine ⟨(n, some s), Nat.lt_succ_self n, ⟨by simp only; omega, hr, by simp only; rw [hm]; exact hok'⟩, ?_⟩
    show SEnt _ (pb1 q ((n : Int) - 1, s))
    rw [pb1_mk]
    exact s_e []
 rintro o ⟨rfl, ho⟩
 cases ho2 : textR tq ti q q.length none with
 | none =>
  show AWp _ _ _ _ (pb0 q (-1))
  rw [pb0_mk]
  refine AWp.seq ?_
  refine s_r 2 ?_
  refine o_0 (.callR (s := none) (j := 0) (tb := 0) rfl rfl rfl rfl rfl (fun _ h => by cases h) (fs_Len0)) ?_
  refine a_z ?_
  refine AWp.cond rfl (fun h4 => ?_) (fun h4 => ?_)
  ·refine r_z 1 ?_
   refine AWp.ret ?_
   refine Fin.tmpE rfl ?_ ?_
   ·rfl
   ·exact closed_v _
  ·exact absurd h4 (by simp)
 | some s =>
  have hs := ho s ho2
  have hsl : s.length ≠ 0 := by have := hs.1; simpa using this
  have hne := hs.1
  show AWp _ _ _ _ (pb1 q (-1, s))
  rw [pb1_mk]
  refine AWp.seq ?_
  refine s_r 2 ?_
  refine o_0 (.callR (s := some _) rfl rfl rfl rfl rfl (fun _ h => by cases h; exact rfl) (fs_Len1 s)) ?_
  refine a_z ?_
  refine AWp.cond rfl (fun h4 => ?_) (fun h4 => ?_)
  ·exact absurd h4 (by simp; omega)
  ·refine AWp.skip ?_
   refine s_r 2 ?_
   refine o_2 (.callD rfl rfl rfl rfl rfl rfl (by decide) (by first | assumption | simp) (ds_String)) ?_
   refine a_z ?_
   refine AWp.ret ?_
   refine Fin.tmpE rfl ?_ ?_
   ·rfl
   ·exact closed_v _
theorem fs_PText (p : List Rat) (h : okPT p) : FSpec Tryz.prog 75 [.arr (pE p)] (tx (textP p)) := by
 obtain ⟨h1, h2, h3⟩ := h
 exact fs_PTextG textQ dec2 6 p h1 (by decide) (fun c hc => ⟨fs_QText (absQ c) (okT_abs (h3 c hc)), textQ_ne _, textQ_len.1⟩) (fun n hn => ⟨fs_Itoa n (by omega), Nat.le_trans (dec2_len n) (by decide)⟩)
def okTo (L : Nat) (p t : List Rat) (k : Rat) (n : Nat) : Prop := n < L ∧ smL p ∧ smL t ∧ leadP t ≠ 0 ∧ sm k ∧ smL (scaleP t k) ∧ p.length ≤ 274877906944 ∧ t.length ≤ 274877906944
instance (L : Nat) (p t : List Rat) (k : Rat) (n : Nat) : Decidable (okTo L p t k n) := inferInstanceAs (Decidable (_ ∧ _ ∧ _ ∧ _ ∧ _ ∧ _ ∧ _ ∧ _))
def toM : Nat → List Rat → List Rat → Option (List Rat)
 | 0, _, _ => none
 | f + 1, p, out => if trimQ p = [] then (if p.length ≤ 1099511627776 then some out else none) else
  let n := (trimQ p).length - 1
  let t := (chP n).1
  let k := leadP p / leadP t
  if okTo out.length p t k n then toM f (subP p (scaleP t k)) (out.set n k) else none
def toFirstM (f : Nat) (p : List Rat) : Option (List Rat) :=
 if p.length ≤ 1000 ∧ (trimQ p).length ≤ 41 ∧ (∀ k, k < (trimQ p).length → okCh k) then toM f (trimQ p) (List.replicate (trimQ p).length 0) else none
def toS (ts : List (List Rat)) : List Rat × List Rat → AState
 | (p, out) => ⟨[(0, .arr (pE p)), (4, .lsl 1 0 out.length (some out.length) 3), (5, .arr (cE ts)), (6, i64 (degP p))], [(1, some ⟨35, 3, pE out⟩)], 2, 47⟩
theorem toS_mk (ts : List (List Rat)) (p : List Rat) (out : List Rat) : toS ts (p, out) = ⟨[(0, .arr (pE p)), (4, .lsl 1 0 out.length (some out.length) 3), (5, .arr (cE ts)), (6, i64 (degP p))], [(1, some ⟨35, 3, pE out⟩)], 2, 47⟩ := rfl
theorem fs_ToFirst (f : Nat) (p r : List Rat) (h : toFirstM f p = some r) : FSpec Tryz.prog 157 [.arr (pE p)] (.tup [.arr (pE r), i64 0]) := by
 unfold toFirstM at h
 split at h
 case isFalse => cases h
 case isTrue hp =>
 obtain ⟨hp1, hp2, hp3⟩ := hp
 have htl := trimQ_len p
 obtain ⟨q, hq⟩ : ∃ q, q = trimQ p := ⟨_, rfl⟩
 rw [← hq] at h hp2 hp3 htl
 have hql : q.length ≤ 41 := hp2
 refine FSpec.enter Tryz.func157 rfl (by kernel_rfl) rfl rfl rfl ?_ rfl ?_
 ·exact closed_cons (closed_pA p) closed_nil
 refine r_z 2 ?_
 have htr := fs_Trim p (by omega)
 rw [← hq] at htr
 refine r_c 3 (htr) ?_
 refine a_z ?_
 refine AWp.seq ?_
 refine r_c 3 (fs_Degree q (by omega)) ?_
 refine a_z ?_
 refine AWp.cond rfl (fun h1 => ?_) (fun h1 => ?_)
 ·have h2 : (40 : Int) < degP q := by simpa using h1
  have h3 := trimQ_len q
  unfold degP at h2
  omega
 refine AWp.skip ?_
 refine s_r 4 ?_
 refine a_2 ?_
 refine o_1 (.makeSlice (l := q.length) (c := q.length) rfl rfl te_49.h tz_35.h rfl tb_35.h (by first | omega | (simp; done) | (simp; omega)) (by first | omega | (simp; done) | (simp; omega)) (by unfold maxLen; first | omega | (simp; done) | (simp; omega))) ?_
 refine a_z ?_
 refine r_c 4 (fs_firsts q.length (by omega) hp3) ?_
 refine a_z ?_
 refine AWp.seq ?_
 refine r_c 3 (fs_Degree q (by omega)) ?_
 refine a_z ?_
 refine AWp.cutT (fun _ : Unit => ⟨[(4, .lsl 1 0 r.length (some r.length) 3)], [(1, some ⟨35, 3, pE r⟩)], 2, 47⟩) (fun _ => True) ?_ ?_
 ·refine AWp.block ?_
  refine AWp.loopS (fun x : Nat × List Rat × List Rat => toS (chL2 (q.length + 1)) x.2) (fun x => x.1) (fun x => toM x.1 x.2.1 x.2.2 = some r ∧ x.2.2.length = q.length ∧ x.2.1.length ≤ 1099511627776) (f, q, List.replicate q.length 0) ⟨h, by simp, by simp only; omega⟩ ?_ ?_
  ·simp only [toS_mk, List.length_replicate]
   refine SEnt.to [(1, 4)] rfl rfl rfl au_r (fun hs => ?_) (fun hs => ?_)
   ·repeat' (first | exact CvF.nil | refine CvF.cons rfl ?_ ?_)
    all_goals (first | (exact Cv.clo hs (closed_cA _)) | exact au_c)
   ·repeat' (first | exact CvH.nil | refine CvH.cons rfl rfl rfl rfl ?_ ?_)
    all_goals (first | (exact CvLL.zeros hs _) | exact au_e | (refine CvLL.box ?_; repeat' (first | exact CvL.nil | refine CvL.cons ?_ ?_)))
    all_goals (first | (exact Cv.clo hs (closed_cA _)) | exact au_c)
  rintro ⟨k, p, out⟩ ⟨h, ho, hpl⟩
  simp only at h ho hpl
  simp only [toS_mk]
  cases k with
  | zero => cases h
  | succ k =>
   rw [toM] at h
   refine AWp.seq ?_
   refine r_z 2 ?_
   refine AWp.cond rfl (fun h1 => ?_) (fun h1 => ?_)
   ·have h0 : trimQ p ≠ [] := by
     intro e
     have e2 := degP_neg.2 e
     simp at h1; omega
    rw [if_neg h0] at h
    simp only at h
    split at h
    case isFalse => cases h
    case isTrue hk =>
    obtain ⟨n, hn⟩ : ∃ n, n = (trimQ p).length - 1 := ⟨_, rfl⟩
    obtain ⟨t, ht⟩ : ∃ t, t = (chP n).1 := ⟨_, rfl⟩
    obtain ⟨x, hx⟩ : ∃ x, x = leadP p / leadP t := ⟨_, rfl⟩
    rw [← hn, ← ht, ← hx] at h hk
    obtain ⟨k1, k2, k3, k4, k5, k6, k7, k8⟩ := hk
    have hdn : degP p = (n : Int) := by
     unfold degP
     have := List.length_pos_iff.2 h0
     omega
    have hov := fs_over2 (leadP p) (leadP t) k4 (by have e1 := leadP_sm k2; have e2 := leadP_sm k3; unfold sm at e1 e2; omega)
    rw [← hx] at hov
    have hgt : (cE (chL2 (q.length + 1)))[((n : Nat) : Int).toNat]? = some [.arr (pE t)] := by
     refine cE_get ?_
     rw [Int.toNat_natCast, ht, chL2, List.getElem?_map, List.getElem?_range (by omega)]; rfl
    have hsl := scaleP_len t x
    have hgo : (pE (out.set n x))[0 + ((n : Nat) : Int).toNat]? = some (qC x) := by
     rw [show 0 + ((n : Nat) : Int).toNat = n by omega]
     exact pE_get (by rw [List.getElem?_set, if_pos rfl, if_pos k1])
    have hst : (pE out).set (0 + ((n : Nat) : Int).toNat) (qC x) = pE (out.set n x) := by
     rw [show 0 + ((n : Nat) : Int).toNat = n by omega, pE_set]
    have hlo : (out.set n x).length = out.length := by simp
    have hg0 : (pE out)[0 + ((n : Nat) : Int).toNat]? = some (qC (coP out n)) := by
     rw [show 0 + ((n : Nat) : Int).toNat = n by omega]; exact pE_get (coP_get k1)
    have hsb : (subP p (scaleP t x)).length ≤ 1099511627776 := by
     have h1 := addP_len p (scaleP (scaleP t x) (-1))
     have h2 := scaleP_len (scaleP t x) (-1)
     unfold subP; omega
    rw [hdn]
    refine AWp.skip ?_
    refine AWp.seq ?_
    refine AWp.block ?_
    refine AWp.seq ?_
    refine AWp.regD hmix (m := 12) rfl ?_
    refine c_s (fs_Lead p (by omega)) ?_
    refine a_2 ?_
    first | refine AR.op0 (.index_l rfl rfl (by omega) (by omega) te_261.h) rfl rfl ?_ | refine AR.op0 (.index_a rfl rfl (by omega) hgt rfl te_261.h) rfl rfl ?_
    first | refine AR.op0 (.load_l1 rfl rfl hgt tg_55.h rfl) rfl rfl ?_ | refine AR.op0 (.load_a1 rfl hgt tg_55.h rfl) rfl rfl ?_
    refine c_s (fs_Lead t (by omega)) ?_
    refine c_s (hov) ?_
    refine a_1 ?_
    refine o_1n (.store rfl rfl hg0 rfl rfl rfl ts_35.h (nle rfl)) ?_
    refine AR.nil ⟨by kernel_rfl, ?_⟩
    refine AWp.ent (st' := ⟨[(0, .arr (pE p)), (4, .lsl 1 0 out.length (some out.length) 3), (5, .arr (cE (chL2 (q.length + 1)))), (6, i64 n)], [(1, some ⟨35, 3, pE (out.set n x)⟩)], 2, 47⟩) ?_ ?_
    ·refine SEnt.to [] rfl rfl rfl ?_ (fun hs => ?_) (fun hs => ?_)
     ·repeat' (first | exact ShrL.nil | refine ShrL.cons rfl rfl rfl rfl (by first | (simp) | rfl | (simp; done) | (simp <;> omega)) ?_)
     ·repeat' (first | exact CvF.nil | refine CvF.cons rfl ?_ ?_)
      all_goals (first | (exact Cv.clo hs (closed_cA _)) | exact au_c)
     ·repeat' (first | exact CvH.nil | refine CvH.cons rfl rfl rfl rfl ?_ ?_)
      all_goals (first | (exact CvLL.cloE hs hst (closed_pE _)) | exact au_e | (refine CvLL.box ?_; repeat' (first | exact CvL.nil | refine CvL.cons ?_ ?_)))
      all_goals (first | (exact Cv.clo hs (closed_cA _)) | exact au_c)
    refine AWp.regD hmix (m := 12) rfl ?_
    refine a_3 ?_
    first | refine AR.op0 (.index_l rfl rfl (by omega) (by omega) te_261.h) rfl rfl ?_ | refine AR.op0 (.index_a rfl rfl (by omega) hgt rfl te_261.h) rfl rfl ?_
    first | refine AR.op0 (.load_l1 rfl rfl hgt tg_55.h rfl) rfl rfl ?_ | refine AR.op0 (.load_a1 rfl hgt tg_55.h rfl) rfl rfl ?_
    refine a_3 ?_
    first | refine AR.op0 (.load_l rfl rfl hgo tg_35.h ts_35.h (nle rfl)) rfl rfl ?_ | refine AR.op0 (.load_a rfl hgo tg_35.h ts_35.h (nle rfl)) rfl rfl ?_
    refine c_s (fs_Scale t x k3 k5 (by omega)) ?_
    refine c_s (fs_Sub p (scaleP t x) k2 k6 (by omega) (by omega)) ?_
    refine a_1 ?_
    refine AR.nil ⟨by kernel_rfl, ?_⟩
    refine AWp.reg (m := 3) rfl ?_
    refine c_s (fs_Degree (subP p (scaleP t x)) hsb) ?_
    refine a_z ?_
    refine ⟨(k, subP p (scaleP t x), out.set n x), Nat.lt_succ_self k, ⟨h, by simp only; omega, hsb⟩, ?_⟩
    simp only [toS_mk, hlo]
    refine SEnt.to [] rfl rfl rfl au_r (fun hs => ?_) (fun hs => ?_)
    ·repeat' (first | exact CvF.nil | refine CvF.cons rfl ?_ ?_)
     all_goals (first | (exact Cv.clo hs (closed_cA _)) | exact au_c)
    ·repeat' (first | exact CvH.nil | refine CvH.cons rfl rfl rfl rfl ?_ ?_)
     all_goals (first | exact au_e | (refine CvLL.box ?_; repeat' (first | exact CvL.nil | refine CvL.cons ?_ ?_)))
     all_goals (first | (exact Cv.clo hs (closed_cA _)) | exact au_c)
   ·have h0 : trimQ p = [] := by
     refine degP_neg.1 ?_
     simp at h1; omega
    rw [if_pos h0, if_pos hpl] at h
    cases h
    refine AWp.exit ⟨(), trivial, ?_⟩
    exact s_e []
 rintro _ _
 refine r_z 3 ?_
 refine AWp.ret ?_
 refine Fin.many ⟨_, _, rfl, rfl, ⟨_, _, rfl, rfl, rfl⟩⟩ (nle rfl) ?_
 exact CvL.cons (Cv.sealE shr_nil rfl (fun _ _ h => by cases h) rfl (by simp) (closed_pE r)) (CvL.cons (Cv.clo shr_nil (closed_v _)) CvL.nil)
def twoP : List Rat := [-2, 0, 1]
theorem w_text1 : textP [1, mkRat (-3) 2, 0, 1] = [120, 94, 51, 32, 45, 32, 51, 47, 50, 32, 120, 32, 43, 32, 49] ∧ okPT [1, mkRat (-3) 2, 0, 1] := by decide +kernel
theorem w_div : divP [-1, 0, 1] [2, 1] = ([-2, 1], [3]) ∧ okDiv [-1, 0, 1] [2, 1] ∧ trimQ [2, 1] ≠ [] := by decide +kernel
theorem w_text2 : textP [-2, 1] = [120, 32, 45, 32, 50] ∧ okPT [-2, 1] := by decide +kernel
theorem w_text3 : textP [3] = [51] ∧ okPT [3] := by decide +kernel
theorem w_first : toFirstM 10 [0, 0, 1] = some [mkRat 1 2, 0, mkRat 1 2] := by decide +kernel
theorem w_res : resM 10 1 twoP [-3, 0, 1] = some 1 := by decide +kernel
theorem w_q : textQ (mkRat 1 2) = [49, 47, 50] ∧ okT (mkRat 1 2) ∧ textQ 1 = [49] ∧ okT 1 := by decide +kernel
def spanChk : Bool := match placeM 40 twoP with
 | some c => decide (1 < allV c ∧ spanM 40 c 1 4 = some (mkRat 11 8, mkRat 23 16))
 | none => false
theorem w_span : spanChk = true := by decide +kernel
theorem w_range : rangeM 40 40 twoP (-1, 2) 0 = some (-2, 2) := by decide +kernel
theorem w_sp : textSp (mkRat 11 8, mkRat 23 16) = [91, 49, 49, 47, 56, 32, 50, 51, 47, 49, 54, 93] ∧ okT (mkRat 11 8) ∧ okT (mkRat 23 16) ∧ textSp (-2, 2) = [91, 45, 50, 32, 50, 93] ∧ okT (-2) ∧ okT 2 := by decide +kernel
inductive LeLL : List (List AV) → List (List AV) → Prop
 | nil : LeLL [] []
 | cons {e e' es es'} : LeL e e' → LeLL es es' → LeLL (e :: es) (e' :: es')
theorem leL_len {xs ys : List AV} (h : LeL xs ys) : ys.length = xs.length := by
 induction h with
 | nil => rfl
 | cons _ _ ih => simp [ih]
theorem leL_cs {M : Nat → Prop} {β : Nat → Option (Nat × Nat)} {w : World} {b : Nat} {xs ys : List AV} (h : LeL xs ys) : ∀ {off : Nat}, RVcs M β w b xs off → RVcs M β w b ys off := by
 induction h with
 | nil => exact fun h => h
 | cons h1 _ ih => rintro off ⟨⟨x, hx, hr⟩, hs⟩; exact ⟨⟨x, hx, h1 M β w x hr⟩, ih hs⟩
theorem LeLL.ess {M : Nat → Prop} {β : Nat → Option (Nat × Nat)} {w : World} {b s : Nat} {es es' : List (List AV)} (h : LeLL es es') : ∀ {off : Nat}, RVess M β w b s es off → RVess M β w b s es' off := by
 induction h with
 | nil => exact fun h => h
 | cons h1 _ ih => rintro off ⟨h0, hc, hr⟩; exact ⟨(leL_len h1).trans h0, leL_cs h1 hc, ih hr⟩
theorem LeLL.length {es es' : List (List AV)} (h : LeLL es es') : es'.length = es.length := by
 induction h with
 | nil => rfl
 | cons _ _ ih => simp [ih]
theorem Le.arr {es es' : List (List AV)} (h : LeLL es es') : Le (.arr es) (.arr es') := by
 rintro M β w y ⟨a, c, rfl, h1, h2, h3⟩
 refine ⟨a, c, by rw [h.length], by rw [h.length]; exact h1, h2, h3.imp (fun e => ?_) ?_⟩
 ·subst e; cases h; rfl
 ·rintro ⟨b, off, s, rfl, hN, hm, hr⟩
  exact ⟨b, off, s, rfl, hN, hm, h.ess hr⟩
theorem LeLL.refl : ∀ es, LeLL es es
 | [] => .nil
 | e :: es => .cons (LeL.refl e) (LeLL.refl es)
section
variable {P : Go.Program} {T : Nat} {x y : Operand}
theorem binS_tt {s : ByteArray} : ∀ w, (do eqGuard .eql T x y (.string s) (.string s); binOp .eql T (.string s) (.string s) : Sem Value).run P w = .ok (.bool true) w := fun w => by
 rw [binS_eql]; simp
end
theorem fs_wakes : FSpec Tryz.prog 59 [] (.v (.bool true)) := by
 have i1 := fs_ints [-2, 0, 1] (by decide) (by decide)
 rw [show zR [-2, 0, 1] = twoP by decide] at i1
 have i2 := fs_ints [-1, 0, 1] (by decide) (by decide)
 rw [show zR [-1, 0, 1] = [-1, 0, 1] by decide] at i2
 have i3 := fs_ints [2, 1] (by decide) (by decide)
 rw [show zR [2, 1] = [2, 1] by decide] at i3
 have i4 := fs_ints [0, 0, 1] (by decide) (by decide)
 rw [show zR [0, 0, 1] = [0, 0, 1] by decide] at i4
 have i5 := fs_ints [-3, 0, 1] (by decide) (by decide)
 rw [show zR [-3, 0, 1] = [-3, 0, 1] by decide] at i5
 have hdiv := fs_Divide [-1, 0, 1] [2, 1] w_div.2.1 w_div.2.2
 rw [w_div.1] at hdiv
 obtain ⟨c, hc1, hc2, hc3⟩ : ∃ c, placeM 40 twoP = some c ∧ 1 < allV c ∧ spanM 40 c 1 4 = some (mkRat 11 8, mkRat 23 16) := by
  have h := w_span
  unfold spanChk at h
  split at h
  ·rename_i c hc; exact ⟨c, hc, of_decide_eq_true h⟩
  ·cases h
 have hspan := fs_RSpan 40 twoP 1 4 c (mkRat 11 8, mkRat 23 16) hc1 (by decide) (by decide) hc2 hc3
 have n1 := fs_Int (-1) (by decide)
 rw [show ((-1 : Int) : Rat) = -1 by decide] at n1
 have n2 := fs_Int 2 (by decide)
 rw [show ((2 : Int) : Rat) = 2 by decide] at n2
 have n3 := fs_Int 1 (by decide)
 rw [show ((1 : Int) : Rat) = 1 by decide] at n3
 have hrange := fs_Range 40 40 twoP (-1, 2) 0 (-2, 2) w_range (by decide)
 have hfirst := fs_ToFirst 10 [0, 0, 1] [mkRat 1 2, 0, mkRat 1 2] w_first
 have hof := fs_Of (-3) 2 (by decide) (by decide) (by decide)
 rw [show (((-3 : Int) : Rat) / ((2 : Int) : Rat)) = mkRat (-3) 2 by decide +kernel] at hof
 have t1 := fs_PText [1, mkRat (-3) 2, 0, 1] w_text1.2
 rw [w_text1.1] at t1
 have t1' : FSpec Tryz.prog 75 [.arr [qC 1, qC (mkRat (-3) 2), zC, qC 1]] (tx [120, 94, 51, 32, 45, 32, 51, 47, 50, 32, 120, 32, 43, 32, 49]) := by
  refine t1.weak (.cons (Le.arr (.cons (.refl _) (.cons (.refl _) (.cons le_zC (.cons (.refl _) .nil))))) .nil) ?_
  refine closed_cons (closed_arr ?_) closed_nil
  intro e he
  simp at he
  rcases he with rfl | rfl | rfl | rfl
  ·exact closed_qC _
  ·exact closed_qC _
  ·exact closed_zC
  ·exact closed_qC _
 have t2 := fs_PText [-2, 1] w_text2.2
 rw [w_text2.1] at t2
 have t3 := fs_PText [3] w_text3.2
 rw [w_text3.1] at t3
 have s1 := fs_SText (mkRat 11 8, mkRat 23 16) w_sp.2.1 w_sp.2.2.1
 rw [w_sp.1] at s1
 have s2 := fs_SText (-2, 2) w_sp.2.2.2.2.1 w_sp.2.2.2.2.2
 rw [w_sp.2.2.2.1] at s2
 have q1 := fs_QText (mkRat 1 2) w_q.2.1
 rw [w_q.1] at q1
 have q2 := fs_QText 1 w_q.2.2.2
 rw [w_q.2.2.1] at q2
 have hres := fs_Resultant 10 twoP [-3, 0, 1] 1 w_res
 refine FSpec.enter Tryz.func59 rfl (by kernel_rfl) rfl rfl rfl ?_ rfl ?_
 ·exact closed_nil
 refine r_z 1 ?_
 refine s_r 3 ?_
 refine a_1 ?_
 refine o_1 (.callS1 rfl rfl rfl (.shut rfl (by first | exact nle rfl | (simp; done) | (simp; omega)) (.nil)) rfl (i1)) ?_
 refine a_z ?_
 refine s_r 12 ?_
 refine a_1 ?_
 refine o_1 (.callS1 rfl rfl rfl (.shut rfl (by first | exact nle rfl | (simp; done) | (simp; omega)) (.nil)) rfl (i2)) ?_
 refine a_1 ?_
 refine o_1 (.callS1 rfl rfl rfl (.shut rfl (by first | exact nle rfl | (simp; done) | (simp; omega)) (.nil)) rfl (i3)) ?_
 refine c_s (hdiv) ?_
 refine a_z ?_
 refine r_c 9 (hspan) ?_
 refine a_z ?_
 refine r_c 11 (n1) ?_
 refine c_s (n2) ?_
 refine c_s (hrange) ?_
 refine a_z ?_
 refine s_r 8 ?_
 refine a_1 ?_
 refine o_1 (.callS1 rfl rfl rfl (.shut rfl (by first | exact nle rfl | (simp; done) | (simp; omega)) (.nil)) rfl (i4)) ?_
 refine c_s (hfirst) ?_
 refine a_z ?_
 refine r_c 7 (hof) ?_
 refine a_z ?_
 refine AWp.seq ?_
 refine AWp.regD hmix (m := 64) rfl ?_
 refine c_s (n3) ?_
 refine c_s (n3) ?_
 refine o_1 (.buildSlice te_55.h tz_35.h rfl (by decide) rfl rfl rfl (by simp [setAt_length, ofV])) ?_
 refine o_1 (.callS1 rfl rfl rfl (.shut rfl (by first | exact nle rfl | (simp; done) | (simp; omega)) (.nil)) rfl (t1')) ?_
 refine o_0 (.bin rfl rfl binS_tt) ?_
 refine a_1 ?_
 refine AR.op0y rfl rfl (gy rfl) (.move rfl) rfl rfl ?_
 refine AR.op0y rfl rfl (gy rfl) (.bin rfl rfl binI_eql) rfl rfl ?_
 refine o_0 (.pickT rfl rfl rfl) ?_
 refine a_1 ?_
 refine AR.op0y rfl rfl (gy rfl) (.move rfl) rfl rfl ?_
 refine AR.op0y rfl rfl (gy rfl) (.call rfl rfl rfl (t2)) rfl rfl ?_
 refine AR.op0y rfl rfl (gy rfl) (.bin rfl rfl binS_tt) rfl rfl ?_
 refine o_0 (.pickT rfl rfl rfl) ?_
 refine a_1 ?_
 refine AR.op0y rfl rfl (gy rfl) (.move rfl) rfl rfl ?_
 refine AR.op0y rfl rfl (gy rfl) (.call rfl rfl rfl (t3)) rfl rfl ?_
 refine AR.op0y rfl rfl (gy rfl) (.bin rfl rfl binS_tt) rfl rfl ?_
 refine o_0 (.pickT rfl rfl rfl) ?_
 refine a_1 ?_
 refine AR.op0y rfl rfl (gy rfl) (.move rfl) rfl rfl ?_
 refine AR.op0y rfl rfl (gy rfl) (.bin rfl rfl binI_eql) rfl rfl ?_
 refine o_0 (.pickT rfl rfl rfl) ?_
 refine a_1 ?_
 first | refine AR.op0y rfl rfl (gy rfl) (.load_l rfl rfl rfl tg_37.h ts_37.h (nle rfl)) rfl rfl ?_ | refine AR.op0y rfl rfl (gy rfl) (.load_a rfl rfl tg_37.h ts_37.h (nle rfl)) rfl rfl ?_
 refine AR.op0y rfl rfl (gy rfl) (.call rfl rfl rfl (s1)) rfl rfl ?_
 refine AR.op0y rfl rfl (gy rfl) (.bin rfl rfl binS_tt) rfl rfl ?_
 refine o_0 (.pickT rfl rfl rfl) ?_
 refine a_1 ?_
 refine AR.op0y rfl rfl (gy rfl) (.move rfl) rfl rfl ?_
 refine AR.op0y rfl rfl (gy rfl) (.bin rfl rfl binI_eql) rfl rfl ?_
 refine o_0 (.pickT rfl rfl rfl) ?_
 refine a_1 ?_
 first | refine AR.op0y rfl rfl (gy rfl) (.load_l rfl rfl rfl tg_37.h ts_37.h (nle rfl)) rfl rfl ?_ | refine AR.op0y rfl rfl (gy rfl) (.load_a rfl rfl tg_37.h ts_37.h (nle rfl)) rfl rfl ?_
 refine AR.op0y rfl rfl (gy rfl) (.call rfl rfl rfl (s2)) rfl rfl ?_
 refine AR.op0y rfl rfl (gy rfl) (.bin rfl rfl binS_tt) rfl rfl ?_
 refine o_0 (.pickT rfl rfl rfl) ?_
 refine a_1 ?_
 refine AR.op0y rfl rfl (gy rfl) (.move rfl) rfl rfl ?_
 refine AR.op0y rfl rfl (gy rfl) (.bin rfl rfl binI_eql) rfl rfl ?_
 refine o_0 (.pickT rfl rfl rfl) ?_
 refine a_1 ?_
 refine AR.op0y rfl rfl (gy rfl) (.move rfl) rfl rfl ?_
 first | refine AR.op0y rfl rfl (gy rfl) (.lenD rfl rfl rfl rfl te_49.h) rfl rfl ?_ | refine AR.op0y rfl rfl (gy rfl) (.lenI rfl rfl rfl rfl te_49.h) rfl rfl ?_ | refine AR.op0y rfl rfl (gy rfl) (.lenP rfl rfl rfl rfl te_49.h) rfl rfl ?_ | refine AR.op0y rfl rfl (gy rfl) (.lenC rfl rfl rfl rfl te_49.h) rfl rfl ?_ | refine AR.op0y rfl rfl (gy rfl) (.lenR rfl rfl rfl rfl te_49.h) rfl rfl ?_ | refine AR.op0y rfl rfl (gy rfl) (.len rfl rfl rfl rfl rfl te_49.h) rfl rfl ?_
 refine AR.op0y rfl rfl (gy rfl) (.bin rfl rfl binI_eql) rfl rfl ?_
 refine o_0 (.pickT rfl rfl rfl) ?_
 refine a_1 ?_
 refine AR.op0y rfl rfl (gy rfl) (.move rfl) rfl rfl ?_
 first | refine AR.op0y rfl rfl (gy rfl) (.index_l rfl rfl (by omega) (by omega) te_49.h) rfl rfl ?_ | refine AR.op0y rfl rfl (gy rfl) (.index_a rfl rfl (by omega) rfl rfl te_49.h) rfl rfl ?_
 first | refine AR.op0y rfl rfl (gy rfl) (.load_l rfl rfl rfl tg_35.h ts_35.h (nle rfl)) rfl rfl ?_ | refine AR.op0y rfl rfl (gy rfl) (.load_a rfl rfl tg_35.h ts_35.h (nle rfl)) rfl rfl ?_
 refine AR.op0y rfl rfl (gy rfl) (.call rfl rfl rfl (q1)) rfl rfl ?_
 refine AR.op0y rfl rfl (gy rfl) (.bin rfl rfl binS_tt) rfl rfl ?_
 refine o_0 (.pickT rfl rfl rfl) ?_
 refine a_1 ?_
 refine AR.op0y rfl rfl (gy rfl) (.move rfl) rfl rfl ?_
 refine AR.op1y rfl rfl (gy rfl) (.buildSlice te_268.h tz_2.h rfl (by decide) rfl rfl rfl (by first | (simp; done) | (simp [setAt_length, ofV]; done) | rfl)) rfl rfl ?_
 refine AR.op1y rfl rfl (gy rfl) (.callS1 rfl rfl rfl (.shut rfl (by first | exact nle rfl | (simp; done) | (simp; omega)) (.nil)) rfl (i5)) rfl rfl ?_
 refine AR.op0y rfl rfl (gy rfl) (.call rfl rfl rfl (hres)) rfl rfl ?_
 refine AR.op0y rfl rfl (gy rfl) (.call rfl rfl rfl (q2)) rfl rfl ?_
 refine AR.op0y rfl rfl (gy rfl) (.bin rfl rfl binS_tt) rfl rfl ?_
 refine o_0 (.pickT rfl rfl rfl) ?_
 refine a_1 ?_
 refine AR.nil ⟨by kernel_rfl, ?_⟩
 refine AWp.ret ?_
 refine Fin.tmpE rfl ?_ ?_
 ·rfl
 ·exact closed_v _
theorem fs_PolyMembers (a b : Nat) (ha : a ≤ 255) (hb : b ≤ 255) : FSpec Tryz.prog 6 [.v (.int .u8 a), .v (.int .u8 b)] (.v (.bool true)) := by
 obtain ⟨i, hi⟩ : ∃ i, i = a % 7 := ⟨_, rfl⟩
 obtain ⟨k, hk⟩ : ∃ k, k = b % 7 := ⟨_, rfl⟩
 have hi7 : i < 7 := by omega
 have hk7 : k < 7 := by omega
 have hik : i * k ≤ 36 := Nat.le_trans (Nat.mul_le_mul (show i ≤ 6 by omega) (show k ≤ 6 by omega)) (by decide)
 obtain ⟨a1, a2, a3, a4, a5, a6, a7, a8, a9⟩ := chk1 i hi7 k hk7
 obtain ⟨b1, b2, b3, b4, b5, b6, b7, b8⟩ := chk2 i hi7
 obtain ⟨c1, c2, c3, c4, c5, c6⟩ := chk3 i hi7 k hk7
 obtain ⟨d1, d2⟩ := chk4 i hi7
 obtain ⟨e1, e2, e3, e4⟩ := chk5 i hi7
 have fT := famT i (by omega)
 have fT2 := famT k (by omega)
 have fT3 := famT (i * k) hik
 have fT4 := famT (i + 1) (by omega)
 have fU := famU i (by omega)
 have fL := famL i (by omega)
 have fL2 := famL k (by omega)
 have fH := famH i (by omega)
 have hcmp := fs_Compose (at_ tabT i) (at_ tabT k) a1 (by omega) (by omega) a4
 have hs1 := fs_Same (at_ tabT (i * k)) (compP (at_ tabT k) (at_ tabT i)) a5 a6 (by omega) (by omega)
 rw [a9] at hs1
 have hde := fs_Derive (at_ tabT (i + 1)) b1 (by omega)
 have hsc := fs_Scale (at_ tabU i) (((i : Int) + 1 : Int) : Rat) b3 b5 (by omega)
 have hs2 := fs_Same (deriveP (at_ tabT (i + 1))) (scaleP (at_ tabU i) (((i : Int) + 1 : Int) : Rat)) b6 b7 (by have := deriveP_len (at_ tabT (i + 1)); omega) (by have := scaleP_len (at_ tabU i) (((i : Int) + 1 : Int) : Rat); omega)
 rw [b8] at hs2
 have hmu := fs_Mul (at_ tabL i) (at_ tabL k) (mxL _) (mxL _) (bdL_mx _) (bdL_mx _) (mxL_pos _) (mxL_pos _) c1.1 c1.2.1 c1.2.2.1 c1.2.2.2
 have hin := fs_Integral (mulP (at_ tabL i) (at_ tabL k)) (okMul_sm c1) (by omega)
 have hev := fs_Eval (intL i k) ((1 : Int) : Rat) c3
 have hev2 := fs_Eval (intL i k) ((-1 : Int) : Rat) c4
 have q1 := evalP_sm c3
 have q2 := evalP_sm c4
 unfold sm at q1 q2
 have hsu := fs_sub (evalP (intL i k) ((1 : Int) : Rat)) (evalP (intL i k) ((-1 : Int) : Rat)) (by omega)
 rw [c5] at hsu
 have hcq := fs_cmp (wantQ i k) (wantQ i k) c6 c6
 rw [show cmpQ (wantQ i k) (wantQ i k) = 0 by unfold cmpQ; rw [if_neg (by grind), if_pos rfl]] at hcq
 have ct := cntB_spec d1
 have cl := cntB_spec d2
 have ch := cntB_spec e4
 have hbo := fs_BoundE (at_ tabH i) e1 e2 (by omega)
 have hng := fs_neg (boundP (at_ tabH i))
 have em : ((i : Int)) * (k : Int) = ((i * k : Nat) : Int) := (Int.natCast_mul i k).symm
 refine FSpec.enter Tryz.func6 rfl (by kernel_rfl) rfl rfl rfl ?_ rfl ?_
 ·exact closed_cons (closed_v _) (closed_cons (closed_v _) closed_nil)
 refine r_z 1 ?_
 refine r_z 8 ?_
 rw [show ((a : Nat) : Int) % 7 = (i : Int) by omega, show ((b : Nat) : Int) % 7 = (k : Int) by omega]
 rw [← em] at fT3
 have fT4' : FSpec Tryz.prog 48 [.v (.int .u8 1), i64 ((i : Int) + 1)] (.tup [.arr (pE (at_ tabT (i + 1))), i64 0]) := fT4
 have hin' : FSpec Tryz.prog 53 [.arr (pE (mulP (at_ tabL i) (at_ tabL k)))] (.arr (pE (intL i k))) := hin
 have hof := fs_Of 2 (2 * (i : Int) + 1) (by decide) (by omega) (by omega)
 obtain ⟨σ, hσ⟩ : ∃ σ, σ = wantQ i k := ⟨_, rfl⟩
 obtain ⟨ω, hω⟩ : ∃ ω, ω = wantQ i k := ⟨_, rfl⟩
 rw [← hσ] at hsu
 have hcq' : FSpec Tryz.prog 25 [.agg (qC σ), .agg (qC ω)] (i64 0) := by rw [hσ, hω]; exact hcq
 refine r_c 7 (fT) ?_
 refine a_z ?_
 refine r_c 7 (fT2) ?_
 refine a_z ?_
 refine s_r 9 ?_
 refine a_2 ?_
 refine o_0 (.bin rfl rfl (bI64_mul (by rw [em]; omega))) ?_
 refine c_s (fT3) ?_
 refine a_z ?_
 refine r_c 8 (hcmp) ?_
 refine a_z ?_
 refine AWp.seq ?_
 refine s_r 20 ?_
 refine a_1 ?_
 refine o_0 (.bin rfl rfl (vF binI_neq (rfl))) ?_
 refine a_1 ?_
 first | refine AR.op0y rfl rfl rfl (.move rfl) rfl rfl ?_ | refine AR.opN rfl rfl (by first | (simp [boolOf]; done) | exact nofun) rfl rfl ?_
 refine AR.op0y rfl rfl rfl (.bin rfl rfl (vF binI_neq (rfl))) rfl rfl ?_
 refine a_2 ?_
 first | refine AR.op0y rfl rfl rfl (.move rfl) rfl rfl ?_ | refine AR.opN rfl rfl (by first | (simp [boolOf]; done) | exact nofun) rfl rfl ?_
 refine AR.op0y rfl rfl rfl (.bin rfl rfl (vF binI_neq (rfl))) rfl rfl ?_
 refine a_2 ?_
 first | refine AR.op0y rfl rfl rfl (.move rfl) rfl rfl ?_ | refine AR.opN rfl rfl (by first | (simp [boolOf]; done) | exact nofun) rfl rfl ?_
 refine AR.op0y rfl rfl rfl (.bin rfl rfl (vF binI_neq (rfl))) rfl rfl ?_
 refine c_s (hs1) ?_
 refine a_z ?_
 refine AWp.cond rfl (fun h => ?_) (fun h => ?_)
 ·cases h
 refine AWp.skip ?_
 refine r_c 8 (fT4') ?_
 refine a_z ?_
 refine r_c 7 (fU) ?_
 refine a_z ?_
 refine AWp.seq ?_
 refine s_r 17 ?_
 refine a_1 ?_
 refine o_0 (.bin rfl rfl (vF binI_neq (rfl))) ?_
 refine a_1 ?_
 first | refine AR.op0y rfl rfl rfl (.move rfl) rfl rfl ?_ | refine AR.opN rfl rfl (by first | (simp [boolOf]; done) | exact nofun) rfl rfl ?_
 refine AR.op0y rfl rfl rfl (.bin rfl rfl (vF binI_neq (rfl))) rfl rfl ?_
 refine c_s (hde) ?_
 refine c_s (fs_Int ((i : Int) + 1) (by omega)) ?_
 refine c_s (hsc) ?_
 refine c_s (hs2) ?_
 refine a_z ?_
 refine AWp.cond rfl (fun h => ?_) (fun h => ?_)
 ·cases h
 refine AWp.skip ?_
 refine r_c 7 (fL) ?_
 refine a_z ?_
 refine r_c 7 (fL2) ?_
 refine a_z ?_
 refine r_c 5 (hmu) ?_
 refine c_s (hin') ?_
 refine a_z ?_
 refine r_c 9 (fs_Int 1 (by decide)) ?_
 refine c_s (hev) ?_
 refine c_s (fs_Int (-1) (by decide)) ?_
 refine c_s (hev2) ?_
 refine c_s (hsu) ?_
 refine a_z ?_
 refine r_z 3 ?_
 refine AWp.cut (fun _ : Unit => ⟨[(5, i64 i), (7, .arr (pE (at_ tabT i))), (19, .arr (pE (at_ tabL i))), (20, i64 0), (22, i64 0), (24, .lptr 1 0 0), (25, .lptr 2 0 0)], [(1, some ⟨35, 3, [qC σ]⟩), (2, some ⟨35, 3, [qC ω]⟩)], 3, 224⟩) (fun _ => True) ?_ ?_
 ·by_cases hikk : i = k
  ·refine s_r 3 ?_
   refine a_2 ?_
   refine o_0 (.bin rfl rfl (vT binI_eql (decide_eq_true (by omega)))) ?_
   refine AR.nil ?_
   refine AWp.cond rfl (fun h => ?_) (fun h => ?_)
   rotate_left
   ·cases h
   have hw : ω = ((2 : Int) : Rat) / ((2 * (i : Int) + 1 : Int) : Rat) := by rw [hω]; unfold wantQ; rw [if_pos hikk]
   rw [← hw] at hof
   refine AWp.reg (m := 8) rfl ?_
   refine c_s (hof) ?_
   refine a_z ?_
   refine ⟨(), trivial, ?_⟩
   exact s_e [(1, 24), (2, 25)]
  ·refine s_r 3 ?_
   refine a_2 ?_
   refine o_0 (.bin rfl rfl (vF binI_eql (decide_eq_false (by omega)))) ?_
   refine AR.nil ?_
   refine AWp.cond rfl (fun h => ?_) (fun h => ?_)
   ·cases h
   have hw : ω = 0 := by rw [hω]; unfold wantQ; rw [if_neg hikk]
   refine AWp.skip ⟨(), trivial, ?_⟩
   rw [hw, qC0]
   exact s_e [(1, 24), (2, 25)]
 rintro _ _
 refine AWp.seq ?_
 refine s_r 12 ?_
 refine a_1 ?_
 refine o_0 (.bin rfl rfl (vF binI_neq (rfl))) ?_
 refine a_1 ?_
 first | refine AR.op0y rfl rfl rfl (.move rfl) rfl rfl ?_ | refine AR.opN rfl rfl (by first | (simp [boolOf]; done) | exact nofun) rfl rfl ?_
 refine AR.op0y rfl rfl rfl (.bin rfl rfl (vF binI_neq (rfl))) rfl rfl ?_
 refine c_s (hcq') ?_
 refine AR.op0y rfl rfl rfl (.bin rfl rfl (vF binI_neq (rfl))) rfl rfl ?_
 refine a_z ?_
 refine AWp.cond rfl (fun h => ?_) (fun h => ?_)
 ·cases h
 refine AWp.skip ?_
 refine r_c 5 (fs_Int (-1) (by decide)) ?_
 refine c_s (fs_Int 1 (by decide)) ?_
 refine a_z ?_
 refine r_c 8 (ct) ?_
 refine a_z ?_
 refine r_c 8 (cl) ?_
 refine a_z ?_
 refine r_c 7 (fH) ?_
 refine a_z ?_
 refine r_c 8 (hbo) ?_
 refine a_z ?_
 refine AWp.seq ?_
 refine AWp.regD hmix (m := 11) rfl ?_
 refine c_s (hng) ?_
 refine c_s (ch) ?_
 refine a_5 ?_
 refine AR.nil ⟨by kernel_rfl, ?_⟩
 refine s_r 33 ?_
 refine a_1 ?_
 refine o_0 (.bin rfl rfl (vT binI_eql (decide_eq_true rfl))) ?_
 refine a_1 ?_
 first | refine AR.op0y rfl rfl rfl (.move rfl) rfl rfl ?_ | refine AR.opN rfl rfl (by first | (simp [boolOf]; done) | exact nofun) rfl rfl ?_
 refine AR.op0y rfl rfl rfl (.bin rfl rfl (vT binI_eql (decide_eq_true rfl))) rfl rfl ?_
 refine a_2 ?_
 first | refine AR.op0y rfl rfl rfl (.move rfl) rfl rfl ?_ | refine AR.opN rfl rfl (by first | (simp [boolOf]; done) | exact nofun) rfl rfl ?_
 refine AR.op0y rfl rfl rfl (.bin rfl rfl (vT binI_eql (decide_eq_true rfl))) rfl rfl ?_
 refine a_2 ?_
 first | refine AR.op0y rfl rfl rfl (.move rfl) rfl rfl ?_ | refine AR.opN rfl rfl (by first | (simp [boolOf]; done) | exact nofun) rfl rfl ?_
 refine AR.op0y rfl rfl rfl (.bin rfl rfl (vT binI_eql (decide_eq_true rfl))) rfl rfl ?_
 refine a_2 ?_
 first | refine AR.op0y rfl rfl rfl (.move rfl) rfl rfl ?_ | refine AR.opN rfl rfl (by first | (simp [boolOf]; done) | exact nofun) rfl rfl ?_
 first | refine AR.op0y rfl rfl rfl (.move rfl) rfl rfl ?_ | refine AR.opN rfl rfl (by first | (simp [boolOf]; done) | exact nofun) rfl rfl ?_
 refine AR.op0y rfl rfl rfl (.bin rfl rfl (vT binI_eql (decide_eq_true rfl))) rfl rfl ?_
 refine a_2 ?_
 first | refine AR.op0y rfl rfl rfl (.move rfl) rfl rfl ?_ | refine AR.opN rfl rfl (by first | (simp [boolOf]; done) | exact nofun) rfl rfl ?_
 first | refine AR.op0y rfl rfl rfl (.move rfl) rfl rfl ?_ | refine AR.opN rfl rfl (by first | (simp [boolOf]; done) | exact nofun) rfl rfl ?_
 refine AR.op0y rfl rfl rfl (.bin rfl rfl (vT binI_eql (decide_eq_true rfl))) rfl rfl ?_
 refine a_2 ?_
 first | refine AR.op0y rfl rfl rfl (.move rfl) rfl rfl ?_ | refine AR.opN rfl rfl (by first | (simp [boolOf]; done) | exact nofun) rfl rfl ?_
 first | refine AR.op0y rfl rfl rfl (.move rfl) rfl rfl ?_ | refine AR.opN rfl rfl (by first | (simp [boolOf]; done) | exact nofun) rfl rfl ?_
 refine AR.op0y rfl rfl rfl (.bin rfl rfl (vT binI_eql (decide_eq_true rfl))) rfl rfl ?_
 refine c_s (fs_wakes) ?_
 refine a_z ?_
 refine AWp.ret ?_
 exact Fin.tmpE rfl rfl (closed_v _)
end Go.Proofs.YtdjfjpeoddmamaaGreatDoor
namespace Go.Proofs.YtdjfjpeoddmamaaGreatDoor
open Go.Abs Go.Deep Go.RowKit Go.WideShapes
set_option maxRecDepth 20000
theorem tyu8 : (Tryz.prog).underlying 5 = some (.int .u8) := by kernel_rfl
theorem u8P_of {H : Type} {enc : TypeId × Value → H} {W : World} {base : Nat} {v : Value} {d : DataW H} {ps : List MemPlace} (hv : Value.okWide Tryz.prog W .any base 5 v) (h : DataW.Trod enc Tryz.prog W 0 (fun _ => true) true 5 v d ps) :
    ∃ r : Nat, r ≤ 255 ∧ RV (fun _ => False) (fun _ => none) W (.v (.int .u8 r)) v := by
 obtain ⟨n, rfl⟩ : ∃ n, v = .int .u8 n := by
  unfold Value.okWide at hv
  rw [tyu8] at hv
  cases v with
  | int k n => obtain ⟨rfl, _⟩ := hv; exact ⟨n, rfl⟩
  | _ => exact False.elim hv
 obtain ⟨fuel, hf⟩ := h
 obtain ⟨n0, e0, _, w0⟩ := DataW.trod_int tyu8 hf
 have e : n = n0 := by simpa [Value.cells] using e0
 subst e
 have b := bounds_u8 w0
 refine ⟨n.toNat, by omega, ?_⟩
 show _ = Value.int .u8 ((n.toNat : Nat) : Int)
 rw [Int.toNat_of_nonneg b.1]
end Go.Proofs.YtdjfjpeoddmamaaGreatDoor
namespace Go.Proofs.YtdjfjpeoddmamaaGreatDoor
open Go
def mkF (P : Program) (fn : Func) (c : OpenClaim) : Bool := (P.make == some c.make) && (c.kinds == (if c.domain.isEmpty then [] else fn.params.toList.map fun t => match P.underlying t with | some (.int k) => some k | _ => none)) && (c.pinned == c.pinnedBy)
section
variable {P : Program} {f : FuncId} {fn : Func} {s : ChangeSpec} {c : OpenClaim}
theorem joined_of (h1 : c.wf (OpenSpec.ofChange s) = true) (h2 : laidOutB P = true) (h3 : mapsRowed P = true)
    (h4 : fn.params.all (P.readableRec ·) = true) (h5 : namedTie P c.named s.vars = true)
    (h6 : ((c.stops == []) && (P.stops == []) && (c.knobs == []) && (P.stopKnobs == [])) = true)
    (h7 : (c.inPlace == P.inPlace f) = true) (h8 : (c.unfollowed == P.unfollowed f) = true) (h9 : (c.recurses == P.recurses f) = true) (h10 : (c.named == P.varsNamed f) = true)
    (h11 : ((c.maps == (fn.params.toList ++ s.plain.varTypes P).any (P.mapsRec ·)) && (c.ifaces == (fn.params.toList ++ s.plain.varTypes P).any (P.ifacesRec ·)) && (c.mapsOut == P.mapsAmong fn.resultTypes.toList)) = true)
    (h12 : ((c.loops == (fn.params.toList ++ s.plain.varTypes P).any (P.loopsFrom ·)) && (c.wideKeys == (fn.params.toList ++ s.plain.varTypes P ++ fn.resultTypes.toList).any (P.wideKeysFrom ·))) = true)
    (h13 : (s.vars.all (P.varReadable ·) && fn.resultTypes.all (fun t => P.readableRec t && decide (t < P.types.size)) && (c.ifacesOut == fn.resultTypes.toList.any (P.ifacesRec ·)) && (c.loopsOut == fn.resultTypes.toList.any (P.loopsFrom ·)) && (c.plainKeys == P.plainKeys) && c.shortTexts.isNone) = true)
    (h14 : P.stopsHeard = true) (h15 : P.mayEnter = true) (h16 : (c.lifted == P.liftsFinal) = true)
    (h17 : mkF P fn c = true)
    (h18 : ((c.veiled == (fn.params.toList ++ s.plain.varTypes P ++ fn.resultTypes.toList).any (P.veiledRec ·)) && c.veiledFits P fn.params.toList (fn.params.toList ++ s.plain.varTypes P ++ fn.resultTypes.toList)) = true) :
    joinedFacts P f fn s c = true := by
 unfold mkF at h17
 simp only [Bool.and_eq_true] at h6 h11 h12 h13 h17 h18
 simp only [joinedFacts, Bool.and_eq_true]
 and_intros
 all_goals first | assumption | exact h6.1.1.1 | exact h6.1.1.2 | exact h6.1.2 | exact h6.2 | exact h11.1.1 | exact h11.1.2 | exact h11.2 | exact h12.1 | exact h12.2 | exact h13.1.1.1.1.1 | exact h13.1.1.1.1.2 | exact h13.1.1.1.2 | exact h13.1.1.2 | exact h13.1.2 | exact h13.2 | exact h17.1.1 | exact h17.1.2 | exact h17.2 | exact h18.1 | exact h18.2
end
theorem all_lo : laidOutB Tryz.prog = true := by kernel_rfl
theorem all_mr : mapsRowed Tryz.prog = true := by kernel_rfl
theorem all_sh : Tryz.prog.stopsHeard = true := by kernel_rfl
theorem all_me : Tryz.prog.mayEnter = true := by kernel_rfl
theorem all_lk : false = Tryz.prog.looks [] := by kernel_rfl
theorem all_mi : Tryz.prog.mainIs = some (true, ("854b0172178e1658f68fdbd1af1c5e470e78f85c99764663bd0791e63856cf6f" : String).toList) := by kernel_rfl
theorem all_lf : Tryz.prog.liftsFinal = Rows.polyMembersRow.lifted := by kernel_rfl
theorem polyMembers_wf : Rows.polyMembersRow.wf (OpenSpec.ofChange Rows.polyMembersSpec) = true := by kernel_rfl
theorem polyMembers_rr : Tryz.f6.params.all (Tryz.prog.readableRec ·) = true := by kernel_rfl
theorem polyMembers_nt : namedTie Tryz.prog Rows.polyMembersRow.named Rows.polyMembersSpec.vars = true := by kernel_rfl
theorem polyMembers_st : ((Rows.polyMembersRow.stops == []) && (Tryz.prog.stops == []) && (Rows.polyMembersRow.knobs == []) && (Tryz.prog.stopKnobs == [])) = true := by kernel_rfl
theorem polyMembers_ip : (Rows.polyMembersRow.inPlace == Tryz.prog.inPlace 6) = true := by kernel_rfl
theorem polyMembers_uf : (Rows.polyMembersRow.unfollowed == Tryz.prog.unfollowed 6) = true := by kernel_rfl
theorem polyMembers_rc : (Rows.polyMembersRow.recurses == Tryz.prog.recurses 6) = true := by kernel_rfl
theorem polyMembers_vn : (Rows.polyMembersRow.named == Tryz.prog.varsNamed 6) = true := by kernel_rfl
theorem polyMembers_mp : ((Rows.polyMembersRow.maps == (Tryz.f6.params.toList ++ Rows.polyMembersSpec.plain.varTypes Tryz.prog).any (Tryz.prog.mapsRec ·)) && (Rows.polyMembersRow.ifaces == (Tryz.f6.params.toList ++ Rows.polyMembersSpec.plain.varTypes Tryz.prog).any (Tryz.prog.ifacesRec ·)) && (Rows.polyMembersRow.mapsOut == Tryz.prog.mapsAmong Tryz.f6.resultTypes.toList)) = true := by kernel_rfl
theorem polyMembers_lp : ((Rows.polyMembersRow.loops == (Tryz.f6.params.toList ++ Rows.polyMembersSpec.plain.varTypes Tryz.prog).any (Tryz.prog.loopsFrom ·)) && (Rows.polyMembersRow.wideKeys == (Tryz.f6.params.toList ++ Rows.polyMembersSpec.plain.varTypes Tryz.prog ++ Tryz.f6.resultTypes.toList).any (Tryz.prog.wideKeysFrom ·))) = true := by kernel_rfl
theorem polyMembers_vr : (Rows.polyMembersSpec.vars.all (Tryz.prog.varReadable ·) && Tryz.f6.resultTypes.all (fun t => Tryz.prog.readableRec t && decide (t < Tryz.prog.types.size)) && (Rows.polyMembersRow.ifacesOut == Tryz.f6.resultTypes.toList.any (Tryz.prog.ifacesRec ·)) && (Rows.polyMembersRow.loopsOut == Tryz.f6.resultTypes.toList.any (Tryz.prog.loopsFrom ·)) && (Rows.polyMembersRow.plainKeys == Tryz.prog.plainKeys) && Rows.polyMembersRow.shortTexts.isNone) = true := by kernel_rfl
theorem polyMembers_ve : ((Rows.polyMembersRow.veiled == (Tryz.f6.params.toList ++ Rows.polyMembersSpec.plain.varTypes Tryz.prog ++ Tryz.f6.resultTypes.toList).any (Tryz.prog.veiledRec ·)) && Rows.polyMembersRow.veiledFits Tryz.prog Tryz.f6.params.toList (Tryz.f6.params.toList ++ Rows.polyMembersSpec.plain.varTypes Tryz.prog ++ Tryz.f6.resultTypes.toList)) = true := by kernel_rfl
theorem polyMembers_wt : Rows.polyMembersRow.wfByText (OpenSpec.ofChange Rows.polyMembersSpec) = true := by kernel_rfl
theorem polyMembers_gb : false = Rows.polyMembersRow.goesBy Tryz.prog := by kernel_rfl
theorem polyMembers_fn : Tryz.prog.funcNamed Rows.polyMembersRow.func = some 6 := by kernel_rfl
theorem polyMembers_is : decide (Tryz.f6.isInstance Tryz.prog Rows.polyMembersRow.origin Rows.polyMembersRow.targs) = true := by kernel_rfl
theorem polyMembers_ws : (Tryz.f6.params.toList.all fun u => !Tryz.prog.wantsStandIn u) = true := by kernel_rfl
theorem polyMembers_mk : mkF Tryz.prog Tryz.f6 Rows.polyMembersRow = true := by kernel_rfl
theorem polyMembers_lf : (Rows.polyMembersRow.lifted == Tryz.prog.liftsFinal) = true := by rw [all_lf]; kernel_rfl
theorem polyMembers_joined : joinedFacts Tryz.prog 6 Tryz.f6 Rows.polyMembersSpec Rows.polyMembersRow = true :=
 joined_of polyMembers_wf all_lo all_mr polyMembers_rr polyMembers_nt polyMembers_st polyMembers_ip polyMembers_uf polyMembers_rc polyMembers_vn polyMembers_mp polyMembers_lp polyMembers_vr all_sh all_me polyMembers_lf polyMembers_mk polyMembers_ve
theorem polyMembers_wrap : Tryz.f6.isWrapper Tryz.prog Rows.polyMembersRow.wrapper Rows.polyMembersRow.mainSum := by
 unfold Func.isWrapper; first | (rw [if_pos (by decide +kernel)]; kernel_rfl) | (rw [if_neg (by decide +kernel)]; exact ⟨rfl, rfl⟩)
end Go.Proofs.YtdjfjpeoddmamaaGreatDoor
namespace Go.Proofs.YtdjfjpeoddmamaaGreatDoor
open Go.Abs Go.RowKit
theorem tab_glob : (Tryz.prog).globalNamed "internal/strconv.uint64pow10" = some GT := by kernel_rfl
theorem tab_of {n1 n2 : String} {a b : DataW Unit} {W : World} (h : laidMet Tryz.prog [(n1, a), (n2, b), ("internal/strconv.uint64pow10", Lib.tabData .u64 Lib.pow10Tab)] W) : TabW W := by
 obtain ⟨ps, ⟨g1, t1, c1, u1, p1, q1, _, _, _, _, ⟨g2, t2, c2, u2, p2, q2, _, _, _, _, ⟨g, t, cs, fuel, p, q, hg, ht, hv, hd, _, _⟩, _⟩, _⟩, _, _⟩ := h
 obtain rfl := Option.some.inj (tab_glob.symm.trans hg)
 have hT : ((Tryz.prog).globals[GT]?).map (·.type) = some 351 := by kernel_rfl
 have hu : (Tryz.prog).underlying 351 = some (.array 20 235) := by kernel_rfl
 have he : (Tryz.prog).underlying 235 = some (.int .u64) := by kernel_rfl
 have hce : (Tryz.prog).cellsOf 235 = 1 := by kernel_rfl
 have hct : (Tryz.prog).cellsOf 351 = 20 := by kernel_rfl
 obtain rfl := Option.some.inj (hT.symm.trans ht)
 have hc := Lib.cells_of_tab (zs := Lib.pow10Tab) hu he hce hct hd
 unfold World.var? at hv
 rw [tab_glob] at hv
 have hv' : (match W.heap[GT]? with | some (.cells cs _ _) => some cs | _ => none) = some cs := hv
 cases hh : W.heap[GT]? with
 | none => rw [hh] at hv'; cases hv'
 | some o =>
  rw [hh] at hv'
  cases o with
  | cells a b c =>
   obtain rfl : a = cs := Option.some.inj hv'
   refine ⟨b, c, ?_⟩
   rw [hh]
   have : a = tabA := by
    unfold tabA
    rw [← hc]
   rw [this]
  | _ => cases hv'
end Go.Proofs.YtdjfjpeoddmamaaGreatDoor
namespace Go.Proofs.YtdjfjpeoddmamaaGreatDoor
open Go.Abs Go.ChangeAt Go.ChangeShapes Go.RowKit Go.WideShapes
theorem own : ownKnob Tryz.prog.godebug = none := by kernel_rfl
theorem und4 : Tryz.prog.underlying 4 = some .bool := by kernel_rfl
abbrev laid3 : List (String × DataW Unit) := Rows.polyMembersRow.laid
theorem door_met (os : Os) (args : Array Value) : laidMetH Tryz.prog laid3 ((World.doorLaid Tryz.prog 24 os).forCall (fun _ _ => 0) ⟨#[], args, []⟩).memory :=
 laidMetH_of_parts3 (fuel := 8) (laidMet_of_run' 8 (by kernel_rfl) (by kernel_rfl)) (by kernel_rfl) (by kernel_rfl)
set_option maxRecDepth 100000 in
theorem polyMembers_lifted (os : Os) (started : os.Started) (H : Type) (enc : TypeId × Value → H) :
    ReturnsInHanded {} Tryz.checked os 6 .any (fun w args => (Rows.polyMembersSpec.pre enc Tryz.prog Tryz.f6 [] false w args ∧ laidMetH Tryz.prog laid3 w) ∧ sizedMet enc Tryz.prog Tryz.f6 (OpenSpec.ofChange Rows.polyMembersSpec) false w args)
     (Rows.polyMembersSpec.post enc Tryz.prog Tryz.f6 false true false false) := by
 refine returnsInHanded_of_change_and (C := Tryz.checked) (X := fun w _ => laidMetH Tryz.prog laid3 w) (fun _ _ _ hh h => h.of_heap hh) own started (by kernel_rfl) Tryz.func6
  (ChangeSpec.witness_shaped (enc := enc) (C := Tryz.checked) (os := os) (X := fun w _ => laidMetH Tryz.prog laid3 w) false (World.doorLaid Tryz.prog 24 os) #[(.int .u8 0), (.int .u8 0)] 8 rfl (World.shaped_of_RefB (by kernel_rfl) (by kernel_rfl)) (by kernel_rfl) (by kernel_rfl) (by kernel_rfl) (door_met os _)) ?_
 intro W base args ds gs before hval0 hW _ _ hX _
 have hval : ∀ (j : Nat) t v, Tryz.f6.params[j]? = some t → args[j]? = some v → Value.okWide Tryz.prog W .any base t v := hval0
 have hW' := hW
 obtain ⟨p, q, hA0, hV, rfl, hfz, hnd⟩ := hW
 have hA : DataW.TrodAll enc Tryz.prog W 0 (fun _ => true) true Tryz.f6.params.toList args.toList ds p := hA0
 rw [Tryz.params6] at hA hval
 obtain ⟨v0, vs0, d0, ds0, p0, q0, hargs, rfl, rfl, h0, r0⟩ := trodAll_cons hA
 obtain ⟨v1, vs1, d1, ds1, p1, q1, rfl, rfl, rfl, h1, r1⟩ := trodAll_cons r0
 obtain ⟨rfl, rfl, rfl⟩ := trodAll_nil r1
 obtain rfl : args = #[v0, v1] := by cases args; simp_all
 obtain ⟨rfl, rfl⟩ := trodVars_none hV
 have lt0 : ∀ x ∈ p0, x.block < W.heap.size := by obtain ⟨m, hm⟩ := h0; exact DataW.trod_lt m _ _ _ hm
 have lt1 : ∀ x ∈ p1, x.block < W.heap.size := by obtain ⟨m, hm⟩ := h1; exact DataW.trod_lt m _ _ _ hm
 obtain ⟨l0, o0, g0⟩ := u8P_of (hval 0 5 v0 rfl rfl) h0
 obtain ⟨l1, o1, g1⟩ := u8P_of (hval 1 5 v1 rfl rfl) h1
 clear hA0 hval0
 refine ((fs_PolyMembers l0 l1 o0 o1).calls (fun _ => False) W [v0, v1] ⟨fun _ h => h.elim, fun h => h, tab_of (by rw [MakeChecks.laidMetH_plain _ _ _ (by kernel_rfl)] at hX; exact hX)⟩ ⟨_, _, rfl, g0, ⟨_, _, rfl, g1, rfl⟩⟩).mono fun e W' ⟨y, he, hy, bel⟩ => ?_
 have hy' : y = .bool true := hy
 subst he; subst hy'
 exact ⟨_, rfl, _, _, _, [], _, [], hW', trodAll_mk1 (shut_bool und4 _), (trodAll_cons_mk (Below.trod all_lo (by kernel_rfl) (of_decide_eq_true (by kernel_rfl)) h0 bel lt0) (trodAll_cons_mk (Below.trod all_lo (by kernel_rfl) (of_decide_eq_true (by kernel_rfl)) h1 bel lt1) trodAll_mk0)), rfl, bel.frame _, fun h => by cases h⟩
theorem polyMembers_row : Rows.PolyMembersSaid :=
 OpenClaim.holds_of_wide 6 Tryz.f6 rfl rfl rfl rfl rfl rfl rfl ⟨rfl, rfl, rfl, rfl, rfl⟩ rfl rfl rfl rfl rfl polyMembers_fn Tryz.func6 polyMembers_joined
  (of_decide_eq_true polyMembers_is) polyMembers_wrap
  (fun os started H enc _ => polyMembers_lifted os started H enc)
theorem polyMembers_card : Rows.PolyMembersCardSaid :=
 Claim7.holds_tied_plain_at .later [] [.data, .data, .data] true (true, "854b0172178e1658f68fdbd1af1c5e470e78f85c99764663bd0791e63856cf6f") false
  polyMembers_row (fun _ h => by cases h) polyMembers_wt (fun _ h => by cases h) polyMembers_row_tie rfl ⟨rfl, rfl⟩ all_mi rfl
  (fun f fn hf hfn => by
   obtain rfl : f = 6 := Option.some.inj (polyMembers_fn.symm.trans hf) |>.symm
   obtain rfl : fn = Tryz.f6 := (Option.some.inj (Tryz.func6.symm.trans hfn)).symm
   exact ⟨all_lk, fun j t ht => by
    have hm : t ∈ Tryz.f6.params.toList := by simpa using Array.mem_of_getElem? ht
    exact (show Tryz.prog.wantsStandIn t = false by simpa using List.all_eq_true.1 polyMembers_ws t hm)⟩)
  polyMembers_gb
#print axioms polyMembers_card
end Go.Proofs.YtdjfjpeoddmamaaGreatDoor
