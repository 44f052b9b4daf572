/- Part V16 of the proof. -/
import Derived.Test.YtdhedjbmdnnbkaaGreatDoorV15
set_option linter.all false
namespace Go.Proofs.YtdhedjbmdnnbkaaGreatDoor
open Go.Abs
set_option maxRecDepth 20000
set_option maxHeartbeats 1000000
section
variable {P : Go.Program} {T : Nat} {x y : Operand}
theorem binS_neT {l m : List UInt8} : ∀ w, (do eqGuard .neq T x y (.string ⟨l.toArray⟩) (.string ⟨m.toArray⟩); binOp .neq T (.string ⟨l.toArray⟩) (.string ⟨m.toArray⟩) : Sem Value).run P w = .ok (.bool (!decide (l = m))) w := fun w => by
 rw [binS_neq]
 congr 2
 have e : ∀ l : List UInt8, (⟨l.toArray⟩ : ByteArray).toList = l := by
  intro l
  have := ByteArray.toList_eq (bs := ⟨l.toArray⟩)
  simpa using this
 rw [e, e]
 rw [Bool.eq_iff_iff]; simp
end
def sgnTx (o : Option (List UInt8)) (c : Rat) : Option (List UInt8) :=
 match o with
 | none => if c < 0 then some [45] else none
 | some s => if c < 0 then some (s ++ [32, 45, 32]) else some (s ++ [32, 43, 32])
def wrO (o : Option (List UInt8)) (t : List UInt8) : Option (List UInt8) := some (o.getD [] ++ t)
def js_ (o : Option (List UInt8)) (t : List UInt8) : Option (List UInt8) := if t = [49] then o else wrO o (t ++ [32])
def om_ (tq : Rat → List UInt8) (ti : Nat → List UInt8) (o : Option (List UInt8)) (c : Rat) (n : Nat) : Option (List UInt8) :=
 if n = 0 then wrO (sgnTx o c) (tq (absQ c))
 else if 1 < n then wrO (wrO (js_ (sgnTx o c) (tq (absQ c))) [120]) ([94] ++ ti n) else wrO (js_ (sgnTx o c) (tq (absQ c))) [120]
def textR (tq : Rat → List UInt8) (ti : Nat → List UInt8) (p : List Rat) : Nat → Option (List UInt8) → Option (List UInt8)
 | 0, o => o
 | n + 1, o => textR tq ti p n (if coP p n = 0 then o else om_ tq ti o (coP p n) n)
def textG (tq : Rat → List UInt8) (ti : Nat → List UInt8) (p : List Rat) : List UInt8 := (textR tq ti (trimQ p) (trimQ p).length none).getD [48]
def textP (p : List Rat) : List UInt8 := textG textQ dec2 p
def okPT (p : List Rat) : Prop := p.length ≤ 1000 ∧ (trimQ p).length ≤ 99 ∧ (∀ c ∈ trimQ p, okT c)
instance (p : List Rat) : Decidable (okPT p) := inferInstanceAs (Decidable (_ ∧ _ ∧ _))
def pb0 (p : List Rat) : Int → AState
 | n => ⟨[(0, .arr (pE p)), (3, .lptr 1 0 0), (4, i64 n)], [(1, some ⟨182, 2, [bldC 1 2 none]⟩)], 4, 67⟩
theorem hv_ (p : List Rat) (n : Int) : pb0 p n = ⟨[(0, .arr (pE p)), (3, .lptr 1 0 0), (4, i64 n)], [(1, some ⟨182, 2, [bldC 1 2 none]⟩)], 4, 67⟩ := rfl
def pb1 (p : List Rat) : Int × List UInt8 → AState
 | (n, s) => ⟨[(0, .arr (pE p)), (3, .lptr 1 0 0), (4, i64 n)], [(1, some ⟨182, 2, [bldC 1 2 (some s)]⟩), (2, some ⟨5, 1, bE s⟩)], 4, 67⟩
theorem em_ (p : List Rat) (n : Int) (s : List UInt8) : pb1 p (n, s) = ⟨[(0, .arr (pE p)), (3, .lptr 1 0 0), (4, i64 n)], [(1, some ⟨182, 2, [bldC 1 2 (some s)]⟩), (2, some ⟨5, 1, bE s⟩)], 4, 67⟩ := rfl
def pbS (p : List Rat) (n : Int) : Option (List UInt8) → AState
 | none => pb0 p n
 | some s => pb1 p (n, s)
def pc0 (p : List Rat) (c : Rat) : Int → AState
 | n => ⟨[(0, .arr (pE p)), (3, .lptr 1 0 0), (4, i64 n), (5, .lptr 3 0 0)], [(1, some ⟨182, 2, [bldC 1 2 none]⟩), (3, some ⟨37, 3, [qC c]⟩)], 4, 67⟩
theorem ri_ (p : List Rat) (c : Rat) (n : Int) : pc0 p c n = ⟨[(0, .arr (pE p)), (3, .lptr 1 0 0), (4, i64 n), (5, .lptr 3 0 0)], [(1, some ⟨182, 2, [bldC 1 2 none]⟩), (3, some ⟨37, 3, [qC c]⟩)], 4, 67⟩ := rfl
def pc1 (p : List Rat) (c : Rat) : Int × List UInt8 → AState
 | (n, s) => ⟨[(0, .arr (pE p)), (3, .lptr 1 0 0), (4, i64 n), (5, .lptr 3 0 0)], [(1, some ⟨182, 2, [bldC 1 2 (some s)]⟩), (2, some ⟨5, 1, bE s⟩), (3, some ⟨37, 3, [qC c]⟩)], 4, 67⟩
theorem nc_ (p : List Rat) (c : Rat) (n : Int) (s : List UInt8) : pc1 p c (n, s) = ⟨[(0, .arr (pE p)), (3, .lptr 1 0 0), (4, i64 n), (5, .lptr 3 0 0)], [(1, some ⟨182, 2, [bldC 1 2 (some s)]⟩), (2, some ⟨5, 1, bE s⟩), (3, some ⟨37, 3, [qC c]⟩)], 4, 67⟩ := rfl
def pcS (p : List Rat) (c : Rat) (n : Int) : Option (List UInt8) → AState
 | none => pc0 p c n
 | some s => pc1 p c (n, s)
def pd0 (p : List Rat) (t : List UInt8) : Int → AState
 | n => ⟨[(0, .arr (pE p)), (3, .lptr 1 0 0), (4, i64 n), (6, tx t)], [(1, some ⟨182, 2, [bldC 1 2 none]⟩)], 4, 67⟩
theorem zm_ (p : List Rat) (t : List UInt8) (n : Int) : pd0 p t n = ⟨[(0, .arr (pE p)), (3, .lptr 1 0 0), (4, i64 n), (6, tx t)], [(1, some ⟨182, 2, [bldC 1 2 none]⟩)], 4, 67⟩ := rfl
def pd1 (p : List Rat) (t : List UInt8) : Int × List UInt8 → AState
 | (n, s) => ⟨[(0, .arr (pE p)), (3, .lptr 1 0 0), (4, i64 n), (6, tx t)], [(1, some ⟨182, 2, [bldC 1 2 (some s)]⟩), (2, some ⟨5, 1, bE s⟩)], 4, 67⟩
theorem zl_ (p : List Rat) (t : List UInt8) (n : Int) (s : List UInt8) : pd1 p t (n, s) = ⟨[(0, .arr (pE p)), (3, .lptr 1 0 0), (4, i64 n), (6, tx t)], [(1, some ⟨182, 2, [bldC 1 2 (some s)]⟩), (2, some ⟨5, 1, bE s⟩)], 4, 67⟩ := rfl
def pdS (p : List Rat) (t : List UInt8) (n : Int) : Option (List UInt8) → AState
 | none => pd0 p t n
 | some s => pd1 p t (n, s)
def okOx (o : Option (List UInt8)) (n : Nat) : Prop := ∀ s, o = some s → s ≠ [] ∧ s.length ≤ n
theorem sr_ (n : Nat) : okOx none n := fun s h => by cases h
theorem rj_ {o : Option (List UInt8)} {n : Nat} {t : List UInt8} (h : okOx o n) (h0 : t ≠ []) : okOx (wrO o t) (n + t.length) := by
 intro s hs
 cases hs
 cases o with
 | none => exact ⟨by simpa using h0, by simp⟩
 | some q => exact ⟨by simp [h0], by have := (h q rfl).2; simp; omega⟩
theorem zs_ {o : Option (List UInt8)} {n : Nat} (h : okOx o n) (c : Rat) : okOx (sgnTx o c) (n + 3) := by
 intro s hs
 cases o with
 | none =>
  simp only [sgnTx] at hs
  split at hs
  ·cases hs; exact ⟨by simp, by simp⟩
  ·cases hs
 | some q =>
  have := (h q rfl).2
  simp only [sgnTx] at hs
  split at hs <;> cases hs <;> exact ⟨by simp, by simp; omega⟩
theorem ft_ {o : Option (List UInt8)} {n m : Nat} (h : okOx o n) (hm : n ≤ m) : okOx o m := fun s hs => ⟨(h s hs).1, Nat.le_trans (h s hs).2 hm⟩
theorem textQ_ne (q : Rat) : textQ q ≠ [] := List.length_pos_iff.1 (textQ_len (q := q)).2
theorem sgZ_neg (c : Rat) : sgZ c.num < 0 ↔ c < 0 := by
 rw [← ox_]
 unfold sgZ
 split
 ·omega
 ·split <;> omega
theorem okT_abs {c : Rat} (h : okT c) : okT (absQ c) := by
 rw [yp_]
 split
 ·obtain ⟨h1, h2⟩ := h
  exact ⟨by rw [Rat.neg_num]; simpa using h1, by rw [Rat.neg_den]; exact h2⟩
 ·exact h
theorem fs_PTextG (tq : Rat → List UInt8) (ti : Nat → List UInt8) (L : Nat) (p : List Rat) (h1 : p.length ≤ 1000) (hL : L ≤ 10000) (h3 : ∀ c ∈ trimQ p, FSpec Tryz.prog 89 [.agg (qC (absQ c))] (tx (tq (absQ c))) ∧ tq (absQ c) ≠ [] ∧ (tq (absQ c)).length ≤ L) (hI : ∀ n, n < (trimQ p).length → FSpec Tryz.prog 147 [i64 n] (tx (ti n)) ∧ (ti n).length ≤ 20) : FSpec Tryz.prog 65 [.arr (pE p)] (tx (textG tq ti p)) := by
 have htr := dv_ p (by omega)
 obtain ⟨q, hq⟩ : ∃ q, q = trimQ p := ⟨_, rfl⟩
 have hR : textG tq ti p = (textR tq ti q q.length none).getD [48] := by unfold textG; rw [hq]
 rw [hR]
 have h2 := bm_ p
 rw [← hq] at htr h2 h3 hI
 have hall : ∀ k, (q.length - k) * (L + 30) ≤ 10030000 := fun k => Nat.mul_le_mul (show q.length - k ≤ 1000 by omega) (show L + 30 ≤ 10030 by omega)
 refine FSpec.enter Tryz.func65 rfl (by kernel_rfl) rfl rfl rfl ?_ rfl ?_
 ·exact aa_ (ad_ p) ab_
 refine r_z 1 ?_
 refine r_z 1 ?_
 refine r_c 3 (htr) ?_
 refine a_z ?_
 refine AWp.seq ?_
 refine r_z 4 ?_
 refine AWp.cutT (pbS q (-1)) (fun o => o = textR tq ti q q.length none ∧ okOx o 20000000) ?_ ?_
 ·refine AWp.block ?_
  refine AWp.loopS (fun x : Nat × Option (List UInt8) => pbS q ((x.1 : Int) - 1) x.2) (fun x => x.1) (fun x => x.1 ≤ q.length ∧ textR tq ti q x.1 x.2 = textR tq ti q q.length none ∧ okOx x.2 ((q.length - x.1) * (L + 30))) (q.length, none) ⟨Nat.le_refl _, rfl, sr_ _⟩ ?_ ?_
  ·show SEnt _ (pb0 q ((q.length : Int) - 1))
   rw [hv_]
   exact s_e [(1, 3)]
  rintro ⟨n, o⟩ ⟨hn, hr, ho⟩
  simp only at hn hr ho
  cases n with
  | zero =>
   cases o with
   | none =>
    show AWp _ _ _ _ (pb0 q (((0 : Nat) : Int) - 1))
    rw [hv_]
    refine AWp.seq ?_
    refine r_z 2 ?_
    refine AWp.cond rfl (fun h4 => ?_) (fun h4 => ?_)
    ·exact absurd h4 (by simp)
    ·refine AWp.exit ⟨none, ⟨hr, sr_ _⟩, ?_⟩
     show SEnt _ (pb0 q (-1))
     rw [hv_]
     exact s_e []
   | some s =>
    show AWp _ _ _ _ (pb1 q (((0 : Nat) : Int) - 1, s))
    rw [em_]
    refine AWp.seq ?_
    refine r_z 2 ?_
    refine AWp.cond rfl (fun h4 => ?_) (fun h4 => ?_)
    ·exact absurd h4 (by simp)
    ·refine AWp.exit ⟨some s, ⟨hr, ft_ ho (by have := hall 0; omega)⟩, ?_⟩
     show SEnt _ (pb1 q (-1, s))
     rw [em_]
     exact s_e []
  | succ n =>
   have hcn : ((n + 1 : Nat) : Int) - 1 = (n : Int) := by omega
   rw [hcn]
   rw [textR] at hr
   have hlt : n < q.length := by omega
   obtain ⟨c, hc⟩ : ∃ c, c = coP q n := ⟨_, rfl⟩
   rw [← hc] at hr
   have hg : (pE q)[((n : Nat) : Int).toNat]? = some (qC c) := by rw [Int.toNat_natCast, hc]; exact cv_ (bg_ hlt)
   obtain ⟨fT, htn, htl⟩ := h3 c (by rw [hc]; exact List.mem_of_getElem? (bg_ hlt))
   have hm : (q.length - n) * (L + 30) = (q.length - (n + 1)) * (L + 30) + (L + 30) := by
    rw [show q.length - n = (q.length - (n + 1)) + 1 by omega, Nat.add_mul, Nat.one_mul]
   obtain ⟨B, hB⟩ : ∃ B, B = (q.length - (n + 1)) * (L + 30) := ⟨_, rfl⟩
   have hmx : B ≤ 10030000 := by rw [hB]; exact hall _
   rw [← hB] at ho hm
   obtain ⟨t, ht⟩ : ∃ t, t = tq (absQ c) := ⟨_, rfl⟩
   rw [← ht] at htn htl fT
   obtain ⟨fI, hd2⟩ := hI n hlt
   refine AWp.cut (fun _ : Unit => pbS q n o) (fun _ => True) ?_ ?_
   ·cases o with
    | none =>
     show AWp _ _ _ _ (pb0 q n)
     rw [hv_]
     refine r_z 2 ?_
     refine AWp.cond rfl (fun h4 => ?_) (fun h4 => ?_)
     ·refine AWp.skip ⟨(), trivial, ?_⟩
      show SEnt _ (pb0 q n)
      rw [hv_]
      exact s_e []
     ·exact absurd h4 (by simp)
    | some s =>
     show AWp _ _ _ _ (pb1 q (n, s))
     rw [em_]
     refine r_z 2 ?_
     refine AWp.cond rfl (fun h4 => ?_) (fun h4 => ?_)
     ·refine AWp.skip ⟨(), trivial, ?_⟩
      show SEnt _ (pb1 q (n, s))
      rw [em_]
      exact s_e []
     ·exact absurd h4 (by simp)
   rintro _ _
   refine AWp.cut (pbS q n) (fun o' => o' = (if c = 0 then o else om_ tq ti o c n)) ?_ ?_
   ·refine AWp.block ?_
    refine AWp.cut (fun _ : Unit => pcS q c n o) (fun _ => True) ?_ ?_
    ·cases o with
     | none =>
      show AWp _ _ _ _ (pb0 q n)
      rw [hv_]
      refine AWp.reg (m := 6) rfl ?_
      refine a_2 ?_
      first | refine AR.op0 (.index_l rfl rfl (by omega) (by omega) te_25.h) rfl rfl ?_ | refine AR.op0 (.index_a rfl rfl (by omega) hg rfl te_25.h) rfl rfl ?_
      first | refine AR.op0 (.load_l rfl rfl hg tg_37.h ts_37.h (nle rfl)) rfl rfl ?_ | refine AR.op0 (.load_a rfl hg tg_37.h ts_37.h (nle rfl)) rfl rfl ?_
      refine a_z ?_
      refine ⟨(), trivial, ?_⟩
      show SEnt _ (pc0 q c n)
      rw [ri_]
      refine SEnt.to [(3, 5)] rfl rfl rfl au_r (fun hs => au_f) (fun hs => ?_)
      ·repeat' (first | exact CvH.nil | refine CvH.cons rfl rfl rfl rfl ?_ ?_)
       all_goals (first | (exact CvLL.clo hs (aa_ (aq_ c) ab_)) | exact au_e)
     | some s =>
      show AWp _ _ _ _ (pb1 q (n, s))
      rw [em_]
      refine AWp.reg (m := 6) rfl ?_
      refine a_2 ?_
      first | refine AR.op0 (.index_l rfl rfl (by omega) (by omega) te_25.h) rfl rfl ?_ | refine AR.op0 (.index_a rfl rfl (by omega) hg rfl te_25.h) rfl rfl ?_
      first | refine AR.op0 (.load_l rfl rfl hg tg_37.h ts_37.h (nle rfl)) rfl rfl ?_ | refine AR.op0 (.load_a rfl hg tg_37.h ts_37.h (nle rfl)) rfl rfl ?_
      refine a_z ?_
      refine ⟨(), trivial, ?_⟩
      show SEnt _ (pc1 q c (n, s))
      rw [nc_]
      refine SEnt.to [(3, 5)] rfl rfl rfl au_r (fun hs => au_f) (fun hs => ?_)
      ·repeat' (first | exact CvH.nil | refine CvH.cons rfl rfl rfl rfl ?_ ?_)
       all_goals (first | (exact CvLL.clo hs (aa_ (aq_ c) ab_)) | exact au_e)
    rintro _ _
    refine AWp.cut (fun _ : Unit => pcS q c n o) (fun _ => c ≠ 0) ?_ ?_
    ·cases o with
     | none =>
      show AWp _ _ _ _ (pc0 q c n)
      rw [ri_]
      refine r_c 3 (dm_ c) ?_
      refine a_z ?_
      refine AWp.cond rfl (fun h4 => ?_) (fun h4 => ?_)
      ·have h5 : c = 0 := sgZ_num_eq.1 (by simpa using h4)
       refine AWp.exit ⟨none, by rw [if_pos h5], ?_⟩
       show SEnt _ (pb0 q n)
       rw [hv_]
       exact s_e []
      ·have h5 : c ≠ 0 := fun e => by have h6 := sgZ_num_eq.2 e; simp [h6] at h4
       refine AWp.skip ⟨(), h5, ?_⟩
       show SEnt _ (pc0 q c n)
       rw [ri_]
       exact s_e []
     | some s =>
      show AWp _ _ _ _ (pc1 q c (n, s))
      rw [nc_]
      refine r_c 3 (dm_ c) ?_
      refine a_z ?_
      refine AWp.cond rfl (fun h4 => ?_) (fun h4 => ?_)
      ·have h5 : c = 0 := sgZ_num_eq.1 (by simpa using h4)
       refine AWp.exit ⟨some s, by rw [if_pos h5], ?_⟩
       show SEnt _ (pb1 q (n, s))
       rw [em_]
       exact s_e []
      ·have h5 : c ≠ 0 := fun e => by have h6 := sgZ_num_eq.2 e; simp [h6] at h4
       refine AWp.skip ⟨(), h5, ?_⟩
       show SEnt _ (pc1 q c (n, s))
       rw [nc_]
       exact s_e []
    rintro _ hc0
    rw [if_neg hc0]
    have hsg : (sgZ c.num < 0) ↔ c < 0 := sgZ_neg c
    refine AWp.cut (pcS q c n) (fun o' => o' = sgnTx o c) ?_ ?_
    ·refine AWp.block ?_
     cases o with
     | none =>
      show AWp _ _ _ _ (pc0 q c n)
      rw [ri_]
      refine s_r 8 ?_
      refine o_0 (.callR (s := none) (j := 0) (tb := 0) rfl rfl rfl rfl rfl (fun _ h => by cases h) (ti_)) ?_
      refine a_2 ?_
      first | refine AR.op0y rfl rfl (gy (by first | rfl | assumption | exact decide_eq_true (by omega) | (simp; done) | (simp; omega))) (.load_l rfl rfl rfl tg_37.h ts_37.h (nle rfl)) rfl rfl ?_ | refine AR.op0y rfl rfl (gy (by first | rfl | assumption | exact decide_eq_true (by omega) | (simp; done) | (simp; omega))) (.load_a rfl rfl tg_37.h ts_37.h (nle rfl)) rfl rfl ?_
      refine AR.op0y rfl rfl (gy (by first | rfl | assumption | exact decide_eq_true (by omega) | (simp; done) | (simp; omega))) (.call rfl rfl rfl (dm_ c)) rfl rfl ?_
      refine AR.op0y rfl rfl (gy (by first | rfl | assumption | exact decide_eq_true (by omega) | (simp; done) | (simp; omega))) (.bin rfl rfl ey_) rfl rfl ?_
      refine o_0 (.pickT rfl (by first | rfl | assumption | exact decide_eq_true (by omega) | (simp; done) | (simp; omega)) rfl) ?_
      refine a_z ?_
      refine AWp.cond rfl (fun h4 => ?_) (fun h4 => ?_)
      ·have h5 : c < 0 := hsg.1 (by simpa using h4)
       refine AWp.reg (m := 1) rfl ?_
       refine o_2 (.callB (s := none) (j := 0) rfl rfl rfl rfl rfl rfl (fun _ h => by cases h) (hb_ [45] (by simp) (by simp))) ?_
       refine AR.nil ?_
       refine ⟨some [45], by simp only [sgnTx]; rw [if_pos h5], ?_⟩
       show SEnt _ (pc1 q c (n, [45]))
       rw [nc_]
       refine SEnt.to2 [(2, 100012)] rfl rfl rfl au_r (fun hs => au_f) (fun hs => ?_)
       ·repeat' (first | exact CvH.nil | refine CvH.cons rfl rfl rfl rfl ?_ ?_)
        all_goals (first | (exact CvLL.clo hs (aa_ (aq_ c) ab_)) | exact au_e)
      ·have h5 : ¬ c < 0 := fun e => by have h6 := hsg.2 e; simp [h6] at h4
       refine s_r 8 ?_
       refine o_0 (.callR (s := none) (j := 0) (tb := 0) rfl rfl rfl rfl rfl (fun _ h => by cases h) (ti_)) ?_
       refine a_2 ?_
       refine AR.opN rfl rfl (gn (by first | rfl | assumption | exact decide_eq_false (by omega) | (simp; done) | (simp; omega))) rfl rfl ?_
       refine AR.opN rfl rfl (gn (by first | rfl | assumption | exact decide_eq_false (by omega) | (simp; done) | (simp; omega))) rfl rfl ?_
       refine AR.opN rfl rfl (gn (by first | rfl | assumption | exact decide_eq_false (by omega) | (simp; done) | (simp; omega))) rfl rfl ?_
       refine o_0 (.pickF rfl (by first | rfl | assumption | exact decide_eq_false (by omega) | (simp; done) | (simp; omega)) rfl) ?_
       refine a_z ?_
       refine AWp.cond rfl (fun h6 => ?_) (fun h6 => ?_)
       ·cases h6
       refine s_r 3 ?_
       refine o_0 (.callR (s := none) (j := 0) (tb := 0) rfl rfl rfl rfl rfl (fun _ h => by cases h) (ti_)) ?_
       refine a_z ?_
       refine AWp.cond rfl (fun h7 => ?_) (fun h7 => ?_)
       ·exact absurd h7 (by simp)
       refine AWp.skip ⟨none, by simp only [sgnTx]; rw [if_neg h5], ?_⟩
       show SEnt _ (pc0 q c n)
       rw [ri_]
       exact s_e []
     | some s =>
      have hsn := (ho s rfl).1
      have hsl := (ho s rfl).2
      have hs0 : s.length ≠ 0 := by simpa using hsn
      show AWp _ _ _ _ (pc1 q c (n, s))
      rw [nc_]
      refine s_r 8 ?_
      refine o_0 (.callR (s := some _) rfl rfl rfl rfl rfl (fun _ h => by cases h; exact rfl) (th_ s)) ?_
      refine a_2 ?_
      refine AR.opN rfl rfl (gn (by simp; omega)) rfl rfl ?_
      refine AR.opN rfl rfl (gn (by simp; omega)) rfl rfl ?_
      refine AR.opN rfl rfl (gn (by simp; omega)) rfl rfl ?_
      refine o_0 (.pickF rfl (by simp; omega) rfl) ?_
      refine a_z ?_
      refine AWp.cond rfl (fun h4 => ?_) (fun h4 => ?_)
      ·first | (simp at h4; done) | (simp at h4; omega) | (simp at h4; exact absurd h4 hsn)
      refine s_r 8 ?_
      refine o_0 (.callR (s := some _) rfl rfl rfl rfl rfl (fun _ h => by cases h; exact rfl) (th_ s)) ?_
      refine a_2 ?_
      first | refine AR.op0y rfl rfl (gy (by simp; omega)) (.load_l rfl rfl rfl tg_37.h ts_37.h (nle rfl)) rfl rfl ?_ | refine AR.op0y rfl rfl (gy (by simp; omega)) (.load_a rfl rfl tg_37.h ts_37.h (nle rfl)) rfl rfl ?_
      refine AR.op0y rfl rfl (gy (by simp; omega)) (.call rfl rfl rfl (dm_ c)) rfl rfl ?_
      refine AR.op0y rfl rfl (gy (by simp; omega)) (.bin rfl rfl ey_) rfl rfl ?_
      refine o_0 (.pickT rfl (by simp; omega) rfl) ?_
      refine a_z ?_
      refine AWp.cond rfl (fun h6 => ?_) (fun h6 => ?_)
      ·have h5 : c < 0 := hsg.1 (by simpa using h6)
       refine AWp.reg (m := 1) rfl ?_
       refine o_3 (.callB (s := some _) rfl rfl rfl rfl rfl rfl (fun _ h => by cases h; exact ⟨rfl, by decide⟩) (fn_ s [32, 45, 32] (by simp; omega))) ?_
       refine AR.nil ?_
       refine ⟨some (s ++ [32, 45, 32]), by simp only [sgnTx]; rw [if_pos h5], ?_⟩
       show SEnt _ (pc1 q c (n, s ++ [32, 45, 32]))
       rw [nc_]
       refine SEnt.to2 [(2, 100020)] rfl rfl rfl au_r (fun hs => au_f) (fun hs => ?_)
       ·repeat' (first | exact CvH.nil | refine CvH.cons rfl rfl rfl rfl ?_ ?_)
        all_goals (first | (exact CvLL.clo hs (aa_ (aq_ c) ab_)) | exact au_e)
      ·have h5 : ¬ c < 0 := fun e => by have h7 := hsg.2 e; simp [h7] at h6
       refine s_r 3 ?_
       refine o_0 (.callR (s := some _) rfl rfl rfl rfl rfl (fun _ h => by cases h; exact rfl) (th_ s)) ?_
       refine a_z ?_
       refine AWp.cond rfl (fun h7 => ?_) (fun h7 => ?_)
       ·refine AWp.reg (m := 1) rfl ?_
        refine o_3 (.callB (s := some _) rfl rfl rfl rfl rfl rfl (fun _ h => by cases h; exact ⟨rfl, by decide⟩) (fn_ s [32, 43, 32] (by simp; omega))) ?_
        refine AR.nil ?_
        refine ⟨some (s ++ [32, 43, 32]), by simp only [sgnTx]; rw [if_neg h5], ?_⟩
        show SEnt _ (pc1 q c (n, s ++ [32, 43, 32]))
        rw [nc_]
        refine SEnt.to2 [(2, 100023)] rfl rfl rfl au_r (fun hs => au_f) (fun hs => ?_)
        ·repeat' (first | exact CvH.nil | refine CvH.cons rfl rfl rfl rfl ?_ ?_)
         all_goals (first | (exact CvLL.clo hs (aa_ (aq_ c) ab_)) | exact au_e)
       ·first | (simp at h7; done) | (simp at h7; omega) | (simp at h7; exact absurd h7 hsn)
    rintro o1 rfl
    have ho1 := zs_ ho c
    obtain ⟨o1, ho1e⟩ : ∃ o1, o1 = sgnTx o c := ⟨_, rfl⟩
    rw [← ho1e] at ho1 ⊢
    refine AWp.cut (fun _ : Unit => pdS q t n o1) (fun _ => True) ?_ ?_
    ·cases o1 with
     | none =>
      show AWp _ _ _ _ (pc0 q c n)
      rw [ri_]
      refine AWp.reg (m := 4) rfl ?_
      refine c_s (fs_abs c) ?_
      refine c_s (fT) ?_
      refine a_z ?_
      refine ⟨(), trivial, ?_⟩
      show SEnt _ (pd0 q t n)
      rw [zm_]
      exact s_e []
     | some s =>
      show AWp _ _ _ _ (pc1 q c (n, s))
      rw [nc_]
      refine AWp.reg (m := 4) rfl ?_
      refine c_s (fs_abs c) ?_
      refine c_s (fT) ?_
      refine a_z ?_
      refine ⟨(), trivial, ?_⟩
      show SEnt _ (pd1 q t (n, s))
      rw [zl_]
      exact s_e []
    rintro _ _
    refine AWp.cut (fun _ : Unit => pdS q t n o1) (fun _ => n ≠ 0) ?_ ?_
    ·cases o1 with
     | none =>
      show AWp _ _ _ _ (pd0 q t n)
      rw [zm_]
      refine r_z 2 ?_
      refine AWp.cond rfl (fun h4 => ?_) (fun h4 => ?_)
      ·have h5 : n = 0 := by simpa using h4
       subst h5
       refine s_r 2 ?_
       refine a_1 ?_
       refine o_2 (.callB (s := none) (j := 0) rfl rfl rfl rfl rfl rfl (fun _ h => by cases h) (hb_ t htn (by omega))) ?_
       refine AR.nil ?_
       refine AWp.exit ⟨some t, by unfold om_; rw [if_pos rfl, ← ho1e, ← ht]; rfl, ?_⟩
       show SEnt _ (pb1 q (((0 : Nat) : Int), t))
       rw [em_]
       refine SEnt.to2 [(2, 100007)] rfl rfl rfl au_r (fun hs => au_f) (fun hs => au_h)
      ·have h5 : n ≠ 0 := fun e => by simp [e] at h4
       refine AWp.skip ⟨(), h5, ?_⟩
       show SEnt _ (pd0 q t n)
       rw [zm_]
       exact s_e []
     | some s =>
      have hsl := (ho1 s rfl).2
      show AWp _ _ _ _ (pd1 q t (n, s))
      rw [zl_]
      refine r_z 2 ?_
      refine AWp.cond rfl (fun h4 => ?_) (fun h4 => ?_)
      ·have h5 : n = 0 := by simpa using h4
       subst h5
       refine s_r 2 ?_
       refine a_1 ?_
       refine o_3 (.callB (s := some _) rfl rfl rfl rfl rfl rfl (fun _ h => by cases h; exact ⟨rfl, by decide⟩) (fn_ s t (by omega))) ?_
       refine AR.nil ?_
       refine AWp.exit ⟨some (s ++ t), by unfold om_; rw [if_pos rfl, ← ho1e, ← ht]; rfl, ?_⟩
       show SEnt _ (pb1 q (((0 : Nat) : Int), s ++ t))
       rw [em_]
       refine SEnt.to2 [(2, 100007)] rfl rfl rfl au_r (fun hs => au_f) (fun hs => au_h)
      ·have h5 : n ≠ 0 := fun e => by simp [e] at h4
       refine AWp.skip ⟨(), h5, ?_⟩
       show SEnt _ (pd1 q t (n, s))
       rw [zl_]
       exact s_e []
    rintro _ hn0
    refine AWp.cut (pbS q n) (fun o' => o' = js_ o1 t) ?_ ?_
    ·cases o1 with
     | none =>
      show AWp _ _ _ _ (pd0 q t n)
      rw [zm_]
      refine s_r 2 ?_
      refine a_1 ?_
      refine o_0 (.bin rfl rfl (binS_neT (m := [49]))) ?_
      refine AR.nil ?_
      refine AWp.cond rfl (fun h4 => ?_) (fun h4 => ?_)
      ·have h5 : ¬ t = [49] := by simpa using h4
       refine AWp.reg (m := 3) rfl ?_
       refine a_1 ?_
       refine o_0 (.bin rfl rfl (cs_ (m := [32]) (by simp; omega))) ?_
       refine o_2 (.callB (s := none) (j := 0) rfl rfl rfl rfl rfl rfl (fun _ h => by cases h) (hb_ (t ++ [32]) (by simp) (by simp; omega))) ?_
       refine AR.nil ?_
       refine ⟨some (t ++ [32]), by unfold js_; rw [if_neg h5]; rfl, ?_⟩
       show SEnt _ (pb1 q (n, t ++ [32]))
       rw [em_]
       refine SEnt.to2 [(2, 100008)] rfl rfl rfl au_r (fun hs => au_f) (fun hs => au_h)
      ·have h5 : t = [49] := by simpa using h4
       refine AWp.skip ⟨none, by unfold js_; rw [if_pos h5], ?_⟩
       show SEnt _ (pb0 q n)
       rw [hv_]
       exact s_e []
     | some s =>
      have hsl := (ho1 s rfl).2
      show AWp _ _ _ _ (pd1 q t (n, s))
      rw [zl_]
      refine s_r 2 ?_
      refine a_1 ?_
      refine o_0 (.bin rfl rfl (binS_neT (m := [49]))) ?_
      refine AR.nil ?_
      refine AWp.cond rfl (fun h4 => ?_) (fun h4 => ?_)
      ·have h5 : ¬ t = [49] := by simpa using h4
       refine AWp.reg (m := 3) rfl ?_
       refine a_1 ?_
       refine o_0 (.bin rfl rfl (cs_ (m := [32]) (by simp; omega))) ?_
       refine o_3 (.callB (s := some _) rfl rfl rfl rfl rfl rfl (fun _ h => by cases h; exact ⟨rfl, by decide⟩) (fn_ s (t ++ [32]) (by simp; omega))) ?_
       refine AR.nil ?_
       refine ⟨some (s ++ (t ++ [32])), by unfold js_; rw [if_neg h5]; rfl, ?_⟩
       show SEnt _ (pb1 q (n, s ++ (t ++ [32])))
       rw [em_]
       refine SEnt.to2 [(2, 100008)] rfl rfl rfl au_r (fun hs => au_f) (fun hs => au_h)
      ·have h5 : t = [49] := by simpa using h4
       refine AWp.skip ⟨some s, by unfold js_; rw [if_pos h5], ?_⟩
       show SEnt _ (pb1 q (n, s))
       rw [em_]
       exact s_e []
    rintro o2 ho2e
    have ho2 : okOx o2 (B + L + 4) := by
     rw [ho2e]; unfold js_
     split
     ·exact ft_ ho1 (by omega)
     ·exact ft_ (rj_ ho1 (t := t ++ [32]) (by simp)) (by simp; omega)
    refine AWp.cut (fun s => pb1 q (n, s)) (fun s => wrO o2 [120] = some s) ?_ ?_
    ·cases o2 with
     | none =>
      show AWp _ _ _ _ (pb0 q n)
      rw [hv_]
      refine AWp.reg (m := 1) rfl ?_
      refine o_2 (.callB (s := none) (j := 0) rfl rfl rfl rfl rfl rfl (fun _ h => by cases h) (hb_ [120] (by simp) (by simp))) ?_
      refine AR.nil ?_
      refine ⟨[120], rfl, ?_⟩
      simp only [em_]
      refine SEnt.to2 [(2, 100004)] rfl rfl rfl au_r (fun hs => au_f) (fun hs => au_h)
     | some s =>
      have hsl := (ho2 s rfl).2
      show AWp _ _ _ _ (pb1 q (n, s))
      rw [em_]
      refine AWp.reg (m := 1) rfl ?_
      refine o_3 (.callB (s := some _) rfl rfl rfl rfl rfl rfl (fun _ h => by cases h; exact ⟨rfl, by decide⟩) (fn_ s [120] (by simp; omega))) ?_
      refine AR.nil ?_
      refine ⟨s ++ [120], rfl, ?_⟩
      simp only [em_]
      refine SEnt.to2 [(2, 100004)] rfl rfl rfl au_r (fun hs => au_f) (fun hs => au_h)
    rintro s hs3
    have ho3 := rj_ ho2 (t := [120]) (by simp) s hs3
    have hsl : s.length ≤ B + L + 5 := ho3.2
    simp only [em_]
    refine r_z 2 ?_
    refine AWp.cond rfl (fun h4 => ?_) (fun h4 => ?_)
    ·have h5 : 1 < n := by simp at h4; omega
     refine AWp.reg (m := 4) rfl ?_
     refine c_s (fI) ?_
     refine o_0 (.bin rfl rfl (cs_ (l := [94]) (by simp; omega))) ?_
     refine o_3 (.callB (s := some _) rfl rfl rfl rfl rfl rfl (fun _ h => by cases h; exact ⟨rfl, by decide⟩) (fn_ s ([94] ++ ti n) (by simp; omega))) ?_
     refine AR.nil ?_
     refine ⟨some (s ++ ([94] ++ ti n)), by unfold om_; rw [if_neg hn0, if_pos h5, ← ho1e, ← ht, ← ho2e, hs3]; rfl, ?_⟩
     show SEnt _ (pb1 q (n, s ++ ([94] ++ ti n)))
     rw [em_]
     refine SEnt.to2 [(2, 100009)] rfl rfl rfl au_r (fun hs => au_f) (fun hs => au_h)
    ·have h5 : ¬ 1 < n := by simp at h4; omega
     refine AWp.skip ⟨some s, by unfold om_; rw [if_neg hn0, if_neg h5, ← ho1e, ← ht, ← ho2e, hs3], ?_⟩
     show SEnt _ (pb1 q (n, s))
     rw [em_]
     exact s_e []
   rintro o' ho'
   have hok' : okOx o' (B + (L + 30)) := by
    rw [ho']
    split
    ·exact ft_ ho (by omega)
    ·have g1 := zs_ ho c
     unfold om_
     rw [← ht]
     have g2 : okOx (js_ (sgnTx o c) t) (B + L + 4) := by
      unfold js_
      split
      ·exact ft_ g1 (by omega)
      ·exact ft_ (rj_ g1 (t := t ++ [32]) (by simp)) (by simp; omega)
     have g3 := rj_ g2 (t := [120]) (by simp)
     split
     ·exact ft_ (rj_ g1 htn) (by omega)
     ·split
      ·exact ft_ (rj_ g3 (t := [94] ++ ti n) (by simp)) (by simp; omega)
      ·exact ft_ g3 (by simp; omega)
   rw [← ho'] at hr
   cases o' with
   | none =>
    show AWp _ _ _ _ (pb0 q n)
    rw [hv_]
    refine AWp.reg (m := 3) rfl ?_
    refine a_z ?_
    refine ⟨(n, none), Nat.lt_succ_self n, ⟨by simp only; omega, hr, sr_ _⟩, ?_⟩
    show SEnt _ (pb0 q ((n : Int) - 1))
    rw [hv_]
    exact s_e []
   | some s =>
    show AWp _ _ _ _ (pb1 q (n, s))
    rw [em_]
    refine AWp.reg (m := 3) rfl ?_
    refine a_z ?_
    refine ⟨(n, some s), Nat.lt_succ_self n, ⟨by simp only; omega, hr, by simp only; rw [hm]; exact hok'⟩, ?_⟩
    show SEnt _ (pb1 q ((n : Int) - 1, s))
    rw [em_]
    exact s_e []
 rintro o ⟨rfl, ho⟩
 cases ho2 : textR tq ti q q.length none with
 | none =>
  show AWp _ _ _ _ (pb0 q (-1))
  rw [hv_]
  refine AWp.seq ?_
  refine s_r 2 ?_
  refine o_0 (.callR (s := none) (j := 0) (tb := 0) rfl rfl rfl rfl rfl (fun _ h => by cases h) (ti_)) ?_
  refine a_z ?_
  refine AWp.cond rfl (fun h4 => ?_) (fun h4 => ?_)
  ·refine r_z 1 ?_
   refine AWp.ret ?_
   refine Fin.tmpE rfl ?_ ?_
   ·rfl
   ·exact ac_ _
  ·exact absurd h4 (by simp)
 | some s =>
  have hs := ho s ho2
  have hsl : s.length ≠ 0 := by have := hs.1; simpa using this
  have hne := hs.1
  show AWp _ _ _ _ (pb1 q (-1, s))
  rw [em_]
  refine AWp.seq ?_
  refine s_r 2 ?_
  refine o_0 (.callR (s := some _) rfl rfl rfl rfl rfl (fun _ h => by cases h; exact rfl) (th_ s)) ?_
  refine a_z ?_
  refine AWp.cond rfl (fun h4 => ?_) (fun h4 => ?_)
  ·exact absurd h4 (by simp; omega)
  ·refine AWp.skip ?_
   refine s_r 2 ?_
   refine o_2 (.callD rfl rfl rfl rfl rfl rfl (by decide) (by first | assumption | simp) (qe_)) ?_
   refine a_z ?_
   refine AWp.ret ?_
   refine Fin.tmpE rfl ?_ ?_
   ·rfl
   ·exact ac_ _
theorem tg_ (p : List Rat) (h : okPT p) : FSpec Tryz.prog 65 [.arr (pE p)] (tx (textP p)) := by
 obtain ⟨h1, h2, h3⟩ := h
 exact fs_PTextG textQ dec2 6 p h1 (by decide) (fun c hc => ⟨ly_ (absQ c) (okT_abs (h3 c hc)), textQ_ne _, textQ_len.1⟩) (fun n hn => ⟨xy_ n (by omega), Nat.le_trans (jk_ n) (by decide)⟩)
abbrev bP (p : List Rat) : AV := .aptr [[.arr (pE p)]] 0 0
abbrev bQ (q : Rat) : AV := .aptr [qC q] 0 0
theorem ak_ (p : List Rat) : Closed (bP p) := bb_ (aa_ (ad_ p) ab_)
theorem as_ (q : Rat) : Closed (bQ q) := bb_ (aq_ q)
theorem fs_Add1 (p q : List Rat) (i : Nat) (hp : smL p) (hq : smL q) : FSpec Tryz.prog 123 [i64 i, bP p, bP q] (.agg (qC (coP p i + coP q i))) := by
 refine FSpec.enter Tryz.func123 rfl (by kernel_rfl) rfl rfl rfl ?_ rfl ?_
 ·exact aa_ (ac_ _) (aa_ (ak_ p) (aa_ (ak_ q) ab_))
 refine r_z 1 ?_
 refine AWp.seq ?_
 refine AWp.regD hmix (m := 8) rfl ?_
 refine c_s (fs_at p i) ?_
 refine c_s (fs_at q i) ?_
 refine c_s (ia_ (coP p i) (coP q i) (sm2 (qi_ hp i) (qi_ hq i))) ?_
 refine a_1 ?_
 refine AR.nil ⟨by kernel_rfl, ?_⟩
 refine AWp.ret ?_
 refine Fin.cellE rfl rfl rfl tg_37.h ts_37.h (nle rfl) ?_ ?_
 ·rfl
 ·exact ae_ _
theorem fs_Add (p q : List Rat) (hp : smL p) (hq : smL q) (hp1 : p.length ≤ 1099511627776) (hq1 : q.length ≤ 1099511627776) : FSpec Tryz.prog 42 [.arr (pE p), .arr (pE q)] (.arr (pE (addP p q))) := by
 refine FSpec.enter Tryz.func42 rfl (by kernel_rfl) rfl rfl rfl ?_ rfl ?_
 ·exact aa_ (ad_ p) (aa_ (ad_ q) ab_)
 refine r_z 3 ?_
 refine AWp.ent (st' := ⟨[(2, bP p), (3, bP q)], [], 1, 12⟩) ?_ ?_
 ·exact s_e []
 have hm : (if ((q.length : Nat) : Int) > (p.length : Nat) then ((q.length : Nat) : Int) else (p.length : Nat)) = ((max p.length q.length : Nat) : Int) := by
  rw [Nat.max_def]; split <;> split <;> omega
 have he := xx_ (max p.length q.length) (fun i => coP p i + coP q i) 123 [bP p, bP q] (Nat.max_le.2 ⟨hp1, hq1⟩) (aa_ (ak_ p) (aa_ (ak_ q) ab_)) (fun i _ => fs_Add1 p q i hp hq)
 rw [← hm] at he
 refine r_c 8 (he) ?_
 refine a_z ?_
 refine AWp.ret ?_
 refine Fin.tmpE rfl ?_ ?_
 ·rfl
 ·exact ad_ _
theorem fs_Scale1 (p : List Rat) (k : Rat) (i : Nat) (hp : smL p) (hk : sm k) (hi : i < p.length) : FSpec Tryz.prog 125 [i64 i, bP p, bQ k] (.agg (qC (coP p i * k))) := by
 have hg : (pE p)[((i : Nat) : Int).toNat]? = some (qC (coP p i)) := cv_ (bg_ hi)
 refine FSpec.enter Tryz.func125 rfl (by kernel_rfl) rfl rfl rfl ?_ rfl ?_
 ·exact aa_ (ac_ _) (aa_ (ak_ p) (aa_ (as_ k) ab_))
 refine r_z 1 ?_
 refine AWp.seq ?_
 refine AWp.regD hmix (m := 7) rfl ?_
 refine a_2 ?_
 first | refine AR.op0 (.index_l rfl rfl (by omega) (by omega) te_25.h) rfl rfl ?_ | refine AR.op0 (.index_a rfl rfl (by omega) hg rfl te_25.h) rfl rfl ?_
 first | refine AR.op0 (.load_l rfl rfl hg tg_37.h ts_37.h (nle rfl)) rfl rfl ?_ | refine AR.op0 (.load_a rfl hg tg_37.h ts_37.h (nle rfl)) rfl rfl ?_
 refine c_s (do_ (coP p i) k (sm2 (qi_ hp i) hk)) ?_
 refine a_1 ?_
 refine AR.nil ⟨by kernel_rfl, ?_⟩
 refine AWp.ret ?_
 refine Fin.cellE rfl rfl rfl tg_37.h ts_37.h (nle rfl) ?_ ?_
 ·rfl
 ·exact ae_ _
theorem hk_ (p : List Rat) (k : Rat) (hp : smL p) (hk : sm k) (hp1 : p.length ≤ 1099511627776) : FSpec Tryz.prog 47 [.arr (pE p), .agg (qC k)] (.arr (pE (bp_ p k))) := by
 have he := xx_ p.length (fun i => coP p i * k) 125 [bP p, bQ k] hp1 (aa_ (ak_ p) (aa_ (as_ k) ab_)) (fun i hi => fs_Scale1 p k i hp hk hi)
 refine FSpec.enter Tryz.func47 rfl (by kernel_rfl) rfl rfl rfl ?_ rfl ?_
 ·exact aa_ (ad_ p) (aa_ (ae_ k) ab_)
 refine r_z 3 ?_
 refine AWp.ent (st' := ⟨[(2, bP p), (3, bQ k)], [], 1, 9⟩) ?_ ?_
 ·exact s_e []
 refine r_c 5 (he) ?_
 refine a_z ?_
 refine AWp.ret ?_
 refine Fin.tmpE rfl ?_ ?_
 ·rfl
 ·exact ad_ _
theorem fh_ (a b : Rat) (hb : b ≠ 0) (h : qs a + qs b ≤ 549755813888) : FSpec Tryz.prog 105 [.agg (qC a), .agg (qC b)] (.agg (qC (a / b))) := by
 refine FSpec.enter Tryz.func105 rfl (by kernel_rfl) rfl rfl rfl ?_ rfl ?_
 ·exact aa_ (ae_ a) (aa_ (ae_ b) ab_)
 refine r_z 3 ?_
 refine r_c 9 (fs_div a b hb h) ?_
 refine a_z ?_
 refine r_z 2 ?_
 refine AWp.ret ?_
 refine Fin.cellE rfl rfl rfl tg_37.h ts_37.h (nle rfl) ?_ ?_
 ·rfl
 ·exact ae_ _
theorem la_ (a : Rat) : FSpec Tryz.prog 126 [.agg (qC a)] (.arr (pE (ew_ a))) := by
 refine FSpec.enter Tryz.func126 rfl (by kernel_rfl) rfl rfl rfl ?_ rfl ?_
 ·exact aa_ (ae_ a) ab_
 refine r_z 2 ?_
 refine s_r 4 ?_
 refine a_2 ?_
 refine o_1 (.callS1 rfl rfl rfl (.shut rfl (by first | exact nle rfl | (simp; done) | (simp; omega)) (.nil)) rfl ((dv_ [a] (by simp)))) ?_
 refine a_z ?_
 refine AWp.ret ?_
 refine Fin.tmpE rfl ?_ ?_
 ·rfl
 ·exact ad_ _
theorem fs_line (a : Rat) : FSpec Tryz.prog 155 [.agg (qC a)] (.arr (pE [a, 1])) := by
 refine FSpec.enter Tryz.func155 rfl (by kernel_rfl) rfl rfl rfl ?_ rfl ?_
 ·exact aa_ (ae_ a) ab_
 refine r_z 2 ?_
 refine AWp.seq ?_
 refine AWp.regD hmix (m := 4) rfl ?_
 refine c_s (dw_ 1 (by decide)) ?_
 refine a_2 ?_
 refine AR.nil ⟨by kernel_rfl, ?_⟩
 refine AWp.ret ?_
 exact Fin.tmpS rfl rfl rfl rfl (ar_ [a, 1])
theorem fs_x : FSpec Tryz.prog 263 [] (.arr (pE [0, 1])) := by
 refine FSpec.enter Tryz.func263 rfl (by kernel_rfl) rfl rfl rfl ?_ rfl ?_
 ·exact ab_
 refine r_z 1 ?_
 refine r_c 3 ((by have := fs_line 0; rw [qC0] at this; exact this)) ?_
 refine a_z ?_
 refine AWp.ret ?_
 refine Fin.tmpE rfl ?_ ?_
 ·rfl
 ·exact ad_ _
theorem sm_neg1 {a : Rat} (h : sm a) : sm (a * (-1)) := by
 unfold sm at *
 rw [show a * (-1) = -a by rw [Rat.mul_comm, Rat.neg_mul, Rat.one_mul], hu_]; exact h
theorem qs_inv (b : Rat) (hb : b ≠ 0) : qs (1 / b) ≤ qs b := by
 rw [qf_ 1 b hb]
 have hn : b.num ≠ 0 := fun e => hb (Rat.num_eq_zero.1 e)
 have h1 := co_ b
 have h2 := ci_ b
 refine fs_ (by have : 0 < b.num.natAbs := by omega
                show 0 < 1 * b.num.natAbs
                omega) ?_ ?_
 ·show bl ((1 : Int) * sgn (decide (b.num < 0)) b.den).natAbs ≤ qs b
  rw [Int.one_mul, el_]; exact h2
 ·show bl (1 * b.num.natAbs) ≤ qs b
  rw [Nat.one_mul]; exact h1
theorem smL_scaleN {q : List Rat} (h : smL q) : smL (bp_ q (-1)) := by
 refine yx_ fun x hx => ?_
 obtain ⟨i, _, rfl⟩ := List.mem_map.1 hx
 exact sm_neg1 (qi_ h i)
theorem fs_Sub (p q : List Rat) (hp : smL p) (hq : smL q) (hp1 : p.length ≤ 1099511627776) (hq1 : q.length ≤ 1099511627776) : FSpec Tryz.prog 44 [.arr (pE p), .arr (pE q)] (.arr (pE (subP p q))) := by
 have hl := cg_ q (-1)
 refine FSpec.enter Tryz.func44 rfl (by kernel_rfl) rfl rfl rfl ?_ rfl ?_
 ·exact aa_ (ad_ p) (aa_ (ad_ q) ab_)
 refine r_z 1 ?_
 refine r_c 6 (dw_ (-1) (by decide)) ?_
 refine c_s (hk_ q (-1) hq (by decide) hq1) ?_
 refine c_s (fs_Add p (bp_ q (-1)) hp (smL_scaleN hq) hp1 (by omega)) ?_
 refine a_z ?_
 refine AWp.ret ?_
 refine Fin.tmpE rfl ?_ ?_
 ·rfl
 ·exact ad_ _
theorem td_ (p : List Rat) (hp : smL p) (hp1 : p.length ≤ 1099511627776) : FSpec Tryz.prog 94 [.arr (pE p)] (.arr (pE (jv_ p))) := by
 have hlead := sx_ hp
 refine FSpec.enter Tryz.func94 rfl (by kernel_rfl) rfl rfl rfl ?_ rfl ?_
 ·exact aa_ (ad_ p) ab_
 refine r_z 1 ?_
 refine AWp.seq ?_
 refine r_c 3 (cc_ p hp1) ?_
 refine a_z ?_
 refine AWp.cond rfl (fun h => ?_) (fun h => ?_)
 ·have h0 : trimQ p = [] := by
   have h1 : degP p < 0 := by simpa using h
   unfold degP at h1
   exact List.length_eq_zero_iff.1 (by omega)
  refine r_z 1 ?_
  refine AWp.ret ?_
  unfold jv_
  rw [if_pos h0]
  exact Fin.tmpN rfl
 ·have h0 : trimQ p ≠ [] := by
   intro e
   have h1 : ¬ degP p < 0 := by simpa using h
   unfold degP at h1
   rw [e] at h1
   exact h1 (by decide)
  have hne := jg_ h0
  have hinv := qs_inv (leadP p) hne
  unfold sm at hlead
  have h1 : qs 1 = 1 := by decide
  unfold jv_
  rw [if_neg h0]
  refine AWp.skip ?_
  refine r_c 7 (dw_ 1 (by decide)) ?_
  refine c_s (io_ p hp1) ?_
  refine c_s (fh_ 1 (leadP p) hne (by omega)) ?_
  refine c_s (hk_ p (1 / leadP p) hp (by unfold sm; omega) hp1) ?_
  refine a_z ?_
  refine AWp.ret ?_
  refine Fin.tmpE rfl ?_ ?_
  ·rfl
  ·exact ad_ _
theorem qs_small (i : Nat) (h : i ≤ 1099511627776) : qs (((i : Nat) : Int) : Rat) ≤ 64 := by
 refine Nat.max_le.2 ⟨?_, ?_⟩
 ·show bl ((i : Int)).natAbs ≤ 64
  rw [Int.natAbs_natCast]
  exact bl_le (by omega)
 ·show bl 1 ≤ 64
  decide
theorem fs_Derive1 (p : List Rat) (i : Nat) (hp : smL p) (hi : i + 1 < p.length) (hp1 : p.length ≤ 1099511627776) : FSpec Tryz.prog 102 [i64 i, bP p] (.agg (qC (coP p (i + 1) * ((i + 1 : Nat) : Int)))) := by
 have hg : (pE p)[(((i : Nat) : Int) + 1).toNat]? = some (qC (coP p (i + 1))) := by
  rw [show (((i : Nat) : Int) + 1).toNat = i + 1 by omega]; exact cv_ (bg_ hi)
 have hs := qi_ hp (i + 1)
 have hq := qs_small (i + 1) (by omega)
 unfold sm at hs
 have hI := dw_ (((i : Nat) : Int) + 1) (by omega)
 rw [show ((i : Nat) : Int) + 1 = ((i + 1 : Nat) : Int) by omega] at hI
 refine FSpec.enter Tryz.func102 rfl (by kernel_rfl) rfl rfl rfl ?_ rfl ?_
 ·exact aa_ (ac_ _) (aa_ (ak_ p) ab_)
 refine r_z 1 ?_
 refine AWp.seq ?_
 refine AWp.regD hmix (m := 10) rfl ?_
 refine a_3 ?_
 first | refine AR.op0 (.index_l rfl rfl (by omega) (by omega) te_25.h) rfl rfl ?_ | refine AR.op0 (.index_a rfl rfl (by omega) hg rfl te_25.h) rfl rfl ?_
 first | refine AR.op0 (.load_l rfl rfl hg tg_37.h ts_37.h (nle rfl)) rfl rfl ?_ | refine AR.op0 (.load_a rfl hg tg_37.h ts_37.h (nle rfl)) rfl rfl ?_
 refine c_s (hI) ?_
 refine c_s (do_ (coP p (i + 1)) ((i + 1 : Nat) : Int) (by omega)) ?_
 refine a_1 ?_
 refine AR.nil ⟨by kernel_rfl, ?_⟩
 refine AWp.ret ?_
 refine Fin.cellE rfl rfl rfl tg_37.h ts_37.h (nle rfl) ?_ ?_
 ·rfl
 ·exact ae_ _
theorem pw_ (p : List Rat) (hp : smL p) (hp1 : p.length ≤ 1099511627776) : FSpec Tryz.prog 24 [.arr (pE p)] (.arr (pE (ei_ p))) := by
 have he := xx_ (p.length - 1) (fun i => coP p (i + 1) * ((i + 1 : Nat) : Int)) 102 [bP p] (by omega) (aa_ (ak_ p) ab_) (fun i hi => fs_Derive1 p i hp (by omega) hp1)
 have hm : (if (0 : Int) > ((p.length : Nat) : Int) - 1 then (0 : Int) else ((p.length : Nat) : Int) - 1) = ((p.length - 1 : Nat) : Int) := by split <;> omega
 rw [← hm] at he
 refine FSpec.enter Tryz.func24 rfl (by kernel_rfl) rfl rfl rfl ?_ rfl ?_
 ·exact aa_ (ad_ p) ab_
 refine r_z 2 ?_
 refine AWp.ent (st' := ⟨[(1, bP p)], [], 1, 9⟩) ?_ ?_
 ·exact s_e []
 refine r_c 7 (he) ?_
 refine a_z ?_
 refine AWp.ret ?_
 refine Fin.tmpE rfl ?_ ?_
 ·rfl
 ·exact ad_ _

def mulS (p : List Rat) (q : List Rat) : Nat × List Rat → AState
 | (i, o) => ⟨[(1, .arr (pE q)), (5, .lsl 1 0 o.length (some o.length) 3), (25, .arr (pE p)), (26, i64 p.length), (27, i64 i)], [(1, some ⟨37, 3, pE o⟩)], 2, 61⟩
theorem kx_ (p : List Rat) (q : List Rat) (i : Nat) (o : List Rat) : mulS p q (i, o) = ⟨[(1, .arr (pE q)), (5, .lsl 1 0 o.length (some o.length) 3), (25, .arr (pE p)), (26, i64 p.length), (27, i64 i)], [(1, some ⟨37, 3, pE o⟩)], 2, 61⟩ := rfl
def mulT (p : List Rat) (q : List Rat) (i : Nat) (a : Rat) : Nat × List Rat → AState
 | (k, o) => ⟨[(1, .arr (pE q)), (5, .lsl 1 0 o.length (some o.length) 3), (6, i64 i), (7, .lptr 2 0 0), (25, .arr (pE p)), (26, i64 p.length), (27, i64 i), (35, .arr (pE q)), (36, i64 q.length), (37, i64 k)], [(1, some ⟨37, 3, pE o⟩), (2, some ⟨37, 3, [qC a]⟩)], 3, 61⟩
theorem xn_ (p : List Rat) (q : List Rat) (i : Nat) (a : Rat) (k : Nat) (o : List Rat) : mulT p q i a (k, o) = ⟨[(1, .arr (pE q)), (5, .lsl 1 0 o.length (some o.length) 3), (6, i64 i), (7, .lptr 2 0 0), (25, .arr (pE p)), (26, i64 p.length), (27, i64 i), (35, .arr (pE q)), (36, i64 q.length), (37, i64 k)], [(1, some ⟨37, 3, pE o⟩), (2, some ⟨37, 3, [qC a]⟩)], 3, 61⟩ := rfl
theorem fs_Mul (p q : List Rat) (s t : Nat) (hp : bdL p s) (hq : bdL q t) (hs : 1 ≤ s) (ht : 1 ≤ t) (h : p.length * (s + t + 1) + 1 ≤ 137438953472) (ht2 : t ≤ 137438953472) (hp1 : p.length ≤ 274877906944) (hq1 : q.length ≤ 274877906944) : FSpec Tryz.prog 20 [.arr (pE p), .arr (pE q)] (.arr (pE (mulP p q))) := by
 refine FSpec.enter Tryz.func20 rfl (by kernel_rfl) rfl rfl rfl ?_ rfl ?_
 ·exact aa_ (ad_ p) (aa_ (ad_ q) ab_)
 refine r_z 1 ?_
 refine AWp.cut (fun _ : Unit => ⟨[(0, .arr (pE p)), (1, .arr (pE q))], [], 1, 61⟩) (fun _ => p ≠ [] ∧ q ≠ []) ?_ ?_
 ·by_cases h1 : p = []
  ·subst h1
   refine s_r 8 ?_
   refine a_4 ?_
   refine AR.opN rfl rfl (gn (by simp)) rfl rfl ?_
   refine AR.opN rfl rfl (gn (by simp)) rfl rfl ?_
   refine AR.opN rfl rfl (gn (by simp)) rfl rfl ?_
   refine o_0 (.pickT rfl (by simp) rfl) ?_
   refine AR.nil ?_
   refine AWp.cond rfl (fun h => ?_) (fun h => ?_)
   ·refine r_z 1 ?_
    refine AWp.ret ?_
    unfold mulP
    rw [if_pos (.inl rfl)]
    exact Fin.tmpN rfl
   ·cases h
  ·have hp0 : p.length ≠ 0 := fun e => h1 (List.length_eq_zero_iff.1 e)
   refine s_r 8 ?_
   refine a_4 ?_
   refine AR.op0y rfl rfl (gy (by simp <;> omega)) (.move rfl) rfl rfl ?_
   first | refine AR.op0y rfl rfl (gy (by simp <;> omega)) (.lenD rfl rfl rfl rfl te_25.h) rfl rfl ?_ | refine AR.op0y rfl rfl (gy (by simp <;> omega)) (.lenI rfl rfl rfl rfl te_25.h) rfl rfl ?_ | refine AR.op0y rfl rfl (gy (by simp <;> omega)) (.lenP rfl rfl rfl rfl te_25.h) rfl rfl ?_ | refine AR.op0y rfl rfl (gy (by simp <;> omega)) (.lenC rfl rfl rfl rfl te_25.h) rfl rfl ?_ | refine AR.op0y rfl rfl (gy (by simp <;> omega)) (.lenR rfl rfl rfl rfl te_25.h) rfl rfl ?_ | refine AR.op0y rfl rfl (gy (by simp <;> omega)) (.len rfl rfl rfl rfl rfl te_25.h) rfl rfl ?_
   refine AR.op0y rfl rfl (gy (by simp <;> omega)) (.bin rfl rfl bo_) rfl rfl ?_
   refine o_0 (.pickF rfl (by simp <;> omega) rfl) ?_
   refine AR.nil ?_
   refine AWp.cond rfl (fun h2 => ?_) (fun h2 => ?_)
   ·have hq0 : q = [] := by
     have : q.length = 0 := by simpa using h2
     exact List.length_eq_zero_iff.1 this
    refine r_z 1 ?_
    refine AWp.ret ?_
    unfold mulP
    rw [if_pos (.inr hq0)]
    exact Fin.tmpN rfl
   ·have hq0 : q ≠ [] := by
     have : ¬ q.length = 0 := by simpa using h2
     exact fun e => this (by rw [e]; rfl)
    refine AWp.skip ⟨(), ⟨h1, hq0⟩, ?_⟩
    exact s_e []
 rintro _ ⟨hp0, hq0⟩
 have hpl := List.length_pos_iff.2 hp0
 have hql := List.length_pos_iff.2 hq0
 have hN : (p.length : Int) + q.length - 1 = ((p.length + q.length - 1 : Nat) : Int) := by omega
 refine s_r 8 ?_
 refine a_6 ?_
 refine o_1 (.makeSlice (l := p.length + q.length - 1) (c := p.length + q.length - 1) (by rw [← hN]; rfl) (by rw [← hN]; rfl) te_25.h tz_37.h rfl tb_37.h (by first | omega | (simp; done) | (simp; omega)) (by first | omega | (simp; done) | (simp; omega)) (by unfold maxLen; first | omega | (simp; done) | (simp; omega))) ?_
 refine a_z ?_
 refine AWp.seq ?_
 refine r_z 3 ?_
 have hbd := fun i => st_ (fo_ hp hs) (fo_ hq ht) i
 have hbi : ∀ i, i ≤ p.length → i * (s + t + 1) + 1 ≤ 137438953472 := fun i hi => by
  have := Nat.mul_le_mul_right (s + t + 1) hi
  omega
 have hs2 : s ≤ 137438953472 := by
  have := hbi 1 hpl
  omega
 refine AWp.cutT (fun _ : Unit => mulS p q (p.length, mulR p q p.length)) (fun _ => True) ?_ ?_
 ·refine AWp.block ?_
  refine AWp.loopS (fun i : Nat => mulS p q (i, mulR p q i)) (fun i => p.length - i) (fun i => i ≤ p.length) 0 (Nat.zero_le _) ?_ ?_
  ·simp only [kx_, mulR]
   refine SEnt.to [(1, 5)] rfl rfl rfl au_r (fun hs => au_f) (fun hs => ?_)
   ·repeat' (first | exact CvH.nil | refine CvH.cons rfl rfl rfl rfl ?_ ?_)
    all_goals (first | (exact CvLL.zeros hs _) | exact au_e)
  rintro i hi
  simp only [kx_]
  refine r_z 1 ?_
  refine AWp.seq ?_
  refine AWp.cond rfl (fun h => ?_) (fun h => ?_)
  ·refine AWp.skip ?_
   have hlt : i < p.length := by simpa using h
   have hgp : (pE p)[((i : Nat) : Int).toNat]? = some (qC (coP p i)) := cv_ (bg_ hlt)
   refine AWp.seq ?_
   refine AWp.block ?_
   refine s_r 6 ?_
   refine a_1 ?_
   first | refine AR.op0 (.index_l rfl rfl (by omega) (by omega) te_25.h) rfl rfl ?_ | refine AR.op0 (.index_a rfl rfl (by omega) hgp rfl te_25.h) rfl rfl ?_
   first | refine AR.op0 (.load_l rfl rfl hgp tg_37.h ts_37.h (nle rfl)) rfl rfl ?_ | refine AR.op0 (.load_a rfl hgp tg_37.h ts_37.h (nle rfl)) rfl rfl ?_
   refine a_z ?_
   refine AWp.seq ?_
   refine r_c 3 (dm_ (coP p i)) ?_
   refine a_z ?_
   refine AWp.cond rfl (fun h1 => ?_) (fun h1 => ?_)
   ·have h0 : coP p i = 0 := by
     have h1 : sgZ (coP p i).num = 0 := by simpa using h1
     exact sgZ_num_eq.1 h1
    have hst : mulR p q (i + 1) = mulR p q i := by rw [mulR, if_pos h0]
    refine AWp.exit ?_
    refine AWp.reg (m := 2) rfl ?_
    refine a_z ?_
    refine ⟨i + 1, by omega, hlt, ?_⟩
    simp only [kx_, hst]
    exact s_e []
   ·have h0 : coP p i ≠ 0 := by
     intro e
     have h1 : ¬ sgZ (coP p i).num = 0 := by simpa using h1
     exact h1 (sgZ_num_eq.2 e)
    have hst : mulR p q (i + 1) = rowP (mulR p q i) (coP p i) q i q.length := by rw [mulR, if_neg h0]
    refine AWp.skip ?_
    refine r_z 3 ?_
    refine AWp.cutB (fun _ : Unit => mulS p q (i, mulR p q (i + 1))) (fun _ => True) ?_ ?_
    ·refine AWp.block ?_
     refine AWp.loopS (fun k : Nat => mulT p q i (coP p i) (k, rowP (mulR p q i) (coP p i) q i k)) (fun k => q.length - k) (fun k => k ≤ q.length) 0 (Nat.zero_le _) ?_ ?_
     ·simp only [xn_, rowP]
      exact s_e [(2, 7)]
     rintro k hk
     simp only [xn_]
     refine r_z 1 ?_
     refine AWp.seq ?_
     refine AWp.cond rfl (fun h2 => ?_) (fun h2 => ?_)
     ·refine AWp.skip ?_
      have hlt2 : k < q.length := by simpa using h2
      have hgq : (pE q)[((k : Nat) : Int).toNat]? = some (qC (coP q k)) := cv_ (bg_ hlt2)
      refine AWp.seq ?_
      refine AWp.block ?_
      refine s_r 6 ?_
      refine a_1 ?_
      first | refine AR.op0 (.index_l rfl rfl (by omega) (by omega) te_25.h) rfl rfl ?_ | refine AR.op0 (.index_a rfl rfl (by omega) hgq rfl te_25.h) rfl rfl ?_
      first | refine AR.op0 (.load_l rfl rfl hgq tg_37.h ts_37.h (nle rfl)) rfl rfl ?_ | refine AR.op0 (.load_a rfl hgq tg_37.h ts_37.h (nle rfl)) rfl rfl ?_
      refine a_z ?_
      have hb1 := hbd i
      have hb2 := hbi (i + 1) hlt
      have hb3 := hbi i hi
      have hcur : qs (coP (rowP (mulR p q i) (coP p i) q i k) (i + k)) ≤ 137438953472 := by
       rw [sn_ _ _ _ _ _ _ (by omega)]; exact Nat.le_trans (hb1 (i + k)) hb3
      have hab := gf_ (coP p i) (coP q k)
      have hqa := fo_ hp hs i
      have hqb := fo_ hq ht k
      have hik : i + k < (rowP (mulR p q i) (coP p i) q i k).length := by simp; omega
      have hgo : (pE (rowP (mulR p q i) (coP p i) q i k))[(0 + (((i : Nat) : Int) + (k : Nat)).toNat)]? = some (qC (coP (rowP (mulR p q i) (coP p i) q i k) (i + k))) := by
       rw [show 0 + (((i : Nat) : Int) + (k : Nat)).toNat = i + k by omega]; exact cv_ (bg_ hik)
      refine AWp.regD hmix (m := 16) rfl ?_
      refine a_8 ?_
      refine a_1 ?_
      first | refine AR.op0 (.load_l rfl rfl hgo tg_37.h ts_37.h (nle rfl)) rfl rfl ?_ | refine AR.op0 (.load_a rfl hgo tg_37.h ts_37.h (nle rfl)) rfl rfl ?_
      refine c_s (do_ (coP p i) (coP q k) (by omega)) ?_
      refine c_s (ia_ (coP (rowP (mulR p q i) (coP p i) q i k) (i + k)) (coP p i * coP q k) (by omega)) ?_
      refine a_1 ?_
      refine o_1n (.store rfl rfl hgo rfl rfl rfl ts_37.h (nle rfl)) ?_
      refine AR.nil ⟨by kernel_rfl, ?_⟩
      refine AWp.reg (m := 2) rfl ?_
      refine a_z ?_
      refine ⟨k + 1, by omega, hlt2, ?_⟩
      have hst2 : (pE (rowP (mulR p q i) (coP p i) q i k)).set (0 + (((i : Nat) : Int) + (k : Nat)).toNat) (qC (coP (rowP (mulR p q i) (coP p i) q i k) (i + k) + coP p i * coP q k)) = pE (rowP (mulR p q i) (coP p i) q i (k + 1)) := by
       rw [show 0 + (((i : Nat) : Int) + (k : Nat)).toNat = i + k by omega, gt_]; rfl
      have hl2 : (rowP (mulR p q i) (coP p i) q i (k + 1)).length = (rowP (mulR p q i) (coP p i) q i k).length := by simp
      simp only [xn_, hl2]
      refine SEnt.to [] rfl rfl rfl ?_ (fun hs => au_f) (fun hs => ?_)
      ·repeat' (first | exact ShrL.nil | refine ShrL.cons rfl rfl rfl rfl (by first | (simp) | rfl | (simp; done) | (simp <;> omega)) ?_)
      ·repeat' (first | exact CvH.nil | refine CvH.cons rfl rfl rfl rfl ?_ ?_)
       all_goals (first | (exact CvLL.cloE hs hst2 (ar_ _)) | exact au_e)
     ·have hge : k = q.length := by
       have : ¬ k < q.length := by simpa using h2
       omega
      subst hge
      refine AWp.exit ⟨(), trivial, ?_⟩
      simp only [kx_, hst]
      exact s_e []
    rintro _ _
    simp only [kx_]
    refine AWp.reg (m := 2) rfl ?_
    refine a_z ?_
    refine ⟨i + 1, by omega, hlt, ?_⟩
    exact s_e []
  ·have hge : i = p.length := by
    have : ¬ i < p.length := by simpa using h
    omega
   subst hge
   refine AWp.exit ⟨(), trivial, ?_⟩
   simp only [kx_]
   exact s_e []
 rintro _ _
 simp only [kx_]
 have hfull : List.take (mulR p q p.length).length (List.drop 0 (pE (mulR p q p.length))) = pE (mulR p q p.length) := by
  rw [List.drop_zero, List.take_of_length_le (by simp)]
 have hfin : mulP p q = trimQ (mulR p q p.length) := by
  unfold mulP; rw [if_neg (by rintro (h | h); exact hp0 h; exact hq0 h)]
 rw [hfin]
 refine s_r 3 ?_
 refine a_1 ?_
 refine o_1 (.callS1 rfl rfl rfl (.shut rfl (by first | exact nle rfl | (simp; done) | (simp; omega)) (.nil)) rfl ((by rw [hfull]; exact dv_ (mulR p q p.length) (by simp; omega)))) ?_
 refine a_z ?_
 refine AWp.ret ?_
 refine Fin.tmpE rfl ?_ ?_
 ·rfl
 ·exact ad_ _
theorem os_Clone (l : List Rat) (h0 : l ≠ []) (hl : l.length ≤ 1099511627776) : OSpec Tryz.prog 150 [.arr (pE l)] 37 3 (pE l) := by
 have hne : pE l ≠ [] := by
  intro e
  exact h0 (List.length_eq_zero_iff.1 (by rw [← pE_length, e]; rfl))
 refine OSpec.enter Tryz.func150 rfl (by kernel_rfl) rfl rfl rfl ?_ ?_ rfl ?_
 ·exact aa_ (ao_ (ar_ _)) ab_
 ·exact ar_ l
 refine r_z 1 ?_
 refine AWp.seq ?_
 refine s_r 2 ?_
 refine a_1 ?_
 first | refine AR.op0 (.nilq_v rfl rfl te_25.h) rfl rfl ?_ | refine AR.op0 (.nilq_arr rfl (hne) rfl te_25.h) rfl rfl ?_
 refine AR.nil ?_
 refine AWp.cond rfl (fun h => ?_) (fun h => ?_)
 ·cases h
 ·refine AWp.skip ?_
  refine s_r 4 ?_
  refine a_2 ?_
  refine o_2 (.append_l rfl rfl rfl te_25.h rfl rfl rfl rfl rfl (by first | rfl | assumption | (simp; done) | (simp; omega) | omega) (by first | exact ib_ _ | exact hz_ _ | exact hw_ _ | exact ic_ _ | exact gs_ _ | rfl | simp) (by first | rfl | exact ib_ _ | exact hz_ _ | exact hw_ _ | exact ic_ _ | exact gs_ _ | simp) rfl (.arr (hh_ _)) tz_37.h rfl tb_37.h (by first | rfl | assumption | (simp; done) | (simp; omega) | omega) (by first | (simp [maxLen]; done) | (simp [maxLen]; omega))) ?_
  refine a_z ?_
  refine AWp.ret ?_
  exact FinO.tmp rfl rfl rfl (by simp)
theorem os_Trim (l : List Rat) (h0 : trimQ l ≠ []) (hl : l.length ≤ 1099511627776) : OSpec Tryz.prog 67 [.arr (pE l)] 37 3 (pE (trimQ l)) := by
 refine OSpec.enter Tryz.func67 rfl (by kernel_rfl) rfl rfl rfl ?_ ?_ rfl ?_
 ·exact aa_ (ao_ (ar_ _)) ab_
 ·exact ar_ _
 refine r_z 1 ?_
 refine r_z 3 ?_
 refine AWp.cut (trS l) (fun n => n ≤ l.length ∧ trimQ l = l.take n) ?_ ?_
 ·refine AWp.block ?_
  refine AWp.loopS (trS l) (fun n => n) (fun n => n ≤ l.length ∧ trimQ l = trimQ (l.take n)) l.length ⟨Nat.le_refl _, by rw [List.take_length]⟩ ?_ ?_
  ·simp only [ie_]
   exact s_e []
  rintro n ⟨hn, ht⟩
  rw [ie_]
  cases n with
  | zero => exact absurd (ht.trans rfl) h0
  | succ n =>
   obtain ⟨q, hq⟩ : ∃ q, l[n]? = some q := ⟨_, List.getElem?_eq_getElem (by omega)⟩
   have hq' : (pE l)[(((n + 1 : Nat) : Int) - 1).toNat]? = some (qC q) := by
    rw [show (((n + 1 : Nat) : Int) - 1).toNat = n by omega]; exact cv_ hq
   have hs : trimQ (l.take (n + 1)) = if q = 0 then trimQ (l.take n) else l.take (n + 1) := by
    rw [cw_ hq, iz_]
   refine AWp.seq ?_
   refine s_r 11 ?_
   refine a_3 ?_
   refine AR.op0y rfl rfl (gy (by simp <;> omega)) (.move rfl) rfl rfl ?_
   refine AR.op0y rfl rfl (gy (by simp <;> omega)) (.move rfl) rfl rfl ?_
   refine AR.op0y rfl rfl (gy (by simp <;> omega)) (.bin rfl rfl (mj_ (by omega))) rfl rfl ?_
   first | refine AR.op0y rfl rfl (gy (by simp <;> omega)) (.index_l rfl rfl (by omega) (by omega) te_25.h) rfl rfl ?_ | refine AR.op0y rfl rfl (gy (by simp <;> omega)) (.index_a rfl rfl (by omega) hq' rfl te_25.h) rfl rfl ?_
   first | refine AR.op0y rfl rfl (gy (by simp <;> omega)) (.load_l rfl rfl hq' tg_37.h ts_37.h (nle rfl)) rfl rfl ?_ | refine AR.op0y rfl rfl (gy (by simp <;> omega)) (.load_a rfl hq' tg_37.h ts_37.h (nle rfl)) rfl rfl ?_
   refine AR.op0y rfl rfl (gy (by simp <;> omega)) (.call rfl rfl rfl (dm_ q)) rfl rfl ?_
   refine AR.op0y rfl rfl (gy (by simp <;> omega)) (.bin rfl rfl bo_) rfl rfl ?_
   refine o_0 (.pickT rfl (by simp <;> omega) rfl) ?_
   refine AR.nil ?_
   refine AWp.cond rfl (fun h => ?_) (fun h => ?_)
   ·have h0 : q = 0 := by
     have h1 : sgZ q.num = 0 := by simpa using h
     exact sgZ_num_eq.1 h1
    refine AWp.skip ?_
    refine AWp.block ?_
    refine AWp.reg (m := 3) rfl ?_
    refine a_z ?_
    refine ⟨n, Nat.lt_succ_self n, ⟨by omega, ?_⟩, ?_⟩
    ·rw [ht, hs, if_pos h0]
    ·simp only [ie_]
     exact s_e []
   ·have h0 : q ≠ 0 := by
     intro e
     have h1 : ¬ sgZ q.num = 0 := by simpa using h
     exact h1 (sgZ_num_eq.2 e)
    refine AWp.exit ⟨n + 1, ⟨hn, ?_⟩, ?_⟩
    ·rw [ht, hs, if_neg h0]
    ·simp only [ie_]
     exact s_e []
 rintro n ⟨hn, ht⟩
 rw [ie_]
 rw [ht] at h0
 have hcl := os_Clone (l.take n) h0 (by simp; omega)
 refine s_r 5 ?_
 refine a_2 ?_
 refine o_0 (.sa_h rfl rfl (h := n) rfl (by simp; omega) te_25.h (hh_ _)) ?_
 refine o_1 (.callO rfl rfl rfl ((by rw [kw_]; exact hcl))) ?_
 refine a_z ?_
 refine AWp.ret ?_
 rw [ht]
 exact FinO.tmp rfl rfl rfl (by simp)
def dvS (q : List Rat) (lead : Rat) : Nat × List Rat × List Rat → AState
 | (c, u, o) => ⟨[(0, .lsl 1 0 o.length none 3), (1, .arr (pE q)), (4, .lsl 2 0 u.length (some u.length) 3), (6, .lptr 3 0 0), (7, i64 ((c : Int) - 1))], [(1, some ⟨37, 3, pE o⟩), (2, some ⟨37, 3, pE u⟩), (3, some ⟨37, 3, [qC lead]⟩)], 4, 82⟩
theorem dvS_mk (q : List Rat) (lead : Rat) (c : Nat) (u : List Rat) (o : List Rat) : dvS q lead (c, u, o) = ⟨[(0, .lsl 1 0 o.length none 3), (1, .arr (pE q)), (4, .lsl 2 0 u.length (some u.length) 3), (6, .lptr 3 0 0), (7, i64 ((c : Int) - 1))], [(1, some ⟨37, 3, pE o⟩), (2, some ⟨37, 3, pE u⟩), (3, some ⟨37, 3, [qC lead]⟩)], 4, 82⟩ := rfl
def dvT (q : List Rat) (lead : Rat) (n : Nat) (u : List Rat) (k : Rat) : Nat × List Rat → AState
 | (i, o) => ⟨[(0, .lsl 1 0 o.length none 3), (1, .arr (pE q)), (4, .lsl 2 0 u.length (some u.length) 3), (6, .lptr 3 0 0), (7, i64 n), (8, .lptr 4 0 0), (55, .arr (pE q)), (56, i64 q.length), (57, i64 i)], [(1, some ⟨37, 3, pE o⟩), (2, some ⟨37, 3, pE u⟩), (3, some ⟨37, 3, [qC lead]⟩), (4, some ⟨37, 3, [qC k]⟩)], 5, 82⟩
theorem dvT_mk (q : List Rat) (lead : Rat) (n : Nat) (u : List Rat) (k : Rat) (i : Nat) (o : List Rat) : dvT q lead n u k (i, o) = ⟨[(0, .lsl 1 0 o.length none 3), (1, .arr (pE q)), (4, .lsl 2 0 u.length (some u.length) 3), (6, .lptr 3 0 0), (7, i64 n), (8, .lptr 4 0 0), (55, .arr (pE q)), (56, i64 q.length), (57, i64 i)], [(1, some ⟨37, 3, pE o⟩), (2, some ⟨37, 3, pE u⟩), (3, some ⟨37, 3, [qC lead]⟩), (4, some ⟨37, 3, [qC k]⟩)], 5, 82⟩ := rfl
theorem in_ (p q : List Rat) (s t : Nat) (hp : bdL p s) (hq : bdL q t) (hs : 1 ≤ s) (ht : 1 ≤ t) (h : 2 ^ ((trimQ p).length + 1 - (trimQ q).length) * (s + 2 * t + 1) ≤ 137438953472) (hq0 : trimQ q ≠ []) (hp1 : p.length ≤ 274877906944) (hq1 : q.length ≤ 274877906944) : FSpec Tryz.prog 92 [.arr (pE p), .arr (pE q)] (.tup [.arr (pE (divP p q).1), .arr (pE (divP p q).2)]) := by
 have hlp := bm_ p
 have hlq := bm_ q
 have hql := List.length_pos_iff.2 hq0
 have hg : (pE (trimQ q))[(((trimQ q).length : Int) - 1).toNat]? = some (qC (leadP q)) := by
  rw [show (((trimQ q).length : Int) - 1).toNat = (trimQ q).length - 1 by omega]; exact cv_ (dt_ (by omega))
 have hne := jg_ hq0
 obtain ⟨m, hm⟩ : ∃ m, m = (trimQ p).length + 1 - (trimQ q).length := ⟨_, rfl⟩
 have hmx : (if (0 : Int) > ((trimQ p).length : Int) - (trimQ q).length + 1 then (0 : Int) else ((trimQ p).length : Int) - (trimQ q).length + 1) = (m : Int) := by split <;> omega
 have hB : divB (trimQ q) (leadP q) 137438953472 m (List.replicate m 0) (trimQ p) := by
  refine ⟨s, t, fo_ (fun x hx => hp x (ca_ hx)) hs, fo_ (fun x hx => hq x (ca_ hx)) ht, hq _ (ca_ (List.mem_of_getElem? (dt_ (n := (trimQ q).length - 1) (by omega)))), ht, fun n => ?_, by rw [hm]; exact h⟩
  have : coP (List.replicate m 0) n = 0 := by
   unfold coP
   rw [List.getD_eq_getElem?_getD, List.getElem?_replicate]
   split <;> rfl
  rw [this]; decide
 have hdv : divP p q = (trimQ (divR (trimQ q) (leadP q) m (List.replicate m 0) (trimQ p)).1, trimQ (divR (trimQ q) (leadP q) m (List.replicate m 0) (trimQ p)).2) := by rw [hm]; rfl
 rw [hdv]
 refine FSpec.enter Tryz.func92 rfl (by kernel_rfl) rfl rfl rfl ?_ rfl ?_
 ·exact aa_ (ad_ p) (aa_ (ad_ q) ab_)
 refine r_z 2 ?_
 by_cases hp0 : trimQ p = []
 ·have hm0 : m = 0 := by rw [hm, hp0]; simp; omega
  subst hm0
  rw [hp0] at hmx ⊢
  have htp := dv_ p (by omega)
  rw [hp0] at htp
  refine r_c 6 (htp) ?_
  refine c_s (dv_ q (by omega)) ?_
  refine a_z ?_
  refine s_r 8 ?_
  refine a_4 ?_
  first | refine AR.op0 (.index_l rfl rfl (by omega) (by omega) te_25.h) rfl rfl ?_ | refine AR.op0 (.index_a rfl rfl (by omega) hg rfl te_25.h) rfl rfl ?_
  first | refine AR.op0 (.load_l rfl rfl hg tg_37.h ts_37.h (nle rfl)) rfl rfl ?_ | refine AR.op0 (.load_a rfl hg tg_37.h ts_37.h (nle rfl)) rfl rfl ?_
  refine a_z ?_
  refine s_r 9 ?_
  refine a_7 ?_
  refine o_1 (.makeSlice (l := 0) (c := 0) (by rw [← hmx]; rfl) (by rw [← hmx]; rfl) te_25.h tz_37.h rfl tb_37.h (by first | omega | (simp; done) | (simp; omega)) (by first | omega | (simp; done) | (simp; omega)) (by unfold maxLen; first | omega | (simp; done) | (simp; omega))) ?_
  refine a_z ?_
  refine AWp.seq ?_
  refine r_z 6 ?_
  refine AWp.cutT (fun _ : Unit => ⟨[(0, .arr (pE [])), (4, .lsl 2 0 0 (some 0) 3)], [(2, some ⟨37, 3, []⟩)], 3, 82⟩) (fun _ => True) ?_ ?_
  ·refine AWp.block ?_
   refine AWp.loopS (fun _ : Unit => ⟨[(0, .arr (pE [])), (4, .lsl 2 0 0 (some 0) 3), (7, i64 (0 - ((trimQ q).length : Int)))], [(2, some ⟨37, 3, []⟩)], 3, 82⟩) (fun _ => 0) (fun _ => True) () trivial ?_ ?_
   ·refine SEnt.to [(2, 4)] rfl rfl rfl au_r (fun hs => au_f) (fun hs => ?_)
    ·repeat' (first | exact CvH.nil | refine CvH.cons rfl rfl rfl rfl ?_ ?_)
     all_goals (first | (exact CvLL.nil) | exact au_e)
   rintro _ _
   refine AWp.seq ?_
   refine r_z 2 ?_
   refine AWp.cond rfl (fun h1 => ?_) (fun h1 => ?_)
   ·exact absurd h1 (by simp; omega)
   ·refine AWp.exit ⟨(), trivial, ?_⟩
    refine SEnt.to [] rfl rfl rfl au_r (fun hs => au_f) (fun hs => ?_)
    ·repeat' (first | exact CvH.nil | refine CvH.cons rfl rfl rfl rfl ?_ ?_)
     all_goals (first | (exact CvLL.nil) | exact au_e)
  rintro _ _
  refine s_r 6 ?_
  refine a_1 ?_
  refine o_1 (.callS1 rfl rfl rfl (.shut rfl (by first | exact nle rfl | (simp; done) | (simp; omega)) (.nil)) rfl ((dv_ [] (by simp)))) ?_
  refine c_s (dv_ [] (by simp)) ?_
  refine a_z ?_
  refine AWp.ret ?_
  refine Fin.many ⟨_, _, rfl, rfl, ⟨_, _, rfl, rfl, rfl⟩⟩ (nle rfl) ?_
  exact CvL.cons (Cv.clo am_ (ad_ _)) (CvL.cons (Cv.clo am_ (ad_ _)) CvL.nil)
 have hpl := List.length_pos_iff.2 hp0
 have hto := os_Trim p hp0 (by omega)
 have hdl := gh_ (trimQ q) (leadP q) m (List.replicate m 0) (trimQ p)
 have hend := yg_ hB
 refine s_r 6 ?_
 refine a_1 ?_
 refine o_1 (.callO rfl rfl rfl (hto)) ?_
 refine c_s (dv_ q (by omega)) ?_
 refine a_z ?_
 refine AWp.ent (st' := ⟨[(0, .lsl 1 0 (trimQ p).length none 3), (1, .arr (pE (trimQ q)))], [(1, some ⟨37, 3, pE (trimQ p)⟩)], 2, 82⟩) ?_ ?_
 ·exact s_e [(1, 0)]
 refine s_r 8 ?_
 refine a_4 ?_
 first | refine AR.op0 (.index_l rfl rfl (by omega) (by omega) te_25.h) rfl rfl ?_ | refine AR.op0 (.index_a rfl rfl (by omega) hg rfl te_25.h) rfl rfl ?_
 first | refine AR.op0 (.load_l rfl rfl hg tg_37.h ts_37.h (nle rfl)) rfl rfl ?_ | refine AR.op0 (.load_a rfl hg tg_37.h ts_37.h (nle rfl)) rfl rfl ?_
 refine a_z ?_
 refine s_r 9 ?_
 refine a_7 ?_
 refine o_1 (.makeSlice (l := m) (c := m) (by rw [← hmx]; rfl) (by rw [← hmx]; rfl) te_25.h tz_37.h rfl tb_37.h (by first | omega | (simp; done) | (simp; omega)) (by first | omega | (simp; done) | (simp; omega)) (by unfold maxLen; first | omega | (simp; done) | (simp; omega))) ?_
 refine a_z ?_
 refine AWp.seq ?_
 refine r_z 6 ?_
 refine AWp.cutT (fun x : List Rat × List Rat => ⟨[(0, .lsl 1 0 x.2.length none 3), (4, .lsl 2 0 x.1.length (some x.1.length) 3)], [(1, some ⟨37, 3, pE x.2⟩), (2, some ⟨37, 3, pE x.1⟩)], 3, 82⟩) (fun x => x = divR (trimQ q) (leadP q) m (List.replicate m 0) (trimQ p)) ?_ ?_
 ·refine AWp.block ?_
  by_cases hab : (trimQ p).length < (trimQ q).length
  ·have hm0 : m = 0 := by omega
   subst hm0
   refine AWp.loopS (fun _ : Unit => ⟨[(0, .lsl 1 0 (trimQ p).length none 3), (4, .lsl 2 0 0 (some 0) 3), (7, i64 (((trimQ p).length : Int) - ((trimQ q).length : Int)))], [(1, some ⟨37, 3, pE (trimQ p)⟩), (2, some ⟨37, 3, []⟩)], 3, 82⟩) (fun _ => 0) (fun _ => True) () trivial ?_ ?_
   ·refine SEnt.to [(1, 0), (2, 4)] rfl rfl rfl au_r (fun hs => au_f) (fun hs => ?_)
    ·repeat' (first | exact CvH.nil | refine CvH.cons rfl rfl rfl rfl ?_ ?_)
     all_goals (first | (exact CvLL.nil) | exact au_e)
   rintro _ _
   refine AWp.seq ?_
   refine r_z 2 ?_
   refine AWp.cond rfl (fun h1 => ?_) (fun h1 => ?_)
   ·exact absurd h1 (by simp; omega)
   ·refine AWp.exit ⟨([], trimQ p), rfl, ?_⟩
    refine SEnt.to [] rfl rfl rfl au_r (fun hs => au_f) (fun hs => ?_)
    ·repeat' (first | exact CvH.nil | refine CvH.cons rfl rfl rfl rfl ?_ ?_)
     all_goals (first | (exact CvLL.nil) | exact au_e)
  refine AWp.loopS (fun x : Nat × List Rat × List Rat => dvS (trimQ q) (leadP q) x) (fun x => x.1) (fun x => x.1 ≤ m ∧ x.2.1.length = m ∧ x.2.2.length = (trimQ p).length ∧ divB (trimQ q) (leadP q) 137438953472 x.1 x.2.1 x.2.2 ∧ divR (trimQ q) (leadP q) x.1 x.2.1 x.2.2 = divR (trimQ q) (leadP q) m (List.replicate m 0) (trimQ p)) (m, List.replicate m 0, trimQ p) ⟨Nat.le_refl _, by simp, rfl, hB, rfl⟩ ?_ ?_
  ·simp only [dvS_mk]
   have hm1 : ((trimQ p).length : Int) - (trimQ q).length = (m : Int) - 1 := by omega
   rw [hm1]
   refine SEnt.to [(1, 0), (2, 4), (3, 6)] rfl rfl rfl au_r (fun hs => au_f) (fun hs => ?_)
   ·repeat' (first | exact CvH.nil | refine CvH.cons rfl rfl rfl rfl ?_ ?_)
    all_goals (first | (exact CvLL.zeros hs _) | exact au_e)
  rintro ⟨c, u, o⟩ ⟨hc, hu, ho, hb, hr⟩
  simp only at hc hu ho hb hr
  simp only [dvS_mk]
  cases c with
  | zero =>
   refine AWp.seq ?_
   refine r_z 2 ?_
   refine AWp.cond rfl (fun h1 => ?_) (fun h1 => ?_)
   ·exact absurd h1 (by simp)
   ·refine AWp.exit ⟨(u, o), hr, ?_⟩
    exact s_e []
  | succ n =>
   obtain ⟨B, tt, hb1, hb2, hb3, hb4⟩ := divB_cur hb
   have hcn : ((n + 1 : Nat) : Int) - 1 = (n : Int) := by omega
   rw [hcn]
   refine AWp.seq ?_
   refine r_z 2 ?_
   refine AWp.cond rfl (fun h1 => ?_) (fun h1 => ?_)
   ·refine AWp.skip ?_
    obtain ⟨k, hk⟩ : ∃ k, k = coP o (n + (trimQ q).length - 1) / leadP q := ⟨_, rfl⟩
    have hst := wj_ hb
    rw [divR] at hr
    rw [← hk] at hst hr
    have hgo : (pE o)[(0 + (((n : Nat) : Int) + ((trimQ q).length : Nat) - 1).toNat)]? = some (qC (coP o (n + (trimQ q).length - 1))) := by
     rw [show 0 + (((n : Nat) : Int) + ((trimQ q).length : Nat) - 1).toNat = n + (trimQ q).length - 1 by omega]; exact cv_ (bg_ (by omega))
    have hov := fh_ (coP o (n + (trimQ q).length - 1)) (leadP q) hne (by have := hb1 (n + (trimQ q).length - 1); omega)
    rw [← hk] at hov
    have hgu : (pE u)[0 + ((n : Nat) : Int).toNat]? = some (qC (coP u n)) := by
     rw [show 0 + ((n : Nat) : Int).toNat = n by omega]; exact cv_ (bg_ (by omega))
    refine AWp.seq ?_
    refine AWp.block ?_
    refine AWp.seq ?_
    refine AWp.regD hmix (m := 12) rfl ?_
    refine a_7 ?_
    first | refine AR.op0 (.load_l rfl rfl hgo tg_37.h ts_37.h (nle rfl)) rfl rfl ?_ | refine AR.op0 (.load_a rfl hgo tg_37.h ts_37.h (nle rfl)) rfl rfl ?_
    refine c_s (hov) ?_
    refine a_2 ?_
    refine AR.nil ⟨by kernel_rfl, ?_⟩
    refine s_r 5 ?_
    refine a_4 ?_
    refine o_1n (.store rfl rfl hgu rfl rfl rfl ts_37.h (nle rfl)) ?_
    refine AR.nil ?_
    have hsu : (pE u).set (0 + ((n : Nat) : Int).toNat) (qC k) = pE (u.set n k) := by
     rw [show 0 + ((n : Nat) : Int).toNat = n by omega, gt_]
    have hlu : (u.set n k).length = u.length := by simp
    refine AWp.seq ?_
    refine r_c 3 (dm_ k) ?_
    refine a_z ?_
    refine AWp.cond rfl (fun h2 => ?_) (fun h2 => ?_)
    ·have h0 : k = 0 := by
      have h2 : sgZ k.num = 0 := by simpa using h2
      exact sgZ_num_eq.1 h2
     rw [if_pos h0] at hst hr
     refine AWp.exit ?_
     refine AWp.reg (m := 3) rfl ?_
     refine a_z ?_
     refine ⟨(n, u.set n k, o), Nat.lt_succ_self n, ⟨by omega, by simp only; omega, ho, hst, hr⟩, ?_⟩
     simp only [dvS_mk, hlu]
     refine SEnt.to [] rfl rfl rfl au_r (fun hs => au_f) (fun hs => ?_)
     ·repeat' (first | exact CvH.nil | refine CvH.cons rfl rfl rfl rfl ?_ ?_)
      all_goals (first | (exact CvLL.cloE hs hsu (ar_ _)) | exact au_e)
    ·have h0 : k ≠ 0 := by
      intro e
      have h2 : ¬ sgZ k.num = 0 := by simpa using h2
      exact h2 (sgZ_num_eq.2 e)
     rw [if_neg h0] at hst hr
     refine AWp.skip ?_
     refine r_z 3 ?_
     refine AWp.cutB (fun _ : Unit => ⟨[(0, .lsl 1 0 o.length none 3), (1, .arr (pE (trimQ q))), (4, .lsl 2 0 u.length (some u.length) 3), (6, .lptr 3 0 0), (7, i64 n)], [(1, some ⟨37, 3, pE (rowM o k (trimQ q) n (trimQ q).length)⟩), (2, some ⟨37, 3, pE (u.set n k)⟩), (3, some ⟨37, 3, [qC (leadP q)]⟩)], 4, 82⟩) (fun _ => True) ?_ ?_
     ·refine AWp.block ?_
      refine AWp.loopS (fun i : Nat => dvT (trimQ q) (leadP q) n (u.set n k) k (i, rowM o k (trimQ q) n i)) (fun i => (trimQ q).length - i) (fun i => i ≤ (trimQ q).length) 0 (Nat.zero_le _) ?_ ?_
      ·simp only [dvT_mk, rowM, hlu]
       refine SEnt.to [(4, 8)] rfl rfl rfl au_r (fun hs => au_f) (fun hs => ?_)
       ·repeat' (first | exact CvH.nil | refine CvH.cons rfl rfl rfl rfl ?_ ?_)
        all_goals (first | (exact CvLL.cloE hs hsu (ar_ _)) | exact au_e)
      rintro i hi
      simp only [dvT_mk]
      refine r_z 1 ?_
      refine AWp.seq ?_
      refine AWp.cond rfl (fun h3 => ?_) (fun h3 => ?_)
      ·refine AWp.skip ?_
       have hlt2 : i < (trimQ q).length := by simpa using h3
       have hgq : (pE (trimQ q))[((i : Nat) : Int).toNat]? = some (qC (coP (trimQ q) i)) := cv_ (bg_ hlt2)
       have hcur : qs (coP (rowM o k (trimQ q) n i) (n + i)) ≤ B := by
        rw [zd_ _ _ _ _ _ _ (by omega)]; exact hb1 _
       have hkq : qs k ≤ B + tt := by
        have e1 := ih_ (coP o (n + (trimQ q).length - 1)) (leadP q)
        have e2 := hb1 (n + (trimQ q).length - 1)
        rw [hk]; omega
       have hkm := gf_ k (coP (trimQ q) i)
       have hqi := hb2 i
       have hik : n + i < (rowM o k (trimQ q) n i).length := by simp; omega
       have hgr : (pE (rowM o k (trimQ q) n i))[(0 + (((n : Nat) : Int) + (i : Nat)).toNat)]? = some (qC (coP (rowM o k (trimQ q) n i) (n + i))) := by
        rw [show 0 + (((n : Nat) : Int) + (i : Nat)).toNat = n + i by omega]; exact cv_ (bg_ hik)
       refine AWp.seq ?_
       refine AWp.block ?_
       refine s_r 6 ?_
       refine a_1 ?_
       first | refine AR.op0 (.index_l rfl rfl (by omega) (by omega) te_25.h) rfl rfl ?_ | refine AR.op0 (.index_a rfl rfl (by omega) hgq rfl te_25.h) rfl rfl ?_
       first | refine AR.op0 (.load_l rfl rfl hgq tg_37.h ts_37.h (nle rfl)) rfl rfl ?_ | refine AR.op0 (.load_a rfl hgq tg_37.h ts_37.h (nle rfl)) rfl rfl ?_
       refine a_z ?_
       refine AWp.regD hmix (m := 16) rfl ?_
       refine a_8 ?_
       refine a_1 ?_
       first | refine AR.op0 (.load_l rfl rfl hgr tg_37.h ts_37.h (nle rfl)) rfl rfl ?_ | refine AR.op0 (.load_a rfl hgr tg_37.h ts_37.h (nle rfl)) rfl rfl ?_
       refine c_s (do_ k (coP (trimQ q) i) (by omega)) ?_
       refine c_s (rq_ (coP (rowM o k (trimQ q) n i) (n + i)) (k * coP (trimQ q) i) (by omega)) ?_
       refine a_1 ?_
       refine o_1n (.store rfl rfl hgr rfl rfl rfl ts_37.h (nle rfl)) ?_
       refine AR.nil ⟨by kernel_rfl, ?_⟩
       refine AWp.reg (m := 2) rfl ?_
       refine a_z ?_
       refine ⟨i + 1, by omega, hlt2, ?_⟩
       have hst2 : (pE (rowM o k (trimQ q) n i)).set (0 + (((n : Nat) : Int) + (i : Nat)).toNat) (qC (coP (rowM o k (trimQ q) n i) (n + i) - k * coP (trimQ q) i)) = pE (rowM o k (trimQ q) n (i + 1)) := by
        rw [show 0 + (((n : Nat) : Int) + (i : Nat)).toNat = n + i by omega, gt_]; rfl
       have hl2 : (rowM o k (trimQ q) n (i + 1)).length = (rowM o k (trimQ q) n i).length := by simp
       simp only [dvT_mk, hl2]
       refine SEnt.to [] rfl rfl rfl ?_ (fun hs => au_f) (fun hs => ?_)
       ·repeat' (first | exact ShrL.nil | refine ShrL.cons rfl rfl rfl rfl (by first | (simp) | rfl | (simp; done) | (simp <;> omega)) ?_)
       ·repeat' (first | exact CvH.nil | refine CvH.cons rfl rfl rfl rfl ?_ ?_)
        all_goals (first | (exact CvLL.cloE hs hst2 (ar_ _)) | exact au_e)
      ·have hge : i = (trimQ q).length := by
        have : ¬ i < (trimQ q).length := by simpa using h3
        omega
       subst hge
       refine AWp.exit ⟨(), trivial, ?_⟩
       rw [kb_, hlu]
       exact s_e []
     rintro _ _
     refine AWp.reg (m := 3) rfl ?_
     refine a_z ?_
     refine ⟨(n, u.set n k, rowM o k (trimQ q) n (trimQ q).length), Nat.lt_succ_self n, ⟨by omega, by simp only; omega, by simp only; rw [kb_]; exact ho, hst, hr⟩, ?_⟩
     simp only [dvS_mk, hlu, kb_]
     exact s_e []
   ·exact absurd h1 (by simp)
 rintro ⟨u, o⟩ hx
 rw [← hx] at hdl hend ⊢
 simp only at hdl hend ⊢
 have hlu : u.length ≤ 274877906945 := by rw [hdl.1]; simp; omega
 have hfu : List.take u.length (List.drop 0 (pE u)) = pE u := by rw [List.drop_zero, List.take_of_length_le (by simp)]
 have hfo : List.take o.length (List.drop 0 (pE o)) = pE o := by rw [List.drop_zero, List.take_of_length_le (by simp)]
 refine s_r 6 ?_
 refine a_1 ?_
 refine o_1 (.callS1 rfl rfl rfl (.shut rfl (by first | exact nle rfl | (simp; done) | (simp; omega)) (.nil)) rfl ((by rw [hfu]; exact dv_ u (by omega)))) ?_
 refine a_1 ?_
 refine o_1 (.callS1 rfl rfl rfl (.shut rfl (by first | exact nle rfl | (simp; done) | (simp; omega)) (.nil)) rfl ((by rw [hfo]; exact dv_ o (by rw [hdl.2]; omega)))) ?_
 refine a_z ?_
 refine AWp.ret ?_
 refine Fin.many ⟨_, _, rfl, rfl, ⟨_, _, rfl, rfl, rfl⟩⟩ (nle rfl) ?_
 exact CvL.cons (Cv.clo am_ (ad_ _)) (CvL.cons (Cv.clo am_ (ad_ _)) CvL.nil)
end Go.Proofs.YtdhedjbmdnnbkaaGreatDoor
