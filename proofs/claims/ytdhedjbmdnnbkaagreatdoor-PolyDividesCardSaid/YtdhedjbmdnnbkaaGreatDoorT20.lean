/- Part T20 of the proof. -/
import Derived.Test.YtdhedjbmdnnbkaaGreatDoorT19
set_option linter.all false
namespace Go.Proofs.YtdhedjbmdnnbkaaGreatDoor
open Go.Abs
set_option maxRecDepth 20000
def oS (t n : Nat) (fr : Fr) : List RQ → AState
 | [] => ⟨(t, .emp) :: fr, [], 1, n⟩
 | y :: Y => ⟨(t, .lsl 1 0 (Y.length + 1) none 4) :: fr, [(1, some ⟨75, 4, rE (y :: Y)⟩)], 2, n⟩
theorem oS_nil (t n : Nat) (fr : Fr) : oS t n fr [] = ⟨(t, .emp) :: fr, [], 1, n⟩ := rfl
theorem oS_cons (t n : Nat) (fr : Fr) (y : RQ) (Y : List RQ) : oS t n fr (y :: Y) = ⟨(t, .lsl 1 0 (Y.length + 1) none 4) :: fr, [(1, some ⟨75, 4, rE (y :: Y)⟩)], 2, n⟩ := rfl
def rP (v : List Rat) : List RQ := v.map rq
theorem okX_rP (v : List Rat) : okX (rP v) := fun y hy => by obtain ⟨q, _, rfl⟩ := List.mem_map.1 hy; exact rok_rq q
theorem vR_rP (v : List Rat) : vR (rP v) = v := by
 unfold vR rP
 rw [List.map_map]
 exact List.map_id' v
@[simp] theorem rP_length (v : List Rat) : (rP v).length = v.length := by simp [rP]
theorem trimR_rP (v : List Rat) : trimR (rP v) = rP (trimQ v) := by
 unfold trimR
 rw [vR_rP, rP, ← List.map_take, ← trimQ_pre]; rfl
theorem vR_get {x : List RQ} {i : Nat} (h : i < x.length) : ∃ y, x[i]? = some y ∧ y.1 = coP (vR x) i := by
 refine ⟨_, List.getElem?_eq_getElem h, ?_⟩
 unfold coP vR
 rw [List.getD_eq_getElem?_getD, List.getElem?_map, List.getElem?_eq_getElem h]; rfl
theorem vR_bd {x : List RQ} {s : Nat} (h : bdL (vR x) s) {y : RQ} {i : Nat} (hy : x[i]? = some y) : qs y.1 ≤ s := h _ (List.mem_map.2 ⟨y, List.mem_of_getElem? hy, rfl⟩)
theorem take_succ' {V : List Rat} {j : Nat} (h : j < V.length) : V.take (j + 1) = V.take j ++ [coP V j] := take_snoc (coP_get h)
theorem fs_rDerive (x : List RQ) (s : Nat) (hx : okX x) (hs : bdL (vR x) s) (hlim : s + 64 ≤ 1099511627776) (hl : x.length ≤ 1000000) : FSpec Tryz.prog 25 [.arr (rE x)] (.arr (rE (rP (deriveP (vR x))))) := by
 obtain ⟨V, hV⟩ : ∃ V, V = tabP ((vR x).length - 1) (fun i => coP (vR x) (i + 1) * ((i + 1 : Nat) : Int)) := ⟨_, rfl⟩
 refine FSpec.enter Tryz.func25 rfl (by kernel_rfl) rfl rfl rfl ?_ rfl ?_
 ·exact closed_cons (closed_rEA x) closed_nil
 refine r_z 1 ?_
 refine r_z 1 ?_
 refine AWp.seq ?_
 refine r_z 1 ?_
 have hVl : V.length = x.length - 1 := by rw [hV]; simp
 refine AWp.cutT (fun _ : Unit => oS 3 23 [(0, .arr (rE x))] (rP V)) (fun _ => True) ?_ ?_
 ·refine AWp.block ?_
  refine AWp.loopS (fun j : Nat => oS 3 23 [(4, i64 ((j + 1 : Nat) : Int)), (0, .arr (rE x))] (rP (V.take j))) (fun j => V.length - j) (fun j => j ≤ V.length) 0 (Nat.zero_le _) ?_ ?_
  ·show SEnt _ (oS _ _ _ [])
   rw [oS_nil]
   exact s_e []
  rintro j hj
  by_cases hlt : j < V.length
  ·obtain ⟨y, hy, hyv⟩ := vR_get (x := x) (i := j + 1) (by omega)
   have hyb := vR_bd hs hy
   have hyo := hx y (List.mem_of_getElem? hy)
   have hgt : (rE x)[((j + 1 : Nat) : Int).toNat]? = some (rC y) := rE_get hy
   obtain ⟨c, hc⟩ : ∃ c, c = y.1 * ((j + 1 : Nat) : Int) := ⟨_, rfl⟩
   have hco : coP V j = c := by rw [hV, coP_tab, if_pos (by simp; omega), ← hyv, hc]
   have hm := fs_rMul y (rq (((j + 1 : Nat) : Int) : Rat)) hyo (rok_rq _) (by have := qs_small (j + 1) (by omega); show qs y.1 + qs (((j + 1 : Nat) : Int) : Rat) ≤ _; omega)
   rw [show y.1 * (rq (((j + 1 : Nat) : Int) : Rat)).1 = c by rw [hc]; rfl] at hm
   have htk := take_succ' hlt
   rw [hco] at htk
   have hrp : rP (V.take (j + 1)) = rP (V.take j) ++ [rq c] := by rw [htk]; simp [rP]
   have hQl : (rP (V.take j)).length = j := by simp; omega
   cases hQ : rP (V.take j) with
   | nil =>
    rw [hQ, List.nil_append] at hrp
    simp only [oS_nil]
    refine AWp.seq ?_
    refine s_r 4 ?_
    refine a_3 ?_
    refine o_0 (.bin rfl rfl (vT binI_lss (decide_eq_true (by omega)))) ?_
    refine AR.nil ?_
    refine AWp.cond rfl (fun h => ?_) (fun h => ?_)
    rotate_left
    ·cases h
    refine AWp.skip ?_
    refine AWp.seq ?_
    refine AWp.block ?_
    refine AWp.regD hmix (m := 11) rfl ?_
    refine a_3 ?_
    first | refine AR.op0 (.index_l rfl rfl (by omega) (by omega) te_27.h) rfl rfl ?_ | refine AR.op0 (.index_a rfl rfl (by omega) hgt rfl te_27.h) rfl rfl ?_
    first | refine AR.op0 (.load_l rfl rfl hgt tg_75.h ts_75.h (nle rfl)) rfl rfl ?_ | refine AR.op0 (.load_a rfl hgt tg_75.h ts_75.h (nle rfl)) rfl rfl ?_
    refine c_s (fs_rInt ((j + 1 : Nat) : Int) (by omega)) ?_
    refine c_s (hm) ?_
    refine a_3 ?_
    refine AR.nil ⟨by kernel_rfl, ?_⟩
    refine AWp.reg (m := 3) rfl ?_
    refine a_z ?_
    refine ⟨j + 1, by omega, hlt, ?_⟩
    rw [hrp, oS_cons]
    refine SEnt.to [(1, 3)] rfl rfl rfl au_r (fun hs => au_f) (fun hs => ?_)
    ·repeat' (first | exact CvH.nil | refine CvH.cons rfl rfl rfl rfl ?_ ?_)
     all_goals (first | (exact CvLL.clo hs (closed_rE _)) | exact au_e)
   | cons q Q =>
    rw [hQ] at hQl
    rw [hQ, List.cons_append] at hrp
    simp at hQl
    simp only [oS_cons]
    refine AWp.seq ?_
    refine s_r 4 ?_
    refine a_3 ?_
    refine o_0 (.bin rfl rfl (vT binI_lss (decide_eq_true (by omega)))) ?_
    refine AR.nil ?_
    refine AWp.cond rfl (fun h => ?_) (fun h => ?_)
    rotate_left
    ·cases h
    refine AWp.skip ?_
    refine AWp.seq ?_
    refine AWp.block ?_
    refine AWp.regD hmix (m := 11) rfl ?_
    refine a_3 ?_
    first | refine AR.op0 (.index_l rfl rfl (by omega) (by omega) te_27.h) rfl rfl ?_ | refine AR.op0 (.index_a rfl rfl (by omega) hgt rfl te_27.h) rfl rfl ?_
    first | refine AR.op0 (.load_l rfl rfl hgt tg_75.h ts_75.h (nle rfl)) rfl rfl ?_ | refine AR.op0 (.load_a rfl hgt tg_75.h ts_75.h (nle rfl)) rfl rfl ?_
    refine c_s (fs_rInt ((j + 1 : Nat) : Int) (by omega)) ?_
    refine c_s (hm) ?_
    refine a_3 ?_
    refine AR.nil ⟨by kernel_rfl, ?_⟩
    refine AWp.reg (m := 3) rfl ?_
    refine a_z ?_
    refine ⟨j + 1, by omega, hlt, ?_⟩
    rw [hrp, oS_cons]
    have e : rE (q :: Q) ++ [rC (rq c)] = rE (q :: (Q ++ [rq c])) := by simp [rE]
    refine SEnt.to [(1, 3)] rfl rfl rfl ?_ (fun hs => au_f) (fun hs => ?_)
    ·repeat' (first | exact ShrL.nil | refine ShrL.cons rfl rfl rfl rfl (by first | (simp) | rfl | (simp; done) | (simp <;> omega)) ?_)
    ·repeat' (first | exact CvH.nil | refine CvH.cons rfl rfl rfl rfl ?_ ?_)
     all_goals (first | (exact CvLL.cloE hs e (closed_rE _)) | exact au_e)
  ·have hge : j = V.length := by omega
   subst hge
   rw [List.take_length]
   cases hQ : rP V with
   | nil =>
    simp only [oS_nil]
    refine AWp.seq ?_
    refine s_r 4 ?_
    refine a_3 ?_
    refine o_0 (.bin rfl rfl (vF binI_lss (decide_eq_false (by omega)))) ?_
    refine AR.nil ?_
    refine AWp.cond rfl (fun h => ?_) (fun h => ?_)
    ·cases h
    refine AWp.exit ⟨(), trivial, ?_⟩
    exact s_e []
   | cons q Q =>
    simp only [oS_cons]
    refine AWp.seq ?_
    refine s_r 4 ?_
    refine a_3 ?_
    refine o_0 (.bin rfl rfl (vF binI_lss (decide_eq_false (by omega)))) ?_
    refine AR.nil ?_
    refine AWp.cond rfl (fun h => ?_) (fun h => ?_)
    ·cases h
    refine AWp.exit ⟨(), trivial, ?_⟩
    refine SEnt.to [(1, 3)] rfl rfl rfl au_r (fun hs => au_f) (fun hs => ?_)
    ·repeat' (first | exact CvH.nil | refine CvH.cons rfl rfl rfl rfl ?_ ?_)
     all_goals (first | (exact CvLL.clo hs (closed_rE _)) | exact au_e)
 rintro _ _
 have htr := fs_rTrim (rP V) (by simp; omega)
 rw [trimR_rP] at htr
 cases hQ : rP V with
 | nil =>
  rw [hQ] at htr
  simp only [oS_nil]
  refine r_c 3 (htr) ?_
  refine a_z ?_
  refine AWp.ret ?_
  refine Fin.tmpE rfl ?_ ?_
  ·rw [hV]; rfl
  ·exact closed_rEA _
 | cons q Q =>
  rw [hQ] at htr
  simp only [oS_cons]
  refine s_r 3 ?_
  refine a_1 ?_
  refine o_1 (.callS1 rfl rfl rfl (.shut rfl (by first | exact nle rfl | (simp; done) | (simp; omega)) (.nil)) rfl ((FSpec.argE htr (by rw [List.drop_zero]; exact List.take_of_length_le (by simp))))) ?_
  refine a_z ?_
  refine AWp.ret ?_
  refine Fin.tmpE rfl ?_ ?_
  ·rw [hV]; rfl
  ·exact closed_rEA _
theorem fs_rScale (x : List RQ) (k : RQ) (s : Nat) (hx : okX x) (hk : rok k) (hs : bdL (vR x) s) (hlim : s + qs k.1 ≤ 1099511627776) (hl : x.length ≤ 1000000) : FSpec Tryz.prog 48 [.arr (rE x), .agg (rC k)] (.arr (rE (rP (scaleP (vR x) k.1)))) := by
 obtain ⟨V, hV⟩ : ∃ V, V = tabP (vR x).length (fun i => coP (vR x) i * k.1) := ⟨_, rfl⟩
 refine FSpec.enter Tryz.func48 rfl (by kernel_rfl) rfl rfl rfl ?_ rfl ?_
 ·exact closed_cons (closed_rEA x) (closed_cons (closed_rA k) closed_nil)
 have hkc : Closed (.aptr [rC k] 0 0) := closed_box (closed_rC k)
 refine r_z 2 ?_
 refine AWp.ent (st' := ⟨[(3, .aptr [rC k] 0 0), (0, .arr (rE x))], [], 1, 24⟩) ?_ ?_
 ·refine SEnt.to [] rfl rfl rfl au_r (fun hs => ?_) (fun hs => ?_)
  ·repeat' (first | exact CvF.nil | refine CvF.cons rfl ?_ ?_)
   all_goals (first | (exact Cv.boxp hs rfl (dead_of rfl) rfl (closed_rC k)) | exact au_c)
  ·repeat' (first | exact CvH.nil | refine CvH.cons rfl rfl rfl rfl ?_ ?_)
   all_goals (first | exact au_e | (refine CvLL.box ?_; repeat' (first | exact CvL.nil | refine CvL.cons ?_ ?_)))
   all_goals (first | (exact Cv.boxp hs rfl (dead_of rfl) rfl (closed_rC k)) | exact au_c)
 refine r_z 1 ?_
 refine AWp.seq ?_
 refine r_z 1 ?_
 have hVl : V.length = x.length := by rw [hV]; simp
 refine AWp.cutT (fun _ : Unit => oS 5 24 [(3, .aptr [rC k] 0 0), (0, .arr (rE x))] (rP V)) (fun _ => True) ?_ ?_
 ·refine AWp.block ?_
  refine AWp.loopS (fun j : Nat => oS 5 24 [(6, i64 ((j : Nat) : Int)), (3, .aptr [rC k] 0 0), (0, .arr (rE x))] (rP (V.take j))) (fun j => V.length - j) (fun j => j ≤ V.length) 0 (Nat.zero_le _) ?_ ?_
  ·show SEnt _ (oS _ _ _ [])
   rw [oS_nil]
   exact s_e []
  rintro j hj
  by_cases hlt : j < V.length
  ·obtain ⟨y, hy, hyv⟩ := vR_get (x := x) (i := j) (by omega)
   have hyb := vR_bd hs hy
   have hyo := hx y (List.mem_of_getElem? hy)
   have hgt : (rE x)[((j : Nat) : Int).toNat]? = some (rC y) := rE_get hy
   obtain ⟨c, hc⟩ : ∃ c, c = y.1 * k.1 := ⟨_, rfl⟩
   have hco : coP V j = c := by rw [hV, coP_tab, if_pos (by simp; omega), ← hyv, hc]
   have hm := fs_rMul y k hyo hk (by omega)
   rw [← hc] at hm
   have htk := take_succ' hlt
   rw [hco] at htk
   have hrp : rP (V.take (j + 1)) = rP (V.take j) ++ [rq c] := by rw [htk]; simp [rP]
   have hQl : (rP (V.take j)).length = j := by simp; omega
   cases hQ : rP (V.take j) with
   | nil =>
    rw [hQ, List.nil_append] at hrp
    simp only [oS_nil]
    refine AWp.seq ?_
    refine s_r 4 ?_
    refine a_3 ?_
    refine o_0 (.bin rfl rfl (vT binI_lss (decide_eq_true (by omega)))) ?_
    refine AR.nil ?_
    refine AWp.cond rfl (fun h => ?_) (fun h => ?_)
    rotate_left
    ·cases h
    refine AWp.skip ?_
    refine AWp.seq ?_
    refine AWp.block ?_
    refine AWp.regD hmix (m := 10) rfl ?_
    refine a_3 ?_
    first | refine AR.op0 (.index_l rfl rfl (by omega) (by omega) te_27.h) rfl rfl ?_ | refine AR.op0 (.index_a rfl rfl (by omega) hgt rfl te_27.h) rfl rfl ?_
    first | refine AR.op0 (.load_l rfl rfl hgt tg_75.h ts_75.h (nle rfl)) rfl rfl ?_ | refine AR.op0 (.load_a rfl hgt tg_75.h ts_75.h (nle rfl)) rfl rfl ?_
    refine c_s (hm) ?_
    refine a_3 ?_
    refine AR.nil ⟨by kernel_rfl, ?_⟩
    refine AWp.reg (m := 3) rfl ?_
    refine a_z ?_
    refine ⟨j + 1, by omega, hlt, ?_⟩
    rw [hrp, oS_cons]
    refine SEnt.to [(1, 5)] rfl rfl rfl au_r (fun hs => au_f) (fun hs => ?_)
    ·repeat' (first | exact CvH.nil | refine CvH.cons rfl rfl rfl rfl ?_ ?_)
     all_goals (first | (exact CvLL.clo hs (closed_rE _)) | exact au_e)
   | cons q Q =>
    rw [hQ] at hQl
    rw [hQ, List.cons_append] at hrp
    simp at hQl
    simp only [oS_cons]
    refine AWp.seq ?_
    refine s_r 4 ?_
    refine a_3 ?_
    refine o_0 (.bin rfl rfl (vT binI_lss (decide_eq_true (by omega)))) ?_
    refine AR.nil ?_
    refine AWp.cond rfl (fun h => ?_) (fun h => ?_)
    rotate_left
    ·cases h
    refine AWp.skip ?_
    refine AWp.seq ?_
    refine AWp.block ?_
    refine AWp.regD hmix (m := 10) rfl ?_
    refine a_3 ?_
    first | refine AR.op0 (.index_l rfl rfl (by omega) (by omega) te_27.h) rfl rfl ?_ | refine AR.op0 (.index_a rfl rfl (by omega) hgt rfl te_27.h) rfl rfl ?_
    first | refine AR.op0 (.load_l rfl rfl hgt tg_75.h ts_75.h (nle rfl)) rfl rfl ?_ | refine AR.op0 (.load_a rfl hgt tg_75.h ts_75.h (nle rfl)) rfl rfl ?_
    refine c_s (hm) ?_
    refine a_3 ?_
    refine AR.nil ⟨by kernel_rfl, ?_⟩
    refine AWp.reg (m := 3) rfl ?_
    refine a_z ?_
    refine ⟨j + 1, by omega, hlt, ?_⟩
    rw [hrp, oS_cons]
    have e : rE (q :: Q) ++ [rC (rq c)] = rE (q :: (Q ++ [rq c])) := by simp [rE]
    refine SEnt.to [(1, 5)] rfl rfl rfl ?_ (fun hs => au_f) (fun hs => ?_)
    ·repeat' (first | exact ShrL.nil | refine ShrL.cons rfl rfl rfl rfl (by first | (simp) | rfl | (simp; done) | (simp <;> omega)) ?_)
    ·repeat' (first | exact CvH.nil | refine CvH.cons rfl rfl rfl rfl ?_ ?_)
     all_goals (first | (exact CvLL.cloE hs e (closed_rE _)) | exact au_e)
  ·have hge : j = V.length := by omega
   subst hge
   rw [List.take_length]
   cases hQ : rP V with
   | nil =>
    simp only [oS_nil]
    refine AWp.seq ?_
    refine s_r 4 ?_
    refine a_3 ?_
    refine o_0 (.bin rfl rfl (vF binI_lss (decide_eq_false (by omega)))) ?_
    refine AR.nil ?_
    refine AWp.cond rfl (fun h => ?_) (fun h => ?_)
    ·cases h
    refine AWp.exit ⟨(), trivial, ?_⟩
    exact s_e []
   | cons q Q =>
    simp only [oS_cons]
    refine AWp.seq ?_
    refine s_r 4 ?_
    refine a_3 ?_
    refine o_0 (.bin rfl rfl (vF binI_lss (decide_eq_false (by omega)))) ?_
    refine AR.nil ?_
    refine AWp.cond rfl (fun h => ?_) (fun h => ?_)
    ·cases h
    refine AWp.exit ⟨(), trivial, ?_⟩
    refine SEnt.to [(1, 5)] rfl rfl rfl au_r (fun hs => au_f) (fun hs => ?_)
    ·repeat' (first | exact CvH.nil | refine CvH.cons rfl rfl rfl rfl ?_ ?_)
     all_goals (first | (exact CvLL.clo hs (closed_rE _)) | exact au_e)
 rintro _ _
 have htr := fs_rTrim (rP V) (by simp; omega)
 rw [trimR_rP] at htr
 cases hQ : rP V with
 | nil =>
  rw [hQ] at htr
  simp only [oS_nil]
  refine r_c 3 (htr) ?_
  refine a_z ?_
  refine AWp.ret ?_
  refine Fin.tmpE rfl ?_ ?_
  ·rw [hV]; rfl
  ·exact closed_rEA _
 | cons q Q =>
  rw [hQ] at htr
  simp only [oS_cons]
  refine s_r 3 ?_
  refine a_1 ?_
  refine o_1 (.callS1 rfl rfl rfl (.shut rfl (by first | exact nle rfl | (simp; done) | (simp; omega)) (.nil)) rfl ((FSpec.argE htr (by rw [List.drop_zero]; exact List.take_of_length_le (by simp))))) ?_
  refine a_z ?_
  refine AWp.ret ?_
  refine Fin.tmpE rfl ?_ ?_
  ·rw [hV]; rfl
  ·exact closed_rEA _
theorem fs_rIntegral (x : List RQ) (s : Nat) (hx : okX x) (hs : bdL (vR x) s) (hlim : s + 64 ≤ 1099511627776) (hl : x.length ≤ 1000000) : FSpec Tryz.prog 27 [.arr (rE x)] (.arr (rE (rP (integralP (vR x))))) := by
 obtain ⟨V, hV⟩ : ∃ V, V = tabP ((vR x).length + 1) (fun i => if i = 0 then 0 else coP (vR x) (i - 1) / ((i : Nat) : Int)) := ⟨_, rfl⟩
 refine FSpec.enter Tryz.func27 rfl (by kernel_rfl) rfl rfl rfl ?_ rfl ?_
 ·exact closed_cons (closed_rEA x) closed_nil
 have hi0 : FSpec Tryz.prog 51 [i64 0] (.agg (rC (rq 0))) := fs_rInt 0 (by decide)
 refine r_z 1 ?_
 refine r_c 3 (hi0) ?_
 refine a_z ?_
 refine AWp.seq ?_
 refine r_z 1 ?_
 have hVl : V.length = x.length + 1 := by rw [hV]; simp
 refine AWp.cutT (fun _ : Unit => oS 3 26 [(0, .arr (rE x))] (rP V)) (fun _ => True) ?_ ?_
 ·refine AWp.block ?_
  refine AWp.loopS (fun j : Nat => oS 3 26 [(4, i64 ((j : Nat) : Int)), (0, .arr (rE x))] (rP (V.take (j + 1)))) (fun j => x.length - j) (fun j => j ≤ x.length) 0 (Nat.zero_le _) ?_ ?_
  ·have e0 : rP (V.take (0 + 1)) = [rq 0] := by
    rw [take_succ' (by omega), hV, coP_tab, if_pos (by simp), if_pos rfl, List.take_zero]; rfl
   show SEnt _ (oS _ _ _ (rP (V.take (0 + 1))))
   rw [e0, oS_cons]
   refine SEnt.to [(1, 3)] rfl rfl rfl au_r (fun hs => au_f) (fun hs => ?_)
   ·repeat' (first | exact CvH.nil | refine CvH.cons rfl rfl rfl rfl ?_ ?_)
    all_goals (first | (exact CvLL.clo hs (closed_rE _)) | exact au_e)
  rintro j hj
  have hQl : (rP (V.take (j + 1))).length = j + 1 := by simp; omega
  by_cases hlt : j < x.length
  ·obtain ⟨y, hy, hyv⟩ := vR_get (x := x) (i := j) hlt
   have hyb := vR_bd hs hy
   have hyo := hx y (List.mem_of_getElem? hy)
   have hgt : (rE x)[((j : Nat) : Int).toNat]? = some (rC y) := rE_get hy
   obtain ⟨c, hc⟩ : ∃ c, c = y.1 / ((j + 1 : Nat) : Int) := ⟨_, rfl⟩
   have hco : coP V (j + 1) = c := by
    rw [hV, coP_tab, if_pos (by simp; omega), if_neg (by omega), hc, hyv]; rfl
   have hi1 := fs_rInt ((j + 1 : Nat) : Int) (by omega)
   have hn : (rq (((j + 1 : Nat) : Int) : Rat)).1 ≠ 0 := by show (((j + 1 : Nat) : Int) : Rat) ≠ 0; exact fun e => by have := Rat.intCast_inj.1 (e.trans (by rfl : (0 : Rat) = ((0 : Int) : Rat))); omega
   have hm := fs_rDiv y (rq (((j + 1 : Nat) : Int) : Rat)) hyo (rok_rq _) hn (by have := qs_small (j + 1) (by omega); show qs y.1 + qs (((j + 1 : Nat) : Int) : Rat) ≤ _; omega)
   rw [show y.1 / (rq (((j + 1 : Nat) : Int) : Rat)).1 = c by rw [hc]; rfl] at hm
   have htk := take_succ' (V := V) (j := j + 1) (by omega)
   rw [hco] at htk
   have hrp : rP (V.take (j + 1 + 1)) = rP (V.take (j + 1)) ++ [rq c] := by rw [htk]; simp [rP]
   cases hQ : rP (V.take (j + 1)) with
   | nil => rw [hQ] at hQl; simp at hQl
   | cons q Q =>
    rw [hQ] at hQl
    rw [hQ, List.cons_append] at hrp
    simp at hQl
    simp only [oS_cons]
    refine AWp.seq ?_
    refine s_r 4 ?_
    refine a_3 ?_
    refine o_0 (.bin rfl rfl (vT binI_lss (decide_eq_true (by omega)))) ?_
    refine AR.nil ?_
    refine AWp.cond rfl (fun h => ?_) (fun h => ?_)
    rotate_left
    ·cases h
    refine AWp.skip ?_
    refine AWp.seq ?_
    refine AWp.block ?_
    refine AWp.regD hmix (m := 12) rfl ?_
    refine a_3 ?_
    first | refine AR.op0 (.index_l rfl rfl (by omega) (by omega) te_27.h) rfl rfl ?_ | refine AR.op0 (.index_a rfl rfl (by omega) hgt rfl te_27.h) rfl rfl ?_
    first | refine AR.op0 (.load_l rfl rfl hgt tg_75.h ts_75.h (nle rfl)) rfl rfl ?_ | refine AR.op0 (.load_a rfl hgt tg_75.h ts_75.h (nle rfl)) rfl rfl ?_
    refine c_s (hi1) ?_
    refine c_s (hm) ?_
    refine a_3 ?_
    refine AR.nil ⟨by kernel_rfl, ?_⟩
    refine AWp.reg (m := 3) rfl ?_
    refine a_z ?_
    refine ⟨j + 1, by omega, hlt, ?_⟩
    rw [hrp, oS_cons]
    have e : rE (q :: Q) ++ [rC (rq c)] = rE (q :: (Q ++ [rq c])) := by simp [rE]
    refine SEnt.to [(1, 3)] rfl rfl rfl ?_ (fun hs => au_f) (fun hs => ?_)
    ·repeat' (first | exact ShrL.nil | refine ShrL.cons rfl rfl rfl rfl (by first | (simp) | rfl | (simp; done) | (simp <;> omega)) ?_)
    ·repeat' (first | exact CvH.nil | refine CvH.cons rfl rfl rfl rfl ?_ ?_)
     all_goals (first | (exact CvLL.cloE hs e (closed_rE _)) | exact au_e)
  ·have hge : V.take (j + 1) = V := List.take_of_length_le (by omega)
   rw [hge]
   cases hQ : rP V with
   | nil => rw [hge, hQ] at hQl; simp at hQl
   | cons q Q =>
    simp only [oS_cons]
    refine AWp.seq ?_
    refine s_r 4 ?_
    refine a_3 ?_
    refine o_0 (.bin rfl rfl (vF binI_lss (decide_eq_false (by omega)))) ?_
    refine AR.nil ?_
    refine AWp.cond rfl (fun h => ?_) (fun h => ?_)
    ·cases h
    refine AWp.exit ⟨(), trivial, ?_⟩
    refine SEnt.to [(1, 3)] rfl rfl rfl au_r (fun hs => au_f) (fun hs => ?_)
    ·repeat' (first | exact CvH.nil | refine CvH.cons rfl rfl rfl rfl ?_ ?_)
     all_goals (first | (exact CvLL.clo hs (closed_rE _)) | exact au_e)
 rintro _ _
 have htr := fs_rTrim (rP V) (by simp; omega)
 rw [trimR_rP] at htr
 cases hQ : rP V with
 | nil => have := congrArg List.length hQ; simp [hVl] at this
 | cons q Q =>
  rw [hQ] at htr
  simp only [oS_cons]
  refine s_r 3 ?_
  refine a_1 ?_
  refine o_1 (.callS1 rfl rfl rfl (.shut rfl (by first | exact nle rfl | (simp; done) | (simp; omega)) (.nil)) rfl ((FSpec.argE htr (by rw [List.drop_zero]; exact List.take_of_length_le (by simp))))) ?_
  refine a_z ?_
  refine AWp.ret ?_
  refine Fin.tmpE rfl ?_ ?_
  ·rw [hV]; rfl
  ·exact closed_rEA _
theorem vR_leadP {x : List RQ} {n : Nat} (h : (trimQ (vR x)).length = n + 1) : ∃ y, (trimR x)[n]? = some y ∧ y.1 = leadP (vR x) ∧ y ∈ x := by
 have e := vR_trim x
 have g := leadP_get h
 rw [← e, vR, List.getElem?_map] at g
 cases hy : (trimR x)[n]? with
 | none => rw [hy] at g; cases g
 | some y =>
  rw [hy] at g
  exact ⟨y, rfl, Option.some.inj g, List.mem_of_mem_take (List.mem_of_getElem? hy)⟩
@[simp] theorem trimR_length (x : List RQ) : (trimR x).length = (trimQ (vR x)).length := by rw [← vR_trim, vR_length]
theorem fs_rDegree (x : List RQ) (hl : x.length ≤ 1000000) : FSpec Tryz.prog 29 [.arr (rE x)] (i64 (degP (vR x))) := by
 have htl := trimQ_len (vR x)
 rw [vR_length, ← trimR_length] at htl
 refine FSpec.enter Tryz.func29 rfl (by kernel_rfl) rfl rfl rfl ?_ rfl ?_
 ·exact closed_cons (closed_rEA x) closed_nil
 refine r_z 1 ?_
 refine r_c 5 (fs_rTrim x (by omega)) ?_
 refine a_z ?_
 refine AWp.ret ?_
 exact Fin.tmpE rfl (by rw [trimR_length]; rfl) (closed_v _)
theorem fs_rLead (x : List RQ) (y : RQ) (hl : x.length ≤ 1000000) (hy : (trimR x).getLastD (rq 0) = y) : FSpec Tryz.prog 64 [.arr (rE x)] (.agg (rC y)) := by
 have hi0 : FSpec Tryz.prog 51 [i64 0] (.agg (rC (rq 0))) := fs_rInt 0 (by decide)
 have htr : (trimR x).length ≤ x.length := by rw [trimR_length, ← vR_length x]; exact trimQ_len _
 refine FSpec.enter Tryz.func64 rfl (by kernel_rfl) rfl rfl rfl ?_ rfl ?_
 ·exact closed_cons (closed_rEA x) closed_nil
 refine r_z 1 ?_
 refine r_c 3 (fs_rTrim x (by omega)) ?_
 refine a_z ?_
 cases hX : trimR x with
 | nil =>
  rw [hX] at hy
  cases hy
  refine AWp.seq ?_
  refine s_r 3 ?_
  refine a_2 ?_
  refine o_0 (.bin rfl rfl (vT binI_eql (decide_eq_true (by simp)))) ?_
  refine AR.nil ?_
  refine AWp.cond rfl (fun h => ?_) (fun h => ?_)
  rotate_left
  ·cases h
  refine r_c 2 (hi0) ?_
  refine a_z ?_
  refine AWp.ret ?_
  refine Fin.cellE rfl rfl rfl tg_75.h ts_75.h (nle rfl) ?_ ?_
  ·rfl
  ·exact closed_rA (rq 0)
 | cons a A =>
  rw [hX] at htr
  rw [hX] at hy
  have hg : (rE (a :: A))[(((a :: A).length : Int) - 1).toNat]? = some (rC y) := by
   refine rE_get ?_
   rw [show (((a :: A).length : Int) - 1).toNat = A.length by simp, ← hy]
   rw [List.getLastD_eq_getLast?, List.getLast?_eq_getElem?]
   simp
  refine AWp.seq ?_
  refine s_r 3 ?_
  refine a_2 ?_
  refine o_0 (.bin rfl rfl (vF binI_eql (decide_eq_false (by simp; omega)))) ?_
  refine AR.nil ?_
  refine AWp.cond rfl (fun h => ?_) (fun h => ?_)
  ·cases h
  refine AWp.skip ?_
  have hln : (a :: A).length = A.length + 1 := rfl
  refine s_r 7 ?_
  refine a_4 ?_
  first | refine AR.op0 (.index_l rfl rfl (by omega) (by omega) te_27.h) rfl rfl ?_ | refine AR.op0 (.index_a rfl rfl (by omega) hg rfl te_27.h) rfl rfl ?_
  first | refine AR.op0 (.load_l rfl rfl hg tg_75.h ts_75.h (nle rfl)) rfl rfl ?_ | refine AR.op0 (.load_a rfl hg tg_75.h ts_75.h (nle rfl)) rfl rfl ?_
  refine a_z ?_
  refine AWp.ret ?_
  refine Fin.cellE rfl rfl rfl tg_75.h ts_75.h (nle rfl) ?_ ?_
  ·rfl
  ·exact closed_rA y
end Go.Proofs.YtdhedjbmdnnbkaaGreatDoor
namespace Go.Abs
theorem bd_co' {p : List Rat} {s : Nat} (h : bdL p s) (hs : 1 ≤ s) : ∀ i, qs (coP p i) ≤ s := fun i => bdL_co h hs i
theorem bdL_scaleP {p : List Rat} {k : Rat} {s : Nat} (h : bdL p s) (hs : 1 ≤ s) : bdL (scaleP p k) (s + qs k) := coP_bd fun i => by
 rw [coP_scale]
 have := qs_mul (coP p i) k
 have := bd_co' h hs i
 omega
theorem bdL_neg {p : List Rat} {s : Nat} (h : bdL p s) (hs : 1 ≤ s) : bdL (scaleP p (-1)) s := coP_bd fun i => by
 rw [coP_scale, show coP p i * (-1) = -coP p i by grind, qs_neg]
 exact bd_co' h hs i
theorem bdL_addP {p q : List Rat} {s t : Nat} (hp : bdL p s) (hq : bdL q t) (hs : 1 ≤ s) (ht : 1 ≤ t) : bdL (addP p q) (s + t + 1) := coP_bd fun i => by
 rw [coP_add]
 have := qs_add (coP p i) (coP q i)
 have := bd_co' hp hs i
 have := bd_co' hq ht i
 omega
theorem bdL_subP {p q : List Rat} {s t : Nat} (hp : bdL p s) (hq : bdL q t) (hs : 1 ≤ s) (ht : 1 ≤ t) : bdL (subP p q) (s + t + 1) := bdL_addP hp (bdL_neg hq ht) hs ht
theorem bdL_trim {p : List Rat} {s : Nat} (h : bdL p s) : bdL (trimQ p) s := fun q hq => h q (trimQ_mem hq)
def shP (i : Nat) (v : List Rat) : List Rat := List.replicate i 0 ++ v
theorem shP_length (i : Nat) (v : List Rat) : (shP i v).length = i + v.length := by simp [shP]
theorem shP_succ (i : Nat) (v : List Rat) : shP (i + 1) v = 0 :: shP i v := by simp [shP, List.replicate_succ]
theorem evalP_sh (v : List Rat) (x : Rat) : ∀ i, evalP (shP i v) x = evalP v x * x ^ i
 | 0 => by simp [shP]
 | i + 1 => by
  rw [shP_succ, evalP_cons, evalP_sh v x i, Rat.pow_succ]
  grind
theorem coP_sh (v : List Rat) (i n : Nat) : coP (shP i v) n = if n < i then 0 else coP v (n - i) := by
 induction i generalizing n with
 | zero => simp [shP]
 | succ i ih =>
  rw [shP_succ]
  cases n with
  | zero => rw [coP_zero, if_pos (by omega)]
  | succ n =>
   rw [coP_succ, ih, Nat.add_sub_add_right]
   by_cases h : n < i
   ·rw [if_pos h, if_pos (by omega)]
   ·rw [if_neg h, if_neg (by omega)]
def mR (p q : List Rat) : Nat → List Rat
 | 0 => []
 | n + 1 => addP (mR p q n) (shP n (scaleP p (coP q n)))
theorem evalP_mR (p q : List Rat) (x : Rat) : ∀ n, n ≤ q.length → evalP (mR p q n) x = evalP p x * evalP (q.take n) x
 | 0, _ => by simp [mR, evalP_nil]
 | n + 1, h => by
  rw [mR, evalP_add, evalP_mR p q x n (by omega), evalP_sh, evalP_scale, evalP_take q x n (by omega)]
  grind
theorem trim_mR (p q : List Rat) : ∀ n, trimQ (mR p q n) = mR p q n
 | 0 => rfl
 | n + 1 => trimQ_idem _
theorem trim_mulP (p q : List Rat) : trimQ (mulP p q) = mulP p q := by
 unfold mulP
 split
 ·rfl
 ·exact trimQ_idem _
theorem mR_mul (p q : List Rat) : mR p q q.length = mulP p q := by
 rw [← trim_mR, ← trim_mulP]
 refine eval_ext fun x => ?_
 rw [evalP_mR p q x _ (Nat.le_refl _), List.take_length, evalP_mul]
theorem mR_len (p q : List Rat) : ∀ n, (mR p q n).length ≤ n + p.length
 | 0 => Nat.zero_le _
 | n + 1 => by
  have h1 := mR_len p q n
  have h2 := addP_len (mR p q n) (shP n (scaleP p (coP q n)))
  have h3 := scaleP_len p (coP q n)
  rw [shP_length] at h2
  rw [mR]
  omega
theorem mR_mono {p : List Rat} {a : Rat} {d : Nat} : ∀ n, n ≤ d → mR p (shP d [a]) n = []
 | 0, _ => rfl
 | n + 1, h => by
  rw [mR, mR_mono n (by omega)]
  refine trim_nil_iff.2 fun i => ?_
  have h1 : coP (shP d [a]) n = 0 := by rw [coP_sh, if_pos (by omega)]
  have h2 : coP (tabP (max ([] : List Rat).length (shP n (scaleP p (coP (shP d [a]) n))).length) fun i => coP [] i + coP (shP n (scaleP p (coP (shP d [a]) n))) i) i = coP [] i + coP (shP n (scaleP p (coP (shP d [a]) n))) i := by
   rw [← coP_trim]; exact coP_add _ _ i
  rw [h2, coP_nil, coP_sh, coP_scale, h1]
  split <;> grind
theorem mR_mono_bd {p : List Rat} {a : Rat} {d s : Nat} (hp : bdL p s) (hs : 1 ≤ s) (n : Nat) (hn : n ≤ d + 1) : bdL (mR p (shP d [a]) n) (s + qs a + 2) := by
 by_cases h : n ≤ d
 ·rw [mR_mono n h]; exact fun _ h => by cases h
 ·have : n = d + 1 := by omega
  subst this
  refine coP_bd fun i => ?_
  rw [mR, coP_add, mR_mono d (Nat.le_refl _), coP_nil, Rat.zero_add, coP_sh]
  split
  ·have : qs 0 = 1 := by decide
   omega
  ·rw [coP_scale, coP_sh, if_neg (by omega), Nat.sub_self, coP_zero]
   have := qs_mul (coP p (i - d)) a
   have := bd_co' hp hs (i - d)
   omega
end Go.Abs
namespace Go.Proofs.YtdhedjbmdnnbkaaGreatDoor
open Go.Abs
set_option maxRecDepth 20000
set_option maxHeartbeats 1000000
theorem fs_rAddP (x y : List RQ) (s t : Nat) (hx : okX x) (hy : okX y) (hs : bdL (vR x) s) (ht : bdL (vR y) t) (hlim : s + t + 64 ≤ 1099511627776) (hxl : x.length ≤ 1000000) (hyl : y.length ≤ 1000000) : FSpec Tryz.prog 43 [.arr (rE x), .arr (rE y)] (.arr (rE (rP (addP (vR x) (vR y))))) := by
 obtain ⟨V, hV⟩ : ∃ V, V = tabP (max (vR x).length (vR y).length) (fun i => coP (vR x) i + coP (vR y) i) := ⟨_, rfl⟩
 have hi0 : FSpec Tryz.prog 51 [i64 0] (.agg (rC (rq 0))) := fs_rInt 0 (by decide)
 have q0 : qs (rq 0).1 ≤ 64 := by decide
 refine FSpec.enter Tryz.func43 rfl (by kernel_rfl) rfl rfl rfl ?_ rfl ?_
 ·exact closed_cons (closed_rEA x) (closed_cons (closed_rEA y) closed_nil)
 refine r_z 1 ?_
 refine r_z 1 ?_
 refine AWp.seq ?_
 refine r_z 1 ?_
 have hVl : V.length = max x.length y.length := by rw [hV]; simp
 refine AWp.cutT (fun _ : Unit => oS 5 47 [(0, .arr (rE x)), (1, .arr (rE y))] (rP V)) (fun _ => True) ?_ ?_
 ·refine AWp.block ?_
  refine AWp.loopS (fun j : Nat => oS 5 47 [(6, i64 ((j : Nat) : Int)), (0, .arr (rE x)), (1, .arr (rE y))] (rP (V.take j))) (fun j => V.length - j) (fun j => j ≤ V.length) 0 (Nat.zero_le _) ?_ ?_
  ·show SEnt _ (oS _ _ _ [])
   rw [oS_nil]
   exact s_e []
  rintro j hj
  have hQl : (rP (V.take j)).length = j := by simp; omega
  by_cases hjx : j < x.length
  ·by_cases hjy : j < y.length
   ·obtain ⟨a, ha, hav⟩ := vR_get (x := x) (i := j) hjx
    have hab := vR_bd hs ha
    have hao := hx a (List.mem_of_getElem? ha)
    have hgx : (rE x)[((j : Nat) : Int).toNat]? = some (rC a) := rE_get ha
    obtain ⟨b, hb, hbv⟩ := vR_get (x := y) (i := j) hjy
    have hbb := vR_bd ht hb
    have hbo := hy b (List.mem_of_getElem? hb)
    have hgy : (rE y)[((j : Nat) : Int).toNat]? = some (rC b) := rE_get hb
    obtain ⟨c, hc⟩ : ∃ c, c = a.1 + b.1 := ⟨_, rfl⟩
    have hco : coP V j = c := by rw [hV, coP_tab, if_pos (by simp; omega), ← hav, ← hbv, hc]
    have m1 := fs_rAdd (rq 0) a (rok_rq _) hao (by omega)
    rw [show (rq 0).1 + a.1 = a.1 from Rat.zero_add _] at m1
    have m2 := fs_rAdd (rq a.1) b (rok_rq _) hbo (by show qs a.1 + qs b.1 ≤ _; omega)
    rw [show (rq a.1).1 + b.1 = c by rw [hc]; rfl] at m2
    have htk := take_succ' (V := V) (j := j) (by omega)
    rw [hco] at htk
    have hrp : rP (V.take (j + 1)) = rP (V.take j) ++ [rq c] := by rw [htk]; simp [rP]
    cases hQ : rP (V.take j) with
    | nil =>
     rw [hQ, List.nil_append] at hrp
     simp only [oS_nil]
     refine AWp.seq ?_
     refine s_r 10 ?_
     refine a_3 ?_
     refine o_0 (.bin rfl rfl (vT binI_lss (decide_eq_true (by omega)))) ?_
     refine a_z ?_
     refine AWp.cond rfl (fun h => ?_) (fun h => ?_)
     rotate_left
     ·cases h
     refine AWp.skip ?_
     refine AWp.seq ?_
     refine AWp.block ?_
     refine r_c 3 (hi0) ?_
     refine a_z ?_
     refine AWp.seq ?_
     refine s_r 4 ?_
     refine a_3 ?_
     refine o_0 (.bin rfl rfl (vT binI_lss (decide_eq_true (by omega)))) ?_
     refine AR.nil ?_
     refine AWp.cond rfl (fun h => ?_) (fun h => ?_)
     rotate_left
     ·cases h
     refine AWp.regD hmix (m := 7) rfl ?_
     refine a_3 ?_
     first | refine AR.op0 (.index_l rfl rfl (by omega) (by omega) te_27.h) rfl rfl ?_ | refine AR.op0 (.index_a rfl rfl (by omega) hgx rfl te_27.h) rfl rfl ?_
     first | refine AR.op0 (.load_l rfl rfl hgx tg_75.h ts_75.h (nle rfl)) rfl rfl ?_ | refine AR.op0 (.load_a rfl hgx tg_75.h ts_75.h (nle rfl)) rfl rfl ?_
     refine c_s (m1) ?_
     refine a_1 ?_
     refine AR.nil ⟨by kernel_rfl, ?_⟩
     refine AWp.seq ?_
     refine s_r 4 ?_
     refine a_3 ?_
     refine o_0 (.bin rfl rfl (vT binI_lss (decide_eq_true (by omega)))) ?_
     refine AR.nil ?_
     refine AWp.cond rfl (fun h => ?_) (fun h => ?_)
     rotate_left
     ·cases h
     refine AWp.regD hmix (m := 7) rfl ?_
     refine a_3 ?_
     first | refine AR.op0 (.index_l rfl rfl (by omega) (by omega) te_27.h) rfl rfl ?_ | refine AR.op0 (.index_a rfl rfl (by omega) hgy rfl te_27.h) rfl rfl ?_
     first | refine AR.op0 (.load_l rfl rfl hgy tg_75.h ts_75.h (nle rfl)) rfl rfl ?_ | refine AR.op0 (.load_a rfl hgy tg_75.h ts_75.h (nle rfl)) rfl rfl ?_
     refine c_s (m2) ?_
     refine a_1 ?_
     refine AR.nil ⟨by kernel_rfl, ?_⟩
     refine AWp.reg (m := 5) rfl ?_
     refine a_z ?_
     refine AWp.reg (m := 3) rfl ?_
     refine a_z ?_
     refine ⟨j + 1, by omega, by omega, ?_⟩
     rw [hrp, oS_cons]
     refine SEnt.to [(1, 5)] rfl rfl rfl au_r (fun hs => au_f) (fun hs => ?_)
     ·repeat' (first | exact CvH.nil | refine CvH.cons rfl rfl rfl rfl ?_ ?_)
      all_goals (first | (exact CvLL.clo hs (closed_rE _)) | exact au_e)
    | cons q Q =>
     rw [hQ] at hQl
     rw [hQ, List.cons_append] at hrp
     simp at hQl
     simp only [oS_cons]
     refine AWp.seq ?_
     refine s_r 10 ?_
     refine a_3 ?_
     refine o_0 (.bin rfl rfl (vT binI_lss (decide_eq_true (by omega)))) ?_
     refine a_z ?_
     refine AWp.cond rfl (fun h => ?_) (fun h => ?_)
     rotate_left
     ·cases h
     refine AWp.skip ?_
     refine AWp.seq ?_
     refine AWp.block ?_
     refine r_c 3 (hi0) ?_
     refine a_z ?_
     refine AWp.seq ?_
     refine s_r 4 ?_
     refine a_3 ?_
     refine o_0 (.bin rfl rfl (vT binI_lss (decide_eq_true (by omega)))) ?_
     refine AR.nil ?_
     refine AWp.cond rfl (fun h => ?_) (fun h => ?_)
     rotate_left
     ·cases h
     refine AWp.regD hmix (m := 7) rfl ?_
     refine a_3 ?_
     first | refine AR.op0 (.index_l rfl rfl (by omega) (by omega) te_27.h) rfl rfl ?_ | refine AR.op0 (.index_a rfl rfl (by omega) hgx rfl te_27.h) rfl rfl ?_
     first | refine AR.op0 (.load_l rfl rfl hgx tg_75.h ts_75.h (nle rfl)) rfl rfl ?_ | refine AR.op0 (.load_a rfl hgx tg_75.h ts_75.h (nle rfl)) rfl rfl ?_
     refine c_s (m1) ?_
     refine a_1 ?_
     refine AR.nil ⟨by kernel_rfl, ?_⟩
     refine AWp.seq ?_
     refine s_r 4 ?_
     refine a_3 ?_
     refine o_0 (.bin rfl rfl (vT binI_lss (decide_eq_true (by omega)))) ?_
     refine AR.nil ?_
     refine AWp.cond rfl (fun h => ?_) (fun h => ?_)
     rotate_left
     ·cases h
     refine AWp.regD hmix (m := 7) rfl ?_
     refine a_3 ?_
     first | refine AR.op0 (.index_l rfl rfl (by omega) (by omega) te_27.h) rfl rfl ?_ | refine AR.op0 (.index_a rfl rfl (by omega) hgy rfl te_27.h) rfl rfl ?_
     first | refine AR.op0 (.load_l rfl rfl hgy tg_75.h ts_75.h (nle rfl)) rfl rfl ?_ | refine AR.op0 (.load_a rfl hgy tg_75.h ts_75.h (nle rfl)) rfl rfl ?_
     refine c_s (m2) ?_
     refine a_1 ?_
     refine AR.nil ⟨by kernel_rfl, ?_⟩
     refine AWp.reg (m := 5) rfl ?_
     refine a_z ?_
     refine AWp.reg (m := 3) rfl ?_
     refine a_z ?_
     refine ⟨j + 1, by omega, by omega, ?_⟩
     rw [hrp, oS_cons]
     have e : rE (q :: Q) ++ [rC (rq c)] = rE (q :: (Q ++ [rq c])) := by simp [rE]
     refine SEnt.to [(1, 5)] rfl rfl rfl ?_ (fun hs => au_f) (fun hs => ?_)
     ·repeat' (first | exact ShrL.nil | refine ShrL.cons rfl rfl rfl rfl (by first | (simp) | rfl | (simp; done) | (simp <;> omega)) ?_)
     ·repeat' (first | exact CvH.nil | refine CvH.cons rfl rfl rfl rfl ?_ ?_)
      all_goals (first | (exact CvLL.cloE hs e (closed_rE _)) | exact au_e)
   ·obtain ⟨a, ha, hav⟩ := vR_get (x := x) (i := j) hjx
    have hab := vR_bd hs ha
    have hao := hx a (List.mem_of_getElem? ha)
    have hgx : (rE x)[((j : Nat) : Int).toNat]? = some (rC a) := rE_get ha
    obtain ⟨c, hc⟩ : ∃ c, c = a.1 := ⟨_, rfl⟩
    have hco : coP V j = c := by rw [hV, coP_tab, if_pos (by simp; omega), ← hav, coP_out (p := vR y) (by simp; omega), Rat.add_zero, hc]
    have m1 := fs_rAdd (rq 0) a (rok_rq _) hao (by omega)
    rw [show (rq 0).1 + a.1 = a.1 from Rat.zero_add _] at m1
    rw [← hc] at m1
    have htk := take_succ' (V := V) (j := j) (by omega)
    rw [hco] at htk
    have hrp : rP (V.take (j + 1)) = rP (V.take j) ++ [rq c] := by rw [htk]; simp [rP]
    cases hQ : rP (V.take j) with
    | nil =>
     rw [hQ, List.nil_append] at hrp
     simp only [oS_nil]
     refine AWp.seq ?_
     refine s_r 10 ?_
     refine a_3 ?_
     refine o_0 (.bin rfl rfl (vT binI_lss (decide_eq_true (by omega)))) ?_
     refine a_z ?_
     refine AWp.cond rfl (fun h => ?_) (fun h => ?_)
     rotate_left
     ·cases h
     refine AWp.skip ?_
     refine AWp.seq ?_
     refine AWp.block ?_
     refine r_c 3 (hi0) ?_
     refine a_z ?_
     refine AWp.seq ?_
     refine s_r 4 ?_
     refine a_3 ?_
     refine o_0 (.bin rfl rfl (vT binI_lss (decide_eq_true (by omega)))) ?_
     refine AR.nil ?_
     refine AWp.cond rfl (fun h => ?_) (fun h => ?_)
     rotate_left
     ·cases h
     refine AWp.regD hmix (m := 7) rfl ?_
     refine a_3 ?_
     first | refine AR.op0 (.index_l rfl rfl (by omega) (by omega) te_27.h) rfl rfl ?_ | refine AR.op0 (.index_a rfl rfl (by omega) hgx rfl te_27.h) rfl rfl ?_
     first | refine AR.op0 (.load_l rfl rfl hgx tg_75.h ts_75.h (nle rfl)) rfl rfl ?_ | refine AR.op0 (.load_a rfl hgx tg_75.h ts_75.h (nle rfl)) rfl rfl ?_
     refine c_s (m1) ?_
     refine a_1 ?_
     refine AR.nil ⟨by kernel_rfl, ?_⟩
     refine AWp.seq ?_
     refine s_r 4 ?_
     refine a_3 ?_
     refine o_0 (.bin rfl rfl (vF binI_lss (decide_eq_false (by omega)))) ?_
     refine AR.nil ?_
     refine AWp.cond rfl (fun h => ?_) (fun h => ?_)
     ·cases h
     refine AWp.skip ?_
     refine AWp.reg (m := 5) rfl ?_
     refine a_z ?_
     refine AWp.reg (m := 3) rfl ?_
     refine a_z ?_
     refine ⟨j + 1, by omega, by omega, ?_⟩
     rw [hrp, oS_cons]
     refine SEnt.to [(1, 5)] rfl rfl rfl au_r (fun hs => au_f) (fun hs => ?_)
     ·repeat' (first | exact CvH.nil | refine CvH.cons rfl rfl rfl rfl ?_ ?_)
      all_goals (first | (exact CvLL.clo hs (closed_rE _)) | exact au_e)
    | cons q Q =>
     rw [hQ] at hQl
     rw [hQ, List.cons_append] at hrp
     simp at hQl
     simp only [oS_cons]
     refine AWp.seq ?_
     refine s_r 10 ?_
     refine a_3 ?_
     refine o_0 (.bin rfl rfl (vT binI_lss (decide_eq_true (by omega)))) ?_
     refine a_z ?_
     refine AWp.cond rfl (fun h => ?_) (fun h => ?_)
     rotate_left
     ·cases h
     refine AWp.skip ?_
     refine AWp.seq ?_
     refine AWp.block ?_
     refine r_c 3 (hi0) ?_
     refine a_z ?_
     refine AWp.seq ?_
     refine s_r 4 ?_
     refine a_3 ?_
     refine o_0 (.bin rfl rfl (vT binI_lss (decide_eq_true (by omega)))) ?_
     refine AR.nil ?_
     refine AWp.cond rfl (fun h => ?_) (fun h => ?_)
     rotate_left
     ·cases h
     refine AWp.regD hmix (m := 7) rfl ?_
     refine a_3 ?_
     first | refine AR.op0 (.index_l rfl rfl (by omega) (by omega) te_27.h) rfl rfl ?_ | refine AR.op0 (.index_a rfl rfl (by omega) hgx rfl te_27.h) rfl rfl ?_
     first | refine AR.op0 (.load_l rfl rfl hgx tg_75.h ts_75.h (nle rfl)) rfl rfl ?_ | refine AR.op0 (.load_a rfl hgx tg_75.h ts_75.h (nle rfl)) rfl rfl ?_
     refine c_s (m1) ?_
     refine a_1 ?_
     refine AR.nil ⟨by kernel_rfl, ?_⟩
     refine AWp.seq ?_
     refine s_r 4 ?_
     refine a_3 ?_
     refine o_0 (.bin rfl rfl (vF binI_lss (decide_eq_false (by omega)))) ?_
     refine AR.nil ?_
     refine AWp.cond rfl (fun h => ?_) (fun h => ?_)
     ·cases h
     refine AWp.skip ?_
     refine AWp.reg (m := 5) rfl ?_
     refine a_z ?_
     refine AWp.reg (m := 3) rfl ?_
     refine a_z ?_
     refine ⟨j + 1, by omega, by omega, ?_⟩
     rw [hrp, oS_cons]
     have e : rE (q :: Q) ++ [rC (rq c)] = rE (q :: (Q ++ [rq c])) := by simp [rE]
     refine SEnt.to [(1, 5)] rfl rfl rfl ?_ (fun hs => au_f) (fun hs => ?_)
     ·repeat' (first | exact ShrL.nil | refine ShrL.cons rfl rfl rfl rfl (by first | (simp) | rfl | (simp; done) | (simp <;> omega)) ?_)
     ·repeat' (first | exact CvH.nil | refine CvH.cons rfl rfl rfl rfl ?_ ?_)
      all_goals (first | (exact CvLL.cloE hs e (closed_rE _)) | exact au_e)
  ·by_cases hjy : j < y.length
   ·obtain ⟨b, hb, hbv⟩ := vR_get (x := y) (i := j) hjy
    have hbb := vR_bd ht hb
    have hbo := hy b (List.mem_of_getElem? hb)
    have hgy : (rE y)[((j : Nat) : Int).toNat]? = some (rC b) := rE_get hb
    obtain ⟨c, hc⟩ : ∃ c, c = b.1 := ⟨_, rfl⟩
    have hco : coP V j = c := by rw [hV, coP_tab, if_pos (by simp; omega), coP_out (p := vR x) (by simp; omega), ← hbv, Rat.zero_add, hc]
    have m2 := fs_rAdd (rq 0) b (rok_rq _) hbo (by omega)
    rw [show (rq 0).1 + b.1 = c by rw [hc]; exact Rat.zero_add _] at m2
    have htk := take_succ' (V := V) (j := j) (by omega)
    rw [hco] at htk
    have hrp : rP (V.take (j + 1)) = rP (V.take j) ++ [rq c] := by rw [htk]; simp [rP]
    cases hQ : rP (V.take j) with
    | nil =>
     rw [hQ, List.nil_append] at hrp
     simp only [oS_nil]
     refine AWp.seq ?_
     refine s_r 10 ?_
     refine a_3 ?_
     refine o_0 (.bin rfl rfl (vF binI_lss (decide_eq_false (by omega)))) ?_
     refine a_1 ?_
     first | refine AR.op0y rfl rfl rfl (.move rfl) rfl rfl ?_ | refine AR.opN rfl rfl (by simp [boolOf]) rfl rfl ?_
     first | refine AR.op0y rfl rfl rfl (.move rfl) rfl rfl ?_ | refine AR.opN rfl rfl (by simp [boolOf]) rfl rfl ?_
     first | refine AR.op0y rfl rfl rfl (.lenD rfl rfl rfl rfl te_27.h) rfl rfl ?_ | refine AR.op0y rfl rfl rfl (.lenI rfl rfl rfl rfl te_27.h) rfl rfl ?_ | refine AR.op0y rfl rfl rfl (.lenP rfl rfl rfl rfl te_27.h) rfl rfl ?_ | refine AR.op0y rfl rfl rfl (.lenC rfl rfl rfl rfl te_27.h) rfl rfl ?_ | refine AR.op0y rfl rfl rfl (.lenR rfl rfl rfl rfl te_27.h) rfl rfl ?_ | refine AR.op0y rfl rfl rfl (.len rfl rfl rfl rfl rfl te_27.h) rfl rfl ?_ | refine AR.opN rfl rfl (by simp [boolOf]) rfl rfl ?_
     refine AR.op0y rfl rfl rfl (.bin rfl rfl (vT binI_lss (decide_eq_true (by omega)))) rfl rfl ?_
     refine a_z ?_
     refine AWp.cond rfl (fun h => ?_) (fun h => ?_)
     rotate_left
     ·cases h
     refine AWp.skip ?_
     refine AWp.seq ?_
     refine AWp.block ?_
     refine r_c 3 (hi0) ?_
     refine a_z ?_
     refine AWp.seq ?_
     refine s_r 4 ?_
     refine a_3 ?_
     refine o_0 (.bin rfl rfl (vF binI_lss (decide_eq_false (by omega)))) ?_
     refine AR.nil ?_
     refine AWp.cond rfl (fun h => ?_) (fun h => ?_)
     ·cases h
     refine AWp.skip ?_
     refine AWp.seq ?_
     refine s_r 4 ?_
     refine a_3 ?_
     refine o_0 (.bin rfl rfl (vT binI_lss (decide_eq_true (by omega)))) ?_
     refine AR.nil ?_
     refine AWp.cond rfl (fun h => ?_) (fun h => ?_)
     rotate_left
     ·cases h
     refine AWp.regD hmix (m := 7) rfl ?_
     refine a_3 ?_
     first | refine AR.op0 (.index_l rfl rfl (by omega) (by omega) te_27.h) rfl rfl ?_ | refine AR.op0 (.index_a rfl rfl (by omega) hgy rfl te_27.h) rfl rfl ?_
     first | refine AR.op0 (.load_l rfl rfl hgy tg_75.h ts_75.h (nle rfl)) rfl rfl ?_ | refine AR.op0 (.load_a rfl hgy tg_75.h ts_75.h (nle rfl)) rfl rfl ?_
     refine c_s (m2) ?_
     refine a_1 ?_
     refine AR.nil ⟨by kernel_rfl, ?_⟩
     refine AWp.reg (m := 5) rfl ?_
     refine a_z ?_
     refine AWp.reg (m := 3) rfl ?_
     refine a_z ?_
     refine ⟨j + 1, by omega, by omega, ?_⟩
     rw [hrp, oS_cons]
     refine SEnt.to [(1, 5)] rfl rfl rfl au_r (fun hs => au_f) (fun hs => ?_)
     ·repeat' (first | exact CvH.nil | refine CvH.cons rfl rfl rfl rfl ?_ ?_)
      all_goals (first | (exact CvLL.clo hs (closed_rE _)) | exact au_e)
    | cons q Q =>
     rw [hQ] at hQl
     rw [hQ, List.cons_append] at hrp
     simp at hQl
     simp only [oS_cons]
     refine AWp.seq ?_
     refine s_r 10 ?_
     refine a_3 ?_
     refine o_0 (.bin rfl rfl (vF binI_lss (decide_eq_false (by omega)))) ?_
     refine a_1 ?_
     first | refine AR.op0y rfl rfl rfl (.move rfl) rfl rfl ?_ | refine AR.opN rfl rfl (by simp [boolOf]) rfl rfl ?_
     first | refine AR.op0y rfl rfl rfl (.move rfl) rfl rfl ?_ | refine AR.opN rfl rfl (by simp [boolOf]) rfl rfl ?_
     first | refine AR.op0y rfl rfl rfl (.lenD rfl rfl rfl rfl te_27.h) rfl rfl ?_ | refine AR.op0y rfl rfl rfl (.lenI rfl rfl rfl rfl te_27.h) rfl rfl ?_ | refine AR.op0y rfl rfl rfl (.lenP rfl rfl rfl rfl te_27.h) rfl rfl ?_ | refine AR.op0y rfl rfl rfl (.lenC rfl rfl rfl rfl te_27.h) rfl rfl ?_ | refine AR.op0y rfl rfl rfl (.lenR rfl rfl rfl rfl te_27.h) rfl rfl ?_ | refine AR.op0y rfl rfl rfl (.len rfl rfl rfl rfl rfl te_27.h) rfl rfl ?_ | refine AR.opN rfl rfl (by simp [boolOf]) rfl rfl ?_
     refine AR.op0y rfl rfl rfl (.bin rfl rfl (vT binI_lss (decide_eq_true (by omega)))) rfl rfl ?_
     refine a_z ?_
     refine AWp.cond rfl (fun h => ?_) (fun h => ?_)
     rotate_left
     ·cases h
     refine AWp.skip ?_
     refine AWp.seq ?_
     refine AWp.block ?_
     refine r_c 3 (hi0) ?_
     refine a_z ?_
     refine AWp.seq ?_
     refine s_r 4 ?_
     refine a_3 ?_
     refine o_0 (.bin rfl rfl (vF binI_lss (decide_eq_false (by omega)))) ?_
     refine AR.nil ?_
     refine AWp.cond rfl (fun h => ?_) (fun h => ?_)
     ·cases h
     refine AWp.skip ?_
     refine AWp.seq ?_
     refine s_r 4 ?_
     refine a_3 ?_
     refine o_0 (.bin rfl rfl (vT binI_lss (decide_eq_true (by omega)))) ?_
     refine AR.nil ?_
     refine AWp.cond rfl (fun h => ?_) (fun h => ?_)
     rotate_left
     ·cases h
     refine AWp.regD hmix (m := 7) rfl ?_
     refine a_3 ?_
     first | refine AR.op0 (.index_l rfl rfl (by omega) (by omega) te_27.h) rfl rfl ?_ | refine AR.op0 (.index_a rfl rfl (by omega) hgy rfl te_27.h) rfl rfl ?_
     first | refine AR.op0 (.load_l rfl rfl hgy tg_75.h ts_75.h (nle rfl)) rfl rfl ?_ | refine AR.op0 (.load_a rfl hgy tg_75.h ts_75.h (nle rfl)) rfl rfl ?_
     refine c_s (m2) ?_
     refine a_1 ?_
     refine AR.nil ⟨by kernel_rfl, ?_⟩
     refine AWp.reg (m := 5) rfl ?_
     refine a_z ?_
     refine AWp.reg (m := 3) rfl ?_
     refine a_z ?_
     refine ⟨j + 1, by omega, by omega, ?_⟩
     rw [hrp, oS_cons]
     have e : rE (q :: Q) ++ [rC (rq c)] = rE (q :: (Q ++ [rq c])) := by simp [rE]
     refine SEnt.to [(1, 5)] rfl rfl rfl ?_ (fun hs => au_f) (fun hs => ?_)
     ·repeat' (first | exact ShrL.nil | refine ShrL.cons rfl rfl rfl rfl (by first | (simp) | rfl | (simp; done) | (simp <;> omega)) ?_)
     ·repeat' (first | exact CvH.nil | refine CvH.cons rfl rfl rfl rfl ?_ ?_)
      all_goals (first | (exact CvLL.cloE hs e (closed_rE _)) | exact au_e)
   ·have hge : V.take j = V := List.take_of_length_le (by omega)
    rw [hge]
    cases hQ : rP V with
    | nil =>
     simp only [oS_nil]
     refine AWp.seq ?_
     refine s_r 10 ?_
     refine a_3 ?_
     refine o_0 (.bin rfl rfl (vF binI_lss (decide_eq_false (by omega)))) ?_
     refine a_1 ?_
     first | refine AR.op0y rfl rfl rfl (.move rfl) rfl rfl ?_ | refine AR.opN rfl rfl (by simp [boolOf]) rfl rfl ?_
     first | refine AR.op0y rfl rfl rfl (.move rfl) rfl rfl ?_ | refine AR.opN rfl rfl (by simp [boolOf]) rfl rfl ?_
     first | refine AR.op0y rfl rfl rfl (.lenD rfl rfl rfl rfl te_27.h) rfl rfl ?_ | refine AR.op0y rfl rfl rfl (.lenI rfl rfl rfl rfl te_27.h) rfl rfl ?_ | refine AR.op0y rfl rfl rfl (.lenP rfl rfl rfl rfl te_27.h) rfl rfl ?_ | refine AR.op0y rfl rfl rfl (.lenC rfl rfl rfl rfl te_27.h) rfl rfl ?_ | refine AR.op0y rfl rfl rfl (.lenR rfl rfl rfl rfl te_27.h) rfl rfl ?_ | refine AR.op0y rfl rfl rfl (.len rfl rfl rfl rfl rfl te_27.h) rfl rfl ?_ | refine AR.opN rfl rfl (by simp [boolOf]) rfl rfl ?_
     refine AR.op0y rfl rfl rfl (.bin rfl rfl (vF binI_lss (decide_eq_false (by omega)))) rfl rfl ?_
     refine a_z ?_
     refine AWp.cond rfl (fun h => ?_) (fun h => ?_)
     ·cases h
     refine AWp.exit ⟨(), trivial, ?_⟩
     exact s_e []
    | cons q Q =>
     simp only [oS_cons]
     refine AWp.seq ?_
     refine s_r 10 ?_
     refine a_3 ?_
     refine o_0 (.bin rfl rfl (vF binI_lss (decide_eq_false (by omega)))) ?_
     refine a_1 ?_
     first | refine AR.op0y rfl rfl rfl (.move rfl) rfl rfl ?_ | refine AR.opN rfl rfl (by simp [boolOf]) rfl rfl ?_
     first | refine AR.op0y rfl rfl rfl (.move rfl) rfl rfl ?_ | refine AR.opN rfl rfl (by simp [boolOf]) rfl rfl ?_
     first | refine AR.op0y rfl rfl rfl (.lenD rfl rfl rfl rfl te_27.h) rfl rfl ?_ | refine AR.op0y rfl rfl rfl (.lenI rfl rfl rfl rfl te_27.h) rfl rfl ?_ | refine AR.op0y rfl rfl rfl (.lenP rfl rfl rfl rfl te_27.h) rfl rfl ?_ | refine AR.op0y rfl rfl rfl (.lenC rfl rfl rfl rfl te_27.h) rfl rfl ?_ | refine AR.op0y rfl rfl rfl (.lenR rfl rfl rfl rfl te_27.h) rfl rfl ?_ | refine AR.op0y rfl rfl rfl (.len rfl rfl rfl rfl rfl te_27.h) rfl rfl ?_ | refine AR.opN rfl rfl (by simp [boolOf]) rfl rfl ?_
     refine AR.op0y rfl rfl rfl (.bin rfl rfl (vF binI_lss (decide_eq_false (by omega)))) rfl rfl ?_
     refine a_z ?_
     refine AWp.cond rfl (fun h => ?_) (fun h => ?_)
     ·cases h
     refine AWp.exit ⟨(), trivial, ?_⟩
     refine SEnt.to [(1, 5)] rfl rfl rfl au_r (fun hs => au_f) (fun hs => ?_)
     ·repeat' (first | exact CvH.nil | refine CvH.cons rfl rfl rfl rfl ?_ ?_)
      all_goals (first | (exact CvLL.clo hs (closed_rE _)) | exact au_e)
 rintro _ _
 have htr := fs_rTrim (rP V) (by simp; omega)
 rw [trimR_rP] at htr
 cases hQ : rP V with
 | nil =>
  rw [hQ] at htr
  simp only [oS_nil]
  refine r_c 3 (htr) ?_
  refine a_z ?_
  refine AWp.ret ?_
  refine Fin.tmpE rfl ?_ ?_
  ·rw [hV]; rfl
  ·exact closed_rEA _
 | cons q Q =>
  rw [hQ] at htr
  simp only [oS_cons]
  refine s_r 3 ?_
  refine a_1 ?_
  refine o_1 (.callS1 rfl rfl rfl (.shut rfl (by first | exact nle rfl | (simp; done) | (simp; omega)) (.nil)) rfl ((FSpec.argE htr (by rw [List.drop_zero]; exact List.take_of_length_le (by simp))))) ?_
  refine a_z ?_
  refine AWp.ret ?_
  refine Fin.tmpE rfl ?_ ?_
  ·rw [hV]; rfl
  ·exact closed_rEA _
theorem rq_neg_one : rq (((-1 : Int)) : Rat) = rq (-1) := rfl
theorem fs_rSubP (x y : List RQ) (s t : Nat) (hx : okX x) (hy : okX y) (hs : bdL (vR x) s) (ht : bdL (vR y) t) (ht1 : 1 ≤ t) (hlim : s + t + 128 ≤ 1099511627776) (hxl : x.length ≤ 1000000) (hyl : y.length ≤ 1000000) : FSpec Tryz.prog 45 [.arr (rE x), .arr (rE y)] (.arr (rE (rP (subP (vR x) (vR y))))) := by
 have h1 := fs_rInt (-1) (by decide)
 rw [rq_neg_one] at h1
 have q1 : qs (rq (-1)).1 ≤ 64 := by decide
 have h2 := fs_rScale y (rq (-1)) t hy (rok_rq _) ht (by omega) hyl
 have hb : bdL (vR (rP (scaleP (vR y) (rq (-1)).1))) t := by
  rw [vR_rP]
  exact bdL_neg ht ht1
 have hlen : (rP (scaleP (vR y) (rq (-1)).1)).length ≤ y.length := by
  have := trimQ_len (tabP (vR y).length fun i => coP (vR y) i * (rq (-1)).1)
  rw [rP_length]; unfold scaleP; simp at this ⊢; exact this
 have h3 := fs_rAddP x (rP (scaleP (vR y) (rq (-1)).1)) s t hx (okX_rP _) hs hb (by omega) hxl (by omega)
 rw [vR_rP] at h3
 refine FSpec.enter Tryz.func45 rfl (by kernel_rfl) rfl rfl rfl ?_ rfl ?_
 ·exact closed_cons (closed_rEA x) (closed_cons (closed_rEA y) closed_nil)
 refine r_z 1 ?_
 refine r_c 6 (h1) ?_
 refine c_s (h2) ?_
 refine c_s (h3) ?_
 refine a_z ?_
 refine AWp.ret ?_
 refine Fin.tmpE rfl ?_ ?_
 ·rfl
 ·exact closed_rEA _
theorem okX_append {x y : List RQ} (hx : okX x) (hy : okX y) : okX (x ++ y) := fun z hz => (List.mem_append.1 hz).elim (hx z) (hy z)
theorem okX_zeros (n : Nat) : okX (List.replicate n r0) := fun z hz => by rw [List.eq_of_mem_replicate hz]; exact rok_r0
theorem vR_append (x y : List RQ) : vR (x ++ y) = vR x ++ vR y := by simp [vR]
theorem vR_zeros (n : Nat) : vR (List.replicate n r0) = List.replicate n 0 := by simp [vR, r0]
def zR4 : List AV := [i64 0, .emp, i64 0, .emp]
theorem le_zR4 : LeL zR4 (rC r0) := by
 rw [show rC r0 = [i64 0, .arr [], i64 0, .arr []] from rC_r0]
 exact .cons (.refl _) (.cons .emp (.cons (.refl _) (.cons .emp .nil)))
theorem closed_zR4 : ∀ c ∈ zR4, Closed c := closed_cons (closed_v _) (closed_cons closed_emp (closed_cons (closed_v _) (closed_cons closed_emp closed_nil)))
theorem leLL_zeros (L : List RQ) : ∀ n, LeLL (List.replicate n zR4 ++ rE L) (rE (List.replicate n r0 ++ L))
 | 0 => LeLL.refl _
 | n + 1 => .cons le_zR4 (leLL_zeros L n)
theorem closed_zeros (n : Nat) (L : List RQ) : Closed (.arr (List.replicate n zR4 ++ rE L)) := closed_arr fun c hc => (List.mem_append.1 hc).elim (fun h => by rw [List.eq_of_mem_replicate h]; exact closed_zR4) (closed_rE L c)
theorem FSpec.zerosR {P : Program} {f n : Nat} {L : List RQ} {a r : AV} (h : FSpec P f [a, .arr (rE (List.replicate n r0 ++ L))] r) (ha : Closed a) : FSpec P f [a, .arr (List.replicate n zR4 ++ rE L)] r :=
 h.weak (.cons (Le.refl _) (.cons (Le.arr (leLL_zeros L n)) .nil)) (closed_cons ha (closed_cons (closed_zeros n L) closed_nil))
theorem zR4_one (n : Nat) : (List.replicate n zR4).all (·.all AV.one) = true := by
 simp only [List.all_replicate]
 cases n <;> rfl
theorem fs_rMulP (x y : List RQ) (s t B : Nat) (hx : okX x) (hy : okX y) (hs : bdL (vR x) s) (ht : bdL (vR y) t) (hs1 : 1 ≤ s) (hB : ∀ n, n ≤ y.length → bdL (mR (vR x) (vR y) n) B) (hlim : s + t + B + 64 ≤ 1099511627776) (hxl : x.length ≤ 100000) (hyl : y.length ≤ 100000) : FSpec Tryz.prog 46 [.arr (rE x), .arr (rE y)] (.arr (rE (rP (mulP (vR x) (vR y))))) := by
 obtain ⟨m, hm⟩ : ∃ m, m = mR (vR x) (vR y) := ⟨_, rfl⟩
 rw [← hm] at hB
 refine FSpec.enter Tryz.func46 rfl (by kernel_rfl) rfl rfl rfl ?_ rfl ?_
 ·exact closed_cons (closed_rEA x) (closed_cons (closed_rEA y) closed_nil)
 refine r_z 1 ?_
 refine r_z 1 ?_
 refine AWp.seq ?_
 refine r_z 1 ?_
 refine AWp.cutT (fun _ : Unit => ⟨[(5, .arr (rE (rP (m y.length)))), (0, .arr (rE x)), (1, .arr (rE y))], [], 1, 25⟩) (fun _ => True) ?_ ?_
 ·refine AWp.block ?_
  refine AWp.loopS (fun j : Nat => ⟨[(6, i64 ((j : Nat) : Int)), (5, .arr (rE (rP (m j)))), (0, .arr (rE x)), (1, .arr (rE y))], [], 1, 25⟩) (fun j => y.length - j) (fun j => j ≤ y.length) 0 (Nat.zero_le _) ?_ ?_
  ·rw [hm]
   exact s_e []
  rintro j hj
  by_cases hlt : j < y.length
  ·obtain ⟨b, hb, hbv⟩ := vR_get (x := y) (i := j) hlt
   have hbb := vR_bd ht hb
   have hbo := hy b (List.mem_of_getElem? hb)
   have hgt : (rE y)[((j : Nat) : Int).toNat]? = some (rC b) := rE_get hb
   have h1 := fs_rScale x b s hx hbo hs (by omega) (by omega)
   have hl1 := mR_len (vR x) (vR y) j
   rw [← hm, vR_length] at hl1
   have hl2 := scaleP_len (vR x) b.1
   rw [vR_length] at hl2
   have hz : bdL (vR (List.replicate j r0 ++ rP (scaleP (vR x) b.1))) (s + qs b.1) := by
    rw [vR_append, vR_zeros, vR_rP]
    intro q hq
    rcases List.mem_append.1 hq with h | h
    ·rw [List.eq_of_mem_replicate h]
     have : qs 0 = 1 := by decide
     omega
    ·exact bdL_scaleP hs hs1 q h
   have h2 := fs_rAddP (rP (m j)) (List.replicate j r0 ++ rP (scaleP (vR x) b.1)) B (s + qs b.1) (okX_rP _) (okX_append (okX_zeros _) (okX_rP _)) (by rw [vR_rP]; exact hB j (by omega)) hz (by omega) (by rw [rP_length]; omega) (by rw [List.length_append, List.length_replicate, rP_length]; omega)
   have hnx : addP (vR (rP (m j))) (vR (List.replicate j r0 ++ rP (scaleP (vR x) b.1))) = m (j + 1) := by
    rw [vR_rP, vR_append, vR_zeros, vR_rP, hm, mR, ← hbv]; rfl
   rw [hnx] at h2
   refine AWp.seq ?_
   refine s_r 4 ?_
   refine a_3 ?_
   refine o_0 (.bin rfl rfl (vT binI_lss (decide_eq_true (by omega)))) ?_
   refine AR.nil ?_
   refine AWp.cond rfl (fun h => ?_) (fun h => ?_)
   rotate_left
   ·cases h
   refine AWp.skip ?_
   refine AWp.seq ?_
   refine AWp.block ?_
   have h3 := FSpec.zerosR h2 (closed_rEA _)
   refine AWp.regD hmix (m := 12) rfl ?_
   refine a_6 ?_
   first | refine AR.op0 (.index_l rfl rfl (by omega) (by omega) te_27.h) rfl rfl ?_ | refine AR.op0 (.index_a rfl rfl (by omega) hgt rfl te_27.h) rfl rfl ?_
   first | refine AR.op0 (.load_l rfl rfl hgt tg_75.h ts_75.h (nle rfl)) rfl rfl ?_ | refine AR.op0 (.load_a rfl hgt tg_75.h ts_75.h (nle rfl)) rfl rfl ?_
   refine c_s (h1) ?_
   refine o_2 (.append_l rfl rfl rfl te_27.h rfl rfl rfl rfl rfl (by first | rfl | assumption | (simp; done) | (simp; omega) | omega) (zR4_one _) (rE_one _) rfl (.arr (rE_len4 _)) tz_75.h rfl tb_75.h (by first | rfl | assumption | (simp; done) | (simp; omega) | omega) (by first | (simp [maxLen]; done) | (simp [maxLen]; omega))) ?_
   refine o_1 (.callS1 rfl rfl rfl (.keep (.shut rfl (by first | exact nle rfl | (simp; done) | (simp; omega)) (.nil))) rfl ((FSpec.argE2 h3 (by rw [List.drop_zero]; exact List.take_of_length_le (by simp))))) ?_
   refine a_1 ?_
   refine AR.nil ⟨by kernel_rfl, ?_⟩
   refine AWp.reg (m := 3) rfl ?_
   refine a_z ?_
   refine ⟨j + 1, by omega, hlt, ?_⟩
   exact s_e []
  ·have hge : j = y.length := by omega
   subst hge
   refine AWp.seq ?_
   refine s_r 4 ?_
   refine a_3 ?_
   refine o_0 (.bin rfl rfl (vF binI_lss (decide_eq_false (by omega)))) ?_
   refine AR.nil ?_
   refine AWp.cond rfl (fun h => ?_) (fun h => ?_)
   ·cases h
   refine AWp.exit ⟨(), trivial, ?_⟩
   exact s_e []
 rintro _ _
 refine r_z 2 ?_
 refine AWp.ret ?_
 have e : m y.length = mulP (vR x) (vR y) := by rw [hm, ← mR_mul, vR_length]
 rw [e]
 refine Fin.tmpE rfl ?_ ?_
 ·rfl
 ·exact closed_rEA _
end Go.Proofs.YtdhedjbmdnnbkaaGreatDoor
namespace Go.Abs
theorem coP_mono (d : List Rat) (a : Rat) (k j : Nat) : coP (mulP d (shP k [a])) j = if j < k then 0 else coP d (j - k) * a := by
 have e : mR d (shP k [a]) (shP k [a]).length = mulP d (shP k [a]) := mR_mul _ _
 rw [← e, show (shP k [a]).length = k + 1 by rw [shP_length]; rfl, mR, coP_add, mR_mono k (Nat.le_refl _), coP_nil, Rat.zero_add, coP_sh, coP_scale, coP_sh, if_neg (Nat.lt_irrefl k), Nat.sub_self, coP_zero]
theorem leadP_co {v : List Rat} {n : Nat} (h : trimQ v = v) (hn : v.length = n + 1) : coP v n = leadP v := by
 have := leadP_get (l := v) (n := n) (by rw [h]; exact hn)
 rw [h, coP_get (by omega)] at this
 exact Option.some.inj this
theorem step_len {v d : List Rat} (hv : trimQ v = v) (hd : trimQ d = d) (hd0 : d ≠ []) (hl : d.length ≤ v.length) : (subP v (mulP d (shP (v.length - d.length) [leadP v / leadP d]))).length < v.length := by
 have hdl := List.length_pos_iff.2 hd0
 obtain ⟨m, hm⟩ : ∃ m, d.length = m + 1 := ⟨d.length - 1, by omega⟩
 obtain ⟨n, hn⟩ : ∃ n, v.length = n + 1 := ⟨v.length - 1, by omega⟩
 have hld : leadP d ≠ 0 := leadP_ne (by rw [hd]; exact hd0)
 have key : ∀ j, n ≤ j → coP (subP v (mulP d (shP (v.length - d.length) [leadP v / leadP d]))) j = 0 := fun j hj => by
  rw [coP_sub, coP_mono, if_neg (by omega)]
  by_cases h : j = n
  ·subst h
   rw [leadP_co hv hn, show j - (v.length - d.length) = m by omega, leadP_co hd hm]
   grind
  ·rw [coP_out (p := v) (by omega), coP_out (p := d) (by omega)]
   grind
 have h1 := trimQ_len_of key
 have h2 : trimQ (subP v (mulP d (shP (v.length - d.length) [leadP v / leadP d]))) = subP v (mulP d (shP (v.length - d.length) [leadP v / leadP d])) := trimQ_idem _
 rw [h2] at h1
 omega
theorem trim_subP (p q : List Rat) : trimQ (subP p q) = subP p q := trimQ_idem _
theorem step_bd {v d : List Rat} {b t : Nat} (hv : bdL v b) (hd : bdL d t) (hb : 1 ≤ b) (ht : 1 ≤ t) (hd0 : d ≠ []) (k : Nat) : qs (leadP v / leadP d) ≤ b + t ∧ bdL (mulP d (shP k [leadP v / leadP d])) (2 * t + b + 2) ∧ bdL (subP v (mulP d (shP k [leadP v / leadP d]))) (2 * b + 2 * t + 3) := by
 have h1 := lead_qs hv hb
 have h2 := lead_qs hd ht
 have h3 := qs_div (leadP v) (leadP d)
 have h4 : bdL (mulP d (shP k [leadP v / leadP d])) (2 * t + b + 2) := by
  have := mR_mono_bd (a := leadP v / leadP d) (d := k) hd ht (k + 1) (Nat.le_refl _)
  rw [show k + 1 = (shP k [leadP v / leadP d]).length by rw [shP_length]; rfl, mR_mul] at this
  exact bdL_mono this (by omega)
 exact ⟨by omega, h4, bdL_mono (bdL_subP hv h4 hb (by omega)) (by omega)⟩
theorem bdL_sh {v : List Rat} {b : Nat} (h : bdL v b) (hb : 1 ≤ b) (k : Nat) : bdL (shP k v) b := fun q hq => by
 rcases List.mem_append.1 hq with h' | h'
 ·rw [List.eq_of_mem_replicate h']
  have : qs 0 = 1 := by decide
  omega
 ·exact h q h'
theorem trim_div (p q : List Rat) : trimQ (divP p q).1 = (divP p q).1 ∧ trimQ (divP p q).2 = (divP p q).2 := ⟨trimQ_idem _, trimQ_idem _⟩
theorem div_uniq {p q u v : List Rat} (hq : nz q) (h : ∀ x, evalP p x = evalP u x * evalP q x + evalP v x) (hv : (trimQ v).length < (trimQ q).length) : trimQ u = (divP p q).1 ∧ trimQ v = (divP p q).2 := by
 have hqp := List.length_pos_iff.2 hq
 have hd : nz v → dg v < dg q := fun hz => by
  have := List.length_pos_iff.2 hz
  unfold dg; omega
 have e := md_uniq hq h hd
 obtain ⟨h1, _⟩ := md_spec p hq
 obtain ⟨t1, t2⟩ := trim_div p q
 refine ⟨?_, by rw [← eqv_trim.1 e]; exact t2⟩
 rw [← t1]
 have hz : ¬ nz (subP u (divP p q).1) := fun hn => by
  have hx := dg_mul' hn hq (r := []) (fun x => by
   have := h x; have := h1 x; have := e x
   rw [evalP_sub, evalP_nil]; grind)
  exact absurd rfl hx.1
 refine eval_ext fun x => ?_
 have := not_nz hz x
 rw [evalP_sub] at this
 grind
end Go.Abs
namespace Go.Proofs.YtdhedjbmdnnbkaaGreatDoor
open Go.Abs
set_option maxRecDepth 20000
def dSt (d : List Rat) (s : List Rat × List RQ) : List Rat × List RQ :=
 (addP s.1 (shP ((vR s.2).length - d.length) [leadP (vR s.2) / leadP d]), rP (subP (vR s.2) (mulP d (shP ((vR s.2).length - d.length) [leadP (vR s.2) / leadP d]))))
def dRn (d : List Rat) : Nat → List Rat × List RQ → List Rat × List RQ
 | 0, s => s
 | n + 1, s => if d.length ≤ s.2.length then dRn d n (dSt d s) else s
structure DInv (p d : List Rat) (t L : Nat) (s : List Rat × List RQ) : Prop where
 ok : okX s.2
 tr : trimQ (vR s.2) = vR s.2
 bd : ∃ b, 1 ≤ b ∧ bdL (vR s.2) b ∧ bdL s.1 b ∧ (b + 2 * t + 3) * 2 ^ s.2.length ≤ L
 ln : s.2.length ≤ p.length
 lq : s.1.length ≤ p.length
 ev : ∀ x, evalP p x = evalP s.1 x * evalP d x + evalP (vR s.2) x
theorem DInv.step {p d : List Rat} {t L : Nat} {s : List Rat × List RQ} (h : DInv p d t L s) (hd : trimQ d = d) (hd0 : d ≠ []) (hdt : bdL d t) (ht : 1 ≤ t) (hl : d.length ≤ s.2.length) : DInv p d t L (dSt d s) ∧ (dSt d s).2.length < s.2.length := by
 obtain ⟨q, X⟩ := s
 obtain ⟨ok, tr, ⟨b, b1, bx, bq, hb⟩, ln, lq, ev⟩ := h
 simp only at *
 have hdl := List.length_pos_iff.2 hd0
 have hlt := step_len tr hd hd0 (by rw [vR_length]; exact hl)
 obtain ⟨s1, s2, s3⟩ := step_bd bx hdt b1 ht hd0 ((vR X).length - d.length)
 obtain ⟨a, ha⟩ : ∃ a, a = leadP (vR X) / leadP d := ⟨_, rfl⟩
 unfold dSt
 simp only
 rw [vR_length] at hlt s2 s3 ⊢
 rw [← ha] at hlt s1 s2 s3 ⊢
 refine ⟨⟨okX_rP _, ?_, ⟨2 * b + 2 * t + 3, by omega, ?_, ?_, ?_⟩, ?_, ?_, ?_⟩, ?_⟩
 ·rw [vR_rP]; exact trim_subP _ _
 ·rw [vR_rP]; exact s3
 ·have h1 : bdL [a] (b + t) := fun x hx => by rw [List.mem_singleton.1 hx]; exact s1
  exact bdL_mono (bdL_addP bq (bdL_sh h1 (by omega) _) b1 (by omega)) (by omega)
 ·simp only [rP_length]
  obtain ⟨n, hn⟩ : ∃ n, X.length = n + 1 := ⟨X.length - 1, by omega⟩
  have h1 : 2 ^ (subP (vR X) (mulP d (shP (X.length - d.length) [a]))).length ≤ 2 ^ n := Nat.pow_le_pow_right (by decide) (by omega)
  have h2 := Nat.mul_le_mul_left (2 * b + 2 * t + 3 + 2 * t + 3) h1
  have h3 : (b + 2 * t + 3) * 2 ^ X.length = (2 * b + 2 * t + 3 + 2 * t + 3) * 2 ^ n := by
   rw [hn, Nat.pow_succ, show 2 * b + 2 * t + 3 + 2 * t + 3 = (b + 2 * t + 3) * 2 by omega, Nat.mul_assoc, Nat.mul_comm 2 (2 ^ n)]
  omega
 ·simp only [rP_length]; omega
 ·have h1 := addP_len q (shP (X.length - d.length) [a])
  rw [shP_length] at h1
  simp at h1 ⊢; omega
 ·intro x
  rw [vR_rP, evalP_sub, evalP_mul, evalP_add, ev x]
  grind
 ·simp only [rP_length]; exact hlt
theorem DInv.run {p d : List Rat} {t L : Nat} (hd : trimQ d = d) (hd0 : d ≠ []) (hdt : bdL d t) (ht : 1 ≤ t) : ∀ n s, DInv p d t L s → s.2.length ≤ n → DInv p d t L (dRn d n s) ∧ (dRn d n s).2.length < d.length
 | 0, s, h, hn => by
  have := List.length_pos_iff.2 hd0
  exact ⟨h, by unfold dRn; omega⟩
 | n + 1, s, h, hn => by
  unfold dRn
  by_cases hl : d.length ≤ s.2.length
  ·rw [if_pos hl]
   obtain ⟨h1, h2⟩ := h.step hd hd0 hdt ht hl
   exact DInv.run hd hd0 hdt ht n _ h1 (by omega)
  ·rw [if_neg hl]
   exact ⟨h, by omega⟩
theorem trimR_eq {x : List RQ} (h : trimQ (vR x) = vR x) : trimR x = x := by
 unfold trimR
 rw [h, vR_length, List.take_length]
theorem last_lead {x : List RQ} (h : trimQ (vR x) = vR x) (hx : x ≠ []) : ∃ y, x.getLastD (rq 0) = y ∧ y.1 = leadP (vR x) ∧ y ∈ x := by
 obtain ⟨n, hn⟩ : ∃ n, x.length = n + 1 := ⟨x.length - 1, by have := List.length_pos_iff.2 hx; omega⟩
 obtain ⟨y, h1, h2, h3⟩ := vR_leadP (x := x) (n := n) (by rw [h, vR_length]; exact hn)
 rw [trimR_eq h] at h1
 refine ⟨y, ?_, h2, h3⟩
 rw [List.getLastD_eq_getLast?, List.getLast?_eq_getElem?, hn, Nat.add_sub_cancel, h1]; rfl
theorem CvLL.zerosR {r : Ren} {hp hp' : Nat → Option ABlk} (h : Shr r hp hp') (L : List RQ) : ∀ n, CvLL r hp hp' (List.replicate n zR4 ++ rE L) (rE (List.replicate n r0 ++ L))
 | 0 => CvLL.clo h (closed_rE L)
 | n + 1 => by
  refine CvLL.cons (ys := rE (List.replicate n r0 ++ L)) ?_ (CvLL.zerosR h L n)
  show CvL r hp hp' zR4 (rC r0)
  rw [rC_r0]
  exact CvL.cons (Cv.clo h (closed_v _)) (CvL.cons (Cv.emp _) (CvL.cons (Cv.clo h (closed_v _)) (CvL.cons (Cv.emp _) CvL.nil)))
theorem Cv.shutZ {r : Ren} {hp hp' : Nat → Option ABlk} {id sz n k : Nat} {cap : Option Nat} {c : Rat} {B : ABlk} (h : Shr r hp hp') (hi : cellF hp id = some B) (hi' : Dead r hp' id) (he : B.es = List.replicate k zR4 ++ [rC (rq c)]) (hn : n = k + 1) : Cv r hp hp' (.lsl id 0 n cap sz) (.arr (rE (List.replicate k r0 ++ [rq c]))) := by
 subst hn
 refine Cv.shut h hi hi' (by rw [he]; simp) ?_
 rw [he, List.drop_zero, List.take_of_length_le (by simp)]
 exact CvLL.zerosR h [rq c] k
theorem fs_rDivide (x y : List RQ) (s t : Nat) (hx : okX x) (hy : okX y) (hs : bdL (vR x) s) (ht : bdL (vR y) t) (hs1 : 1 ≤ s) (ht1 : 1 ≤ t) (hy0 : nz (vR y)) (hlim : (s + 2 * t + 3) * 2 ^ x.length ≤ 274877906944) (hxl : x.length ≤ 50000) (hyl : y.length ≤ 50000) :
    ∃ (u : List Rat) (v : List RQ), okX v ∧ trimQ u = (divP (vR x) (vR y)).1 ∧ trimQ (vR v) = (divP (vR x) (vR y)).2 ∧ u.length ≤ x.length ∧ v.length ≤ x.length ∧ FSpec Tryz.prog 30 [.arr (rE x), .arr (rE y)] (.tup [.arr (rE (rP u)), .arr (rE v)]) := by
 obtain ⟨d, hd⟩ : ∃ d, d = vR (trimR y) := ⟨_, rfl⟩
 have hd' : d = trimQ (vR y) := hd.trans (vR_trim y)
 have hdd : trimQ d = d := by rw [hd']; exact trimQ_idem _
 have hd0 : d ≠ [] := by rw [hd']; exact hy0
 have hdt : bdL d t := by rw [hd']; exact bdL_trim ht
 have hdl : d.length = (trimR y).length := by rw [hd, vR_length]
 have hyt : (trimR y).length ≤ y.length := by rw [trimR_length, ← vR_length y]; exact trimQ_len _
 have hxt : (trimR x).length ≤ x.length := by rw [trimR_length, ← vR_length x]; exact trimQ_len _
 have hoy := okX_trim hy
 have hty : trimQ (vR (trimR y)) = vR (trimR y) := by rw [← hd]; exact hdd
 have i0 : DInv (vR x) d t 274877906944 ([], trimR x) := by
  refine ⟨okX_trim hx, by rw [vR_trim]; exact trimQ_idem _, ⟨s, hs1, by rw [vR_trim]; exact bdL_trim hs, (fun _ h => by cases h), ?_⟩, by rw [vR_length]; exact hxt, Nat.zero_le _, fun z => by rw [vR_trim, evalP_trim, evalP_nil]; grind⟩
  exact Nat.le_trans (Nat.mul_le_mul_left _ (Nat.pow_le_pow_right (by decide) hxt)) hlim
 obtain ⟨⟨u, v⟩, hr⟩ : ∃ r, r = dRn d x.length ([], trimR x) := ⟨_, rfl⟩
 obtain ⟨hi, hlt⟩ := DInv.run hdd hd0 hdt ht1 x.length ([], trimR x) i0 hxt
 rw [← hr] at hi hlt
 have hu := div_uniq (p := vR x) (q := vR y) (u := u) (v := vR v) hy0 (fun z => by rw [hi.ev z, hd', evalP_trim]) (by rw [hi.tr, vR_length, ← hd']; exact hlt)
 refine ⟨u, v, hi.ok, hu.1, hu.2, by have := hi.lq; rwa [vR_length] at this, by have := hi.ln; rwa [vR_length] at this, ?_⟩
 have hyn : trimR y ≠ [] := fun e => hd0 (by rw [hd, e]; rfl)
 obtain ⟨b, hb, hbl, hbm⟩ := last_lead hty hyn
 have hld : leadP d ≠ 0 := leadP_ne (by rw [hdd]; exact hd0)
 rw [← hd] at hbl
 have hbt : qs b.1 ≤ t := hdt _ (by rw [hd]; exact List.mem_map.2 ⟨b, hbm, rfl⟩)
 refine FSpec.enter Tryz.func30 rfl (by kernel_rfl) rfl rfl rfl ?_ rfl ?_
 ·exact closed_cons (closed_rEA x) (closed_cons (closed_rEA y) closed_nil)
 refine r_z 2 ?_
 refine r_c 6 (fs_rTrim x (by omega)) ?_
 refine c_s (fs_rTrim y (by omega)) ?_
 refine a_z ?_
 refine r_z 1 ?_
 have hlb := fs_rLead (trimR y) b (by omega) (by rw [trimR_eq hty]; exact hb)
 refine AWp.seq ?_
 refine AWp.cutT (fun _ : Unit => ⟨[(0, .arr (rE v)), (6, .arr (rE (rP u)))], [], 1, 40⟩) (fun _ => True) ?_ ?_
 ·refine AWp.block ?_
  refine AWp.loopS (fun s : List Rat × List RQ => ⟨[(0, .arr (rE s.2)), (1, .arr (rE (trimR y))), (6, .arr (rE (rP s.1)))], [], 1, 40⟩) (fun s => s.2.length) (fun s => DInv (vR x) d t 274877906944 s ∧ ∃ n, s.2.length ≤ n ∧ dRn d n s = (u, v)) ([], trimR x) ⟨i0, x.length, hxt, hr.symm⟩ ?_ ?_
  ·exact s_e []
  rintro ⟨q, X⟩ ⟨hI, n, hn, hrn⟩
  have hI0 := hI
  obtain ⟨ok, tr, ⟨w, w1, wx, wq, hw⟩, ln, lq, ev⟩ := hI
  simp only at *
  rw [vR_length] at ln lq
  by_cases hle : (trimR y).length ≤ X.length
  ·have hstep := hI0.step hdd hd0 hdt ht1 (by simp only; omega)
   have hXn : X ≠ [] := fun e => by
    have := List.length_pos_iff.2 hyn
    rw [e] at hle
    have h0 : ([] : List RQ).length = 0 := rfl
    omega
   have hX1 := List.length_pos_iff.2 hXn
   obtain ⟨a, hal, hav, ham⟩ := last_lead tr hXn
   have hao := ok a ham
   have hab : qs a.1 ≤ w := wx _ (List.mem_map.2 ⟨a, ham, rfl⟩)
   have hla := fs_rLead X a (by omega) (by rw [trimR_eq tr]; exact hal)
   have hwL : 2 * (w + 2 * t + 3) ≤ 274877906944 := by
    have h1 : 2 ^ 1 ≤ 2 ^ X.length := Nat.pow_le_pow_right (by decide) hX1
    have h2 := Nat.mul_le_mul_left (w + 2 * t + 3) h1
    omega
   have hdv := fs_rDiv a b hao (hoy b hbm) (by rw [hbl]; exact hld) (by omega)
   obtain ⟨k, hk⟩ : ∃ k, k = X.length - (trimR y).length := ⟨_, rfl⟩
   obtain ⟨c, hc⟩ : ∃ c, c = a.1 / b.1 := ⟨_, rfl⟩
   rw [← hc] at hdv
   have hck : c = leadP (vR X) / leadP d := by rw [hc, hav, hbl]
   obtain ⟨s1, s2, s3⟩ := step_bd wx hdt w1 ht1 hd0 k
   rw [← hck] at s1 s2 s3
   have hcb : bdL [c] (w + t) := fun z hz => by rw [List.mem_singleton.1 hz]; exact s1
   have hT : vR (List.replicate k r0 ++ [rq c]) = shP k [c] := by rw [vR_append, vR_zeros]; rfl
   have hTo : okX (List.replicate k r0 ++ [rq c]) := okX_append (okX_zeros _) (fun z hz => by rw [List.mem_singleton.1 hz]; exact rok_rq _)
   have hTb : bdL (vR (List.replicate k r0 ++ [rq c])) (w + t) := by rw [hT]; exact bdL_sh hcb (by omega) _
   have hTl : (List.replicate k r0 ++ [rq c]).length = k + 1 := by simp
   have hA := fs_rAddP (rP q) (List.replicate k r0 ++ [rq c]) w (w + t) (okX_rP _) hTo (by rw [vR_rP]; exact wq) hTb (by omega) (by rw [rP_length]; omega) (by omega)
   rw [vR_rP, hT] at hA
   have hM := fs_rMulP (trimR y) (List.replicate k r0 ++ [rq c]) t (w + t) (t + (w + t) + 2) hoy hTo (by rw [← hd]; exact hdt) hTb ht1 (fun i hi => by
    rw [← hd, hT]
    exact bdL_mono (mR_mono_bd hdt ht1 i (by omega)) (by omega)) (by omega) (by omega) (by omega)
   rw [← hd, hT] at hM
   have hS := fs_rSubP X (rP (mulP d (shP k [c]))) w (2 * t + w + 2) ok (okX_rP _) wx (by rw [vR_rP]; exact s2) (by omega) (by omega) (by omega) (by
    have h9 := mR_len d (shP k [c]) (shP k [c]).length
    rw [mR_mul, shP_length] at h9
    simp at h9 ⊢; omega)
   rw [vR_rP] at hS
   have hnext : dSt d (q, X) = (addP q (shP k [c]), rP (subP (vR X) (mulP d (shP k [c])))) := by
    unfold dSt; simp only; rw [vR_length, hdl, ← hk, ← hck]
   have hsub : ((X.length : Nat) : Int) - ((trimR y).length : Nat) = (k : Int) := by omega
   refine AWp.seq ?_
   refine s_r 5 ?_
   refine a_4 ?_
   refine o_0 (.bin rfl rfl (vT binI_geq (decide_eq_true (by omega)))) ?_
   refine AR.nil ?_
   refine AWp.cond rfl (fun h => ?_) (fun h => ?_)
   rotate_left
   ·cases h
   refine AWp.skip ?_
   refine AWp.block ?_
   refine AWp.seq ?_
   refine AWp.regD hmix (m := 14) rfl ?_
   refine a_5 ?_
   refine o_1 (.makeSlice (l := k) (c := k) (by rw [← hsub]; rfl) (by rw [← hsub]; rfl) te_27.h tz_75.h rfl tb_75.h (by first | omega | (simp; done) | (simp; omega)) (by first | omega | (simp; done) | (simp; omega)) (by unfold maxLen; first | omega | (simp; done) | (simp; omega))) ?_
   refine c_s (hla) ?_
   refine c_s (hlb) ?_
   refine c_s (hdv) ?_
   refine a_1 ?_
   refine o_2 (.append_l rfl rfl rfl te_27.h rfl rfl rfl rfl rfl (by first | rfl | assumption | (simp; done) | (simp; omega) | omega) (zR4_one _) rfl rfl (.lsl rfl (nle rfl)) tz_75.h rfl tb_75.h (by first | rfl | assumption | (simp; done) | (simp; omega) | omega) (by first | (simp [maxLen]; done) | (simp [maxLen]; omega))) ?_
   refine a_1 ?_
   refine AR.nil ⟨by kernel_rfl, ?_⟩
   refine AWp.ent (st' := ⟨[(0, .arr (rE X)), (1, .arr (rE (trimR y))), (6, .arr (rE (rP q))), (7, .arr (rE (List.replicate k r0 ++ [rq c])))], [], 1, 40⟩) ?_ ?_
   ·refine SEnt.to [] rfl rfl rfl au_r (fun hs => ?_) (fun hs => ?_)
    ·repeat' (first | exact CvF.nil | refine CvF.cons rfl ?_ ?_)
     all_goals (first | (exact Cv.shutZ hs rfl (dead_of rfl) rfl rfl) | exact au_c)
    ·repeat' (first | exact CvH.nil | refine CvH.cons rfl rfl rfl rfl ?_ ?_)
     all_goals (first | exact au_e | (refine CvLL.box ?_; repeat' (first | exact CvL.nil | refine CvL.cons ?_ ?_)))
     all_goals (first | (exact Cv.shutZ hs rfl (dead_of rfl) rfl rfl) | exact au_c)
   refine r_c 4 (hA) ?_
   refine a_z ?_
   refine AWp.reg (m := 6) rfl ?_
   refine c_s (hM) ?_
   refine c_s (hS) ?_
   refine a_z ?_
   refine ⟨dSt d (q, X), hstep.2, ⟨hstep.1, ?_⟩, ?_⟩
   ·cases n with
    | zero => omega
    | succ n =>
     refine ⟨n, by have := hstep.2; simp only at this; omega, ?_⟩
     rw [dRn, if_pos (by simp only; omega)] at hrn
     exact hrn
   ·rw [hnext]
    exact s_e []
  ·have hfin : (q, X) = (u, v) := by
    rw [← hrn]
    cases n with
    | zero => rfl
    | succ n => rw [dRn, if_neg (by simp only; omega)]
   cases hfin
   refine AWp.seq ?_
   refine s_r 5 ?_
   refine a_4 ?_
   refine o_0 (.bin rfl rfl (vF binI_geq (decide_eq_false (by omega)))) ?_
   refine AR.nil ?_
   refine AWp.cond rfl (fun h => ?_) (fun h => ?_)
   ·cases h
   refine AWp.exit ⟨(), trivial, ?_⟩
   exact s_e []
 rintro _ _
 refine r_z 4 ?_
 refine AWp.ret ?_
 refine Fin.many ⟨_, _, rfl, rfl, ⟨_, _, rfl, rfl, rfl⟩⟩ (nle rfl) ?_
 exact CvL.cons (Cv.clo shr_nil (closed_rEA _)) (CvL.cons (Cv.clo shr_nil (closed_rEA _)) CvL.nil)
def v9 : List Rat → AV
 | [] => .emp
 | _ :: Q => .lsl 1 0 (Q.length + 1) none 3
def h9 : List Rat → List (Nat × Option ABlk)
 | [] => []
 | q :: Q => [(1, some ⟨37, 3, pE (q :: Q)⟩)]
theorem cmpQ_eq (a b : Rat) : (cmpQ a b == (0 : Int)) = decide (a = b) := by
 unfold cmpQ
 by_cases h1 : a < b
 ·have h2 : a ≠ b := fun e => by rw [e] at h1; exact absurd h1 Rat.lt_irrefl
  simp [h1, h2]
 ·by_cases h2 : a = b
  ·simp [h1, h2, Rat.lt_irrefl]
  ·simp [h1, h2]
end Go.Proofs.YtdhedjbmdnnbkaaGreatDoor
