/- Part V19 of the proof. -/
import Derived.Test.YtdhedjbmdnnbkaaGreatDoorV18
set_option linter.all false
namespace Go.Proofs.YtdhedjbmdnnbkaaGreatDoor
open Go.Abs
set_option maxRecDepth 100000
set_option maxHeartbeats 2000000
def zE (l : List Int) : List (List AV) := l.map fun n => [i64 n]
theorem dx_ (l : List Int) : ∀ e ∈ zE l, ∀ c ∈ e, Closed c := by
 intro e he c hc
 obtain ⟨n, _, rfl⟩ := List.mem_map.1 he
 rw [List.mem_singleton.1 hc]; exact ac_ _
def zR (l : List Int) : List Rat := l.map fun (n : Int) => (n : Rat)
def itS (l : List Int) : List Rat → Nat → AState
 | [], i => ⟨[(0, .arr (zE l)), (3, .emp), (4, i64 i)], [], 1, 20⟩
 | q :: Q, i => ⟨[(0, .arr (zE l)), (3, .lsl 1 0 (Q.length + 1) none 3), (4, i64 i)], [(1, some ⟨37, 3, pE (q :: Q)⟩)], 2, 20⟩
theorem ph_ (l : List Int) (i : Nat) : itS l [] i = ⟨[(0, .arr (zE l)), (3, .emp), (4, i64 i)], [], 1, 20⟩ := rfl
theorem jh_ (l : List Int) (q : Rat) (Q : List Rat) (i : Nat) : itS l (q :: Q) i = ⟨[(0, .arr (zE l)), (3, .lsl 1 0 (Q.length + 1) none 3), (4, i64 i)], [(1, some ⟨37, 3, pE (q :: Q)⟩)], 2, 20⟩ := rfl
theorem pr_ (l : List Int) (hl : l.length ≤ 1099511627776) (hb : ∀ n ∈ l, -9223372036854775808 ≤ n ∧ n ≤ 9223372036854775807) : FSpec Tryz.prog 84 [.arr (zE l)] (.arr (pE (zR l))) := by
 refine FSpec.enter Tryz.func84 rfl (by kernel_rfl) rfl rfl rfl ?_ rfl ?_
 ·exact aa_ (ao_ (dx_ l)) ab_
 refine r_z 1 ?_
 refine r_z 1 ?_
 refine AWp.seq ?_
 refine r_z 1 ?_
 refine AWp.cutT (fun _ : Unit => itS l (zR l) l.length) (fun _ => True) ?_ ?_
 ·refine AWp.block ?_
  refine AWp.loopS (fun i : Nat => itS l (zR (l.take i)) i) (fun i => l.length - i) (fun i => i ≤ l.length) 0 (Nat.zero_le _) ?_ ?_
  ·show SEnt _ (itS l [] 0)
   rw [ph_]
   refine SEnt.to [] rfl rfl rfl au_r (fun hs => ?_) (fun hs => ?_)
   ·repeat' (first | exact CvF.nil | refine CvF.cons rfl ?_ ?_)
    all_goals (first | (exact Cv.clo hs (ao_ (dx_ l))) | exact au_c)
   ·repeat' (first | exact CvH.nil | refine CvH.cons rfl rfl rfl rfl ?_ ?_)
    all_goals (first | exact au_e | (refine CvLL.box ?_; repeat' (first | exact CvL.nil | refine CvL.cons ?_ ?_)))
    all_goals (first | (exact Cv.clo hs (ao_ (dx_ l))) | exact au_c)
  rintro i hi
  have hlen : (zE l).length = l.length := by simp [zE]
  by_cases hlt : i < l.length
  ·obtain ⟨n, hn⟩ : ∃ n, l[i]? = some n := ⟨_, List.getElem?_eq_getElem hlt⟩
   have hgt : (zE l)[((i : Nat) : Int).toNat]? = some [i64 n] := by
    show (zE l)[i]? = _
    simp [zE, hn]
   have hnb := hb n (List.mem_of_getElem? hn)
   have htk : zR (l.take (i + 1)) = zR (l.take i) ++ [(n : Rat)] := by rw [cw_ hn]; simp [zR]
   have hQl : (zR (l.take i)).length = i := by simp [zR]; omega
   cases hQ : zR (l.take i) with
   | nil =>
    simp only [ph_]
    refine AWp.seq ?_
    refine r_z 4 ?_
    refine AWp.cond rfl (fun h => ?_) (fun h => ?_)
    rotate_left
    ·exact absurd h (by simp [zE]; omega)
    refine AWp.skip ?_
    refine AWp.seq ?_
    refine AWp.block ?_
    refine AWp.reg (m := 9) rfl ?_
    refine a_3 ?_
    first | refine AR.op0 (.index_l rfl rfl (by omega) (by omega) te_200.h) rfl rfl ?_ | refine AR.op0 (.index_a rfl rfl (by omega) hgt rfl te_200.h) rfl rfl ?_
    first | refine AR.op0 (.load_l1 rfl rfl hgt tg_2.h rfl) rfl rfl ?_ | refine AR.op0 (.load_a1 rfl hgt tg_2.h rfl) rfl rfl ?_
    refine c_s (dw_ n hnb) ?_
    refine a_z ?_
    refine AWp.reg (m := 3) rfl ?_
    refine a_z ?_
    refine ⟨i + 1, by omega, hlt, ?_⟩
    simp only [htk, hQ, List.nil_append, jh_]
    refine SEnt.to [(1, 3)] rfl rfl rfl au_r (fun hs => ?_) (fun hs => ?_)
    ·repeat' (first | exact CvF.nil | refine CvF.cons rfl ?_ ?_)
     all_goals (first | (exact Cv.clo hs (ao_ (dx_ l))) | exact au_c)
    ·repeat' (first | exact CvH.nil | refine CvH.cons rfl rfl rfl rfl ?_ ?_)
     all_goals (first | (exact CvLL.clo hs (ar_ [(n : Rat)])) | exact au_e | (refine CvLL.box ?_; repeat' (first | exact CvL.nil | refine CvL.cons ?_ ?_)))
     all_goals (first | (exact Cv.clo hs (ao_ (dx_ l))) | exact au_c)
   | cons q Q =>
    rw [hQ] at hQl
    simp at hQl
    simp only [jh_]
    refine AWp.seq ?_
    refine r_z 4 ?_
    refine AWp.cond rfl (fun h => ?_) (fun h => ?_)
    rotate_left
    ·exact absurd h (by simp [zE]; omega)
    refine AWp.skip ?_
    refine AWp.seq ?_
    refine AWp.block ?_
    refine AWp.reg (m := 9) rfl ?_
    refine a_3 ?_
    first | refine AR.op0 (.index_l rfl rfl (by omega) (by omega) te_200.h) rfl rfl ?_ | refine AR.op0 (.index_a rfl rfl (by omega) hgt rfl te_200.h) rfl rfl ?_
    first | refine AR.op0 (.load_l1 rfl rfl hgt tg_2.h rfl) rfl rfl ?_ | refine AR.op0 (.load_a1 rfl hgt tg_2.h rfl) rfl rfl ?_
    refine c_s (dw_ n hnb) ?_
    refine a_z ?_
    refine AWp.reg (m := 3) rfl ?_
    refine a_z ?_
    refine ⟨i + 1, by omega, hlt, ?_⟩
    simp only [htk, hQ, List.cons_append, jh_]
    have e : pE (q :: Q) ++ [qC (n : Rat)] = pE (q :: (Q ++ [(n : Rat)])) := by simp [pE]
    refine SEnt.to [(1, 3)] rfl rfl rfl ?_ (fun hs => ?_) (fun hs => ?_)
    ·repeat' (first | exact ShrL.nil | refine ShrL.cons rfl rfl rfl rfl (by first | (simp) | rfl | (simp; done) | (simp <;> omega)) ?_)
    ·repeat' (first | exact CvF.nil | refine CvF.cons rfl ?_ ?_)
     all_goals (first | (exact Cv.clo hs (ao_ (dx_ l))) | exact au_c)
    ·repeat' (first | exact CvH.nil | refine CvH.cons rfl rfl rfl rfl ?_ ?_)
     all_goals (first | (exact CvLL.cloE hs e (ar_ _)) | exact au_e | (refine CvLL.box ?_; repeat' (first | exact CvL.nil | refine CvL.cons ?_ ?_)))
     all_goals (first | (exact Cv.clo hs (ao_ (dx_ l))) | exact au_c)
  ·have hge : i = l.length := by omega
   subst hge
   simp only [List.take_length]
   cases hQ : zR l with
   | nil =>
    simp only [ph_]
    refine AWp.seq ?_
    refine r_z 4 ?_
    refine AWp.cond rfl (fun h => ?_) (fun h => ?_)
    ·exact absurd h (by simp [zE])
    ·refine AWp.exit ⟨(), trivial, ?_⟩
     simp only [hQ, ph_]
     refine SEnt.to [] rfl rfl rfl au_r (fun hs => ?_) (fun hs => ?_)
     ·repeat' (first | exact CvF.nil | refine CvF.cons rfl ?_ ?_)
      all_goals (first | (exact Cv.clo hs (ao_ (dx_ l))) | exact au_c)
     ·repeat' (first | exact CvH.nil | refine CvH.cons rfl rfl rfl rfl ?_ ?_)
      all_goals (first | exact au_e | (refine CvLL.box ?_; repeat' (first | exact CvL.nil | refine CvL.cons ?_ ?_)))
      all_goals (first | (exact Cv.clo hs (ao_ (dx_ l))) | exact au_c)
   | cons q Q =>
    simp only [jh_]
    refine AWp.seq ?_
    refine r_z 4 ?_
    refine AWp.cond rfl (fun h => ?_) (fun h => ?_)
    ·exact absurd h (by simp [zE])
    ·refine AWp.exit ⟨(), trivial, ?_⟩
     simp only [hQ, jh_]
     refine SEnt.to [] rfl rfl rfl au_r (fun hs => ?_) (fun hs => ?_)
     ·repeat' (first | exact CvF.nil | refine CvF.cons rfl ?_ ?_)
      all_goals (first | (exact Cv.clo hs (ao_ (dx_ l))) | exact au_c)
     ·repeat' (first | exact CvH.nil | refine CvH.cons rfl rfl rfl rfl ?_ ?_)
      all_goals (first | exact au_e | (refine CvLL.box ?_; repeat' (first | exact CvL.nil | refine CvL.cons ?_ ?_)))
      all_goals (first | (exact Cv.clo hs (ao_ (dx_ l))) | exact au_c)
 rintro _ _
 cases hQ : zR l with
 | nil =>
  simp only [ph_]
  refine r_z 2 ?_
  refine AWp.ret ?_
  exact Fin.tmpN rfl
 | cons q Q =>
  simp only [jh_]
  refine r_z 2 ?_
  refine AWp.ret ?_
  exact Fin.tmpS rfl rfl rfl (by simp) (ar_ _)
def powQ (q : Rat) : Nat → Rat
 | 0 => q
 | k + 1 => powQ q k * q
theorem xl_ (q : Rat) : ∀ k, qs (powQ q k) ≤ (k + 1) * qs q
 | 0 => by simp [powQ]
 | k + 1 => by
  have h1 := gf_ (powQ q k) q
  have h2 := xl_ q k
  show qs (powQ q k * q) ≤ _
  rw [Nat.add_mul (k + 1), Nat.one_mul]
  omega
def dNum (D : Int) : Int := if D = 0 then 1 else D
def numV (N D : Int) (p : Nat) : Rat := powQ (Rat.divInt N (dNum D)) (p % 4)
def nuC (N D : Int) (p : Nat) : List AV := [i64 N, i64 D, .v (.int .u8 p)]
def i64r (n : Int) : Prop := -9223372036854775808 ≤ n ∧ n ≤ 9223372036854775807
theorem jn_ (N D : Int) (p : Nat) : ∀ c ∈ nuC N D p, Closed c := aa_ (ac_ _) (aa_ (ac_ _) (aa_ (ac_ _) ab_))
theorem div_cast (n d : Int) : (n : Rat) / (d : Rat) = Rat.divInt n d := (Rat.divInt_eq_div n d).symm
def boT (N : Int) (D : Int) (p : Nat) (q : Rat) : Nat → AState
 | k => ⟨[(1, .lptr 1 0 0), (2, .lptr 2 0 0), (3, .lptr 3 0 0), (4, .lptr 4 0 0), (6, .lptr 5 0 0), (7, .lptr 6 0 0), (8, .lptr 7 0 0), (9, .v (.int .u8 k))],
  [(1, some ⟨82, 3, [nuC N D p]⟩), (2, some ⟨37, 3, [zC]⟩), (3, some ⟨75, 4, [[i64 0, .emp, i64 0, .emp]]⟩), (4, some ⟨37, 3, [qC q]⟩), (5, some ⟨75, 4, [rC (rq q)]⟩), (6, some ⟨37, 3, [qC (powQ q k)]⟩), (7, some ⟨75, 4, [rC (rq (powQ q k))]⟩)], 8, 44⟩
theorem boT_mk (N : Int) (D : Int) (p : Nat) (q : Rat) (k : Nat) : boT N D p q k = ⟨[(1, .lptr 1 0 0), (2, .lptr 2 0 0), (3, .lptr 3 0 0), (4, .lptr 4 0 0), (6, .lptr 5 0 0), (7, .lptr 6 0 0), (8, .lptr 7 0 0), (9, .v (.int .u8 k))],
   [(1, some ⟨82, 3, [nuC N D p]⟩), (2, some ⟨37, 3, [zC]⟩), (3, some ⟨75, 4, [[i64 0, .emp, i64 0, .emp]]⟩), (4, some ⟨37, 3, [qC q]⟩), (5, some ⟨75, 4, [rC (rq q)]⟩), (6, some ⟨37, 3, [qC (powQ q k)]⟩), (7, some ⟨75, 4, [rC (rq (powQ q k))]⟩)], 8, 44⟩ := rfl
theorem fs_Both1 (N D : Int) (p : Nat) (hN : i64r N) (hD : i64r D) (hp : p ≤ 255) : FSpec Tryz.prog 41 [.agg (nuC N D p)] (.tup [.agg (qC (numV N D p)), .agg (rC (rq (numV N D p)))]) := by
 obtain ⟨d, hd⟩ : ∃ d, d = dNum D := ⟨_, rfl⟩
 have hd0 : d ≠ 0 := by rw [hd]; unfold dNum; split <;> omega
 have hdr : i64r d := by
  rw [hd]; unfold dNum i64r; unfold i64r at hD; split <;> omega
 unfold i64r at hN hdr
 obtain ⟨q, hq⟩ : ∃ q, q = Rat.divInt N d := ⟨_, rfl⟩
 have hof := fs_Of N d hN hdr hd0
 rw [div_cast, ← hq] at hof
 have hro := fs_rOf N d hd0 hN hdr
 rw [← hq] at hro
 have hnv : numV N D p = powQ q (p % 4) := by unfold numV; rw [← hd, ← hq]
 rw [hnv]
 refine FSpec.enter Tryz.func41 rfl (by kernel_rfl) rfl rfl rfl ?_ rfl ?_
 ·exact aa_ (ag_ (jn_ N D p)) ab_
 refine r_z 3 ?_
 refine AWp.cut (fun _ : Unit => ⟨[(1, .lptr 1 0 0), (2, .lptr 2 0 0), (3, .lptr 3 0 0)],
  [(1, some ⟨82, 3, [nuC N d p]⟩), (2, some ⟨37, 3, [zC]⟩), (3, some ⟨75, 4, [[i64 0, .emp, i64 0, .emp]]⟩)], 4, 44⟩) (fun _ => True) ?_ ?_
 ·refine r_z 3 ?_
  refine AWp.cond rfl (fun h1 => ?_) (fun h1 => ?_)
  ·have h2 : D = 0 := by simpa using h1
   have h3 : d = 1 := by rw [hd]; unfold dNum; rw [if_pos h2]
   refine AWp.reg (m := 2) rfl ?_
   refine a_z ?_
   refine ⟨(), trivial, ?_⟩
   rw [h3]
   refine SEnt.to [] rfl rfl rfl au_r (fun hs => au_f) (fun hs => ?_)
   ·repeat' (first | exact CvH.nil | refine CvH.cons rfl rfl rfl rfl ?_ ?_)
    all_goals (first | (exact CvLL.box (CvL.clo hs (jn_ N 1 p))) | exact au_e)
  ·have h2 : ¬ D = 0 := by simpa using h1
   have h3 : d = D := by rw [hd]; unfold dNum; rw [if_neg h2]
   refine AWp.skip ⟨(), trivial, ?_⟩
   rw [h3]
   refine SEnt.to [] rfl rfl rfl au_r (fun hs => au_f) (fun hs => ?_)
   ·repeat' (first | exact CvH.nil | refine CvH.cons rfl rfl rfl rfl ?_ ?_)
    all_goals (first | (exact CvLL.box (CvL.clo hs (jn_ N D p))) | exact au_e)
 rintro _ _
 refine r_c 11 (hof) ?_
 refine a_z ?_
 refine r_c 7 (hro) ?_
 refine a_z ?_
 refine AWp.seq ?_
 refine AWp.regD hmix (m := 6) rfl ?_
 refine a_6 ?_
 refine AR.nil ⟨by kernel_rfl, ?_⟩
 refine AWp.seq ?_
 refine r_z 1 ?_
 have hqs : qs q ≤ 64 := by
  have hb : ∀ z : Int, -9223372036854775808 ≤ z ∧ z ≤ 9223372036854775808 → bl z.natAbs ≤ 64 := fun z h => bl_le (k := 64) (by omega)
  rw [hq]
  by_cases hn : d < 0
  ·rw [ms_ N d hn]
   exact fs_ (by omega) (hb (-N) (by omega)) (hb d (by omega))
  ·rw [mr_ N d (by omega)]
   exact fs_ (by omega) (hb N (by omega)) (hb d (by omega))
 have hm4 : (p : Int) % 4 = ((p % 4 : Nat) : Int) := by omega
 refine AWp.cutT (fun _ : Unit => boT N d p q (p % 4)) (fun _ => True) ?_ ?_
 ·refine AWp.block ?_
  refine AWp.loopS (boT N d p q) (fun k => p % 4 - k) (fun k => k ≤ p % 4) 0 (Nat.zero_le _) ?_ ?_
  ·simp only [boT_mk, powQ]
   refine SEnt.to [(4, 4), (5, 6), (6, 7), (7, 8)] rfl rfl rfl au_r (fun hs => au_f) (fun hs => ?_)
   ·repeat' (first | exact CvH.nil | refine CvH.cons rfl rfl rfl rfl ?_ ?_)
    all_goals (first | (exact CvLL.box (CvL.clo hs (bz_ _))) | exact au_e)
  rintro k hk
  rw [boT_mk]
  refine AWp.seq ?_
  refine r_z 5 ?_
  refine AWp.cond rfl (fun h => ?_) (fun h => ?_)
  ·refine AWp.skip ?_
   have hlt : k < p % 4 := by
    have h2 : (k : Int) < (p : Int) % 4 := by simpa using h
    omega
   have hpk := xl_ q k
   have hpk2 : (k + 1) * qs q ≤ 4 * 64 := Nat.mul_le_mul (by omega) hqs
   refine AWp.seq ?_
   refine AWp.block ?_
   refine AWp.regD hmix (m := 8) rfl ?_
   refine c_s (do_ (powQ q k) q (by omega)) ?_
   refine c_s (fs_rMul (rq (powQ q k)) (rq q) (ez_ _) (ez_ _) (by simp only [rq]; omega)) ?_
   refine a_2 ?_
   refine AR.nil ⟨by kernel_rfl, ?_⟩
   refine AWp.reg (m := 3) rfl ?_
   refine a_z ?_
   refine ⟨k + 1, by omega, hlt, ?_⟩
   simp only [boT_mk]
   refine SEnt.to [] rfl rfl rfl au_r (fun hs => au_f) (fun hs => ?_)
   ·repeat' (first | exact CvH.nil | refine CvH.cons rfl rfl rfl rfl ?_ ?_)
    all_goals (first | (exact CvLL.box (CvL.clo hs (bz_ _))) | exact au_e)
  ·have hge : k = p % 4 := by
    have h2 : ¬ (k : Int) < (p : Int) % 4 := by simpa using h
    omega
   subst hge
   refine AWp.exit ⟨(), trivial, ?_⟩
   refine SEnt.to [] rfl rfl rfl au_r (fun hs => au_f) (fun hs => ?_)
   ·repeat' (first | exact CvH.nil | refine CvH.cons rfl rfl rfl rfl ?_ ?_)
    all_goals (first | (exact CvLL.box (CvL.clo hs (bz_ _))) | exact au_e)
 rintro _ _
 rw [boT_mk]
 refine AWp.seq ?_
 refine AWp.regD hmix (m := 4) rfl ?_
 refine a_4 ?_
 refine AR.nil ⟨by kernel_rfl, ?_⟩
 refine AWp.ret ?_
 refine Fin.many ⟨_, _, rfl, ⟨_, _, _, _, _, rfl, rfl, rfl, .inl ⟨tg_37.h, _, ts_37.h, nle rfl, rfl⟩⟩, ⟨_, _, rfl, ⟨_, _, _, _, _, rfl, rfl, rfl, .inl ⟨tg_75.h, _, ts_75.h, nle rfl, rfl⟩⟩, rfl⟩⟩ (nle rfl) ?_
 exact CvL.cons (Cv.clo am_ (ae_ _)) (CvL.cons (Cv.clo am_ (ay_ _)) CvL.nil)
def twP : List Rat := bp_ [0, 1] 2
def fmC (p : List Rat) (g : Nat) (cap : List AV) : List AV := [.arr (pE p), .clos g [] cap]
def u8v (k : Int) : Value := .int .u8 k
def famK : List Value := [u8v 1, u8v 2, u8v 3, u8v 4, u8v 5]
def famV : List AV := [.agg (fmC [0, 1] 264 [bP twP]), .agg (fmC twP 264 [bP twP]), .agg (fmC [0, 1] 265 []), .agg (fmC [1, -1] 266 []), .agg (fmC twP 267 [bP twP])]
abbrev famA : AV := .mp famK famV
theorem dc_ (p : List Rat) (g : Nat) {cap : List AV} (h : ∀ c ∈ cap, Closed c) : ∀ c ∈ fmC p g cap, Closed c := aa_ (ad_ p) (aa_ (af_ ab_ h) ab_)
theorem ya_ : ∀ c ∈ famV, Closed c := by
 have c1 : ∀ c ∈ [bP twP], Closed c := aa_ (ak_ _) ab_
 exact aa_ (ag_ (dc_ _ _ c1)) (aa_ (ag_ (dc_ _ _ c1)) (aa_ (ag_ (dc_ _ _ ab_)) (aa_ (ag_ (dc_ _ _ ab_)) (aa_ (ag_ (dc_ _ _ c1)) ab_))))
def famTab : MapTab := ⟨244, .u8, 0, 7, [(4, 1, 10, 3), (8, 2, 13, 7), (11, 3, 15, 10), (16, 4, 19, 15), (20, 5, 22, 19)], [(21, 23), (22, 0)]⟩
theorem xw_ : FSpec Tryz.prog 230 [] famA := by
 refine FSpec.enter Tryz.func230 rfl (by kernel_rfl) rfl rfl rfl ?_ rfl ?_
 ·exact ab_
 refine r_z 1 ?_
 refine r_c 5 (fs_x) ?_
 refine c_s (dw_ 2 (by decide)) ?_
 refine c_s (hk_ [0, 1] 2 (by decide) (by decide) (by decide)) ?_
 refine a_z ?_
 refine AWp.ent (st' := ⟨[(1, bP twP)], [], 2, 24⟩) ?_ ?_
 ·refine SEnt.to [] rfl rfl rfl au_r (fun hs => ?_) (fun hs => ?_)
  ·repeat' (first | exact CvF.nil | refine CvF.cons rfl ?_ ?_)
   all_goals (first | (exact Cv.boxp hs rfl (bl_ rfl) rfl (aa_ (ad_ _) ab_)) | exact au_c)
  ·repeat' (first | exact CvH.nil | refine CvH.cons rfl rfl rfl rfl ?_ ?_)
   all_goals (first | exact au_e | (refine CvLL.box ?_; repeat' (first | exact CvL.nil | refine CvL.cons ?_ ?_)))
   all_goals (first | (exact Cv.boxp hs rfl (bl_ rfl) rfl (aa_ (ad_ _) ab_)) | exact au_c)
 refine r_z 2 ?_
 refine AWp.seq ?_
 refine AWp.mapRegion famTab (vs := famV) (d := 0) hmix tm_244.h tu_5.h (by kernel_rfl) (by kernel_rfl) (by kernel_rfl) ⟨22, by simp [famTab], by decide⟩ (by decide) ?_ ?_
 ·refine AX.sp rfl rfl ?_
  refine AX.op0 (.call rfl rfl rfl (fs_x)) rfl rfl ?_
  refine AX.op0 (.move rfl) rfl rfl ?_
  refine AX.op0 (.build tz_243.h tp_243.h rfl rfl) rfl rfl ?_
  refine AX.spn rfl ?_
  first | refine AX.op0 (.load_l1 rfl rfl rfl tg_25.h rfl) rfl rfl ?_ | refine AX.op0 (.load_a1 rfl rfl tg_25.h rfl) rfl rfl ?_
  refine AX.op0 (.move rfl) rfl rfl ?_
  refine AX.op0 (.build tz_243.h tp_243.h rfl rfl) rfl rfl ?_
  refine AX.spn rfl ?_
  refine AX.op0 (.call rfl rfl rfl (fs_x)) rfl rfl ?_
  refine AX.op0 (.build tz_243.h tp_243.h rfl rfl) rfl rfl ?_
  refine AX.spn rfl ?_
  refine AX.op0 (.call rfl rfl rfl (dw_ 1 (by decide))) rfl rfl ?_
  refine AX.op0 (.call rfl rfl rfl (dw_ (-1) (by decide))) rfl rfl ?_
  refine AX.op1 (.buildSlice te_25.h tz_37.h rfl (by decide) rfl rfl rfl (by first | (simp; done) | (simp [by_, ofV]; done) | rfl)) rfl rfl ?_
  refine AX.op0 (.build tz_243.h tp_243.h rfl rfl) rfl rfl ?_
  refine AX.spn rfl ?_
  first | refine AX.op0 (.load_l1 rfl rfl rfl tg_25.h rfl) rfl rfl ?_ | refine AX.op0 (.load_a1 rfl rfl tg_25.h rfl) rfl rfl ?_
  refine AX.op0 (.makeFunc rfl rfl) rfl rfl ?_
  refine AX.op0 (.build tz_243.h tp_243.h rfl rfl) rfl rfl ?_
  refine AX.spn rfl ?_
  refine AX.sp rfl rfl ?_
  refine AX.sp rfl rfl ?_
  refine AX.nil ⟨by kernel_rfl, ?_⟩
  have c1 : ∀ c ∈ [bP twP], Closed c := aa_ (ak_ _) ab_
  refine CvS.cons rfl (Cv.clo am_ (ag_ (dc_ _ _ c1))) (CvS.cons rfl (Cv.clo am_ (ag_ (dc_ _ _ c1))) (CvS.cons rfl (Cv.clo am_ (ag_ (dc_ _ _ ab_))) (CvS.cons rfl ?_ (CvS.cons rfl (Cv.clo am_ (ag_ (dc_ _ _ c1))) CvS.nil))))
  exact Cv.agg (CvL.cons (Cv.sealE am_ rfl (fun _ _ h => by cases h) rfl rfl (ar_ _)) (CvL.cons (Cv.clo am_ (af_ ab_ ab_)) CvL.nil))
 refine AWp.ret ?_
 refine Fin.tmpE rfl ?_ ?_
 ·rfl
 ·exact closed_mp ya_
theorem fs_fam1 (n : Int) (p last : List Rat) (h : okMul twP p) (hl : smL last) (h1 : (mulP twP p).length ≤ 274877906944) (h2 : last.length ≤ 274877906944) : FSpec Tryz.prog 264 [i64 n, .arr (pE p), .arr (pE last), bP twP] (.arr (pE (subP (mulP twP p) last))) := by
 refine FSpec.enter Tryz.func264 rfl (by kernel_rfl) rfl rfl rfl ?_ rfl ?_
 ·exact aa_ (ac_ _) (aa_ (ad_ _) (aa_ (ad_ _) (aa_ (ak_ _) ab_)))
 refine r_z 1 ?_
 refine r_c 6 (fs_Mul twP p (mxL twP) (mxL p) (dq_ _) (dq_ _) (cz_ _) (cz_ _) h.1 h.2.1 h.2.2.1 h.2.2.2) ?_
 refine c_s (fs_Sub (mulP twP p) last (okMul_sm h) hl (by omega) (by omega)) ?_
 refine a_z ?_
 refine AWp.ret ?_
 refine Fin.tmpE rfl ?_ ?_
 ·rfl
 ·exact ad_ _
def chP : Nat → List Rat × List Rat
 | 0 => (ew_ 1, [0, 1])
 | k + 1 => ((chP k).2, subP (mulP twP (chP k).2) (chP k).1)
def okCh (k : Nat) : Prop := okMul twP (chP k).2 ∧ smL (chP k).1 ∧ (mulP twP (chP k).2).length ≤ 274877906944 ∧ (chP k).1.length ≤ 274877906944
instance (k : Nat) : Decidable (okCh k) := inferInstanceAs (Decidable (_ ∧ _ ∧ _ ∧ _))
def chT (k : Nat) : Option (List AV) := some [.arr (pE (chP k).1)]
abbrev bF : AV := .aptr [fmC [0, 1] 264 [bP twP]] 0 0
theorem bk_ : Closed bF := bb_ (dc_ _ _ (aa_ (ak_ _) ab_))
theorem gs_members (K : Nat) (hK : K ≤ 1000000) (hok : ∀ k, k < K → okCh k) : GSpecB Tryz.prog 268 [bF] chT K := by
 refine GSpecB.enter Tryz.func268 rfl (by kernel_rfl) rfl rfl rfl ?_ ?_ rfl ?_
 ·exact aa_ bk_ ab_
 ·intro k xs h
  cases h
  exact aa_ (ad_ _) ab_
 intro ll N hN E
 refine GWp.seq ?_
 refine GWp.lift ?_
 refine AWp.regD hmix (m := 6) rfl ?_
 refine c_s (dw_ 1 (by decide)) ?_
 refine c_s (la_ 1) ?_
 refine a_4 ?_
 refine AR.nil ⟨by kernel_rfl, ?_⟩
 refine GWp.seq ?_
 refine GWp.lift ?_
 refine AWp.reg (m := 1) rfl ?_
 refine a_z ?_
 refine GWp.block ?_
 refine GWp.loopS (fun k : Nat => ⟨[(0, .v (.func (.yield ll) #[] #[])), (1, bF), (3, .arr (pE (chP k).1)), (4, .arr (pE (chP k).2)), (5, i64 ((k : Int) + 1))], [], 1, 22⟩) (fun k => k) (fun k => N + 1 - k) (fun k => k ≤ N) 0 (Nat.zero_le _) rfl ?_ ?_
 ·refine SEnt.to [] rfl rfl rfl au_r (fun hs => ?_) (fun hs => ?_)
  ·repeat' (first | exact CvF.nil | refine CvF.cons rfl ?_ ?_)
   all_goals (first | (exact Cv.clo hs bk_) | exact au_c)
  ·repeat' (first | exact CvH.nil | refine CvH.cons rfl rfl rfl rfl ?_ ?_)
   all_goals (first | exact au_e | (refine CvLL.box ?_; repeat' (first | exact CvL.nil | refine CvL.cons ?_ ?_)))
   all_goals (first | (exact Cv.clo hs bk_) | exact au_c)
 intro k hk
 refine GWp.seq ?_
 refine GWp.seq ?_
 refine GWp.regY (fr2 := [(0, .v (.func (.yield ll) #[] #[])), (1, bF), (3, .arr (pE (chP k).1)), (4, .arr (pE (chP k).2)), (5, i64 ((k : Int) + 1)), (10, .v (.func (.yield ll) #[] #[])), (11, .arr (pE (chP k).1))]) (hp2 := []) (nx2 := 2) 2 rfl rfl rfl rfl rfl rfl ?_ rfl rfl rfl ?_ ?_ ?_
 ·refine o_0 (.move rfl) ?_
  refine o_0 (.move rfl) ?_
  refine AR.nil ?_
  refine SEntT.to [] rfl rfl rfl au_r (fun hs => au_f) (fun hs => au_h)
 rotate_left 2
 intro go
 refine AR.nil ?_
 rotate_left
 ·rfl
 ·exact aa_ (ad_ _) ab_
 cases go with
 | false =>
  refine GWp.cond rfl (fun h => ?_) (fun h => ?_)
  ·cases h
  ·exact GWp.exit ⟨.inl rfl, fun h => by cases h⟩
 | true =>
  refine GWp.bound fun hk1 => ?_
  refine GWp.cond rfl (fun h => ?_) (fun h => ?_)
  rotate_left
  ·cases h
  refine GWp.skip ?_
  obtain ⟨o1, o2, o3, o4⟩ := hok k (by omega)
  refine GWp.lift ?_
  refine AWp.seq ?_
  refine AWp.block ?_
  refine AWp.reg (m := 9) rfl ?_
  refine c_s (fs_fam1 ((k : Int) + 1) (chP k).2 (chP k).1 o1 o2 o3 o4) ?_
  refine a_z ?_
  refine AWp.reg (m := 3) rfl ?_
  refine a_z ?_
  refine ⟨rfl, k + 1, by omega, hk1, rfl, ?_⟩
  refine SEnt.to [] rfl rfl rfl au_r (fun hs => ?_) (fun hs => ?_)
  ·repeat' (first | exact CvF.nil | refine CvF.cons rfl ?_ ?_)
   all_goals (first | (exact Cv.clo hs bk_) | exact au_c)
  ·repeat' (first | exact CvH.nil | refine CvH.cons rfl rfl rfl rfl ?_ ?_)
   all_goals (first | exact au_e | (refine CvLL.box ?_; repeat' (first | exact CvL.nil | refine CvL.cons ?_ ?_)))
   all_goals (first | (exact Cv.clo hs bk_) | exact au_c)
theorem fs_members : FSpec Tryz.prog 231 [.agg (fmC [0, 1] 264 [bP twP])] (.clos 268 [] [bF]) := by
 have hc : ∀ c ∈ fmC [0, 1] 264 [bP twP], Closed c := dc_ _ _ (aa_ (ak_ _) ab_)
 refine FSpec.enter Tryz.func231 rfl (by kernel_rfl) rfl rfl rfl ?_ rfl ?_
 ·exact aa_ (ag_ hc) ab_
 refine r_z 2 ?_
 refine r_z 2 ?_
 refine AWp.ret ?_
 refine ⟨.inr rfl, [_], ⟨_, [], rfl, rfl, rfl⟩, ?_⟩
 exact Cv.clos CvL.nil (CvL.cons (Cv.boxp am_ rfl (fun _ _ h => by cases h) rfl hc) CvL.nil)
def chL2 (n : Nat) : List (List Rat) := (List.range n).map fun k => (chP k).1
theorem wt_ (n : Nat) : chL2 (n + 1) = chL2 n ++ [(chP n).1] := by simp [chL2, List.range_succ]
@[simp] theorem chL2_length (n : Nat) : (chL2 n).length = n := by simp [chL2]
def fi0 (n : Int) : Unit → AState
 | u => ⟨[(1, .lptr 1 0 0), (3, .lptr 2 0 0), (7, .clos 268 [] [bF])], [(1, some ⟨3, 1, [[i64 n]]⟩), (2, some ⟨189, 1, [[.emp]]⟩)], 4, 18⟩
theorem fi0_mk (n : Int) (u : Unit) : fi0 n u = ⟨[(1, .lptr 1 0 0), (3, .lptr 2 0 0), (7, .clos 268 [] [bF])], [(1, some ⟨3, 1, [[i64 n]]⟩), (2, some ⟨189, 1, [[.emp]]⟩)], 4, 18⟩ := rfl
def fi1 (n : Int) : Nat → AState
 | k => ⟨[(1, .lptr 1 0 0), (3, .lptr 2 0 0), (7, .clos 268 [] [bF])], [(1, some ⟨3, 1, [[i64 n]]⟩), (2, some ⟨189, 1, [[.lsl 3 0 (k + 1) none 1]]⟩), (3, some ⟨25, 1, cE (chL2 (k + 1))⟩)], 4, 18⟩
def fiX (z : Nat) : Unit → AState
 | u => ⟨[(3, .lptr 1 0 0)], [(1, some ⟨189, 1, [[.lsl 2 0 (z + 1) none 1]]⟩), (2, some ⟨25, 1, cE (chL2 (z + 1))⟩)], 4, 18⟩
theorem fiX_mk (z : Nat) (u : Unit) : fiX z u = ⟨[(3, .lptr 1 0 0)], [(1, some ⟨189, 1, [[.lsl 2 0 (z + 1) none 1]]⟩), (2, some ⟨25, 1, cE (chL2 (z + 1))⟩)], 4, 18⟩ := rfl
def fiS (n : Int) : Nat → AState
 | 0 => fi0 n ()
 | k + 1 => fi1 n k
theorem ha_ : Closed (.clos 268 [] [bF]) := af_ ab_ (aa_ bk_ ab_)
theorem fs_firsts (n : Nat) (hn : n ≤ 1000) (hok : ∀ k, k < n → okCh k) : FSpec Tryz.prog 170 [i64 n] (.arr (cE (chL2 (n + 1)))) := by
 have hgs := gs_members n (by omega) hok
 refine FSpec.enter Tryz.func170 rfl (by kernel_rfl) rfl rfl rfl ?_ rfl ?_
 ·exact aa_ (ac_ _) ab_
 refine r_z 2 ?_
 refine r_z 1 ?_
 refine AWp.seq ?_
 refine r_c 3 (xw_) ?_
 refine c_s (fs_members) ?_
 refine AR.nil ?_
 refine AWp.cutT (fiX n) (fun _ => True) ?_ ?_
 ·refine AWp.block ?_
  refine AWp.rangeFuncB (α := Nat) (γ := Unit) n (fiS n) (fun k => k) (fun k => k ≤ n) (fiX n) (fun e _ => e = .exit 0) 0 rfl hgs rfl rfl ?_ (fun k => by cases k <;> exact ⟨rfl, rfl⟩) (fun _ => rfl) (Nat.zero_le _) rfl (fun _ h => h) ?_ ?_ ?_ ?_ ?_
  ·intro k xs hT; cases hT; rfl
  ·show SEntT _ (fi0 n ())
   rw [fi0_mk]
   refine SEntT.to [(2, 3)] rfl rfl rfl au_r (fun hs => ?_) (fun hs => ?_)
   ·repeat' (first | exact CvF.nil | refine CvF.cons rfl ?_ ?_)
    all_goals (first | (exact Cv.clo hs ha_) | exact au_c)
   ·repeat' (first | exact CvH.nil | refine CvH.cons rfl rfl rfl rfl ?_ ?_)
    all_goals (first | exact au_e | (refine CvLL.box ?_; repeat' (first | exact CvL.nil | refine CvL.cons ?_ ?_)))
    all_goals (first | (exact Cv.clo hs ha_) | exact au_c)
  ·exact aa_ bk_ ab_
  ·intro l k xs hk hT
   cases hT
   cases k with
   | zero =>
    show AWp _ _ _ _ ⟨setPs (fi0 n ()).fr _ _ ++ cx_ (fi0 n ()).fr, _, _, _⟩
    show AWp _ _ _ _ ⟨[(8, .arr (pE (chP 0).1)), (1, .lptr 1 0 0), (3, .lptr 2 0 0), (7, .clos 268 [] [bF]), (1001, .lptr 1 0 0), (1003, .lptr 2 0 0), (1007, .clos 268 [] [bF])], [(1, some ⟨3, 1, [[i64 n]]⟩), (2, some ⟨189, 1, [[.emp]]⟩)], 4, 18⟩
    refine AWp.reg (m := 1) rfl ?_
    refine a_z ?_
    refine AWp.block ?_
    refine s_r 5 ?_
    refine a_3 ?_
    refine o_1 (.append_e rfl rfl rfl te_189.h rfl rfl rfl (.lsl rfl (nle rfl)) (by first | assumption | (simp; done)) tz_25.h rfl tb_25.h (by first | rfl | assumption | (simp; done) | (simp; omega) | omega) (by first | (simp [maxLen]; done) | (simp [maxLen]; omega))) ?_
    refine a_z ?_
    refine r_z 4 ?_
    refine AWp.cond rfl (fun h1 => ?_) (fun h1 => ?_)
    ·have h2 : n = 0 := by
      simp at h1; omega
     subst h2
     refine AWp.exit ?_
     refine ⟨rfl, (), rfl, ?_⟩
     show SEntT _ ⟨[(1003, .lptr 1 0 0)], [(1, some ⟨189, 1, [[.lsl 2 0 (0 + 1) none 1]]⟩), (2, some ⟨25, 1, cE (chL2 (0 + 1))⟩)], 4, 18⟩
     refine SEntT.to [(1, 1003), (2, 12)] rfl rfl rfl au_r (fun hs => au_f) (fun hs => ?_)
     ·repeat' (first | exact CvH.nil | refine CvH.cons rfl rfl rfl rfl ?_ ?_)
      all_goals (first | (exact CvLL.clo hs (dy_ [(chP 0).1])) | exact au_e)
    ·have h2 : ¬ n = 0 := by
      simp at h1; omega
     refine AWp.skip ?_
     refine ⟨0 + 1, ⟨by omega, rfl⟩, ?_⟩
     show SEntT _ ⟨[(1001, .lptr 1 0 0), (1003, .lptr 2 0 0), (1007, .clos 268 [] [bF])], [(1, some ⟨3, 1, [[i64 n]]⟩), (2, some ⟨189, 1, [[.lsl 3 0 (0 + 1) none 1]]⟩), (3, some ⟨25, 1, cE (chL2 (0 + 1))⟩)], 4, 18⟩
     refine SEntT.to [(3, 12)] rfl rfl rfl au_r (fun hs => ?_) (fun hs => ?_)
     ·repeat' (first | exact CvF.nil | refine CvF.cons rfl ?_ ?_)
      all_goals (first | (exact Cv.clo hs ha_) | exact au_c)
     ·repeat' (first | exact CvH.nil | refine CvH.cons rfl rfl rfl rfl ?_ ?_)
      all_goals (first | (exact CvLL.clo hs (dy_ [(chP 0).1])) | exact au_e | (refine CvLL.box ?_; repeat' (first | exact CvL.nil | refine CvL.cons ?_ ?_)))
      all_goals (first | (exact Cv.clo hs ha_) | exact au_c)
   | succ k =>
    show AWp _ _ _ _ ⟨setPs (fi1 n k).fr _ _ ++ cx_ (fi1 n k).fr, _, _, _⟩
    show AWp _ _ _ _ ⟨[(8, .arr (pE (chP (k + 1)).1)), (1, .lptr 1 0 0), (3, .lptr 2 0 0), (7, .clos 268 [] [bF]), (1001, .lptr 1 0 0), (1003, .lptr 2 0 0), (1007, .clos 268 [] [bF])], [(1, some ⟨3, 1, [[i64 n]]⟩), (2, some ⟨189, 1, [[.lsl 3 0 (k + 1) none 1]]⟩), (3, some ⟨25, 1, cE (chL2 (k + 1))⟩)], 4, 18⟩
    refine AWp.reg (m := 1) rfl ?_
    refine a_z ?_
    refine AWp.block ?_
    refine r_z 5 ?_
    refine r_z 4 ?_
    refine AWp.cond rfl (fun h1 => ?_) (fun h1 => ?_)
    ·have h2 : n = k + 1 := by
      simp at h1; omega
     subst h2
     refine AWp.exit ?_
     refine ⟨rfl, (), rfl, ?_⟩
     show SEntT _ ⟨[(1003, .lptr 1 0 0)], [(1, some ⟨189, 1, [[.lsl 2 0 ((k + 1) + 1) none 1]]⟩), (2, some ⟨25, 1, cE (chL2 ((k + 1) + 1))⟩)], 4, 18⟩
     refine SEntT.to [(1, 1003), (2, 12)] rfl rfl rfl au_r (fun hs => au_f) (fun hs => ?_)
     ·repeat' (first | exact CvH.nil | refine CvH.cons rfl rfl rfl rfl ?_ ?_)
      all_goals (first | (exact CvLL.cloE hs (by rw [wt_ (k + 1), yn_]; rfl) (dy_ _)) | exact au_e)
    ·have h2 : ¬ n = k + 1 := by
      simp at h1; omega
     refine AWp.skip ?_
     refine ⟨k + 1 + 1, ⟨by omega, rfl⟩, ?_⟩
     show SEntT _ ⟨[(1001, .lptr 1 0 0), (1003, .lptr 2 0 0), (1007, .clos 268 [] [bF])], [(1, some ⟨3, 1, [[i64 n]]⟩), (2, some ⟨189, 1, [[.lsl 3 0 ((k + 1) + 1) none 1]]⟩), (3, some ⟨25, 1, cE (chL2 ((k + 1) + 1))⟩)], 4, 18⟩
     refine SEntT.to [(3, 12)] rfl rfl rfl au_r (fun hs => ?_) (fun hs => ?_)
     ·repeat' (first | exact CvF.nil | refine CvF.cons rfl ?_ ?_)
      all_goals (first | (exact Cv.clo hs ha_) | exact au_c)
     ·repeat' (first | exact CvH.nil | refine CvH.cons rfl rfl rfl rfl ?_ ?_)
      all_goals (first | (exact CvLL.cloE hs (by rw [wt_ (k + 1), yn_]; rfl) (dy_ _)) | exact au_e | (refine CvLL.box ?_; repeat' (first | exact CvL.nil | refine CvL.cons ?_ ?_)))
      all_goals (first | (exact Cv.clo hs ha_) | exact au_c)
  ·intro k hk hT; cases hT
  ·rintro e u rfl
   exact ⟨u, trivial, SEnt.refl _⟩
 rintro u _
 rw [fiX_mk]
 refine r_z 2 ?_
 refine AWp.ret ?_
 exact Fin.tmpS rfl rfl rfl (by simp) (dy_ _)
def okTo (L : Nat) (p t : List Rat) (k : Rat) (n : Nat) : Prop := n < L ∧ smL p ∧ smL t ∧ leadP t ≠ 0 ∧ sm k ∧ smL (bp_ t k) ∧ p.length ≤ 274877906944 ∧ t.length ≤ 274877906944
instance (L : Nat) (p t : List Rat) (k : Rat) (n : Nat) : Decidable (okTo L p t k n) := inferInstanceAs (Decidable (_ ∧ _ ∧ _ ∧ _ ∧ _ ∧ _ ∧ _ ∧ _))
def toM : Nat → List Rat → List Rat → Option (List Rat)
 | 0, _, _ => none
 | f + 1, p, out => if trimQ p = [] then (if p.length ≤ 1099511627776 then some out else none) else
  let n := (trimQ p).length - 1
  let t := (chP n).1
  let k := leadP p / leadP t
  if okTo out.length p t k n then toM f (subP p (bp_ t k)) (out.set n k) else none
def sh_ (f : Nat) (p : List Rat) : Option (List Rat) :=
 if p.length ≤ 1000 ∧ (trimQ p).length ≤ 41 ∧ (∀ k, k < (trimQ p).length → okCh k) then toM f (trimQ p) (List.replicate (trimQ p).length 0) else none
def toS (ts : List (List Rat)) : List Rat × List Rat → AState
 | (p, out) => ⟨[(0, .arr (pE p)), (4, .lsl 1 0 out.length (some out.length) 3), (5, .arr (cE ts)), (6, i64 (degP p))], [(1, some ⟨37, 3, pE out⟩)], 2, 47⟩
theorem toS_mk (ts : List (List Rat)) (p : List Rat) (out : List Rat) : toS ts (p, out) = ⟨[(0, .arr (pE p)), (4, .lsl 1 0 out.length (some out.length) 3), (5, .arr (cE ts)), (6, i64 (degP p))], [(1, some ⟨37, 3, pE out⟩)], 2, 47⟩ := rfl
theorem fs_ToFirst (f : Nat) (p r : List Rat) (h : sh_ f p = some r) : FSpec Tryz.prog 86 [.arr (pE p)] (.tup [.arr (pE r), i64 0]) := by
 unfold sh_ at h
 split at h
 case isFalse => cases h
 case isTrue hp =>
 obtain ⟨hp1, hp2, hp3⟩ := hp
 have htl := bm_ p
 obtain ⟨q, hq⟩ : ∃ q, q = trimQ p := ⟨_, rfl⟩
 rw [← hq] at h hp2 hp3 htl
 have hql : q.length ≤ 41 := hp2
 refine FSpec.enter Tryz.func86 rfl (by kernel_rfl) rfl rfl rfl ?_ rfl ?_
 ·exact aa_ (ad_ p) ab_
 refine r_z 2 ?_
 have htr := dv_ p (by omega)
 rw [← hq] at htr
 refine r_c 3 (htr) ?_
 refine a_z ?_
 refine AWp.seq ?_
 refine r_c 3 (cc_ q (by omega)) ?_
 refine a_z ?_
 refine AWp.cond rfl (fun h1 => ?_) (fun h1 => ?_)
 ·have h2 : (40 : Int) < degP q := by simpa using h1
  have h3 := bm_ q
  unfold degP at h2
  omega
 refine AWp.skip ?_
 refine s_r 4 ?_
 refine a_2 ?_
 refine o_1 (.makeSlice (l := q.length) (c := q.length) rfl rfl te_24.h tz_37.h rfl tb_37.h (by first | omega | (simp; done) | (simp; omega)) (by first | omega | (simp; done) | (simp; omega)) (by unfold maxLen; first | omega | (simp; done) | (simp; omega))) ?_
 refine a_z ?_
 refine r_c 4 (fs_firsts q.length (by omega) hp3) ?_
 refine a_z ?_
 refine AWp.seq ?_
 refine r_c 3 (cc_ q (by omega)) ?_
 refine a_z ?_
 refine AWp.cutT (fun _ : Unit => ⟨[(4, .lsl 1 0 r.length (some r.length) 3)], [(1, some ⟨37, 3, pE r⟩)], 2, 47⟩) (fun _ => True) ?_ ?_
 ·refine AWp.block ?_
  refine AWp.loopS (fun x : Nat × List Rat × List Rat => toS (chL2 (q.length + 1)) x.2) (fun x => x.1) (fun x => toM x.1 x.2.1 x.2.2 = some r ∧ x.2.2.length = q.length ∧ x.2.1.length ≤ 1099511627776) (f, q, List.replicate q.length 0) ⟨h, by simp, by simp only; omega⟩ ?_ ?_
  ·simp only [toS_mk, List.length_replicate]
   refine SEnt.to [(1, 4)] rfl rfl rfl au_r (fun hs => ?_) (fun hs => ?_)
   ·repeat' (first | exact CvF.nil | refine CvF.cons rfl ?_ ?_)
    all_goals (first | (exact Cv.clo hs (bi_ _)) | exact au_c)
   ·repeat' (first | exact CvH.nil | refine CvH.cons rfl rfl rfl rfl ?_ ?_)
    all_goals (first | (exact CvLL.zeros hs _) | exact au_e | (refine CvLL.box ?_; repeat' (first | exact CvL.nil | refine CvL.cons ?_ ?_)))
    all_goals (first | (exact Cv.clo hs (bi_ _)) | exact au_c)
  rintro ⟨k, p, out⟩ ⟨h, ho, hpl⟩
  simp only at h ho hpl
  simp only [toS_mk]
  cases k with
  | zero => cases h
  | succ k =>
   rw [toM] at h
   refine AWp.seq ?_
   refine r_z 2 ?_
   refine AWp.cond rfl (fun h1 => ?_) (fun h1 => ?_)
   ·have h0 : trimQ p ≠ [] := by
     intro e
     have e2 := degP_neg.2 e
     simp at h1; omega
    rw [if_neg h0] at h
    simp only at h
    split at h
    case isFalse => cases h
    case isTrue hk =>
    obtain ⟨n, hn⟩ : ∃ n, n = (trimQ p).length - 1 := ⟨_, rfl⟩
    obtain ⟨t, ht⟩ : ∃ t, t = (chP n).1 := ⟨_, rfl⟩
    obtain ⟨x, hx⟩ : ∃ x, x = leadP p / leadP t := ⟨_, rfl⟩
    rw [← hn, ← ht, ← hx] at h hk
    obtain ⟨k1, k2, k3, k4, k5, k6, k7, k8⟩ := hk
    have hdn : degP p = (n : Int) := by
     unfold degP
     have := List.length_pos_iff.2 h0
     omega
    have hov := fh_ (leadP p) (leadP t) k4 (by have e1 := sx_ k2; have e2 := sx_ k3; unfold sm at e1 e2; omega)
    rw [← hx] at hov
    have hgt : (cE (chL2 (q.length + 1)))[((n : Nat) : Int).toNat]? = some [.arr (pE t)] := by
     refine cE_get ?_
     rw [Int.toNat_natCast, ht, chL2, List.getElem?_map, List.getElem?_range (by omega)]; rfl
    have hsl := cg_ t x
    have hgo : (pE (out.set n x))[0 + ((n : Nat) : Int).toNat]? = some (qC x) := by
     rw [show 0 + ((n : Nat) : Int).toNat = n by omega]
     exact cv_ (by rw [List.getElem?_set, if_pos rfl, if_pos k1])
    have hst : (pE out).set (0 + ((n : Nat) : Int).toNat) (qC x) = pE (out.set n x) := by
     rw [show 0 + ((n : Nat) : Int).toNat = n by omega, gt_]
    have hlo : (out.set n x).length = out.length := by simp
    have hg0 : (pE out)[0 + ((n : Nat) : Int).toNat]? = some (qC (coP out n)) := by
     rw [show 0 + ((n : Nat) : Int).toNat = n by omega]; exact cv_ (bg_ k1)
    have hsb : (subP p (bp_ t x)).length ≤ 1099511627776 := by
     have h1 := hr_ p (bp_ (bp_ t x) (-1))
     have h2 := cg_ (bp_ t x) (-1)
     unfold subP; omega
    rw [hdn]
    refine AWp.skip ?_
    refine AWp.seq ?_
    refine AWp.block ?_
    refine AWp.seq ?_
    refine AWp.regD hmix (m := 12) rfl ?_
    refine c_s (io_ p (by omega)) ?_
    refine a_2 ?_
    first | refine AR.op0 (.index_l rfl rfl (by omega) (by omega) te_189.h) rfl rfl ?_ | refine AR.op0 (.index_a rfl rfl (by omega) hgt rfl te_189.h) rfl rfl ?_
    first | refine AR.op0 (.load_l1 rfl rfl hgt tg_25.h rfl) rfl rfl ?_ | refine AR.op0 (.load_a1 rfl hgt tg_25.h rfl) rfl rfl ?_
    refine c_s (io_ t (by omega)) ?_
    refine c_s (hov) ?_
    refine a_1 ?_
    refine o_1n (.store rfl rfl hg0 rfl rfl rfl ts_37.h (nle rfl)) ?_
    refine AR.nil ⟨by kernel_rfl, ?_⟩
    refine AWp.ent (st' := ⟨[(0, .arr (pE p)), (4, .lsl 1 0 out.length (some out.length) 3), (5, .arr (cE (chL2 (q.length + 1)))), (6, i64 n)], [(1, some ⟨37, 3, pE (out.set n x)⟩)], 2, 47⟩) ?_ ?_
    ·refine SEnt.to [] rfl rfl rfl ?_ (fun hs => ?_) (fun hs => ?_)
     ·repeat' (first | exact ShrL.nil | refine ShrL.cons rfl rfl rfl rfl (by first | (simp) | rfl | (simp; done) | (simp <;> omega)) ?_)
     ·repeat' (first | exact CvF.nil | refine CvF.cons rfl ?_ ?_)
      all_goals (first | (exact Cv.clo hs (bi_ _)) | exact au_c)
     ·repeat' (first | exact CvH.nil | refine CvH.cons rfl rfl rfl rfl ?_ ?_)
      all_goals (first | (exact CvLL.cloE hs hst (ar_ _)) | exact au_e | (refine CvLL.box ?_; repeat' (first | exact CvL.nil | refine CvL.cons ?_ ?_)))
      all_goals (first | (exact Cv.clo hs (bi_ _)) | exact au_c)
    refine AWp.regD hmix (m := 12) rfl ?_
    refine a_3 ?_
    first | refine AR.op0 (.index_l rfl rfl (by omega) (by omega) te_189.h) rfl rfl ?_ | refine AR.op0 (.index_a rfl rfl (by omega) hgt rfl te_189.h) rfl rfl ?_
    first | refine AR.op0 (.load_l1 rfl rfl hgt tg_25.h rfl) rfl rfl ?_ | refine AR.op0 (.load_a1 rfl hgt tg_25.h rfl) rfl rfl ?_
    refine a_3 ?_
    first | refine AR.op0 (.load_l rfl rfl hgo tg_37.h ts_37.h (nle rfl)) rfl rfl ?_ | refine AR.op0 (.load_a rfl hgo tg_37.h ts_37.h (nle rfl)) rfl rfl ?_
    refine c_s (hk_ t x k3 k5 (by omega)) ?_
    refine c_s (fs_Sub p (bp_ t x) k2 k6 (by omega) (by omega)) ?_
    refine a_1 ?_
    refine AR.nil ⟨by kernel_rfl, ?_⟩
    refine AWp.reg (m := 3) rfl ?_
    refine c_s (cc_ (subP p (bp_ t x)) hsb) ?_
    refine a_z ?_
    refine ⟨(k, subP p (bp_ t x), out.set n x), Nat.lt_succ_self k, ⟨h, by simp only; omega, hsb⟩, ?_⟩
    simp only [toS_mk, hlo]
    refine SEnt.to [] rfl rfl rfl au_r (fun hs => ?_) (fun hs => ?_)
    ·repeat' (first | exact CvF.nil | refine CvF.cons rfl ?_ ?_)
     all_goals (first | (exact Cv.clo hs (bi_ _)) | exact au_c)
    ·repeat' (first | exact CvH.nil | refine CvH.cons rfl rfl rfl rfl ?_ ?_)
     all_goals (first | exact au_e | (refine CvLL.box ?_; repeat' (first | exact CvL.nil | refine CvL.cons ?_ ?_)))
     all_goals (first | (exact Cv.clo hs (bi_ _)) | exact au_c)
   ·have h0 : trimQ p = [] := by
     refine degP_neg.1 ?_
     simp at h1; omega
    rw [if_pos h0, if_pos hpl] at h
    cases h
    refine AWp.exit ⟨(), trivial, ?_⟩
    exact s_e []
 rintro _ _
 refine r_z 3 ?_
 refine AWp.ret ?_
 refine Fin.many ⟨_, _, rfl, rfl, ⟨_, _, rfl, rfl, rfl⟩⟩ (nle rfl) ?_
 exact CvL.cons (Cv.sealE am_ rfl (fun _ _ h => by cases h) rfl (by simp) (ar_ r)) (CvL.cons (Cv.clo am_ (ac_ _)) CvL.nil)
def twoP : List Rat := [-2, 0, 1]
theorem w_text1 : textP [1, mkRat (-3) 2, 0, 1] = [120, 94, 51, 32, 45, 32, 51, 47, 50, 32, 120, 32, 43, 32, 49] ∧ okPT [1, mkRat (-3) 2, 0, 1] := by decide +kernel
theorem w_div : divP [-1, 0, 1] [2, 1] = ([-2, 1], [3]) ∧ okDiv [-1, 0, 1] [2, 1] ∧ trimQ [2, 1] ≠ [] := by decide +kernel
theorem w_text2 : textP [-2, 1] = [120, 32, 45, 32, 50] ∧ okPT [-2, 1] := by decide +kernel
theorem w_text3 : textP [3] = [51] ∧ okPT [3] := by decide +kernel
theorem w_first : sh_ 10 [0, 0, 1] = some [mkRat 1 2, 0, mkRat 1 2] := by decide +kernel
theorem w_res : resM 10 1 twoP [-3, 0, 1] = some 1 := by decide +kernel
theorem w_q : textQ (mkRat 1 2) = [49, 47, 50] ∧ okT (mkRat 1 2) ∧ textQ 1 = [49] ∧ okT 1 := by decide +kernel
def spanChk : Bool := match vc_ 40 twoP with
 | some c => decide (1 < allV c ∧ spanM 40 c 1 4 = some (mkRat 11 8, mkRat 23 16))
 | none => false
theorem w_span : spanChk = true := by decide +kernel
theorem w_range : rangeM 40 40 twoP (-1, 2) 0 = some (-2, 2) := by decide +kernel
theorem w_sp : textSp (mkRat 11 8, mkRat 23 16) = [91, 49, 49, 47, 56, 32, 50, 51, 47, 49, 54, 93] ∧ okT (mkRat 11 8) ∧ okT (mkRat 23 16) ∧ textSp (-2, 2) = [91, 45, 50, 32, 50, 93] ∧ okT (-2) ∧ okT 2 := by decide +kernel
inductive LeLL : List (List AV) → List (List AV) → Prop
 | nil : LeLL [] []
 | cons {e e' es es'} : LeL e e' → LeLL es es' → LeLL (e :: es) (e' :: es')
theorem leL_len {xs ys : List AV} (h : LeL xs ys) : ys.length = xs.length := by
 induction h with
 | nil => rfl
 | cons _ _ ih => simp [ih]
theorem leL_cs {M : Nat → Prop} {β : Nat → Option (Nat × Nat)} {w : World} {b : Nat} {xs ys : List AV} (h : LeL xs ys) : ∀ {off : Nat}, RVcs M β w b xs off → RVcs M β w b ys off := by
 induction h with
 | nil => exact fun h => h
 | cons h1 _ ih => rintro off ⟨⟨x, hx, hr⟩, hs⟩; exact ⟨⟨x, hx, h1 M β w x hr⟩, ih hs⟩
theorem LeLL.ess {M : Nat → Prop} {β : Nat → Option (Nat × Nat)} {w : World} {b s : Nat} {es es' : List (List AV)} (h : LeLL es es') : ∀ {off : Nat}, RVess M β w b s es off → RVess M β w b s es' off := by
 induction h with
 | nil => exact fun h => h
 | cons h1 _ ih => rintro off ⟨h0, hc, hr⟩; exact ⟨(leL_len h1).trans h0, leL_cs h1 hc, ih hr⟩
theorem LeLL.length {es es' : List (List AV)} (h : LeLL es es') : es'.length = es.length := by
 induction h with
 | nil => rfl
 | cons _ _ ih => simp [ih]
theorem Le.arr {es es' : List (List AV)} (h : LeLL es es') : Le (.arr es) (.arr es') := by
 rintro M β w y ⟨a, c, rfl, h1, h2, h3⟩
 refine ⟨a, c, by rw [h.length], by rw [h.length]; exact h1, h2, h3.imp (fun e => ?_) ?_⟩
 ·subst e; cases h; rfl
 ·rintro ⟨b, off, s, rfl, hN, hm, hr⟩
  exact ⟨b, off, s, rfl, hN, hm, h.ess hr⟩
theorem LeLL.refl : ∀ es, LeLL es es
 | [] => .nil
 | e :: es => .cons (LeL.refl e) (LeLL.refl es)
section
variable {P : Go.Program} {T : Nat} {x y : Operand}
theorem lh_ {s : ByteArray} : ∀ w, (do eqGuard .eql T x y (.string s) (.string s); binOp .eql T (.string s) (.string s) : Sem Value).run P w = .ok (.bool true) w := fun w => by
 rw [tr_]; simp
end
theorem gl_ : FSpec Tryz.prog 14 [] (.v (.bool true)) := by
 have i1 := pr_ [-2, 0, 1] (by decide) (by decide)
 rw [show zR [-2, 0, 1] = twoP by decide] at i1
 have i2 := pr_ [-1, 0, 1] (by decide) (by decide)
 rw [show zR [-1, 0, 1] = [-1, 0, 1] by decide] at i2
 have i3 := pr_ [2, 1] (by decide) (by decide)
 rw [show zR [2, 1] = [2, 1] by decide] at i3
 have i4 := pr_ [0, 0, 1] (by decide) (by decide)
 rw [show zR [0, 0, 1] = [0, 0, 1] by decide] at i4
 have i5 := pr_ [-3, 0, 1] (by decide) (by decide)
 rw [show zR [-3, 0, 1] = [-3, 0, 1] by decide] at i5
 have hdiv := fs_Divide [-1, 0, 1] [2, 1] w_div.2.1 w_div.2.2
 rw [w_div.1] at hdiv
 obtain ⟨c, hc1, hc2, hc3⟩ : ∃ c, vc_ 40 twoP = some c ∧ 1 < allV c ∧ spanM 40 c 1 4 = some (mkRat 11 8, mkRat 23 16) := by
  have h := w_span
  unfold spanChk at h
  split at h
  ·rename_i c hc; exact ⟨c, hc, of_decide_eq_true h⟩
  ·cases h
 have hspan := fs_RSpan 40 twoP 1 4 c (mkRat 11 8, mkRat 23 16) hc1 (by decide) (by decide) hc2 hc3
 have n1 := dw_ (-1) (by decide)
 rw [show ((-1 : Int) : Rat) = -1 by decide] at n1
 have n2 := dw_ 2 (by decide)
 rw [show ((2 : Int) : Rat) = 2 by decide] at n2
 have n3 := dw_ 1 (by decide)
 rw [show ((1 : Int) : Rat) = 1 by decide] at n3
 have hrange := fs_Range 40 40 twoP (-1, 2) 0 (-2, 2) w_range (by decide)
 have hfirst := fs_ToFirst 10 [0, 0, 1] [mkRat 1 2, 0, mkRat 1 2] w_first
 have hof := fs_Of (-3) 2 (by decide) (by decide) (by decide)
 rw [show (((-3 : Int) : Rat) / ((2 : Int) : Rat)) = mkRat (-3) 2 by decide +kernel] at hof
 have t1 := tg_ [1, mkRat (-3) 2, 0, 1] w_text1.2
 rw [w_text1.1] at t1
 have t1' : FSpec Tryz.prog 65 [.arr [qC 1, qC (mkRat (-3) 2), zC, qC 1]] (tx [120, 94, 51, 32, 45, 32, 51, 47, 50, 32, 120, 32, 43, 32, 49]) := by
  refine t1.weak (.cons (Le.arr (.cons (.refl _) (.cons (.refl _) (.cons le_zC (.cons (.refl _) .nil))))) .nil) ?_
  refine aa_ (ao_ ?_) ab_
  intro e he
  simp at he
  rcases he with rfl | rfl | rfl | rfl
  ·exact aq_ _
  ·exact aq_ _
  ·exact wo_
  ·exact aq_ _
 have t2 := tg_ [-2, 1] w_text2.2
 rw [w_text2.1] at t2
 have t3 := tg_ [3] w_text3.2
 rw [w_text3.1] at t3
 have s1 := fs_SText (mkRat 11 8, mkRat 23 16) w_sp.2.1 w_sp.2.2.1
 rw [w_sp.1] at s1
 have s2 := fs_SText (-2, 2) w_sp.2.2.2.2.1 w_sp.2.2.2.2.2
 rw [w_sp.2.2.2.1] at s2
 have q1 := ly_ (mkRat 1 2) w_q.2.1
 rw [w_q.1] at q1
 have q2 := ly_ 1 w_q.2.2.2
 rw [w_q.2.2.1] at q2
 have hres := vw_ 10 twoP [-3, 0, 1] 1 w_res
 refine FSpec.enter Tryz.func14 rfl (by kernel_rfl) rfl rfl rfl ?_ rfl ?_
 ·exact ab_
 refine r_z 1 ?_
 refine s_r 3 ?_
 refine a_1 ?_
 refine o_1 (.callS1 rfl rfl rfl (.shut rfl (by first | exact nle rfl | (simp; done) | (simp; omega)) (.nil)) rfl (i1)) ?_
 refine a_z ?_
 refine s_r 12 ?_
 refine a_1 ?_
 refine o_1 (.callS1 rfl rfl rfl (.shut rfl (by first | exact nle rfl | (simp; done) | (simp; omega)) (.nil)) rfl (i2)) ?_
 refine a_1 ?_
 refine o_1 (.callS1 rfl rfl rfl (.shut rfl (by first | exact nle rfl | (simp; done) | (simp; omega)) (.nil)) rfl (i3)) ?_
 refine c_s (hdiv) ?_
 refine a_z ?_
 refine r_c 9 (hspan) ?_
 refine a_z ?_
 refine r_c 11 (n1) ?_
 refine c_s (n2) ?_
 refine c_s (hrange) ?_
 refine a_z ?_
 refine s_r 8 ?_
 refine a_1 ?_
 refine o_1 (.callS1 rfl rfl rfl (.shut rfl (by first | exact nle rfl | (simp; done) | (simp; omega)) (.nil)) rfl (i4)) ?_
 refine c_s (hfirst) ?_
 refine a_z ?_
 refine r_c 7 (hof) ?_
 refine a_z ?_
 refine AWp.seq ?_
 refine AWp.regD hmix (m := 64) rfl ?_
 refine c_s (n3) ?_
 refine c_s (n3) ?_
 refine o_1 (.buildSlice te_25.h tz_37.h rfl (by decide) rfl rfl rfl (by simp [by_, ofV])) ?_
 refine o_1 (.callS1 rfl rfl rfl (.shut rfl (by first | exact nle rfl | (simp; done) | (simp; omega)) (.nil)) rfl (t1')) ?_
 refine o_0 (.bin rfl rfl lh_) ?_
 refine a_1 ?_
 refine AR.op0y rfl rfl (gy rfl) (.move rfl) rfl rfl ?_
 refine AR.op0y rfl rfl (gy rfl) (.bin rfl rfl bo_) rfl rfl ?_
 refine o_0 (.pickT rfl rfl rfl) ?_
 refine a_1 ?_
 refine AR.op0y rfl rfl (gy rfl) (.move rfl) rfl rfl ?_
 refine AR.op0y rfl rfl (gy rfl) (.call rfl rfl rfl (t2)) rfl rfl ?_
 refine AR.op0y rfl rfl (gy rfl) (.bin rfl rfl lh_) rfl rfl ?_
 refine o_0 (.pickT rfl rfl rfl) ?_
 refine a_1 ?_
 refine AR.op0y rfl rfl (gy rfl) (.move rfl) rfl rfl ?_
 refine AR.op0y rfl rfl (gy rfl) (.call rfl rfl rfl (t3)) rfl rfl ?_
 refine AR.op0y rfl rfl (gy rfl) (.bin rfl rfl lh_) rfl rfl ?_
 refine o_0 (.pickT rfl rfl rfl) ?_
 refine a_1 ?_
 refine AR.op0y rfl rfl (gy rfl) (.move rfl) rfl rfl ?_
 refine AR.op0y rfl rfl (gy rfl) (.bin rfl rfl bo_) rfl rfl ?_
 refine o_0 (.pickT rfl rfl rfl) ?_
 refine a_1 ?_
 first | refine AR.op0y rfl rfl (gy rfl) (.load_l rfl rfl rfl tg_65.h ts_65.h (nle rfl)) rfl rfl ?_ | refine AR.op0y rfl rfl (gy rfl) (.load_a rfl rfl tg_65.h ts_65.h (nle rfl)) rfl rfl ?_
 refine AR.op0y rfl rfl (gy rfl) (.call rfl rfl rfl (s1)) rfl rfl ?_
 refine AR.op0y rfl rfl (gy rfl) (.bin rfl rfl lh_) rfl rfl ?_
 refine o_0 (.pickT rfl rfl rfl) ?_
 refine a_1 ?_
 refine AR.op0y rfl rfl (gy rfl) (.move rfl) rfl rfl ?_
 refine AR.op0y rfl rfl (gy rfl) (.bin rfl rfl bo_) rfl rfl ?_
 refine o_0 (.pickT rfl rfl rfl) ?_
 refine a_1 ?_
 first | refine AR.op0y rfl rfl (gy rfl) (.load_l rfl rfl rfl tg_65.h ts_65.h (nle rfl)) rfl rfl ?_ | refine AR.op0y rfl rfl (gy rfl) (.load_a rfl rfl tg_65.h ts_65.h (nle rfl)) rfl rfl ?_
 refine AR.op0y rfl rfl (gy rfl) (.call rfl rfl rfl (s2)) rfl rfl ?_
 refine AR.op0y rfl rfl (gy rfl) (.bin rfl rfl lh_) rfl rfl ?_
 refine o_0 (.pickT rfl rfl rfl) ?_
 refine a_1 ?_
 refine AR.op0y rfl rfl (gy rfl) (.move rfl) rfl rfl ?_
 refine AR.op0y rfl rfl (gy rfl) (.bin rfl rfl bo_) rfl rfl ?_
 refine o_0 (.pickT rfl rfl rfl) ?_
 refine a_1 ?_
 refine AR.op0y rfl rfl (gy rfl) (.move rfl) rfl rfl ?_
 first | refine AR.op0y rfl rfl (gy rfl) (.lenD rfl rfl rfl rfl te_24.h) rfl rfl ?_ | refine AR.op0y rfl rfl (gy rfl) (.lenI rfl rfl rfl rfl te_24.h) rfl rfl ?_ | refine AR.op0y rfl rfl (gy rfl) (.lenP rfl rfl rfl rfl te_24.h) rfl rfl ?_ | refine AR.op0y rfl rfl (gy rfl) (.lenC rfl rfl rfl rfl te_24.h) rfl rfl ?_ | refine AR.op0y rfl rfl (gy rfl) (.lenR rfl rfl rfl rfl te_24.h) rfl rfl ?_ | refine AR.op0y rfl rfl (gy rfl) (.len rfl rfl rfl rfl rfl te_24.h) rfl rfl ?_
 refine AR.op0y rfl rfl (gy rfl) (.bin rfl rfl bo_) rfl rfl ?_
 refine o_0 (.pickT rfl rfl rfl) ?_
 refine a_1 ?_
 refine AR.op0y rfl rfl (gy rfl) (.move rfl) rfl rfl ?_
 first | refine AR.op0y rfl rfl (gy rfl) (.index_l rfl rfl (by omega) (by omega) te_24.h) rfl rfl ?_ | refine AR.op0y rfl rfl (gy rfl) (.index_a rfl rfl (by omega) rfl rfl te_24.h) rfl rfl ?_
 first | refine AR.op0y rfl rfl (gy rfl) (.load_l rfl rfl rfl tg_37.h ts_37.h (nle rfl)) rfl rfl ?_ | refine AR.op0y rfl rfl (gy rfl) (.load_a rfl rfl tg_37.h ts_37.h (nle rfl)) rfl rfl ?_
 refine AR.op0y rfl rfl (gy rfl) (.call rfl rfl rfl (q1)) rfl rfl ?_
 refine AR.op0y rfl rfl (gy rfl) (.bin rfl rfl lh_) rfl rfl ?_
 refine o_0 (.pickT rfl rfl rfl) ?_
 refine a_1 ?_
 refine AR.op0y rfl rfl (gy rfl) (.move rfl) rfl rfl ?_
 refine AR.op1y rfl rfl (gy rfl) (.buildSlice te_200.h tz_2.h rfl (by decide) rfl rfl rfl (by first | (simp; done) | (simp [by_, ofV]; done) | rfl)) rfl rfl ?_
 refine AR.op1y rfl rfl (gy rfl) (.callS1 rfl rfl rfl (.shut rfl (by first | exact nle rfl | (simp; done) | (simp; omega)) (.nil)) rfl (i5)) rfl rfl ?_
 refine AR.op0y rfl rfl (gy rfl) (.call rfl rfl rfl (hres)) rfl rfl ?_
 refine AR.op0y rfl rfl (gy rfl) (.call rfl rfl rfl (q2)) rfl rfl ?_
 refine AR.op0y rfl rfl (gy rfl) (.bin rfl rfl lh_) rfl rfl ?_
 refine o_0 (.pickT rfl rfl rfl) ?_
 refine a_1 ?_
 refine AR.nil ⟨by kernel_rfl, ?_⟩
 refine AWp.ret ?_
 refine Fin.tmpE rfl ?_ ?_
 ·rfl
 ·exact ac_ _
abbrev NRow := Int × Int × Nat
def nV (r : NRow) : Rat := numV r.1 r.2.1 r.2.2
def nR (l : List NRow) : List (List AV) := l.map fun r => nuC r.1 r.2.1 r.2.2
def nL (l : List NRow) : List Rat := l.map nV
abbrev rL (l : List Rat) : List (List AV) := rE (l.map rq)
def okR (l : List NRow) : Prop := ∀ r ∈ l, i64r r.1 ∧ i64r r.2.1 ∧ r.2.2 ≤ 255
theorem db_ (l : List NRow) : ∀ e ∈ nR l, ∀ c ∈ e, Closed c := by
 intro e he c hc
 obtain ⟨r, _, rfl⟩ := List.mem_map.1 he
 exact jn_ _ _ _ c hc
theorem iw_ (l : List Rat) : ∀ e ∈ rL l, ∀ c ∈ e, Closed c := cl_ _
theorem numV_qs {N D : Int} {p : Nat} (hN : i64r N) (hD : i64r D) : qs (numV N D p) ≤ 256 := by
 obtain ⟨d, hd⟩ : ∃ d, d = dNum D := ⟨_, rfl⟩
 have hd0 : d ≠ 0 := by rw [hd]; unfold dNum; split <;> omega
 have hdr : i64r d := by
  rw [hd]; unfold dNum i64r; unfold i64r at hD; split <;> omega
 unfold i64r at hN hdr
 obtain ⟨q, hq⟩ : ∃ q, q = Rat.divInt N d := ⟨_, rfl⟩
 have hnv : numV N D p = powQ q (p % 4) := by unfold numV; rw [← hd, ← hq]
 have hqs : qs q ≤ 64 := by
  have hb : ∀ z : Int, -9223372036854775808 ≤ z ∧ z ≤ 9223372036854775808 → bl z.natAbs ≤ 64 := fun z h => bl_le (k := 64) (by omega)
  rw [hq]
  by_cases hn : d < 0
  ·rw [ms_ N d hn]
   exact fs_ (by omega) (hb (-N) (by omega)) (hb d (by omega))
  ·rw [mr_ N d (by omega)]
   exact fs_ (by omega) (hb N (by omega)) (hb d (by omega))
 have h1 := xl_ q (p % 4)
 have h2 : (p % 4 + 1) * qs q ≤ 4 * 64 := Nat.mul_le_mul (by omega) hqs
 rw [hnv]; omega
theorem nL_qs {l : List NRow} (h : okR l) : ∀ q ∈ nL l, qs q ≤ 256 := by
 intro q hq
 obtain ⟨r, hr, rfl⟩ := List.mem_map.1 hq
 exact numV_qs (h r hr).1 (h r hr).2.1
def liS (l : List NRow) : List Rat → Nat → AState
 | [], i => ⟨[(0, .arr (nR l)), (4, .emp), (5, .emp), (6, i64 i)], [], 1, 33⟩
 | q :: Q, i => ⟨[(0, .arr (nR l)), (4, .lsl 1 0 (Q.length + 1) none 3), (5, .lsl 2 0 (Q.length + 1) none 4), (6, i64 i)], [(1, some ⟨37, 3, pE (q :: Q)⟩), (2, some ⟨75, 4, rL (q :: Q)⟩)], 3, 33⟩
theorem pe_ (l : List NRow) (i : Nat) : liS l [] i = ⟨[(0, .arr (nR l)), (4, .emp), (5, .emp), (6, i64 i)], [], 1, 33⟩ := rfl
theorem jf_ (l : List NRow) (q : Rat) (Q : List Rat) (i : Nat) : liS l (q :: Q) i = ⟨[(0, .arr (nR l)), (4, .lsl 1 0 (Q.length + 1) none 3), (5, .lsl 2 0 (Q.length + 1) none 4), (6, i64 i)], [(1, some ⟨37, 3, pE (q :: Q)⟩), (2, some ⟨75, 4, rL (q :: Q)⟩)], 3, 33⟩ := rfl
theorem fs_List (l : List NRow) (hl : l.length ≤ 1099511627776) (hb : okR l) : FSpec Tryz.prog 80 [.arr (nR l)] (.tup [.arr (pE (nL l)), .arr (rL (nL l))]) := by
 have hcr : ∀ q : Rat, ∀ e ∈ [rC (rq q)], ∀ c ∈ e, Closed c := fun q => iw_ [q]
 refine FSpec.enter Tryz.func80 rfl (by kernel_rfl) rfl rfl rfl ?_ rfl ?_
 ·exact aa_ (ao_ (db_ l)) ab_
 refine r_z 2 ?_
 refine r_z 1 ?_
 refine r_z 1 ?_
 refine AWp.seq ?_
 refine r_z 1 ?_
 refine AWp.cutT (fun _ : Unit => liS l (nL l) l.length) (fun _ => True) ?_ ?_
 ·refine AWp.block ?_
  refine AWp.loopS (fun i : Nat => liS l (nL (l.take i)) i) (fun i => l.length - i) (fun i => i ≤ l.length) 0 (Nat.zero_le _) ?_ ?_
  ·show SEnt _ (liS l [] 0)
   rw [pe_]
   refine SEnt.to [] rfl rfl rfl au_r (fun hs => ?_) (fun hs => ?_)
   ·repeat' (first | exact CvF.nil | refine CvF.cons rfl ?_ ?_)
    all_goals (first | (exact Cv.clo hs (ao_ (db_ l))) | exact au_c)
   ·repeat' (first | exact CvH.nil | refine CvH.cons rfl rfl rfl rfl ?_ ?_)
    all_goals (first | exact au_e | (refine CvLL.box ?_; repeat' (first | exact CvL.nil | refine CvL.cons ?_ ?_)))
    all_goals (first | (exact Cv.clo hs (ao_ (db_ l))) | exact au_c)
  rintro i hi
  have hlen : (nR l).length = l.length := by simp [nR]
  by_cases hlt : i < l.length
  ·obtain ⟨n, hn⟩ : ∃ n, l[i]? = some n := ⟨_, List.getElem?_eq_getElem hlt⟩
   have hgt : (nR l)[((i : Nat) : Int).toNat]? = some (nuC n.1 n.2.1 n.2.2) := by
    show (nR l)[i]? = _
    simp [nR, hn]
   obtain ⟨hn1, hn2, hn3⟩ := hb n (List.mem_of_getElem? hn)
   have hbo := fs_Both1 n.1 n.2.1 n.2.2 hn1 hn2 hn3
   obtain ⟨v, hv⟩ : ∃ v, v = numV n.1 n.2.1 n.2.2 := ⟨_, rfl⟩
   rw [← hv] at hbo
   have htk : nL (l.take (i + 1)) = nL (l.take i) ++ [v] := by rw [cw_ hn]; simp [nL, nV, hv]
   have hQl : (nL (l.take i)).length = i := by simp [nL]; omega
   cases hQ : nL (l.take i) with
   | nil =>
    simp only [pe_]
    refine AWp.seq ?_
    refine r_z 4 ?_
    refine AWp.cond rfl (fun h => ?_) (fun h => ?_)
    rotate_left
    ·exact absurd h (by simp [nR]; omega)
    refine AWp.skip ?_
    refine AWp.seq ?_
    refine AWp.block ?_
    refine s_r 12 ?_
    refine a_2 ?_
    first | refine AR.op0 (.index_l rfl rfl (by omega) (by omega) te_22.h) rfl rfl ?_ | refine AR.op0 (.index_a rfl rfl (by omega) hgt rfl te_22.h) rfl rfl ?_
    first | refine AR.op0 (.load_l rfl rfl hgt tg_82.h ts_82.h (nle rfl)) rfl rfl ?_ | refine AR.op0 (.load_a rfl hgt tg_82.h ts_82.h (nle rfl)) rfl rfl ?_
    refine c_s (hbo) ?_
    refine a_z ?_
    refine AWp.regD hmix (m := 10) rfl ?_
    refine a_8 ?_
    refine a_2 ?_
    refine AR.nil ⟨by kernel_rfl, ?_⟩
    refine AWp.reg (m := 3) rfl ?_
    refine a_z ?_
    refine ⟨i + 1, by omega, hlt, ?_⟩
    simp only [htk, hQ, List.nil_append, jf_]
    refine SEnt.to [(1, 4), (2, 5)] rfl rfl rfl au_r (fun hs => ?_) (fun hs => ?_)
    ·repeat' (first | exact CvF.nil | refine CvF.cons rfl ?_ ?_)
     all_goals (first | (exact Cv.clo hs (ao_ (db_ l))) | exact au_c)
    ·repeat' (first | exact CvH.nil | refine CvH.cons rfl rfl rfl rfl ?_ ?_)
     all_goals (first | ((try exact CvLL.clo hs (ar_ [v])); (try exact CvLL.clo hs (iw_ [v]))) | exact au_e | (refine CvLL.box ?_; repeat' (first | exact CvL.nil | refine CvL.cons ?_ ?_)))
     all_goals (first | (exact Cv.clo hs (ao_ (db_ l))) | exact au_c)
   | cons q Q =>
    rw [hQ] at hQl
    simp at hQl
    simp only [jf_]
    refine AWp.seq ?_
    refine r_z 4 ?_
    refine AWp.cond rfl (fun h => ?_) (fun h => ?_)
    rotate_left
    ·exact absurd h (by simp [nR]; omega)
    refine AWp.skip ?_
    refine AWp.seq ?_
    refine AWp.block ?_
    refine s_r 12 ?_
    refine a_2 ?_
    first | refine AR.op0 (.index_l rfl rfl (by omega) (by omega) te_22.h) rfl rfl ?_ | refine AR.op0 (.index_a rfl rfl (by omega) hgt rfl te_22.h) rfl rfl ?_
    first | refine AR.op0 (.load_l rfl rfl hgt tg_82.h ts_82.h (nle rfl)) rfl rfl ?_ | refine AR.op0 (.load_a rfl hgt tg_82.h ts_82.h (nle rfl)) rfl rfl ?_
    refine c_s (hbo) ?_
    refine a_z ?_
    refine AWp.regD hmix (m := 10) rfl ?_
    refine a_8 ?_
    refine a_2 ?_
    refine AR.nil ⟨by kernel_rfl, ?_⟩
    refine AWp.reg (m := 3) rfl ?_
    refine a_z ?_
    refine ⟨i + 1, by omega, hlt, ?_⟩
    simp only [htk, hQ, List.cons_append, jf_]
    have e : pE (q :: Q) ++ [qC v] = pE (q :: (Q ++ [v])) := by simp [pE]
    have e2 : rL (q :: Q) ++ [rC (rq v)] = rL (q :: (Q ++ [v])) := by simp [rE]
    refine SEnt.to [(1, 4), (2, 5)] rfl rfl rfl ?_ (fun hs => ?_) (fun hs => ?_)
    ·repeat' (first | exact ShrL.nil | refine ShrL.cons rfl rfl rfl rfl (by first | (simp) | rfl | (simp; done) | (simp <;> omega)) ?_)
    ·repeat' (first | exact CvF.nil | refine CvF.cons rfl ?_ ?_)
     all_goals (first | (exact Cv.clo hs (ao_ (db_ l))) | exact au_c)
    ·repeat' (first | exact CvH.nil | refine CvH.cons rfl rfl rfl rfl ?_ ?_)
     all_goals (first | ((try exact CvLL.cloE hs e (ar_ _)); (try exact CvLL.cloE hs e2 (iw_ _))) | exact au_e | (refine CvLL.box ?_; repeat' (first | exact CvL.nil | refine CvL.cons ?_ ?_)))
     all_goals (first | (exact Cv.clo hs (ao_ (db_ l))) | exact au_c)
  ·have hge : i = l.length := by omega
   subst hge
   simp only [List.take_length]
   cases hQ : nL l with
   | nil =>
    simp only [pe_]
    refine AWp.seq ?_
    refine r_z 4 ?_
    refine AWp.cond rfl (fun h => ?_) (fun h => ?_)
    ·exact absurd h (by simp [nR])
    ·refine AWp.exit ⟨(), trivial, ?_⟩
     simp only [hQ, pe_]
     refine SEnt.to [] rfl rfl rfl au_r (fun hs => ?_) (fun hs => ?_)
     ·repeat' (first | exact CvF.nil | refine CvF.cons rfl ?_ ?_)
      all_goals (first | (exact Cv.clo hs (ao_ (db_ l))) | exact au_c)
     ·repeat' (first | exact CvH.nil | refine CvH.cons rfl rfl rfl rfl ?_ ?_)
      all_goals (first | exact au_e | (refine CvLL.box ?_; repeat' (first | exact CvL.nil | refine CvL.cons ?_ ?_)))
      all_goals (first | (exact Cv.clo hs (ao_ (db_ l))) | exact au_c)
   | cons q Q =>
    simp only [jf_]
    refine AWp.seq ?_
    refine r_z 4 ?_
    refine AWp.cond rfl (fun h => ?_) (fun h => ?_)
    ·exact absurd h (by simp [nR])
    ·refine AWp.exit ⟨(), trivial, ?_⟩
     simp only [hQ, jf_]
     refine SEnt.to [] rfl rfl rfl au_r (fun hs => ?_) (fun hs => ?_)
     ·repeat' (first | exact CvF.nil | refine CvF.cons rfl ?_ ?_)
      all_goals (first | (exact Cv.clo hs (ao_ (db_ l))) | exact au_c)
     ·repeat' (first | exact CvH.nil | refine CvH.cons rfl rfl rfl rfl ?_ ?_)
      all_goals (first | (exact CvLL.clo hs (iw_ _)) | exact au_e | (refine CvLL.box ?_; repeat' (first | exact CvL.nil | refine CvL.cons ?_ ?_)))
      all_goals (first | (exact Cv.clo hs (ao_ (db_ l))) | exact au_c)
 rintro _ _
 cases hQ : nL l with
 | nil =>
  simp only [pe_]
  refine r_z 4 ?_
  refine AWp.ret ?_
  refine Fin.many ⟨_, _, rfl, rfl, ⟨_, _, rfl, rfl, rfl⟩⟩ (nle rfl) ?_
  exact CvL.cons (Cv.emp _) (CvL.cons (Cv.emp _) CvL.nil)
 | cons q Q =>
  simp only [jf_]
  refine r_z 4 ?_
  refine AWp.ret ?_
  refine Fin.many ⟨_, _, rfl, rfl, ⟨_, _, rfl, rfl, rfl⟩⟩ (nle rfl) ?_
  exact CvL.cons (Cv.sealE am_ rfl (fun _ _ h => by cases h) rfl (by simp) (ar_ _)) (CvL.cons (Cv.sealE am_ rfl (fun _ _ h => by cases h) rfl (by simp) (iw_ _)) CvL.nil)
theorem dec_one {n : Nat} (h : Lib.decDigits n = [49]) : n = 1 := by
 by_cases h1 : n < 10
 ·rw [Lib.decDigits_one h1] at h
  have : ∀ n, n < 10 → [UInt8.ofNat (48 + n)] = [49] → n = 1 := by decide
  exact this n h1 h
 ·have h2 := Lib.decDigits_length n
  rw [h, Lib.nDigits_big h1] at h2
  have := Lib.nDigits_pos (n / 10)
  simp at h2; omega
theorem ztx_nat (n : Nat) : ztx (n : Int) = Lib.decDigits n := by
 unfold ztx
 rw [if_neg (by omega), Int.natAbs_natCast]; rfl
theorem ztx_len (z : Int) : (ztx z).length ≤ bl z.natAbs + 2 := by
 have := sb_ z.natAbs
 unfold ztx
 split <;> simp <;> omega
theorem fs_rText (x : RQ) (hx : rok x) (h : qs x.1 ≤ 68719476736) : FSpec Tryz.prog 143 [.agg (rC x)] (tx (qtx x.1)) := by
 have hn := Nat.le_trans (co_ x.1) h
 have hd := Nat.le_trans (ci_ x.1) h
 have zn := fs_ZText x.1.num hn
 have zd := fs_ZText (x.1.den : Int) (by rw [Int.natAbs_natCast]; exact hd)
 have ln := ztx_len x.1.num
 have ld := ztx_len (x.1.den : Int)
 rw [Int.natAbs_natCast] at ld
 have hcx : Closed (.aptr [rC x] 0 0) := bb_ (bz_ x)
 refine FSpec.enter Tryz.func143 rfl (by kernel_rfl) rfl rfl rfl ?_ rfl ?_
 ·exact aa_ (ay_ x) ab_
 refine r_z 2 ?_
 by_cases h1 : x.1.den = 1
 ·have e1 : decide (ztx (x.1.den : Int) = [49]) = true := decide_eq_true (by rw [h1]; decide +kernel)
  refine AWp.seq ?_
  refine r_c 4 (es_ x hx) ?_
  refine c_s (zd) ?_
  refine o_0 (.bin rfl rfl (vT ts_ e1)) ?_
  refine AR.nil ?_
  refine AWp.cond rfl (fun h2 => ?_) (fun h2 => ?_)
  rotate_left
  ·cases h2
  refine r_c 4 (zn) ?_
  refine a_z ?_
  refine AWp.ret ?_
  exact Fin.tmpE rfl (by rw [qtx_eq, if_pos h1, List.append_nil]) (ac_ _)
 ·have e1 : decide (ztx (x.1.den : Int) = [49]) = false := decide_eq_false fun e => h1 (dec_one (by rw [← ztx_nat]; exact e))
  refine AWp.seq ?_
  refine r_c 4 (es_ x hx) ?_
  refine c_s (zd) ?_
  refine o_0 (.bin rfl rfl (vF ts_ e1)) ?_
  refine AR.nil ?_
  refine AWp.cond rfl (fun h2 => ?_) (fun h2 => ?_)
  ·cases h2
  refine AWp.skip ?_
  refine AWp.seq ?_
  refine AWp.regD hmix (m := 9) rfl ?_
  refine c_s (zn) ?_
  refine o_0 (.bin rfl rfl (cs_ (m := [47]) (by simp; omega))) ?_
  refine c_s (es_ x hx) ?_
  refine c_s (zd) ?_
  refine o_0 (.bin rfl rfl (cs_ (by simp; omega))) ?_
  refine a_1 ?_
  refine AR.nil ⟨by kernel_rfl, ?_⟩
  refine AWp.ret ?_
  exact Fin.tmpE rfl (by rw [qtx_eq, if_neg h1, ztx_nat, List.append_assoc]; rfl) (ac_ _)
theorem fs_SameN (q : Rat) (x : RQ) (hx : rok x) (h : x.1 = q) (hs : qs q ≤ 68719476736) : FSpec Tryz.prog 62 [.agg (qC q), .agg (rC x)] (bln true) := by
 subst h
 have e1 : decide (qtx x.1 = qtx x.1) = true := decide_eq_true rfl
 refine FSpec.enter Tryz.func62 rfl (by kernel_rfl) rfl rfl rfl ?_ rfl ?_
 ·exact aa_ (ae_ _) (aa_ (ay_ x) ab_)
 refine r_z 3 ?_
 refine AWp.seq ?_
 refine AWp.regD hmix (m := 6) rfl ?_
 refine c_s (fs_QTextA x.1 hs) ?_
 refine c_s (fs_rText x hx hs) ?_
 refine o_0 (.bin rfl rfl (vT ts_ e1)) ?_
 refine a_1 ?_
 refine AR.nil ⟨by kernel_rfl, ?_⟩
 refine AWp.ret ?_
 exact Fin.tmpE rfl rfl (ac_ _)
def vR (x : List RQ) : List Rat := x.map (·.1)
def okX (x : List RQ) : Prop := ∀ y ∈ x, rok y
def trimR (x : List RQ) : List RQ := x.take (trimQ (vR x)).length
theorem vR_trim (x : List RQ) : vR (trimR x) = trimQ (vR x) := by
 unfold trimR
 rw [vR, List.map_take]
 exact (ol_ (vR x)).symm
theorem okX_trim {x : List RQ} (h : okX x) : okX (trimR x) := fun y hy => h y (List.mem_of_mem_take hy)
@[simp] theorem gp_ (x : List RQ) : (vR x).length = x.length := by simp [vR]
def lkS (l : List Rat) (x : List RQ) : Nat → AState
 | i => ⟨[(0, .arr (pE l)), (1, .arr (rE x)), (5, i64 i)], [], 1, 27⟩
theorem lkS_mk (l : List Rat) (x : List RQ) (i : Nat) : lkS l x i = ⟨[(0, .arr (pE l)), (1, .arr (rE x)), (5, i64 i)], [], 1, 27⟩ := rfl
theorem fs_Alike (l : List Rat) (x : List RQ) (hx : okX x) (h : vR x = l) (hs : bdL l 68719476736) (hl : l.length ≤ 1099511627776) : FSpec Tryz.prog 31 [.arr (pE l), .arr (rE x)] (bln true) := by
 have hxl : x.length = l.length := by rw [← h]; simp
 refine FSpec.enter Tryz.func31 rfl (by kernel_rfl) rfl rfl rfl ?_ rfl ?_
 ·exact aa_ (ad_ l) (aa_ (au_ x) ab_)
 refine r_z 1 ?_
 refine AWp.seq ?_
 refine s_r 5 ?_
 refine a_4 ?_
 refine o_0 (.bin rfl rfl (vF fj_ ((by rw [hxl]; simp)))) ?_
 refine AR.nil ?_
 refine AWp.cond rfl (fun h2 => ?_) (fun h2 => ?_)
 ·cases h2
 refine AWp.skip ?_
 refine AWp.seq ?_
 refine r_z 1 ?_
 refine AWp.cutT (fun _ : Unit => ⟨[(0, .arr (pE l)), (1, .arr (rE x))], [], 1, 27⟩) (fun _ => True) ?_ ?_
 ·refine AWp.block ?_
  refine AWp.loopS (lkS l x) (fun i => l.length - i) (fun i => i ≤ l.length) 0 (Nat.zero_le _) ?_ ?_
  ·simp only [lkS_mk]
   exact s_e []
  rintro i hi
  simp only [lkS_mk]
  by_cases hlt : i < l.length
  ·obtain ⟨y, hy⟩ : ∃ y, x[i]? = some y := ⟨_, List.getElem?_eq_getElem (by omega)⟩
   have hq : l[i]? = some y.1 := by rw [← h, vR, List.getElem?_map, hy]; rfl
   have g1 : (pE l)[((i : Nat) : Int).toNat]? = some (qC y.1) := cv_ hq
   have g2 : (rE x)[((i : Nat) : Int).toNat]? = some (rC y) := ht_ hy
   refine AWp.seq ?_
   refine q_z 4 ?_
   refine AWp.cond rfl (fun h2 => ?_) (fun h2 => ?_)
   rotate_left
   ·cases h2
   refine AWp.skip ?_
   refine AWp.seq ?_
   refine AWp.block ?_
   refine AWp.seq ?_
   refine AWp.regD hmix (m := 10) rfl ?_
   refine a_2 ?_
   first | refine AR.op0 (.index_l rfl rfl (by omega) (by omega) te_24.h) rfl rfl ?_ | refine AR.op0 (.index_a rfl rfl (by omega) g1 rfl te_24.h) rfl rfl ?_
   first | refine AR.op0 (.load_l rfl rfl g1 tg_37.h ts_37.h (nle rfl)) rfl rfl ?_ | refine AR.op0 (.load_a rfl g1 tg_37.h ts_37.h (nle rfl)) rfl rfl ?_
   refine a_2 ?_
   first | refine AR.op0 (.index_l rfl rfl (by omega) (by omega) te_26.h) rfl rfl ?_ | refine AR.op0 (.index_a rfl rfl (by omega) g2 rfl te_26.h) rfl rfl ?_
   first | refine AR.op0 (.load_l rfl rfl g2 tg_75.h ts_75.h (nle rfl)) rfl rfl ?_ | refine AR.op0 (.load_a rfl g2 tg_75.h ts_75.h (nle rfl)) rfl rfl ?_
   refine c_s (fs_SameN y.1 y (hx y (List.mem_of_getElem? hy)) rfl (hs _ (List.mem_of_getElem? hq))) ?_
   refine a_1 ?_
   refine AR.nil ⟨by kernel_rfl, ?_⟩
   refine AWp.cond rfl (fun h2 => ?_) (fun h2 => ?_)
   ·cases h2
   refine AWp.skip ?_
   refine AWp.reg (m := 3) rfl ?_
   refine a_z ?_
   refine ⟨i + 1, by omega, hlt, ?_⟩
   exact s_e []
  ·refine AWp.seq ?_
   refine q_z 4 ?_
   refine AWp.cond rfl (fun h2 => ?_) (fun h2 => ?_)
   ·cases h2
   refine AWp.exit ⟨(), trivial, ?_⟩
   exact s_e []
 rintro _ _
 refine r_z 1 ?_
 refine AWp.ret ?_
 exact Fin.tmpE rfl rfl (ac_ _)
def rtmS (x : List RQ) : Nat → AState
 | n => ⟨[(0, .arr (rE x)), (3, i64 n)], [], 1, 23⟩
theorem ou_ (x : List RQ) (n : Nat) : rtmS x n = ⟨[(0, .arr (rE x)), (3, i64 n)], [], 1, 23⟩ := rfl
theorem oa_ (x : List RQ) (hl : x.length ≤ 1099511627776) : FSpec Tryz.prog 100 [.arr (rE x)] (.arr (rE (trimR x))) := by
 obtain ⟨v, hv⟩ : ∃ v, v = vR x := ⟨_, rfl⟩
 have hvl : v.length = x.length := by rw [hv]; simp
 refine FSpec.enter Tryz.func100 rfl (by kernel_rfl) rfl rfl rfl ?_ rfl ?_
 ·exact aa_ (au_ x) ab_
 refine r_z 1 ?_
 refine r_z 3 ?_
 refine AWp.cut (rtmS x) (fun n => n ≤ v.length ∧ trimQ v = v.take n) ?_ ?_
 ·refine AWp.block ?_
  refine AWp.loopS (rtmS x) (fun n => n) (fun n => n ≤ v.length ∧ trimQ v = trimQ (v.take n)) v.length ⟨Nat.le_refl _, by rw [List.take_length]⟩ ?_ ?_
  ·simp only [ou_]
   rw [hvl]
   exact s_e []
  rintro n ⟨hn, ht⟩
  simp only [ou_]
  cases n with
  | zero =>
   refine AWp.seq ?_
   refine s_r 11 ?_
   refine a_1 ?_
   refine o_0 (.bin rfl rfl (vF mh_ ((by simp)))) ?_
   refine a_z ?_
   refine AWp.cond rfl (fun h1 => ?_) (fun h1 => ?_)
   ·cases h1
   refine AWp.exit ⟨0, ⟨Nat.zero_le _, ?_⟩, ?_⟩
   ·rw [ht]; rfl
   ·simp only [ou_]
    exact s_e []
  | succ n =>
   obtain ⟨y, hy⟩ : ∃ y, x[n]? = some y := ⟨_, List.getElem?_eq_getElem (by omega)⟩
   have hq : v[n]? = some y.1 := by rw [hv, vR, List.getElem?_map, hy]; rfl
   have g2 : (rE x)[(((n + 1 : Nat) : Int) - 1).toNat]? = some (rC y) := by
    rw [show (((n + 1 : Nat) : Int) - 1).toNat = n by omega]; exact ht_ hy
   have hs : trimQ (v.take (n + 1)) = if y.1 = 0 then trimQ (v.take n) else v.take (n + 1) := by
    rw [cw_ hq, iz_]
   by_cases h0 : y.1 = 0
   ·refine AWp.seq ?_
    refine s_r 11 ?_
    refine d_6 ?_
    first | refine AR.op0y rfl rfl rfl (.index_l rfl rfl (by omega) (by omega) te_27.h) rfl rfl ?_ | refine AR.op0y rfl rfl rfl (.index_a rfl rfl (by omega) g2 rfl te_27.h) rfl rfl ?_
    first | refine AR.op0y rfl rfl rfl (.load_l rfl rfl g2 tg_75.h ts_75.h (nle rfl)) rfl rfl ?_ | refine AR.op0y rfl rfl rfl (.load_a rfl g2 tg_75.h ts_75.h (nle rfl)) rfl rfl ?_
    refine c_s (fs_rSign y) ?_
    refine AR.op0y rfl rfl rfl (.bin rfl rfl (vT bo_ ((by rw [h0]; decide)))) rfl rfl ?_
    refine a_z ?_
    refine AWp.cond rfl (fun h1 => ?_) (fun h1 => ?_)
    rotate_left
    ·cases h1
    refine AWp.skip ?_
    refine AWp.block ?_
    refine AWp.reg (m := 3) rfl ?_
    refine a_z ?_
    refine ⟨n, Nat.lt_succ_self n, ⟨by omega, ?_⟩, ?_⟩
    ·rw [ht, hs, if_pos h0]
    ·exact s_e []
   ·have hz : (sgZ y.1.num == (0 : Int)) = false := by
     rw [beq_eq_false_iff_ne]
     exact fun e => h0 (sgZ_num_eq.1 e)
    refine AWp.seq ?_
    refine s_r 11 ?_
    refine d_6 ?_
    first | refine AR.op0y rfl rfl rfl (.index_l rfl rfl (by omega) (by omega) te_27.h) rfl rfl ?_ | refine AR.op0y rfl rfl rfl (.index_a rfl rfl (by omega) g2 rfl te_27.h) rfl rfl ?_
    first | refine AR.op0y rfl rfl rfl (.load_l rfl rfl g2 tg_75.h ts_75.h (nle rfl)) rfl rfl ?_ | refine AR.op0y rfl rfl rfl (.load_a rfl g2 tg_75.h ts_75.h (nle rfl)) rfl rfl ?_
    refine c_s (fs_rSign y) ?_
    refine AR.op0y rfl rfl rfl (.bin rfl rfl (vF bo_ (hz))) rfl rfl ?_
    refine a_z ?_
    refine AWp.cond rfl (fun h1 => ?_) (fun h1 => ?_)
    ·cases h1
    refine AWp.exit ⟨n + 1, ⟨hn, ?_⟩, ?_⟩
    ·rw [ht, hs, if_neg h0]
    ·simp only [ou_]
     exact s_e []
 rintro n ⟨hn, ht⟩
 simp only [ou_]
 have hnl : (trimQ v).length = n := by rw [ht]; simp; omega
 have htr : trimR x = x.take n := by unfold trimR; rw [← hv, hnl]
 cases n with
 | zero =>
  refine s_r 5 ?_
  refine a_2 ?_
  refine o_0 (.sa_h rfl rfl (h := 0) rfl (by simp) te_27.h (so_ _)) ?_
  refine o_0 (.append0 rfl rfl rfl te_27.h rfl rfl rfl (.arr (es := []) (by simp))) ?_
  refine a_z ?_
  refine AWp.ret ?_
  rw [htr]
  exact Fin.tmpN rfl
 | succ n =>
  obtain ⟨X, hX⟩ : ∃ X, X = x.take (n + 1) := ⟨_, rfl⟩
  have hXl : X.length = n + 1 := by rw [hX]; simp; omega
  have hXn : rE X ≠ [] := fun e => by have := congrArg List.length e; simp [hXl] at this
  have e4 : (rE x).take (n + 1) = rE X := by rw [rE_take, hX]
  have hXn' : (rE x).take (n + 1) ≠ [] := by rw [e4]; exact hXn
  refine s_r 5 ?_
  refine a_2 ?_
  refine o_0 (.sa_h rfl rfl (h := n + 1) rfl (by simp; omega) te_27.h (so_ _)) ?_
  refine o_1 (.append_e rfl rfl rfl te_27.h rfl rfl rfl (.arr (by rw [e4]; exact so_ _)) (by first | assumption | (simp; done)) tz_75.h rfl tb_75.h (by first | rfl | assumption | (simp; done) | (simp; omega) | omega) (by first | (simp [maxLen]; done) | (simp [maxLen]; omega))) ?_
  refine a_z ?_
  refine AWp.ret ?_
  rw [htr, ← hX, ← e4]
  exact Fin.tmpS rfl rfl rfl rfl (by rw [e4]; exact cl_ _)
theorem fs_SameP (l : List Rat) (x : List RQ) (hx : okX x) (h : trimQ (vR x) = l) (hs : bdL l 68719476736) (hl : x.length ≤ 1099511627776) : FSpec Tryz.prog 23 [.arr (pE l), .arr (rE x)] (bln true) := by
 have hll : l.length ≤ x.length := by rw [← h]; have := bm_ (vR x); simpa using this
 refine FSpec.enter Tryz.func23 rfl (by kernel_rfl) rfl rfl rfl ?_ rfl ?_
 ·exact aa_ (ad_ l) (aa_ (au_ x) ab_)
 refine r_z 1 ?_
 refine r_c 5 (oa_ x hl) ?_
 refine c_s (fs_Alike l (trimR x) (okX_trim hx) ((vR_trim x).trans h) hs (by omega)) ?_
 refine a_z ?_
 refine AWp.ret ?_
 exact Fin.tmpE rfl rfl (ac_ _)
end Go.Proofs.YtdhedjbmdnnbkaaGreatDoor
