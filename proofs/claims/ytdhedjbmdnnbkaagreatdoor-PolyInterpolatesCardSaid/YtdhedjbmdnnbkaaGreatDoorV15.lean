/- Part V15 of the proof. -/
import Derived.Test.YtdhedjbmdnnbkaaGreatDoorV14
set_option linter.all false
namespace Go.Proofs.YtdhedjbmdnnbkaaGreatDoor
open Go.Abs
set_option maxRecDepth 20000
theorem es_ (x : RQ) (hx : rok x) : FSpec Tryz.prog 167 [.agg (rC x)] (.agg (zZ (x.1.den : Int))) := by
 refine FSpec.enter Tryz.func167 rfl (by kernel_rfl) rfl rfl rfl ?_ rfl ?_
 ·exact aa_ (ay_ x) ab_
 refine r_z 2 ?_
 refine AWp.seq ?_
 refine r_z 4 ?_
 obtain ⟨q, f⟩ := x
 have hp := q.den_pos
 cases f with
 | true =>
  have h0 : q = 0 := hx rfl
  subst h0
  refine AWp.cond (t := true) rfl (fun h => ?_) (fun h => ?_)
  ·refine r_c 2 (lb_ 1 (by decide)) ?_
   refine a_z ?_
   refine AWp.ret ?_
   refine Fin.cellE rfl rfl rfl tg_73.h ts_73.h (nle rfl) ?_ ?_
   ·rfl
   ·exact al_ _
  ·cases h
 | false =>
  refine AWp.cond rfl (fun h => ?_) (fun h => ?_)
  ·exfalso
   have h1 : sgZ (q.den : Int) = 0 := by simpa using h
   rcases cb_ (q.den : Int) with ⟨a, b⟩ | ⟨a, b⟩ | ⟨a, b⟩ <;> omega
  ·refine AWp.skip ?_
   refine r_z 3 ?_
   refine AWp.ret ?_
   refine Fin.cellE rfl rfl rfl tg_73.h ts_73.h (nle rfl) ?_ ?_
   ·rfl
   ·exact al_ _
theorem zd_one : zd 1 = [1] := by
 unfold zd; rw [dp_ (by decide) (by decide), show 1 / UB = 0 by decide, bq_]; rfl
theorem zZ_one {g : Nat} (h : g = 1) : zZ (g : Int) = [i64 1, .arr [[i64 1]]] := by
 subst h
 show [i64 (sgZ 1), AV.arr (iE (zd 1))] = _
 rw [zd_one]; rfl
theorem zd_single {g : Nat} (h : (zd g).length = 1) : zd g = [g] := by
 obtain ⟨a, ha⟩ := List.length_eq_one_iff.1 h
 have h1 := hv_zd g
 rw [ha, pl_, vp_] at h1
 simp at h1
 rw [ha, h1]
theorem ud_ {n : Nat} (h : bl n ≤ 4398046511104) : (zd n).length ≤ 281474976710656 := by
 rw [bt_]
 have := bc_ (b := UB) (by decide) n
 omega
def ratS (n' : Int) (D g : Nat) : AState := ⟨[(2, .lptr 1 0 0), (3, .lptr 2 0 0), (4, .lptr 3 0 0), (5, .lptr 4 0 0)], [(1, some ⟨73, 2, [zZ n']⟩), (2, some ⟨73, 2, [zZ (D : Int)]⟩), (3, some ⟨75, 4, [[i64 0, .emp, i64 0, .emp]]⟩), (4, some ⟨73, 2, [zZ (g : Int)]⟩)], 5, 57⟩
theorem od_ (n d : Int) (hd : d ≠ 0) (hn : bl n.natAbs ≤ 4398046511104) (hb : bl d.natAbs ≤ 4398046511104) : FSpec Tryz.prog 184 [.agg (zZ n), .agg (zZ d)] (.agg (rC (rq (Rat.divInt n d)))) := by
 refine FSpec.enter Tryz.func184 rfl (by kernel_rfl) rfl rfl rfl ?_ rfl ?_
 ·exact aa_ (al_ n) (aa_ (al_ d) ab_)
 refine r_z 3 ?_
 refine AWp.cut (fun n' : Int => ⟨[(2, .lptr 1 0 0), (3, .lptr 2 0 0), (4, .lptr 3 0 0)], [(1, some ⟨73, 2, [zZ n']⟩), (2, some ⟨73, 2, [zZ (d.natAbs : Int)]⟩), (3, some ⟨75, 4, [[i64 0, .emp, i64 0, .emp]]⟩)], 4, 57⟩) (fun n' => n'.natAbs = n.natAbs ∧ Rat.divInt n d = mkRat n' d.natAbs) ?_ ?_
 ·refine r_z 3 ?_
  refine AWp.cond rfl (fun h => ?_) (fun h => ?_)
  ·have hneg : d < 0 := by
    have h1 : sgZ d < 0 := by simpa using h
    rcases cb_ d with ⟨a, b⟩ | ⟨a, b⟩ | ⟨a, b⟩ <;> omega
   have e : -d = (d.natAbs : Int) := by omega
   have hdn := tf_ d
   rw [e] at hdn
   refine AWp.regD hmix (m := 6) rfl ?_
   refine c_s (tf_ n) ?_
   refine c_s (hdn) ?_
   refine a_2 ?_
   refine AR.nil ⟨by kernel_rfl, ?_⟩
   refine ⟨-n, ⟨by omega, ms_ n d hneg⟩, ?_⟩
   exact s_e []
  ·have hpos : 0 < d := by
    have h1 : ¬ sgZ d < 0 := by simpa using h
    rcases cb_ d with ⟨a, b⟩ | ⟨a, b⟩ | ⟨a, b⟩ <;> omega
   have e : d = (d.natAbs : Int) := by omega
   refine AWp.skip ⟨n, ⟨rfl, mr_ n d hpos⟩, ?_⟩
   rw [← e]
   exact s_e []
 rintro n' ⟨hna, hv⟩
 have hD : 0 < d.natAbs := by omega
 obtain ⟨D, hDd⟩ : ∃ D, D = d.natAbs := ⟨_, rfl⟩
 rw [hv]
 rw [← hDd] at hb hD ⊢
 rw [← hna] at hn
 obtain ⟨g, hg⟩ : ∃ g, g = Nat.gcd n'.natAbs D := ⟨_, rfl⟩
 have hgp : 0 < g := by rw [hg]; exact Nat.gcd_pos_of_pos_right _ hD
 have hgD : g ≤ D := by rw [hg]; exact Nat.gcd_le_right _ hD
 have hbg := cu_ hgD
 have hnum : (mkRat n' D).num.natAbs = n'.natAbs / g := by rw [gv_ hD, el_, hg]
 have hden : (mkRat n' D).den = D / g := by rw [(ik_ hD).2, hg]
 have hsg := sgZ_mkRat (n := n') hD
 have hgc := fs_ZGcd n' (D : Int) hn (by rw [Int.natAbs_natCast]; exact hb)
 rw [Int.natAbs_natCast, ← hg] at hgc
 have hfin : rC (rq (mkRat n' D)) = zZ (sgn (decide (n' < 0)) (n'.natAbs / g)) ++ zZ ((D / g : Nat) : Int) := by
  rw [rC_rq, hden, gv_ hD, ← hg]
 rw [hfin]
 have hgn : bl (D / g) ≤ bl D := ea_ D g
 have hgn2 : bl (n'.natAbs / g) ≤ bl n'.natAbs := ea_ n'.natAbs g
 refine r_c 5 (hgc) ?_
 refine a_z ?_
 refine AWp.cut (fun _ : Unit => ratS n' D g) (fun _ => g ≠ 1) ?_ ?_
 ·by_cases h1 : g = 1
  ·rw [zZ_one h1]
   refine s_r 11 ?_
   refine a_5 ?_
   first | refine AR.op0y rfl rfl (gy rfl) (.fieldAddr_l rfl tf_73_1.h (by decide)) rfl rfl ?_ | refine AR.op0y rfl rfl (gy rfl) (.fieldAddr_a rfl tf_73_1.h (by decide)) rfl rfl ?_
   first | refine AR.op0y rfl rfl (gy rfl) (.load_l1 rfl rfl rfl tg_71.h rfl) rfl rfl ?_ | refine AR.op0y rfl rfl (gy rfl) (.load_a1 rfl rfl tg_71.h rfl) rfl rfl ?_
   first | refine AR.op0y rfl rfl (gy rfl) (.index_l rfl rfl (by omega) (by omega) te_71.h) rfl rfl ?_ | refine AR.op0y rfl rfl (gy rfl) (.index_a rfl rfl (by omega) rfl rfl te_71.h) rfl rfl ?_
   first | refine AR.op0y rfl rfl (gy rfl) (.load_l1 rfl rfl rfl tg_3.h rfl) rfl rfl ?_ | refine AR.op0y rfl rfl (gy rfl) (.load_a1 rfl rfl tg_3.h rfl) rfl rfl ?_
   refine AR.op0y rfl rfl (gy rfl) (.bin rfl rfl bo_) rfl rfl ?_
   refine o_0 (.pickT rfl rfl rfl) ?_
   refine AR.nil ?_
   refine AWp.cond rfl (fun h => ?_) (fun h => ?_)
   ·refine r_z 4 ?_
    refine AWp.ret ?_
    rw [h1, Nat.div_one, Nat.div_one, show sgn (decide (n' < 0)) n'.natAbs = n' by unfold sgn; by_cases h0 : n' < 0 <;> simp [h0] <;> omega]
    refine Fin.cellE rfl rfl rfl tg_75.h ts_75.h (nle rfl) ?_ ?_
    ·rfl
    ·exact ag_ fun c hc => (List.mem_append.1 hc).elim (bv_ _ c) (bv_ _ c)
   ·exact absurd h (by decide)
  ·by_cases hl : (zd g).length = 1
   ·have hz := zd_single hl
    have hz2 : zZ (g : Int) = [i64 (sgZ (g : Int)), .arr (iE [g])] := by show [i64 (sgZ (g : Int)), AV.arr (iE (zd g))] = _; rw [hz]
    rw [hz2]
    refine s_r 11 ?_
    refine a_5 ?_
    first | refine AR.op0y rfl rfl (gy rfl) (.fieldAddr_l rfl tf_73_1.h (by decide)) rfl rfl ?_ | refine AR.op0y rfl rfl (gy rfl) (.fieldAddr_a rfl tf_73_1.h (by decide)) rfl rfl ?_
    first | refine AR.op0y rfl rfl (gy rfl) (.load_l1 rfl rfl rfl tg_71.h rfl) rfl rfl ?_ | refine AR.op0y rfl rfl (gy rfl) (.load_a1 rfl rfl tg_71.h rfl) rfl rfl ?_
    first | refine AR.op0y rfl rfl (gy rfl) (.index_l rfl rfl (by omega) (by omega) te_71.h) rfl rfl ?_ | refine AR.op0y rfl rfl (gy rfl) (.index_a rfl rfl (by omega) rfl rfl te_71.h) rfl rfl ?_
    first | refine AR.op0y rfl rfl (gy rfl) (.load_l1 rfl rfl rfl tg_3.h rfl) rfl rfl ?_ | refine AR.op0y rfl rfl (gy rfl) (.load_a1 rfl rfl tg_3.h rfl) rfl rfl ?_
    refine AR.op0y rfl rfl (gy rfl) (.bin rfl rfl bo_) rfl rfl ?_
    refine o_0 (.pickT rfl rfl rfl) ?_
    refine AR.nil ?_
    refine AWp.cond rfl (fun h => ?_) (fun h => ?_)
    ·exact absurd h (by simp; omega)
    ·refine AWp.skip ⟨(), h1, ?_⟩
     rw [← hz2]
     unfold ratS
     exact s_e [(4, 5)]
   ·refine s_r 11 ?_
    refine a_5 ?_
    refine AR.opN rfl rfl (gn (by simp; omega)) rfl rfl ?_
    refine AR.opN rfl rfl (gn (by simp; omega)) rfl rfl ?_
    refine AR.opN rfl rfl (gn (by simp; omega)) rfl rfl ?_
    refine AR.opN rfl rfl (gn (by simp; omega)) rfl rfl ?_
    refine AR.opN rfl rfl (gn (by simp; omega)) rfl rfl ?_
    refine o_0 (.pickF rfl (by simp; omega) rfl) ?_
    refine AR.nil ?_
    refine AWp.cond rfl (fun h => ?_) (fun h => ?_)
    ·exact absurd h (by simp)
    ·refine AWp.skip ⟨(), h1, ?_⟩
     unfold ratS
     exact s_e [(4, 5)]
 rintro _ hg1
 unfold ratS
 have hzq := im_ (sgZ n') (zd (n'.natAbs / g)) (sgn (decide (n' < 0)) (n'.natAbs / g)) (ud_ (by omega)) (zd_lt _) (by rw [hv_zd, el_]) (fun h => by rw [← hsg, gv_ hD, ← hg])
 have hzd := im_ 1 (zd (D / g)) ((D / g : Nat) : Int) (ud_ (by omega)) (zd_lt _) (by rw [hv_zd, Int.natAbs_natCast]) (fun h => by unfold sgZ; rw [if_neg h, if_neg (by omega)])
 refine r_c 10 (ny_ n'.natAbs g hgp hn (by omega)) ?_
 refine a_z ?_
 refine r_c 10 (ny_ D g hgp hb (by omega)) ?_
 refine a_z ?_
 refine r_c 8 (hzq) ?_
 refine c_s (hzd) ?_
 refine a_z ?_
 refine AWp.ret ?_
 refine Fin.cellE rfl rfl rfl tg_75.h ts_75.h (nle rfl) ?_ ?_
 ·rfl
 ·exact ag_ fun c hc => (List.mem_append.1 hc).elim (bv_ _ c) (bv_ _ c)
theorem zl_of {z : Int} {k : Nat} (h : bl z.natAbs ≤ k) (hk : k ≤ 8796093022208) : zl z := Nat.le_trans h hk
theorem fs_rInt (n : Int) (h : -9223372036854775808 ≤ n ∧ n ≤ 9223372036854775807) : FSpec Tryz.prog 51 [i64 n] (.agg (rC (rq (n : Rat)))) := by
 rw [rC_rq]
 refine FSpec.enter Tryz.func51 rfl (by kernel_rfl) rfl rfl rfl ?_ rfl ?_
 ·exact aa_ (ac_ _) ab_
 refine r_z 1 ?_
 refine r_c 5 (lb_ n h) ?_
 refine c_s (lb_ 1 (by decide)) ?_
 refine a_z ?_
 refine AWp.ret ?_
 refine Fin.cellE rfl rfl rfl tg_75.h ts_75.h (nle rfl) ?_ ?_
 ·rfl
 ·exact ag_ fun c hc => (List.mem_append.1 hc).elim (bv_ _ c) (bv_ _ c)
theorem fs_rOf (n d : Int) (hd : d ≠ 0) (h : -9223372036854775808 ≤ n ∧ n ≤ 9223372036854775807) (h2 : -9223372036854775808 ≤ d ∧ d ≤ 9223372036854775807) : FSpec Tryz.prog 118 [i64 n, i64 d] (.agg (rC (rq (Rat.divInt n d)))) := by
 have hb : ∀ z : Int, -9223372036854775808 ≤ z → z ≤ 9223372036854775807 → bl z.natAbs ≤ 4398046511104 := fun z h1 h2 => Nat.le_trans (bl_le (k := 64) (by omega)) (by decide)
 refine FSpec.enter Tryz.func118 rfl (by kernel_rfl) rfl rfl rfl ?_ rfl ?_
 ·exact aa_ (ac_ _) (aa_ (ac_ _) ab_)
 refine r_z 1 ?_
 refine r_c 6 (lb_ n h) ?_
 refine c_s (lb_ d h2) ?_
 refine c_s (od_ n d hd (hb n h.1 h.2) (hb d h2.1 h2.2)) ?_
 refine a_z ?_
 refine AWp.ret ?_
 refine Fin.cellE rfl rfl rfl tg_75.h ts_75.h (nle rfl) ?_ ?_
 ·rfl
 ·exact ay_ _
theorem fs_rNeg (x : RQ) (hx : rok x) : FSpec Tryz.prog 112 [.agg (rC x)] (.agg (rC (rq (-x.1)))) := by
 rw [rC_rq, Rat.neg_num, Rat.neg_den]
 refine FSpec.enter Tryz.func112 rfl (by kernel_rfl) rfl rfl rfl ?_ rfl ?_
 ·exact aa_ (ay_ _) ab_
 refine r_z 2 ?_
 refine AWp.seq ?_
 refine AWp.regD hmix (m := 7) rfl ?_
 refine c_s (tf_ x.1.num) ?_
 refine c_s (es_ x hx) ?_
 refine a_2 ?_
 refine AR.nil ⟨by kernel_rfl, ?_⟩
 refine AWp.ret ?_
 refine Fin.cellE rfl rfl rfl tg_75.h ts_75.h (nle rfl) ?_ ?_
 ·rfl
 ·exact ag_ fun c hc => (List.mem_append.1 hc).elim (bv_ _ c) (bv_ _ c)
theorem fs_rSign (x : RQ) : FSpec Tryz.prog 138 [.agg (rC x)] (i64 (sgZ x.1.num)) := by
 refine FSpec.enter Tryz.func138 rfl (by kernel_rfl) rfl rfl rfl ?_ rfl ?_
 ·exact aa_ (ay_ _) ab_
 refine r_z 2 ?_
 refine r_z 4 ?_
 refine AWp.ret ?_
 refine Fin.tmpE rfl ?_ ?_
 ·rfl
 ·exact ac_ _
theorem pp_ (x y : RQ) (hx : rok x) (hy : rok y) (h : qs x.1 + qs y.1 ≤ 1099511627776) : FSpec Tryz.prog 117 [.agg (rC x), .agg (rC y)] (.agg (rC (rq (x.1 + y.1)))) := by
 obtain ⟨a, fa⟩ := x
 obtain ⟨b, fb⟩ := y
 simp only at h ⊢
 have hp := qq_ a b
 have h1 := co_ a; have h2 := ci_ a; have h3 := co_ b; have h4 := ci_ b
 have e1 := cn_ (x := a.num) (y := b.den) h1 (by simpa using h4)
 have e2 := cn_ (x := b.num) (y := a.den) h3 (by simpa using h2)
 have e3 := hp.1
 have e4 := hp.2
 have hd : (a.den : Int) * b.den ≠ 0 := by have := jj_ a b; rw [← Int.natCast_mul]; omega
 have e : a + b = Rat.divInt (a.num * b.den + b.num * a.den) (a.den * b.den) := by
  rw [qr_, ← Int.natCast_mul, ← Rat.divInt_ofNat]
 rw [e]
 have e5 : bl ((a.den : Int) * b.den).natAbs ≤ qs a + qs b := by rw [← Int.natCast_mul, Int.natAbs_natCast]; exact e4
 refine FSpec.enter Tryz.func117 rfl (by kernel_rfl) rfl rfl rfl ?_ rfl ?_
 ·exact aa_ (ay_ _) (aa_ (ay_ _) ab_)
 refine r_z 3 ?_
 refine AWp.seq ?_
 refine AWp.regD hmix (m := 18) rfl ?_
 refine c_s (es_ (b, fb) hy) ?_
 refine c_s (go_ a.num b.den (zl_of h1 (by omega)) (zl_of (by simpa using h4) (by omega))) ?_
 refine c_s (es_ (a, fa) hx) ?_
 refine c_s (go_ b.num a.den (zl_of h3 (by omega)) (zl_of (by simpa using h2) (by omega))) ?_
 refine c_s (fs_ZAdd (a.num * b.den) (b.num * a.den) (zl_of e1 (by omega)) (zl_of e2 (by omega))) ?_
 refine c_s (es_ (a, fa) hx) ?_
 refine c_s (es_ (b, fb) hy) ?_
 refine c_s (go_ a.den b.den (zl_of (by simpa using h2) (by omega)) (zl_of (by simpa using h4) (by omega))) ?_
 refine c_s (od_ (a.num * b.den + b.num * a.den) (a.den * b.den) hd (by omega) (by omega)) ?_
 refine a_1 ?_
 refine AR.nil ⟨by kernel_rfl, ?_⟩
 refine AWp.ret ?_
 refine Fin.cellE rfl rfl rfl tg_75.h ts_75.h (nle rfl) ?_ ?_
 ·rfl
 ·exact ay_ _
theorem fs_rSub (x y : RQ) (hx : rok x) (hy : rok y) (h : qs x.1 + qs y.1 ≤ 1099511627776) : FSpec Tryz.prog 116 [.agg (rC x), .agg (rC y)] (.agg (rC (rq (x.1 - y.1)))) := by
 rw [Rat.sub_eq_add_neg]
 refine FSpec.enter Tryz.func116 rfl (by kernel_rfl) rfl rfl rfl ?_ rfl ?_
 ·exact aa_ (ay_ _) (aa_ (ay_ _) ab_)
 refine r_z 3 ?_
 refine AWp.seq ?_
 refine AWp.regD hmix (m := 5) rfl ?_
 refine c_s (fs_rNeg y hy) ?_
 refine c_s (pp_ x (rq (-y.1)) hx (ez_ _) (by simp only [rq, hu_]; exact h)) ?_
 refine a_1 ?_
 refine AR.nil ⟨by kernel_rfl, ?_⟩
 refine AWp.ret ?_
 refine Fin.cellE rfl rfl rfl tg_75.h ts_75.h (nle rfl) ?_ ?_
 ·rfl
 ·exact ay_ _
theorem fs_rMul (x y : RQ) (hx : rok x) (hy : rok y) (h : qs x.1 + qs y.1 ≤ 1099511627776) : FSpec Tryz.prog 103 [.agg (rC x), .agg (rC y)] (.agg (rC (rq (x.1 * y.1)))) := by
 obtain ⟨a, fa⟩ := x
 obtain ⟨b, fb⟩ := y
 simp only at h ⊢
 have hp := oz_ a b
 have h1 := co_ a; have h2 := ci_ a; have h3 := co_ b; have h4 := ci_ b
 have e3 := hp.1
 have e4 := hp.2
 have hd : (a.den : Int) * b.den ≠ 0 := by have := jj_ a b; rw [← Int.natCast_mul]; omega
 have e : a * b = Rat.divInt (a.num * b.num) (a.den * b.den) := by
  rw [ij_, ← Int.natCast_mul, ← Rat.divInt_ofNat]
 rw [e]
 have e5 : bl ((a.den : Int) * b.den).natAbs ≤ qs a + qs b := by rw [← Int.natCast_mul, Int.natAbs_natCast]; exact e4
 refine FSpec.enter Tryz.func103 rfl (by kernel_rfl) rfl rfl rfl ?_ rfl ?_
 ·exact aa_ (ay_ _) (aa_ (ay_ _) ab_)
 refine r_z 3 ?_
 refine AWp.seq ?_
 refine AWp.regD hmix (m := 12) rfl ?_
 refine c_s (go_ a.num b.num (zl_of h1 (by omega)) (zl_of h3 (by omega))) ?_
 refine c_s (es_ (a, fa) hx) ?_
 refine c_s (es_ (b, fb) hy) ?_
 refine c_s (go_ a.den b.den (zl_of (by simpa using h2) (by omega)) (zl_of (by simpa using h4) (by omega))) ?_
 refine c_s (od_ (a.num * b.num) (a.den * b.den) hd (by omega) (by omega)) ?_
 refine a_1 ?_
 refine AR.nil ⟨by kernel_rfl, ?_⟩
 refine AWp.ret ?_
 refine Fin.cellE rfl rfl rfl tg_75.h ts_75.h (nle rfl) ?_ ?_
 ·rfl
 ·exact ay_ _
theorem fs_rDiv (x y : RQ) (hx : rok x) (hy : rok y) (hy0 : y.1 ≠ 0) (h : qs x.1 + qs y.1 ≤ 1099511627776) : FSpec Tryz.prog 106 [.agg (rC x), .agg (rC y)] (.agg (rC (rq (x.1 / y.1)))) := by
 obtain ⟨a, fa⟩ := x
 obtain ⟨b, fb⟩ := y
 simp only at h hy0 ⊢
 have h1 := co_ a; have h2 := ci_ a; have h3 := co_ b; have h4 := ci_ b
 have e1 := cn_ (x := a.num) (y := b.den) h1 (by simpa using h4)
 have e2 := cn_ (x := a.den) (y := b.num) (by simpa using h2) h3
 have hn0 : b.num ≠ 0 := fun e => hy0 (Rat.num_eq_zero.1 e)
 have hd : (a.den : Int) * b.num ≠ 0 := Int.mul_ne_zero (by have := a.den_pos; omega) hn0
 rw [sa_]
 refine FSpec.enter Tryz.func106 rfl (by kernel_rfl) rfl rfl rfl ?_ rfl ?_
 ·exact aa_ (ay_ _) (aa_ (ay_ _) ab_)
 refine r_z 3 ?_
 refine AWp.seq ?_
 refine AWp.regD hmix (m := 12) rfl ?_
 refine c_s (es_ (b, fb) hy) ?_
 refine c_s (go_ a.num b.den (zl_of h1 (by omega)) (zl_of (by simpa using h4) (by omega))) ?_
 refine c_s (es_ (a, fa) hx) ?_
 refine c_s (go_ a.den b.num (zl_of (by simpa using h2) (by omega)) (zl_of h3 (by omega))) ?_
 refine c_s (od_ (a.num * b.den) (a.den * b.num) hd (by omega) (by omega)) ?_
 refine a_1 ?_
 refine AR.nil ⟨by kernel_rfl, ?_⟩
 refine AWp.ret ?_
 refine Fin.cellE rfl rfl rfl tg_75.h ts_75.h (nle rfl) ?_ ?_
 ·rfl
 ·exact ay_ _
theorem fs_rCmp (x y : RQ) (hx : rok x) (hy : rok y) (h : qs x.1 + qs y.1 ≤ 1099511627776) : FSpec Tryz.prog 82 [.agg (rC x), .agg (rC y)] (i64 (cmpQ x.1 y.1)) := by
 obtain ⟨a, fa⟩ := x
 obtain ⟨b, fb⟩ := y
 simp only at h ⊢
 have h1 := co_ a; have h2 := ci_ a; have h3 := co_ b; have h4 := ci_ b
 have e1 := cn_ (x := a.num) (y := b.den) h1 (by simpa using h4)
 have e2 := cn_ (x := b.num) (y := a.den) h3 (by simpa using h2)
 have e : cmpQ a b = cmpZ (a.num * b.den) (b.num * a.den) := by
  rw [cmpQ_eq]; unfold cmpZ
  obtain ⟨u, hu⟩ : ∃ u, u = a.num * (b.den : Int) := ⟨_, rfl⟩
  obtain ⟨v, hv⟩ : ∃ v, v = b.num * (a.den : Int) := ⟨_, rfl⟩
  rw [← hu, ← hv]
  split
  ·rfl
  ·split <;> split <;> omega
 rw [e]
 refine FSpec.enter Tryz.func82 rfl (by kernel_rfl) rfl rfl rfl ?_ rfl ?_
 ·exact aa_ (ay_ _) (aa_ (ay_ _) ab_)
 refine r_z 3 ?_
 refine AWp.seq ?_
 refine AWp.regD hmix (m := 12) rfl ?_
 refine c_s (es_ (b, fb) hy) ?_
 refine c_s (go_ a.num b.den (zl_of h1 (by omega)) (zl_of (by simpa using h4) (by omega))) ?_
 refine c_s (es_ (a, fa) hx) ?_
 refine c_s (go_ b.num a.den (zl_of h3 (by omega)) (zl_of (by simpa using h2) (by omega))) ?_
 refine c_s (fs_ZCmp (a.num * b.den) (b.num * a.den) (zl_of e1 (by omega)) (zl_of e2 (by omega))) ?_
 refine a_1 ?_
 refine AR.nil ⟨by kernel_rfl, ?_⟩
 refine AWp.ret ?_
 refine Fin.tmpE rfl ?_ ?_
 ·rfl
 ·exact ac_ _
theorem pad9_pd {x : Nat} (h : x < 1000000000) : pad9 x = pd 9 x := by
 by_cases h0 : x = 0
 ·subst h0; decide +kernel
 ·rw [pd_dec 9 x (by omega) h]; rfl
theorem txD_dec : ∀ (n m : Nat), m ≤ n → 0 < m → txD (digs MB m).reverse = Lib.decDigits m
 | 0, m, h, h0 => by omega
 | n + 1, m, h, h0 => by
  have hb : MB = 1000000000 := rfl
  rw [dp_ (by decide) h0, List.reverse_cons]
  by_cases hm : m < MB
  ·rw [Nat.div_eq_of_lt hm, bq_, Nat.mod_eq_of_lt hm]; simp [txD]
  ·have hd : 0 < m / MB := Nat.div_pos (by omega) (by decide)
   have hne : (digs MB (m / MB)).reverse ≠ [] := fun e => by
    have := (eh_ (b := MB) (by decide)).1 (List.reverse_eq_nil_iff.1 e)
    omega
   have hlt : m % MB < 1000000000 := Nat.mod_lt m (by decide)
   rw [yv_ hne, txD_dec n (m / MB) (by have := Nat.div_lt_self h0 (by decide : 1 < MB); omega) hd, pad9_pd hlt, ← wk_ 9 (m / MB) (m % MB) hd hlt]
   congr 1
   show m / 1000000000 * 1000000000 + m % 1000000000 = m
   omega
theorem mtx_dec (m : Nat) : mtx m = Lib.decDigits m := by
 unfold mtx
 split
 ·rename_i h; subst h; decide +kernel
 ·exact txD_dec m m (Nat.le_refl _) (by omega)
def ztx (z : Int) : List UInt8 := (if z < 0 then [45] else []) ++ Lib.decDigits z.natAbs
theorem qtx_eq (q : Rat) : qtx q = ztx q.num ++ (if q.den = 1 then [] else 47 :: Lib.decDigits q.den) := by
 unfold qtx ztx
 rw [mtx_dec, mtx_dec]
theorem sb_ (n : Nat) : (Lib.decDigits n).length ≤ bl n + 1 := by
 rw [Lib.decDigits_length]
 have h : n < 10 ^ (bl n + 1) := Nat.lt_of_lt_of_le (lt_bl n) (Nat.le_trans (Nat.pow_le_pow_left (by decide : 2 ≤ 10) _) (Nat.pow_le_pow_right (by decide) (by omega)))
 exact xm_ (bl n) n h
theorem first_text {c : UInt8} {l : List UInt8} : ∀ w, (Instr.index 9 (.string ⟨(c :: l).toArray⟩) (.int .i64 0)).run Tryz.prog w = .ok (.int .u8 c.toNat) w := fun w => by
 simp [Instr.index, asIntOf, run_underlying ga_, go_sem]
 rfl
theorem tail_text (c : UInt8) (l : List UInt8) : ∀ w, (Instr.sliceAt 9 (.string ⟨(c :: l).toArray⟩) (some (.int .i64 1)) none none).run Tryz.prog w = .ok (.string ⟨l.toArray⟩) w := fun w => by
 have b1 : ∀ (i y : Nat) (c : BoundsCode), i ≤ y → (Instr.sliceBound (.int .i64 (i : Int)) y c).run Tryz.prog w = .ok i w := fun i y c hi => df_ hi c w
 have e : (⟨(c :: l).toArray⟩ : ByteArray).extract 1 (⟨(c :: l).toArray⟩ : ByteArray).size = ⟨l.toArray⟩ := by
  apply ByteArray.ext; simp [ByteArray.size]
 have hr : (Instr.slice 9 (.string ⟨(c :: l).toArray⟩) (some (.int .i64 ((1 : Nat) : Int))) none none).run Tryz.prog w = .ok (.string ⟨l.toArray⟩) w := by
  have hs : 1 ≤ (⟨(c :: l).toArray⟩ : ByteArray).size := by simp [ByteArray.size]
  have b2 := b1 1 (⟨(c :: l).toArray⟩ : ByteArray).size .sliceB hs
  rw [show ((1 : Nat) : Int) = 1 from rfl] at b2
  simp [Instr.slice, run_underlying ga_, Instr.sliceBounds, b2, Result.andThen, e]
 unfold Instr.sliceAt
 rw [Sem.run_bind, run_underlying ga_]
 exact hr
theorem dig_text (d : Nat) (zl zh : Int) (hd : d < 10) (el : zl = (d : Int)) (eh : zh = (d : Int) + 1) : ∀ w, (Instr.sliceAt 9 (.string ⟨#[48, 49, 50, 51, 52, 53, 54, 55, 56, 57]⟩) (some (.int .i64 zl)) (some (.int .i64 zh)) none).run Tryz.prog w = .ok (.string ⟨[UInt8.ofNat (48 + d)].toArray⟩) w := fun w => by
 rw [tn_ _ d (d + 1) zl zh el (by omega) (by omega) (by exact Nat.le_trans (m := 10) (by omega) (by decide)) w]
 have key : ∀ d, d < 10 → (ByteArray.mk #[48, 49, 50, 51, 52, 53, 54, 55, 56, 57]).extract d (d + 1) = ⟨[UInt8.ofNat (48 + d)].toArray⟩ := by decide
 rw [key d hd]
theorem zd_sm {m : Nat} (h0 : 0 < m) (h : m < 32768) : zd m = [m] := by
 have hb : UB = 32768 := rfl
 unfold zd
 rw [dp_ (by decide) h0, Nat.mod_eq_of_lt (by omega), Nat.div_eq_of_lt (by omega), bq_]; rfl
def ztO (z : Int) (n : Nat) : Nat → AState
 | k => ⟨[(1, .aptr [zZ z] 0 0), (3, tx (pd (4 * k) n)), (4, .arr (iE (zd (n / 10 ^ (4 * k)))))], [], 2, 51⟩
theorem ztO_mk (z : Int) (n : Nat) (k : Nat) : ztO z n k = ⟨[(1, .aptr [zZ z] 0 0), (3, tx (pd (4 * k) n)), (4, .arr (iE (zd (n / 10 ^ (4 * k)))))], [], 2, 51⟩ := rfl
def ztI (z : Int) (r B : Nat) (T : List UInt8) : Nat → AState
 | i => ⟨[(1, .aptr [zZ z] 0 0), (3, tx (pd i r ++ T)), (5, .arr (iE (zd B))), (7, i64 ((r / 10 ^ i : Nat) : Int)), (8, i64 i)], [], 2, 51⟩
theorem yq_ (z : Int) (r B : Nat) (T : List UInt8) (i : Nat) : ztI z r B T i = ⟨[(1, .aptr [zZ z] 0 0), (3, tx (pd i r ++ T)), (5, .arr (iE (zd B))), (7, i64 ((r / 10 ^ i : Nat) : Int)), (8, i64 i)], [], 2, 51⟩ := rfl
def ztD (z : Int) : List UInt8 → AState
 | T => ⟨[(1, .aptr [zZ z] 0 0), (3, tx T)], [], 2, 51⟩
theorem tx_ (z : Int) (T : List UInt8) : ztD z T = ⟨[(1, .aptr [zZ z] 0 0), (3, tx T)], [], 2, 51⟩ := rfl
theorem fs_ZText (z : Int) (h : bl z.natAbs ≤ 68719476736) : FSpec Tryz.prog 212 [.agg (zZ z)] (tx (ztx z)) := by
 have hcz : Closed (.aptr [zZ z] 0 0) := bb_ (bv_ z)
 refine FSpec.enter Tryz.func212 rfl (by kernel_rfl) rfl rfl rfl ?_ rfl ?_
 ·exact aa_ (al_ z) ab_
 refine r_z 2 ?_
 refine AWp.ent (st' := ⟨[(1, .aptr [zZ z] 0 0)], [], 2, 51⟩) ?_ ?_
 ·exact s_e []
 by_cases h0 : z = 0
 ·subst h0
  refine AWp.seq ?_
  refine s_r 3 ?_
  refine a_2 ?_
  refine o_0 (.bin rfl rfl (vT bo_ ((by decide)))) ?_
  refine AR.nil ?_
  refine AWp.cond rfl (fun h1 => ?_) (fun h1 => ?_)
  ·refine r_z 1 ?_
   refine AWp.ret ?_
   exact Fin.tmpE rfl (by rw [show ztx 0 = [48] by unfold ztx; rw [Int.natAbs_zero, Lib.decDigits_one (by decide)]; rfl]; rfl) (ac_ _)
  ·cases h1
 refine AWp.seq ?_
 refine s_r 3 ?_
 refine a_2 ?_
 refine o_0 (.bin rfl rfl (vF bo_ ((by unfold sgZ; rw [if_neg h0]; split <;> rfl)))) ?_
 refine AR.nil ?_
 refine AWp.cond rfl (fun h1 => ?_) (fun h1 => ?_)
 ·cases h1
 refine AWp.skip ?_
 refine r_z 1 ?_
 refine r_z 3 ?_
 obtain ⟨n, hn⟩ : ∃ n, n = z.natAbs := ⟨_, rfl⟩
 have hn0 : 0 < n := by omega
 rw [← hn] at h
 have hzd := bt_ n
 have hdl := bc_ (b := UB) (by decide) n
 refine AWp.cut (ztD z) (fun T => ∃ k, T = pd k n ∧ n < 10 ^ k ∧ k ≤ 4 * (bl n + 1)) ?_ ?_
 ·refine AWp.block ?_
  refine AWp.loopS (ztO z n) (fun k => n / 10 ^ (4 * k)) (fun k => k = 0 ∨ 0 < n / 10 ^ (4 * (k - 1))) 0 (.inl rfl) ?_ ?_
  ·simp only [ztO_mk]
   have e : n / 10 ^ (4 * 0) = n := by simp
   rw [e, hn]
   refine SEnt.to [] rfl rfl rfl au_r (fun hs => ?_) (fun hs => ?_)
   ·repeat' (first | exact CvF.nil | refine CvF.cons rfl ?_ ?_)
    all_goals (first | (exact Cv.clo hs hcz) | exact au_c)
   ·repeat' (first | exact CvH.nil | refine CvH.cons rfl rfl rfl rfl ?_ ?_)
    all_goals (first | exact au_e | (refine CvLL.box ?_; repeat' (first | exact CvL.nil | refine CvL.cons ?_ ?_)))
    all_goals (first | (exact Cv.clo hs hcz) | exact au_c)
  rintro k hk
  simp only [ztO_mk]
  obtain ⟨A, hA⟩ : ∃ A, A = n / 10 ^ (4 * k) := ⟨_, rfl⟩
  have hk4 : 4 * k ≤ bl n + 4 := by
   rcases hk with hk | hk
   ·omega
   ·have h1 : 10 ^ (4 * (k - 1)) ≤ n := by
     apply Nat.le_of_not_lt
     intro hlt; rw [Nat.div_eq_of_lt hlt] at hk; omega
    have h2 := lt_bl n
    have h3 : 2 ^ (4 * (k - 1)) ≤ 10 ^ (4 * (k - 1)) := Nat.pow_le_pow_left (by decide) _
    have h4 : 4 * (k - 1) < bl n := (Nat.pow_lt_pow_iff_right (a := 2) (by decide)).1 (Nat.lt_of_le_of_lt (Nat.le_trans h3 h1) h2)
    omega
  rw [← hA]
  have hAb : bl A ≤ 68719476736 := Nat.le_trans (cu_ (by rw [hA]; exact Nat.div_le_self _ _)) h
  by_cases hA0 : A = 0
  ·have hz : (zd A).length = 0 := by rw [hA0, mk_]; rfl
   refine AWp.seq ?_
   refine q_z 3 ?_
   refine AWp.cond rfl (fun h1 => ?_) (fun h1 => ?_)
   ·cases h1
   refine AWp.exit ⟨pd (4 * k) n, ⟨4 * k, rfl, ?_, by omega⟩, ?_⟩
   ·rw [hA0] at hA
    exact (Nat.div_eq_zero_iff.1 hA.symm).resolve_left (by have := Nat.one_le_pow (4 * k) 10 (by decide); omega)
   ·simp only [tx_]
    refine SEnt.to [] rfl rfl rfl au_r (fun hs => ?_) (fun hs => ?_)
    ·repeat' (first | exact CvF.nil | refine CvF.cons rfl ?_ ?_)
     all_goals (first | (exact Cv.clo hs hcz) | exact au_c)
    ·repeat' (first | exact CvH.nil | refine CvH.cons rfl rfl rfl rfl ?_ ?_)
     all_goals (first | exact au_e | (refine CvLL.box ?_; repeat' (first | exact CvL.nil | refine CvL.cons ?_ ?_)))
     all_goals (first | (exact Cv.clo hs hcz) | exact au_c)
  have hz : 0 < (zd A).length := List.length_pos_iff.2 fun e => hA0 (zd_eq_nil.1 e)
  refine AWp.seq ?_
  refine q_z 3 ?_
  refine AWp.cond rfl (fun h1 => ?_) (fun h1 => ?_)
  rotate_left
  ·cases h1
  refine AWp.skip ?_
  refine AWp.block ?_
  have hov := ny_ A 10000 (by decide) (by omega) (by decide)
  rw [zd_sm (by decide) (by decide : 10000 < 32768)] at hov
  obtain ⟨r, hr⟩ : ∃ r, r = A % 10000 := ⟨_, rfl⟩
  obtain ⟨B, hB⟩ : ∃ B, B = A / 10000 := ⟨_, rfl⟩
  rw [← hr, ← hB] at hov
  have hr4 : r < 10000 := by rw [hr]; exact Nat.mod_lt _ (by decide)
  have hzr : (zd r).length ≤ 4 := by
   rw [bt_]; exact dl_ (b := UB) (by decide) (k := 4) (Nat.lt_trans hr4 (by decide))
  have hsh := tb_ (zd r) hzr (zd_lt r)
  rw [hv_zd] at hsh
  obtain ⟨T, hT⟩ : ∃ T, T = pd (4 * k) n := ⟨_, rfl⟩
  have hTl : T.length = 4 * k := by rw [hT, vf_]
  rw [← hT]
  refine s_r 8 ?_
  refine a_2 ?_
  refine o_1 (.callS1 rfl rfl rfl (.keep (.shut rfl (by first | exact nle rfl | (simp; done) | (simp; omega)) (.nil))) rfl (hov)) ?_
  refine a_z ?_
  refine r_c 3 (hsh) ?_
  refine a_z ?_
  refine AWp.seq ?_
  refine r_z 1 ?_
  refine AWp.cutT (ztI z r B T) (fun i => i = 4) ?_ ?_
  ·refine AWp.block ?_
   refine AWp.loopS (ztI z r B T) (fun i => 4 - i) (fun i => i ≤ 4) 0 (by decide) ?_ ?_
   ·simp only [yq_]
    have e : ((r / 10 ^ 0 : Nat) : Int) = r := by simp
    rw [e]
    refine SEnt.to [] rfl rfl rfl au_r (fun hs => ?_) (fun hs => ?_)
    ·repeat' (first | exact CvF.nil | refine CvF.cons rfl ?_ ?_)
     all_goals (first | (exact Cv.clo hs hcz) | exact au_c)
    ·repeat' (first | exact CvH.nil | refine CvH.cons rfl rfl rfl rfl ?_ ?_)
     all_goals (first | exact au_e | (refine CvLL.box ?_; repeat' (first | exact CvL.nil | refine CvL.cons ?_ ?_)))
     all_goals (first | (exact Cv.clo hs hcz) | exact au_c)
   rintro i hi
   simp only [yq_]
   by_cases h4 : i < 4
   ·refine AWp.seq ?_
    refine q_z 2 ?_
    refine AWp.cond rfl (fun h2 => ?_) (fun h2 => ?_)
    rotate_left
    ·cases h2
    refine AWp.skip ?_
    refine AWp.seq ?_
    refine AWp.block ?_
    obtain ⟨c, hc⟩ : ∃ c, c = r / 10 ^ i := ⟨_, rfl⟩
    rw [← hc]
    have hcr : c ≤ r := by rw [hc]; exact Nat.div_le_self _ _
    have hsz : [UInt8.ofNat (48 + c % 10)].length + (pd i r ++ T).length ≤ 9223372036854775807 := by
     rw [List.length_append, vf_, hTl]; simp only [List.length_cons, List.length_nil]; omega
    refine s_r 9 ?_
    refine a_5 ?_
    refine o_0 (.slice_v rfl rfl rfl rfl (dig_text (c % 10) _ _ (by omega) (by omega) (by omega))) ?_
    refine a_1 ?_
    refine o_0 (.bin rfl rfl (cs_ (l := [UInt8.ofNat (48 + c % 10)]) (m := pd i r ++ T) hsz)) ?_
    refine a_z ?_
    refine AWp.reg (m := 3) rfl ?_
    refine a_z ?_
    refine AWp.reg (m := 3) rfl ?_
    refine a_z ?_
    refine ⟨i + 1, by omega, h4, ?_⟩
    have e1 : pd (i + 1) r ++ T = [UInt8.ofNat (48 + c % 10)] ++ (pd i r ++ T) := by rw [pd_front, ← hc]; rfl
    have e2 : ((r / 10 ^ (i + 1) : Nat) : Int) = (c : Int) / 10 := by rw [Nat.pow_succ, ← Nat.div_div_eq_div_mul, ← hc]; omega
    show SEnt _ ⟨[(1, .aptr [zZ z] 0 0), (3, tx (pd (i + 1) r ++ T)), (5, .arr (iE (zd B))), (7, i64 ((r / 10 ^ (i + 1) : Nat) : Int)), (8, i64 ((i + 1 : Nat) : Int))], [], 2, _⟩
    rw [e1, e2]
    refine SEnt.to [] rfl rfl rfl au_r (fun hs => ?_) (fun hs => ?_)
    ·repeat' (first | exact CvF.nil | refine CvF.cons rfl ?_ ?_)
     all_goals (first | (exact Cv.clo hs hcz) | exact au_c)
    ·repeat' (first | exact CvH.nil | refine CvH.cons rfl rfl rfl rfl ?_ ?_)
     all_goals (first | exact au_e | (refine CvLL.box ?_; repeat' (first | exact CvL.nil | refine CvL.cons ?_ ?_)))
     all_goals (first | (exact Cv.clo hs hcz) | exact au_c)
   ·refine AWp.seq ?_
    refine q_z 2 ?_
    refine AWp.cond rfl (fun h2 => ?_) (fun h2 => ?_)
    ·cases h2
    refine AWp.exit ⟨i, by omega, ?_⟩
    simp only [yq_]
    refine SEnt.to [] rfl rfl rfl au_r (fun hs => ?_) (fun hs => ?_)
    ·repeat' (first | exact CvF.nil | refine CvF.cons rfl ?_ ?_)
     all_goals (first | (exact Cv.clo hs hcz) | exact au_c)
    ·repeat' (first | exact CvH.nil | refine CvH.cons rfl rfl rfl rfl ?_ ?_)
     all_goals (first | exact au_e | (refine CvLL.box ?_; repeat' (first | exact CvL.nil | refine CvL.cons ?_ ?_)))
     all_goals (first | (exact Cv.clo hs hcz) | exact au_c)
  rintro _ rfl
  rw [yq_]
  refine AWp.reg (m := 2) rfl ?_
  refine a_z ?_
  have e0 : n / 10 ^ (4 * (k + 1)) = B := by rw [hB, hA, Nat.div_div_eq_div_mul, show 4 * (k + 1) = 4 * k + 4 by omega, Nat.pow_add]
  refine ⟨k + 1, ?_, .inr ?_, ?_⟩
  ·show n / 10 ^ (4 * (k + 1)) < A
   rw [e0]; omega
  ·show 0 < n / 10 ^ (4 * (k + 1 - 1))
   rw [Nat.add_sub_cancel, ← hA]; omega
  ·have e1 : pd (4 * (k + 1)) n = pd 4 r ++ T := by
    rw [show 4 * (k + 1) = 4 + 4 * k by omega, pd_add, ← hA, ← hT, hr]
    congr 1
    exact (pd_mod 4 A).symm
   show SEnt _ ⟨[(1, .aptr [zZ z] 0 0), (3, tx (pd (4 * (k + 1)) n)), (4, .arr (iE (zd (n / 10 ^ (4 * (k + 1))))))], [], 2, _⟩
   rw [e0, e1]
   refine SEnt.to [] rfl rfl rfl au_r (fun hs => ?_) (fun hs => ?_)
   ·repeat' (first | exact CvF.nil | refine CvF.cons rfl ?_ ?_)
    all_goals (first | (exact Cv.clo hs hcz) | exact au_c)
   ·repeat' (first | exact CvH.nil | refine CvH.cons rfl rfl rfl rfl ?_ ?_)
    all_goals (first | exact au_e | (refine CvLL.box ?_; repeat' (first | exact CvL.nil | refine CvL.cons ?_ ?_)))
    all_goals (first | (exact Cv.clo hs hcz) | exact au_c)
 rintro T ⟨K, hT, hK, hKl⟩
 have hdz : dropZ T = Lib.decDigits n := by rw [hT]; exact dropZ_pd K n hn0 hK
 clear hT hK hKl
 simp only [tx_]
 refine AWp.cut (ztD z) (fun T => T = Lib.decDigits n) ?_ ?_
 ·refine AWp.block ?_
  refine AWp.loopS (ztD z) (fun T => T.length) (fun T => dropZ T = Lib.decDigits n) T hdz ?_ ?_
  ·simp only [tx_]
   refine SEnt.to [] rfl rfl rfl au_r (fun hs => ?_) (fun hs => ?_)
   ·repeat' (first | exact CvF.nil | refine CvF.cons rfl ?_ ?_)
    all_goals (first | (exact Cv.clo hs hcz) | exact au_c)
   ·repeat' (first | exact CvH.nil | refine CvH.cons rfl rfl rfl rfl ?_ ?_)
    all_goals (first | exact au_e | (refine CvLL.box ?_; repeat' (first | exact CvL.nil | refine CvL.cons ?_ ?_)))
    all_goals (first | (exact Cv.clo hs hcz) | exact au_c)
  intro T hT
  simp only [tx_]
  cases T with
  | nil => exact absurd hT.symm (ni_ n)
  | cons c T =>
   rw [dropZ] at hT
   by_cases hc : c = 48
   ·rw [if_pos hc] at hT
    refine AWp.seq ?_
    refine s_r 3 ?_
    refine a_1 ?_
    refine o_0 (.index_s rfl rfl first_text) ?_
    refine o_0 (.bin rfl rfl (vT bo_ ((by rw [hc]; rfl)))) ?_
    refine AR.nil ?_
    refine AWp.cond rfl (fun h1 => ?_) (fun h1 => ?_)
    rotate_left
    ·cases h1
    refine AWp.skip ?_
    refine AWp.block ?_
    refine AWp.reg (m := 3) rfl ?_
    refine a_1 ?_
    refine o_0 (.slice_v rfl rfl rfl rfl (tail_text c T)) ?_
    refine a_z ?_
    refine ⟨T, by simp, hT, ?_⟩
    show SEnt _ ⟨[(1, .aptr [zZ z] 0 0), (3, tx T)], [], 2, _⟩
    refine SEnt.to [] rfl rfl rfl au_r (fun hs => ?_) (fun hs => ?_)
    ·repeat' (first | exact CvF.nil | refine CvF.cons rfl ?_ ?_)
     all_goals (first | (exact Cv.clo hs hcz) | exact au_c)
    ·repeat' (first | exact CvH.nil | refine CvH.cons rfl rfl rfl rfl ?_ ?_)
     all_goals (first | exact au_e | (refine CvLL.box ?_; repeat' (first | exact CvL.nil | refine CvL.cons ?_ ?_)))
     all_goals (first | (exact Cv.clo hs hcz) | exact au_c)
   ·rw [if_neg hc] at hT
    have hne : (((c.toNat : Nat) : Int) == 48) = false := by
     rw [beq_eq_false_iff_ne]
     intro e
     exact hc (UInt8.toNat_inj.1 (by have : c.toNat = 48 := by omega
                                     exact this))
    refine AWp.seq ?_
    refine s_r 3 ?_
    refine a_1 ?_
    refine o_0 (.index_s rfl rfl first_text) ?_
    refine o_0 (.bin rfl rfl (vF bo_ (hne))) ?_
    refine AR.nil ?_
    refine AWp.cond rfl (fun h1 => ?_) (fun h1 => ?_)
    ·cases h1
    refine AWp.exit ⟨c :: T, hT, ?_⟩
    show SEnt _ ⟨[(1, .aptr [zZ z] 0 0), (3, tx (c :: T))], [], 2, _⟩
    refine SEnt.to [] rfl rfl rfl au_r (fun hs => ?_) (fun hs => ?_)
    ·repeat' (first | exact CvF.nil | refine CvF.cons rfl ?_ ?_)
     all_goals (first | (exact Cv.clo hs hcz) | exact au_c)
    ·repeat' (first | exact CvH.nil | refine CvH.cons rfl rfl rfl rfl ?_ ?_)
     all_goals (first | exact au_e | (refine CvLL.box ?_; repeat' (first | exact CvL.nil | refine CvL.cons ?_ ?_)))
     all_goals (first | (exact Cv.clo hs hcz) | exact au_c)
 rintro T rfl
 simp only [tx_]
 have hdl2 := sb_ n
 by_cases hneg : z < 0
 ·refine AWp.seq ?_
  refine s_r 3 ?_
  refine a_2 ?_
  refine o_0 (.bin rfl rfl (vT ey_ ((by unfold sgZ; rw [if_neg h0, if_pos hneg]; rfl)))) ?_
  refine AR.nil ?_
  refine AWp.cond rfl (fun h1 => ?_) (fun h1 => ?_)
  rotate_left
  ·cases h1
  refine s_r 3 ?_
  refine a_1 ?_
  refine o_0 (.bin rfl rfl (cs_ (l := [45]) (by simp; omega))) ?_
  refine a_z ?_
  refine AWp.ret ?_
  exact Fin.tmpE rfl (by unfold ztx; rw [if_pos hneg, hn]) (ac_ _)
 ·refine AWp.seq ?_
  refine s_r 3 ?_
  refine a_2 ?_
  refine o_0 (.bin rfl rfl (vF ey_ ((by unfold sgZ; rw [if_neg h0, if_neg hneg]; rfl)))) ?_
  refine AR.nil ?_
  refine AWp.cond rfl (fun h1 => ?_) (fun h1 => ?_)
  ·cases h1
  refine AWp.skip ?_
  refine r_z 2 ?_
  refine AWp.ret ?_
  exact Fin.tmpE rfl (by unfold ztx; rw [if_neg hneg, hn]; rfl) (ac_ _)
theorem fs_ends (g : Nat) (op : Rat → Rat → Rat) (a b c d : Rat) (h1 : FSpec Tryz.prog g [.agg (qC a), .agg (qC c)] (.agg (qC (op a c)))) (h2 : FSpec Tryz.prog g [.agg (qC a), .agg (qC d)] (.agg (qC (op a d)))) (h3 : FSpec Tryz.prog g [.agg (qC b), .agg (qC c)] (.agg (qC (op b c)))) (h4 : FSpec Tryz.prog g [.agg (qC b), .agg (qC d)] (.agg (qC (op b d))))
    (hs : smL [op a c, op a d, op b c, op b d]) : FSpec Tryz.prog 276 [.clos g [] [], .agg (spC a b), .agg (spC c d)] (.agg (spC (minL [op a c, op a d, op b c, op b d]) (maxL [op a c, op a d, op b c, op b d]))) := by
 refine FSpec.enter Tryz.func276 rfl (by kernel_rfl) rfl rfl rfl ?_ rfl ?_
 ·exact aa_ (af_ ab_ ab_) (aa_ (ai_ a b) (aa_ (ai_ c d) ab_))
 refine r_z 3 ?_
 refine AWp.seq ?_
 refine AWp.regD hmix (m := 27) rfl ?_
 refine c_s (h1) ?_
 refine c_s (h2) ?_
 refine c_s (h3) ?_
 refine c_s (h4) ?_
 refine a_1 ?_
 refine o_1 (.callS1 rfl rfl rfl (.shut rfl (by first | exact nle rfl | (simp; done) | (simp; omega)) (.nil)) rfl (fs_spanned [op a c, op a d, op b c, op b d] hs (by simp))) ?_
 refine a_1 ?_
 refine AR.nil ⟨by kernel_rfl, ?_⟩
 refine AWp.ret ?_
 refine Fin.cellE rfl rfl rfl tg_65.h ts_65.h (nle rfl) ?_ ?_
 ·rfl
 ·exact ai_ _ _
theorem fs_SMul (a b c d : Rat) (ha : sm a) (hb : sm b) (hc : sm c) (hd : sm d) (hs : smL [a * c, a * d, b * c, b * d]) : FSpec Tryz.prog 247 [.agg (spC a b), .agg (spC c d)] (.agg (spC (minL [a * c, a * d, b * c, b * d]) (maxL [a * c, a * d, b * c, b * d]))) := by
 refine FSpec.enter Tryz.func247 rfl (by kernel_rfl) rfl rfl rfl ?_ rfl ?_
 ·exact aa_ (ai_ a b) (aa_ (ai_ c d) ab_)
 refine r_z 3 ?_
 refine r_c 4 (fs_ends 22 (fun x y => x * y) a b c d (do_ a c (sm2 ha hc)) (do_ a d (sm2 ha hd)) (do_ b c (sm2 hb hc)) (do_ b d (sm2 hb hd)) hs) ?_
 refine a_z ?_
 refine AWp.ret ?_
 refine Fin.cellE rfl rfl rfl tg_65.h ts_65.h (nle rfl) ?_ ?_
 ·rfl
 ·exact ai_ _ _
theorem qs_int (n : Int) : qs (n : Rat) ≤ max (bl n.natAbs) 1 := by
 have e1 : (n : Rat).num = n := rfl
 have e2 : (n : Rat).den = 1 := rfl
 unfold qs; rw [e1, e2, jy_]; exact Nat.le_refl _
theorem qs_i64 {n : Int} (h : -9223372036854775808 ≤ n ∧ n ≤ 9223372036854775807) : qs (n : Rat) ≤ 64 := by
 have h1 := qs_int n
 have h2 : bl n.natAbs ≤ 64 := bl_le (Nat.lt_of_le_of_lt (show n.natAbs ≤ 9223372036854775808 by omega) (by decide))
 omega
theorem fs_Of (n d : Int) (hn : -9223372036854775808 ≤ n ∧ n ≤ 9223372036854775807) (hd : -9223372036854775808 ≤ d ∧ d ≤ 9223372036854775807) (h0 : d ≠ 0) : FSpec Tryz.prog 87 [i64 n, i64 d] (.tup [.agg (qC ((n : Rat) / (d : Rat))), i64 0]) := by
 have h1 := qs_i64 hn
 have h2 := qs_i64 hd
 have hd0 : (d : Rat) ≠ 0 := by
  intro h
  have : (d : Rat).num = 0 := by rw [h]; rfl
  exact h0 this
 refine FSpec.enter Tryz.func87 rfl (by kernel_rfl) rfl rfl rfl ?_ rfl ?_
 ·exact aa_ (ac_ _) (aa_ (ac_ _) ab_)
 refine r_z 2 ?_
 refine r_c 9 (dw_ n hn) ?_
 refine c_s (dw_ d hd) ?_
 refine c_s (fs_div (n : Rat) (d : Rat) hd0 (by omega)) ?_
 refine a_z ?_
 refine AWp.ret ?_
 refine Fin.many ⟨_, _, rfl, ⟨_, _, _, _, _, rfl, rfl, rfl, .inl ⟨tg_37.h, _, ts_37.h, nle rfl, rfl⟩⟩, ⟨_, _, rfl, rfl, rfl⟩⟩ (nle rfl) ?_
 exact CvL.cons (Cv.clo am_ (ae_ _)) (CvL.cons (Cv.clo am_ (ac_ _)) CvL.nil)
theorem fs_Clone (l : List Rat) (hl : l.length ≤ 1099511627776) : FSpec Tryz.prog 150 [.arr (pE l)] (.arr (pE l)) := by
 cases l with
 | nil =>
  refine FSpec.nil1 fun a c => ?_
  refine FSpec.enter Tryz.func150 rfl (by kernel_rfl) rfl rfl rfl ?_ rfl ?_
  ·exact aa_ (ac_ _) ab_
  refine r_z 1 ?_
  refine AWp.seq ?_
  refine r_z 2 ?_
  refine AWp.cond rfl (fun h => ?_) (fun h => ?_)
  ·refine r_z 1 ?_
   refine AWp.ret ?_
   exact Fin.tmpN rfl
  ·refine AWp.skip ?_
   refine s_r 4 ?_
   refine a_2 ?_
   refine o_2 (.append_l rfl rfl rfl te_25.h rfl rfl rfl rfl rfl (by first | rfl | assumption | (simp; done) | (simp; omega) | omega) (by first | exact ib_ _ | exact hz_ _ | exact hw_ _ | exact ic_ _ | exact gs_ _ | rfl | simp) (by first | rfl | exact ib_ _ | exact hz_ _ | exact hw_ _ | exact ic_ _ | exact gs_ _ | simp) rfl (.vnil) tz_37.h rfl tb_37.h (by first | rfl | assumption | (simp; done) | (simp; omega) | omega) (by first | (simp [maxLen]; done) | (simp [maxLen]; omega))) ?_
   refine a_z ?_
   refine AWp.ret ?_
   exact Fin.tmpS rfl rfl rfl rfl (ar_ [])
 | cons q l =>
  have hne : pE (q :: l) ≠ [] := by simp [pE]
  simp at hl
  refine FSpec.enter Tryz.func150 rfl (by kernel_rfl) rfl rfl rfl ?_ rfl ?_
  ·exact aa_ (ao_ (ar_ _)) ab_
  refine r_z 1 ?_
  refine AWp.seq ?_
  refine s_r 2 ?_
  refine a_1 ?_
  first | refine AR.op0 (.nilq_v rfl rfl te_25.h) rfl rfl ?_ | refine AR.op0 (.nilq_arr rfl (hne) rfl te_25.h) rfl rfl ?_
  refine AR.nil ?_
  refine AWp.cond rfl (fun h => ?_) (fun h => ?_)
  ·cases h
  ·refine AWp.skip ?_
   refine s_r 4 ?_
   refine a_2 ?_
   refine o_2 (.append_l rfl rfl rfl te_25.h rfl rfl rfl rfl rfl (by first | rfl | assumption | (simp; done) | (simp; omega) | omega) (by first | exact ib_ _ | exact hz_ _ | exact hw_ _ | exact ic_ _ | exact gs_ _ | rfl | simp) (by first | rfl | exact ib_ _ | exact hz_ _ | exact hw_ _ | exact ic_ _ | exact gs_ _ | simp) rfl (.arr (hh_ _)) tz_37.h rfl tb_37.h (by first | rfl | assumption | (simp; done) | (simp; omega) | omega) (by first | (simp [maxLen]; done) | (simp [maxLen]; omega))) ?_
   refine a_z ?_
   refine AWp.ret ?_
   exact Fin.tmpS rfl rfl rfl (by simp) (ar_ _)
def trS (l : List Rat) : Nat → AState
 | n => ⟨[(0, .arr (pE l)), (3, i64 n)], [], 1, 23⟩
theorem ie_ (l : List Rat) (n : Nat) : trS l n = ⟨[(0, .arr (pE l)), (3, i64 n)], [], 1, 23⟩ := rfl
theorem dv_ (l : List Rat) (hl : l.length ≤ 1099511627776) : FSpec Tryz.prog 67 [.arr (pE l)] (.arr (pE (trimQ l))) := by
 refine FSpec.enter Tryz.func67 rfl (by kernel_rfl) rfl rfl rfl ?_ rfl ?_
 ·exact aa_ (ao_ (ar_ _)) ab_
 refine r_z 1 ?_
 refine r_z 3 ?_
 refine AWp.cut (trS l) (fun n => n ≤ l.length ∧ trimQ l = l.take n) ?_ ?_
 ·refine AWp.block ?_
  refine AWp.loopS (trS l) (fun n => n) (fun n => n ≤ l.length ∧ trimQ l = trimQ (l.take n)) l.length ⟨Nat.le_refl _, by rw [List.take_length]⟩ ?_ ?_
  ·simp only [ie_]
   exact s_e []
  rintro n ⟨hn, ht⟩
  rw [ie_]
  cases n with
  | zero =>
   refine AWp.seq ?_
   refine s_r 11 ?_
   refine a_3 ?_
   refine AR.opN rfl rfl (gn (by simp)) rfl rfl ?_
   refine AR.opN rfl rfl (gn (by simp)) rfl rfl ?_
   refine AR.opN rfl rfl (gn (by simp)) rfl rfl ?_
   refine AR.opN rfl rfl (gn (by simp)) rfl rfl ?_
   refine AR.opN rfl rfl (gn (by simp)) rfl rfl ?_
   refine AR.opN rfl rfl (gn (by simp)) rfl rfl ?_
   refine AR.opN rfl rfl (gn (by simp)) rfl rfl ?_
   refine o_0 (.pickF rfl (by simp) rfl) ?_
   refine AR.nil ?_
   refine AWp.cond rfl (fun h => ?_) (fun h => ?_)
   ·cases h
   ·refine AWp.exit ⟨0, ⟨Nat.zero_le _, ?_⟩, ?_⟩
    ·rw [ht]; rfl
    ·simp only [ie_]
     exact s_e []
  | succ n =>
   obtain ⟨q, hq⟩ : ∃ q, l[n]? = some q := ⟨_, List.getElem?_eq_getElem (by omega)⟩
   have hq' : (pE l)[(((n + 1 : Nat) : Int) - 1).toNat]? = some (qC q) := by
    rw [show (((n + 1 : Nat) : Int) - 1).toNat = n by omega]; exact cv_ hq
   have hs : trimQ (l.take (n + 1)) = if q = 0 then trimQ (l.take n) else l.take (n + 1) := by
    rw [cw_ hq, iz_]
   refine AWp.seq ?_
   refine s_r 11 ?_
   refine a_3 ?_
   refine AR.op0y rfl rfl (gy (by simp <;> omega)) (.move rfl) rfl rfl ?_
   refine AR.op0y rfl rfl (gy (by simp <;> omega)) (.move rfl) rfl rfl ?_
   refine AR.op0y rfl rfl (gy (by simp <;> omega)) (.bin rfl rfl (mj_ (by omega))) rfl rfl ?_
   first | refine AR.op0y rfl rfl (gy (by simp <;> omega)) (.index_l rfl rfl (by omega) (by omega) te_25.h) rfl rfl ?_ | refine AR.op0y rfl rfl (gy (by simp <;> omega)) (.index_a rfl rfl (by omega) hq' rfl te_25.h) rfl rfl ?_
   first | refine AR.op0y rfl rfl (gy (by simp <;> omega)) (.load_l rfl rfl hq' tg_37.h ts_37.h (nle rfl)) rfl rfl ?_ | refine AR.op0y rfl rfl (gy (by simp <;> omega)) (.load_a rfl hq' tg_37.h ts_37.h (nle rfl)) rfl rfl ?_
   refine AR.op0y rfl rfl (gy (by simp <;> omega)) (.call rfl rfl rfl (dm_ q)) rfl rfl ?_
   refine AR.op0y rfl rfl (gy (by simp <;> omega)) (.bin rfl rfl bo_) rfl rfl ?_
   refine o_0 (.pickT rfl (by simp <;> omega) rfl) ?_
   refine AR.nil ?_
   refine AWp.cond rfl (fun h => ?_) (fun h => ?_)
   ·have h0 : q = 0 := by
     have h1 : sgZ q.num = 0 := by simpa using h
     exact sgZ_num_eq.1 h1
    refine AWp.skip ?_
    refine AWp.block ?_
    refine AWp.reg (m := 3) rfl ?_
    refine a_z ?_
    refine ⟨n, Nat.lt_succ_self n, ⟨by omega, ?_⟩, ?_⟩
    ·rw [ht, hs, if_pos h0]
    ·simp only [ie_]
     exact s_e []
   ·have h0 : q ≠ 0 := by
     intro e
     have h1 : ¬ sgZ q.num = 0 := by simpa using h
     exact h1 (sgZ_num_eq.2 e)
    refine AWp.exit ⟨n + 1, ⟨hn, ?_⟩, ?_⟩
    ·rw [ht, hs, if_neg h0]
    ·simp only [ie_]
     exact s_e []
 rintro n ⟨hn, ht⟩
 rw [ie_]
 have hcl := fs_Clone (l.take n) (by simp; omega)
 refine s_r 5 ?_
 refine a_2 ?_
 refine o_0 (.sa_h rfl rfl (h := n) rfl (by simp; omega) te_25.h (hh_ _)) ?_
 refine o_0 (.call rfl rfl rfl ((by rw [kw_]; exact hcl))) ?_
 refine o_0 (.assign rfl) ?_
 refine AR.nil ?_
 refine AWp.ret ?_
 refine Fin.tmpE rfl ?_ ?_
 ·rw [ht]
 ·exact ao_ (ar_ _)
theorem cc_ (l : List Rat) (hl : l.length ≤ 1099511627776) : FSpec Tryz.prog 16 [.arr (pE l)] (i64 (degP l)) := by
 have := bm_ l
 refine FSpec.enter Tryz.func16 rfl (by kernel_rfl) rfl rfl rfl ?_ rfl ?_
 ·exact aa_ (ao_ (ar_ _)) ab_
 refine r_z 1 ?_
 refine r_c 5 (dv_ l hl) ?_
 refine a_z ?_
 refine AWp.ret ?_
 refine Fin.tmpE rfl ?_ ?_
 ·rfl
 ·exact ac_ _
theorem io_ (l : List Rat) (hl : l.length ≤ 1099511627776) : FSpec Tryz.prog 63 [.arr (pE l)] (.agg (qC (leadP l))) := by
 have hlen := bm_ l
 refine FSpec.enter Tryz.func63 rfl (by kernel_rfl) rfl rfl rfl ?_ rfl ?_
 ·exact aa_ (ao_ (ar_ _)) ab_
 refine r_z 1 ?_
 refine r_c 3 (dv_ l hl) ?_
 refine a_z ?_
 refine AWp.seq ?_
 refine r_z 3 ?_
 refine AWp.cond rfl (fun h => ?_) (fun h => ?_)
 ·have h0 : trimQ l = [] := by
   have h1 : (trimQ l).length = 0 := by simpa using h
   exact List.length_eq_zero_iff.1 h1
  rw [pf_ h0]
  refine r_z 2 ?_
  refine AWp.ret ?_
  refine Fin.cell rfl rfl rfl tg_37.h ts_37.h (nle rfl) (Cv.agg ?_)
  rw [qC0]
  exact CvL.cons (Cv.emp _) (CvL.cons (Cv.clo am_ (ac_ _)) (CvL.cons (Cv.emp _) CvL.nil))
 ·obtain ⟨n, hn⟩ : ∃ n, (trimQ l).length = n + 1 := ⟨(trimQ l).length - 1, by
   have h1 : ¬ (trimQ l).length = 0 := by simpa using h
   omega⟩
  have hg : (pE (trimQ l))[(((trimQ l).length : Int) - 1).toNat]? = some (qC (leadP l)) := by
   rw [hn, show (((n + 1 : Nat) : Int) - 1).toNat = n by omega]; exact cv_ (dt_ hn)
  refine AWp.skip ?_
  refine s_r 7 ?_
  refine a_4 ?_
  first | refine AR.op0 (.index_l rfl rfl (by omega) (by omega) te_25.h) rfl rfl ?_ | refine AR.op0 (.index_a rfl rfl (by omega) hg rfl te_25.h) rfl rfl ?_
  first | refine AR.op0 (.load_l rfl rfl hg tg_37.h ts_37.h (nle rfl)) rfl rfl ?_ | refine AR.op0 (.load_a rfl hg tg_37.h ts_37.h (nle rfl)) rfl rfl ?_
  refine a_z ?_
  refine AWp.ret ?_
  refine Fin.cellE rfl rfl rfl tg_37.h ts_37.h (nle rfl) ?_ ?_
  ·rfl
  ·exact ae_ _
theorem fs_at (l : List Rat) (i : Nat) : FSpec Tryz.prog 124 [.arr (pE l), i64 i] (.agg (qC (coP l i))) := by
 refine FSpec.enter Tryz.func124 rfl (by kernel_rfl) rfl rfl rfl ?_ rfl ?_
 ·exact aa_ (ao_ (ar_ _)) (aa_ (ac_ _) ab_)
 refine r_z 1 ?_
 refine AWp.seq ?_
 refine r_z 4 ?_
 refine AWp.cond rfl (fun h => ?_) (fun h => ?_)
 ·have hlt : i < l.length := by simpa using h
  have hg : (pE l)[((i : Nat) : Int).toNat]? = some (qC (coP l i)) := cv_ (bg_ hlt)
  refine s_r 5 ?_
  refine a_2 ?_
  first | refine AR.op0 (.index_l rfl rfl (by omega) (by omega) te_25.h) rfl rfl ?_ | refine AR.op0 (.index_a rfl rfl (by omega) hg rfl te_25.h) rfl rfl ?_
  first | refine AR.op0 (.load_l rfl rfl hg tg_37.h ts_37.h (nle rfl)) rfl rfl ?_ | refine AR.op0 (.load_a rfl hg tg_37.h ts_37.h (nle rfl)) rfl rfl ?_
  refine a_z ?_
  refine AWp.ret ?_
  refine Fin.cellE rfl rfl rfl tg_37.h ts_37.h (nle rfl) ?_ ?_
  ·rfl
  ·exact ae_ _
 ·have hge : l.length ≤ i := by simpa using h
  rw [ho_ hge]
  refine AWp.skip ?_
  refine r_z 2 ?_
  refine AWp.ret ?_
  refine Fin.cell rfl rfl rfl tg_37.h ts_37.h (nle rfl) (Cv.agg ?_)
  rw [qC0]
  exact CvL.cons (Cv.emp _) (CvL.cons (Cv.clo am_ (ac_ _)) (CvL.cons (Cv.emp _) CvL.nil))
theorem eE_set {n i e : Nat} {f : Nat → Rat} (h : i < n) (he : e = i) : (pE (tabP i f) ++ List.replicate (n - i) zC).set e (qC (f i)) = pE (tabP (i + 1) f) ++ List.replicate (n - (i + 1)) zC := by
 subst he
 obtain ⟨k, rfl⟩ : ∃ k, n = e + 1 + k := ⟨n - (e + 1), by omega⟩
 rw [show e + 1 + k - e = k + 1 by omega, show e + 1 + k - (e + 1) = k by omega, List.replicate_succ, List.set_append_right _ _ (by simp)]
 simp [tabP, List.range_succ, pE]
theorem eE_get {n i e : Nat} {f : Nat → Rat} (h : i < n) (he : e = i) : (pE (tabP i f) ++ List.replicate (n - i) zC)[e]? = some zC := by
 subst he
 rw [List.getElem?_append_right (by simp), List.getElem?_replicate, if_pos (by simp; omega)]
theorem ql_ (n i : Nat) (f : Nat → Rat) : ∀ e ∈ pE (tabP i f) ++ List.replicate (n - i) zC, ∀ c ∈ e, Closed c := by
 intro e he
 rcases List.mem_append.1 he with he | he
 ·exact ar_ _ e he
 ·rw [List.eq_of_mem_replicate he]; exact wo_
def eachS (n : Nat) (f : Nat → Rat) (g : Nat) (cap : List AV) : Nat → AState
 | i => ⟨[(1, .clos g [] cap), (5, .lsl 1 0 n (some n) 3), (10, i64 n), (11, i64 i)], [(1, some ⟨37, 3, pE (tabP i f) ++ List.replicate (n - i) zC⟩)], 2, 23⟩
theorem me_ (n : Nat) (f : Nat → Rat) (g : Nat) (cap : List AV) (i : Nat) : eachS n f g cap i = ⟨[(1, .clos g [] cap), (5, .lsl 1 0 n (some n) 3), (10, i64 n), (11, i64 i)], [(1, some ⟨37, 3, pE (tabP i f) ++ List.replicate (n - i) zC⟩)], 2, 23⟩ := rfl
theorem xx_ (n : Nat) (f : Nat → Rat) (g : Nat) (cap : List AV) (hn : n ≤ 1099511627776) (hcap : ∀ c ∈ cap, Closed c) (hg : ∀ i, i < n → FSpec Tryz.prog g ((i64 i :: cap).map coe) (.agg (qC (f i)))) : FSpec Tryz.prog 101 [i64 n, .clos g [] cap] (.arr (pE (trimQ (tabP n f)))) := by
 refine FSpec.enter Tryz.func101 rfl (by kernel_rfl) rfl rfl rfl ?_ rfl ?_
 ·exact aa_ (ac_ _) (aa_ (af_ ab_ hcap) ab_)
 refine r_z 1 ?_
 refine r_z 3 ?_
 refine AWp.seq ?_
 refine r_z 3 ?_
 refine AWp.cutT (fun _ : Unit => eachS n f g cap n) (fun _ => True) ?_ ?_
 ·refine AWp.block ?_
  refine AWp.loopS (eachS n f g cap) (fun i => n - i) (fun i => i ≤ n) 0 (Nat.zero_le _) ?_ ?_
  ·simp only [me_]
   refine SEnt.to [(1, 5)] rfl rfl rfl au_r (fun hs => ?_) (fun hs => ?_)
   ·repeat' (first | exact CvF.nil | refine CvF.cons rfl ?_ ?_)
    all_goals (first | (exact Cv.clo hs (af_ ab_ hcap)) | exact au_c)
   ·repeat' (first | exact CvH.nil | refine CvH.cons rfl rfl rfl rfl ?_ ?_)
    all_goals (first | (exact CvLL.cloE hs rfl (ql_ n 0 f)) | exact au_e | (refine CvLL.box ?_; repeat' (first | exact CvL.nil | refine CvL.cons ?_ ?_)))
    all_goals (first | (exact Cv.clo hs (af_ ab_ hcap)) | exact au_c)
  rintro i hi
  rw [me_]
  refine r_z 1 ?_
  refine AWp.seq ?_
  refine AWp.cond rfl (fun h => ?_) (fun h => ?_)
  ·refine AWp.skip ?_
   have hlt : i < n := by simpa using h
   refine AWp.seq ?_
   refine AWp.block ?_
   refine r_z 2 ?_
   refine AWp.reg (m := 7) rfl ?_
   refine c_s (hg i hlt) ?_
   refine a_1 ?_
   refine o_1n (.store rfl rfl (eE_get hlt (Nat.zero_add i)) rfl rfl rfl ts_37.h (nle rfl)) ?_
   refine AR.nil ?_
   refine AWp.reg (m := 2) rfl ?_
   refine a_z ?_
   refine ⟨i + 1, by omega, hlt, ?_⟩
   simp only [me_]
   refine SEnt.to [] rfl rfl rfl au_r (fun hs => ?_) (fun hs => ?_)
   ·repeat' (first | exact CvF.nil | refine CvF.cons rfl ?_ ?_)
    all_goals (first | (exact Cv.clo hs (af_ ab_ hcap)) | exact au_c)
   ·repeat' (first | exact CvH.nil | refine CvH.cons rfl rfl rfl rfl ?_ ?_)
    all_goals (first | (exact CvLL.cloE hs (eE_set hlt (Nat.zero_add i)) (ql_ n (i + 1) f)) | exact au_e | (refine CvLL.box ?_; repeat' (first | exact CvL.nil | refine CvL.cons ?_ ?_)))
    all_goals (first | (exact Cv.clo hs (af_ ab_ hcap)) | exact au_c)
  ·have hge : i = n := by
    have : ¬ i < n := by simpa using h
    omega
   subst hge
   refine AWp.exit ⟨(), trivial, ?_⟩
   simp only [me_]
   refine SEnt.to [] rfl rfl rfl au_r (fun hs => ?_) (fun hs => ?_)
   ·repeat' (first | exact CvF.nil | refine CvF.cons rfl ?_ ?_)
    all_goals (first | (exact Cv.clo hs (af_ ab_ hcap)) | exact au_c)
   ·repeat' (first | exact CvH.nil | refine CvH.cons rfl rfl rfl rfl ?_ ?_)
    all_goals (first | (exact CvLL.clo hs (ql_ i i f)) | exact au_e | (refine CvLL.box ?_; repeat' (first | exact CvL.nil | refine CvL.cons ?_ ?_)))
    all_goals (first | (exact Cv.clo hs (af_ ab_ hcap)) | exact au_c)
 rintro _ _
 rw [me_]
 have hfull : List.take n (List.drop 0 (pE (tabP n f) ++ List.replicate (n - n) zC)) = pE (tabP n f) := by
  rw [Nat.sub_self, List.replicate_zero, List.append_nil, List.drop_zero, List.take_of_length_le (by simp)]
 refine s_r 3 ?_
 refine a_1 ?_
 refine o_1 (.callS1 rfl rfl rfl (.shut rfl (by first | exact nle rfl | (simp; done) | (simp; omega)) (.nil)) rfl ((by rw [hfull]; exact dv_ (tabP n f) (by simp; exact hn)))) ?_
 refine a_z ?_
 refine AWp.ret ?_
 refine Fin.tmpE rfl ?_ ?_
 ·rfl
 ·exact ao_ (ar_ _)
end Go.Proofs.YtdhedjbmdnnbkaaGreatDoor
