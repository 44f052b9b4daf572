/- Part Q13 of the proof. -/
import Derived.Test.YtdjfjpeoddmamaaGreatDoorQ12
set_option linter.all false
namespace Go.Proofs.YtdjfjpeoddmamaaGreatDoor
open Go.Abs
set_option maxRecDepth 20000
theorem os_Clone (l : List Rat) (h0 : l ≠ []) (hl : l.length ≤ 1099511627776) : OSpec Tryz.prog 184 [.arr (pE l)] 35 3 (pE l) := by
 have hne : pE l ≠ [] := by
  intro e
  exact h0 (List.length_eq_zero_iff.1 (by rw [← pE_length, e]; rfl))
 refine OSpec.enter Tryz.func184 rfl (by kernel_rfl) rfl rfl rfl ?_ ?_ rfl ?_
 ·exact closed_cons (closed_arr (closed_pE _)) closed_nil
 ·exact closed_pE l
 refine r_z 1 ?_
 refine AWp.seq ?_
 refine s_r 2 ?_
 refine a_1 ?_
 first | refine AR.op0 (.nilq_v rfl rfl te_55.h) rfl rfl ?_ | refine AR.op0 (.nilq_arr rfl (hne) rfl te_55.h) rfl rfl ?_
 refine AR.nil ?_
 refine AWp.cond rfl (fun h => ?_) (fun h => ?_)
 ·cases h
 ·refine AWp.skip ?_
  refine s_r 4 ?_
  refine a_2 ?_
  refine o_2 (.append_l rfl rfl rfl te_55.h rfl rfl rfl rfl rfl (by first | rfl | assumption | (simp; done) | (simp; omega) | omega) (by first | exact dE_one _ | exact iE_one _ | exact pE_one _ | exact cE_one _ | exact rE_one _ | assumption | rfl | simp) (by first | rfl | exact dE_one _ | exact iE_one _ | exact pE_one _ | exact cE_one _ | exact rE_one _ | simp) rfl (.arr (pE_len3 _)) tz_35.h rfl tb_35.h (by first | rfl | assumption | (simp; done) | (simp; omega) | omega) (by first | (simp [maxLen]; done) | (simp [maxLen]; omega))) ?_
  refine a_z ?_
  refine AWp.ret ?_
  exact FinO.tmp rfl rfl rfl (by simp)
theorem os_Trim (l : List Rat) (h0 : trimQ l ≠ []) (hl : l.length ≤ 1099511627776) : OSpec Tryz.prog 99 [.arr (pE l)] 35 3 (pE (trimQ l)) := by
 refine OSpec.enter Tryz.func99 rfl (by kernel_rfl) rfl rfl rfl ?_ ?_ rfl ?_
 ·exact closed_cons (closed_arr (closed_pE _)) closed_nil
 ·exact closed_pE _
 refine r_z 1 ?_
 refine r_z 3 ?_
 refine AWp.cut (trS l) (fun n => n ≤ l.length ∧ trimQ l = l.take n) ?_ ?_
 ·refine AWp.block ?_
  refine AWp.loopS (trS l) (fun n => n) (fun n => n ≤ l.length ∧ trimQ l = trimQ (l.take n)) l.length ⟨Nat.le_refl _, by rw [List.take_length]⟩ ?_ ?_
  ·simp only [trS_mk]
   exact s_e []
  rintro n ⟨hn, ht⟩
  rw [trS_mk]
  cases n with
  | zero => exact absurd (ht.trans rfl) h0
  | succ n =>
   obtain ⟨q, hq⟩ : ∃ q, l[n]? = some q := ⟨_, List.getElem?_eq_getElem (by omega)⟩
   have hq' : (pE l)[(((n + 1 : Nat) : Int) - 1).toNat]? = some (qC q) := by
    rw [show (((n + 1 : Nat) : Int) - 1).toNat = n by omega]; exact pE_get hq
   have hs : trimQ (l.take (n + 1)) = if q = 0 then trimQ (l.take n) else l.take (n + 1) := by
    rw [take_snoc hq, trimQ_snoc]
   refine AWp.seq ?_
   refine s_r 11 ?_
   refine a_3 ?_
   refine AR.op0y rfl rfl (gy (by simp <;> omega)) (.move rfl) rfl rfl ?_
   refine AR.op0y rfl rfl (gy (by simp <;> omega)) (.move rfl) rfl rfl ?_
   refine AR.op0y rfl rfl (gy (by simp <;> omega)) (.bin rfl rfl (bI64_sub (by omega))) rfl rfl ?_
   first | refine AR.op0y rfl rfl (gy (by simp <;> omega)) (.index_l rfl rfl (by omega) (by omega) te_55.h) rfl rfl ?_ | refine AR.op0y rfl rfl (gy (by simp <;> omega)) (.index_a rfl rfl (by omega) hq' rfl te_55.h) rfl rfl ?_
   first | refine AR.op0y rfl rfl (gy (by simp <;> omega)) (.load_l rfl rfl hq' tg_35.h ts_35.h (nle rfl)) rfl rfl ?_ | refine AR.op0y rfl rfl (gy (by simp <;> omega)) (.load_a rfl hq' tg_35.h ts_35.h (nle rfl)) rfl rfl ?_
   refine AR.op0y rfl rfl (gy (by simp <;> omega)) (.call rfl rfl rfl (fs_Sign q)) rfl rfl ?_
   refine AR.op0y rfl rfl (gy (by simp <;> omega)) (.bin rfl rfl binI_eql) rfl rfl ?_
   refine o_0 (.pickT rfl (by simp <;> omega) rfl) ?_
   refine AR.nil ?_
   refine AWp.cond rfl (fun h => ?_) (fun h => ?_)
   ·have h0 : q = 0 := by
     have h1 : sgZ q.num = 0 := by simpa using h
     exact sgZ_num_eq.1 h1
    refine AWp.skip ?_
    refine AWp.block ?_
    refine AWp.reg (m := 3) rfl ?_
    refine a_z ?_
    refine ⟨n, Nat.lt_succ_self n, ⟨by omega, ?_⟩, ?_⟩
    ·rw [ht, hs, if_pos h0]
    ·simp only [trS_mk]
     exact s_e []
   ·have h0 : q ≠ 0 := by
     intro e
     have h1 : ¬ sgZ q.num = 0 := by simpa using h
     exact h1 (sgZ_num_eq.2 e)
    refine AWp.exit ⟨n + 1, ⟨hn, ?_⟩, ?_⟩
    ·rw [ht, hs, if_neg h0]
    ·simp only [trS_mk]
     exact s_e []
 rintro n ⟨hn, ht⟩
 rw [trS_mk]
 rw [ht] at h0
 have hcl := os_Clone (l.take n) h0 (by simp; omega)
 refine s_r 5 ?_
 refine a_2 ?_
 refine o_0 (.sa_h rfl rfl (h := n) rfl (by simp; omega) te_55.h (pE_len3 _)) ?_
 refine o_1 (.callO rfl rfl rfl ((by rw [pE_take]; exact hcl))) ?_
 refine a_z ?_
 refine AWp.ret ?_
 rw [ht]
 exact FinO.tmp rfl rfl rfl (by simp)
def dvS (q : List Rat) (lead : Rat) : Nat × List Rat × List Rat → AState
 | (c, u, o) => ⟨[(0, .lsl 1 0 o.length none 3), (1, .arr (pE q)), (4, .lsl 2 0 u.length (some u.length) 3), (6, .lptr 3 0 0), (7, i64 ((c : Int) - 1))], [(1, some ⟨35, 3, pE o⟩), (2, some ⟨35, 3, pE u⟩), (3, some ⟨35, 3, [qC lead]⟩)], 4, 82⟩
theorem dvS_mk (q : List Rat) (lead : Rat) (c : Nat) (u : List Rat) (o : List Rat) : dvS q lead (c, u, o) = ⟨[(0, .lsl 1 0 o.length none 3), (1, .arr (pE q)), (4, .lsl 2 0 u.length (some u.length) 3), (6, .lptr 3 0 0), (7, i64 ((c : Int) - 1))], [(1, some ⟨35, 3, pE o⟩), (2, some ⟨35, 3, pE u⟩), (3, some ⟨35, 3, [qC lead]⟩)], 4, 82⟩ := rfl
def dvT (q : List Rat) (lead : Rat) (n : Nat) (u : List Rat) (k : Rat) : Nat × List Rat → AState
 | (i, o) => ⟨[(0, .lsl 1 0 o.length none 3), (1, .arr (pE q)), (4, .lsl 2 0 u.length (some u.length) 3), (6, .lptr 3 0 0), (7, i64 n), (8, .lptr 4 0 0), (55, .arr (pE q)), (56, i64 q.length), (57, i64 i)], [(1, some ⟨35, 3, pE o⟩), (2, some ⟨35, 3, pE u⟩), (3, some ⟨35, 3, [qC lead]⟩), (4, some ⟨35, 3, [qC k]⟩)], 5, 82⟩
theorem dvT_mk (q : List Rat) (lead : Rat) (n : Nat) (u : List Rat) (k : Rat) (i : Nat) (o : List Rat) : dvT q lead n u k (i, o) = ⟨[(0, .lsl 1 0 o.length none 3), (1, .arr (pE q)), (4, .lsl 2 0 u.length (some u.length) 3), (6, .lptr 3 0 0), (7, i64 n), (8, .lptr 4 0 0), (55, .arr (pE q)), (56, i64 q.length), (57, i64 i)], [(1, some ⟨35, 3, pE o⟩), (2, some ⟨35, 3, pE u⟩), (3, some ⟨35, 3, [qC lead]⟩), (4, some ⟨35, 3, [qC k]⟩)], 5, 82⟩ := rfl
theorem fs_divide (p q : List Rat) (s t : Nat) (hp : bdL p s) (hq : bdL q t) (hs : 1 ≤ s) (ht : 1 ≤ t) (h : 2 ^ ((trimQ p).length + 1 - (trimQ q).length) * (s + 2 * t + 1) ≤ 137438953472) (hq0 : trimQ q ≠ []) (hp1 : p.length ≤ 274877906944) (hq1 : q.length ≤ 274877906944) : FSpec Tryz.prog 227 [.arr (pE p), .arr (pE q)] (.tup [.arr (pE (divP p q).1), .arr (pE (divP p q).2)]) := by
 have hlp := trimQ_len p
 have hlq := trimQ_len q
 have hql := List.length_pos_iff.2 hq0
 have hg : (pE (trimQ q))[(((trimQ q).length : Int) - 1).toNat]? = some (qC (leadP q)) := by
  rw [show (((trimQ q).length : Int) - 1).toNat = (trimQ q).length - 1 by omega]; exact pE_get (leadP_get (by omega))
 have hne := leadP_ne hq0
 obtain ⟨m, hm⟩ : ∃ m, m = (trimQ p).length + 1 - (trimQ q).length := ⟨_, rfl⟩
 have hmx : (if (0 : Int) > ((trimQ p).length : Int) - (trimQ q).length + 1 then (0 : Int) else ((trimQ p).length : Int) - (trimQ q).length + 1) = (m : Int) := by split <;> omega
 have hB : divB (trimQ q) (leadP q) 137438953472 m (List.replicate m 0) (trimQ p) := by
  refine ⟨s, t, bdL_co (fun x hx => hp x (trimQ_mem hx)) hs, bdL_co (fun x hx => hq x (trimQ_mem hx)) ht, hq _ (trimQ_mem (List.mem_of_getElem? (leadP_get (n := (trimQ q).length - 1) (by omega)))), ht, fun n => ?_, by rw [hm]; exact h⟩
  have : coP (List.replicate m 0) n = 0 := by
   unfold coP
   rw [List.getD_eq_getElem?_getD, List.getElem?_replicate]
   split <;> rfl
  rw [this]; decide
 have hdv : divP p q = (trimQ (divR (trimQ q) (leadP q) m (List.replicate m 0) (trimQ p)).1, trimQ (divR (trimQ q) (leadP q) m (List.replicate m 0) (trimQ p)).2) := by rw [hm]; rfl
 rw [hdv]
 refine FSpec.enter Tryz.func227 rfl (by kernel_rfl) rfl rfl rfl ?_ rfl ?_
 ·exact closed_cons (closed_pA p) (closed_cons (closed_pA q) closed_nil)
 refine r_z 2 ?_
 by_cases hp0 : trimQ p = []
 ·have hm0 : m = 0 := by rw [hm, hp0]; simp; omega
  subst hm0
  rw [hp0] at hmx ⊢
  have htp := fs_Trim p (by omega)
  rw [hp0] at htp
  refine r_c 6 (htp) ?_
  refine c_s (fs_Trim q (by omega)) ?_
  refine a_z ?_
  refine s_r 8 ?_
  refine a_4 ?_
  first | refine AR.op0 (.index_l rfl rfl (by omega) (by omega) te_55.h) rfl rfl ?_ | refine AR.op0 (.index_a rfl rfl (by omega) hg rfl te_55.h) rfl rfl ?_
  first | refine AR.op0 (.load_l rfl rfl hg tg_35.h ts_35.h (nle rfl)) rfl rfl ?_ | refine AR.op0 (.load_a rfl hg tg_35.h ts_35.h (nle rfl)) rfl rfl ?_
  refine a_z ?_
  refine s_r 9 ?_
  refine a_7 ?_
  refine o_1 (.makeSlice (l := 0) (c := 0) (by rw [← hmx]; rfl) (by rw [← hmx]; rfl) te_55.h tz_35.h rfl tb_35.h (by first | omega | (simp; done) | (simp; omega)) (by first | omega | (simp; done) | (simp; omega)) (by unfold maxLen; first | omega | (simp; done) | (simp; omega))) ?_
  refine a_z ?_
  refine AWp.seq ?_
  refine r_z 6 ?_
  refine AWp.cutT (fun _ : Unit => ⟨[(0, .arr (pE [])), (4, .lsl 2 0 0 (some 0) 3)], [(2, some ⟨35, 3, []⟩)], 3, 82⟩) (fun _ => True) ?_ ?_
  ·refine AWp.block ?_
   refine AWp.loopS (fun _ : Unit => ⟨[(0, .arr (pE [])), (4, .lsl 2 0 0 (some 0) 3), (7, i64 (0 - ((trimQ q).length : Int)))], [(2, some ⟨35, 3, []⟩)], 3, 82⟩) (fun _ => 0) (fun _ => True) () trivial ?_ ?_
   ·refine SEnt.to [(2, 4)] rfl rfl rfl au_r (fun hs => au_f) (fun hs => ?_)
    ·repeat' (first | exact CvH.nil | refine CvH.cons rfl rfl rfl rfl ?_ ?_)
     all_goals (first | (exact CvLL.nil) | exact au_e)
   rintro _ _
   refine AWp.seq ?_
   refine r_z 2 ?_
   refine AWp.cond rfl (fun h1 => ?_) (fun h1 => ?_)
   ·exact absurd h1 (by simp; omega)
   ·refine AWp.exit ⟨(), trivial, ?_⟩
    refine SEnt.to [] rfl rfl rfl au_r (fun hs => au_f) (fun hs => ?_)
    ·repeat' (first | exact CvH.nil | refine CvH.cons rfl rfl rfl rfl ?_ ?_)
     all_goals (first | (exact CvLL.nil) | exact au_e)
  rintro _ _
  refine s_r 6 ?_
  refine a_1 ?_
  refine o_1 (.callS1 rfl rfl rfl (.shut rfl (by first | exact nle rfl | (simp; done) | (simp; omega)) (.nil)) rfl ((fs_Trim [] (by simp)))) ?_
  refine c_s (fs_Trim [] (by simp)) ?_
  refine a_z ?_
  refine AWp.ret ?_
  refine Fin.many ⟨_, _, rfl, rfl, ⟨_, _, rfl, rfl, rfl⟩⟩ (nle rfl) ?_
  exact CvL.cons (Cv.clo shr_nil (closed_pA _)) (CvL.cons (Cv.clo shr_nil (closed_pA _)) CvL.nil)
 have hpl := List.length_pos_iff.2 hp0
 have hto := os_Trim p hp0 (by omega)
 have hdl := divR_length (trimQ q) (leadP q) m (List.replicate m 0) (trimQ p)
 have hend := divR_bd hB
 refine s_r 6 ?_
 refine a_1 ?_
 refine o_1 (.callO rfl rfl rfl (hto)) ?_
 refine c_s (fs_Trim q (by omega)) ?_
 refine a_z ?_
 refine AWp.ent (st' := ⟨[(0, .lsl 1 0 (trimQ p).length none 3), (1, .arr (pE (trimQ q)))], [(1, some ⟨35, 3, pE (trimQ p)⟩)], 2, 82⟩) ?_ ?_
 ·exact s_e [(1, 0)]
 refine s_r 8 ?_
 refine a_4 ?_
 first | refine AR.op0 (.index_l rfl rfl (by omega) (by omega) te_55.h) rfl rfl ?_ | refine AR.op0 (.index_a rfl rfl (by omega) hg rfl te_55.h) rfl rfl ?_
 first | refine AR.op0 (.load_l rfl rfl hg tg_35.h ts_35.h (nle rfl)) rfl rfl ?_ | refine AR.op0 (.load_a rfl hg tg_35.h ts_35.h (nle rfl)) rfl rfl ?_
 refine a_z ?_
 refine s_r 9 ?_
 refine a_7 ?_
 refine o_1 (.makeSlice (l := m) (c := m) (by rw [← hmx]; rfl) (by rw [← hmx]; rfl) te_55.h tz_35.h rfl tb_35.h (by first | omega | (simp; done) | (simp; omega)) (by first | omega | (simp; done) | (simp; omega)) (by unfold maxLen; first | omega | (simp; done) | (simp; omega))) ?_
 refine a_z ?_
 refine AWp.seq ?_
 refine r_z 6 ?_
 refine AWp.cutT (fun x : List Rat × List Rat => ⟨[(0, .lsl 1 0 x.2.length none 3), (4, .lsl 2 0 x.1.length (some x.1.length) 3)], [(1, some ⟨35, 3, pE x.2⟩), (2, some ⟨35, 3, pE x.1⟩)], 3, 82⟩) (fun x => x = divR (trimQ q) (leadP q) m (List.replicate m 0) (trimQ p)) ?_ ?_
 ·refine AWp.block ?_
  by_cases hab : (trimQ p).length < (trimQ q).length
  ·have hm0 : m = 0 := by omega
   subst hm0
   refine AWp.loopS (fun _ : Unit => ⟨[(0, .lsl 1 0 (trimQ p).length none 3), (4, .lsl 2 0 0 (some 0) 3), (7, i64 (((trimQ p).length : Int) - ((trimQ q).length : Int)))], [(1, some ⟨35, 3, pE (trimQ p)⟩), (2, some ⟨35, 3, []⟩)], 3, 82⟩) (fun _ => 0) (fun _ => True) () trivial ?_ ?_
   ·refine SEnt.to [(1, 0), (2, 4)] rfl rfl rfl au_r (fun hs => au_f) (fun hs => ?_)
    ·repeat' (first | exact CvH.nil | refine CvH.cons rfl rfl rfl rfl ?_ ?_)
     all_goals (first | (exact CvLL.nil) | exact au_e)
   rintro _ _
   refine AWp.seq ?_
   refine r_z 2 ?_
   refine AWp.cond rfl (fun h1 => ?_) (fun h1 => ?_)
   ·exact absurd h1 (by simp; omega)
   ·refine AWp.exit ⟨([], trimQ p), rfl, ?_⟩
    refine SEnt.to [] rfl rfl rfl au_r (fun hs => au_f) (fun hs => ?_)
    ·repeat' (first | exact CvH.nil | refine CvH.cons rfl rfl rfl rfl ?_ ?_)
     all_goals (first | (exact CvLL.nil) | exact au_e)
  refine AWp.loopS (fun x : Nat × List Rat × List Rat => dvS (trimQ q) (leadP q) x) (fun x => x.1) (fun x => x.1 ≤ m ∧ x.2.1.length = m ∧ x.2.2.length = (trimQ p).length ∧ divB (trimQ q) (leadP q) 137438953472 x.1 x.2.1 x.2.2 ∧ divR (trimQ q) (leadP q) x.1 x.2.1 x.2.2 = divR (trimQ q) (leadP q) m (List.replicate m 0) (trimQ p)) (m, List.replicate m 0, trimQ p) ⟨Nat.le_refl _, by simp, rfl, hB, rfl⟩ ?_ ?_
  ·simp only [dvS_mk]
   have hm1 : ((trimQ p).length : Int) - (trimQ q).length = (m : Int) - 1 := by omega
   rw [hm1]
   refine SEnt.to [(1, 0), (2, 4), (3, 6)] rfl rfl rfl au_r (fun hs => au_f) (fun hs => ?_)
   ·repeat' (first | exact CvH.nil | refine CvH.cons rfl rfl rfl rfl ?_ ?_)
    all_goals (first | (exact CvLL.zeros hs _) | exact au_e)
  rintro ⟨c, u, o⟩ ⟨hc, hu, ho, hb, hr⟩
  simp only at hc hu ho hb hr
  simp only [dvS_mk]
  cases c with
  | zero =>
   refine AWp.seq ?_
   refine r_z 2 ?_
   refine AWp.cond rfl (fun h1 => ?_) (fun h1 => ?_)
   ·exact absurd h1 (by simp)
   ·refine AWp.exit ⟨(u, o), hr, ?_⟩
    exact s_e []
  | succ n =>
   obtain ⟨B, tt, hb1, hb2, hb3, hb4⟩ := divB_cur hb
   have hcn : ((n + 1 : Nat) : Int) - 1 = (n : Int) := by omega
   rw [hcn]
   refine AWp.seq ?_
   refine r_z 2 ?_
   refine AWp.cond rfl (fun h1 => ?_) (fun h1 => ?_)
   ·refine AWp.skip ?_
    obtain ⟨k, hk⟩ : ∃ k, k = coP o (n + (trimQ q).length - 1) / leadP q := ⟨_, rfl⟩
    have hst := divB_step hb
    rw [divR] at hr
    rw [← hk] at hst hr
    have hgo : (pE o)[(0 + (((n : Nat) : Int) + ((trimQ q).length : Nat) - 1).toNat)]? = some (qC (coP o (n + (trimQ q).length - 1))) := by
     rw [show 0 + (((n : Nat) : Int) + ((trimQ q).length : Nat) - 1).toNat = n + (trimQ q).length - 1 by omega]; exact pE_get (coP_get (by omega))
    have hov := fs_over2 (coP o (n + (trimQ q).length - 1)) (leadP q) hne (by have := hb1 (n + (trimQ q).length - 1); omega)
    rw [← hk] at hov
    have hgu : (pE u)[0 + ((n : Nat) : Int).toNat]? = some (qC (coP u n)) := by
     rw [show 0 + ((n : Nat) : Int).toNat = n by omega]; exact pE_get (coP_get (by omega))
    refine AWp.seq ?_
    refine AWp.block ?_
    refine AWp.seq ?_
    refine AWp.regD hmix (m := 12) rfl ?_
    refine a_7 ?_
    first | refine AR.op0 (.load_l rfl rfl hgo tg_35.h ts_35.h (nle rfl)) rfl rfl ?_ | refine AR.op0 (.load_a rfl hgo tg_35.h ts_35.h (nle rfl)) rfl rfl ?_
    refine c_s (hov) ?_
    refine a_2 ?_
    refine AR.nil ⟨by kernel_rfl, ?_⟩
    refine s_r 5 ?_
    refine a_4 ?_
    refine o_1n (.store rfl rfl hgu rfl rfl rfl ts_35.h (nle rfl)) ?_
    refine AR.nil ?_
    have hsu : (pE u).set (0 + ((n : Nat) : Int).toNat) (qC k) = pE (u.set n k) := by
     rw [show 0 + ((n : Nat) : Int).toNat = n by omega, pE_set]
    have hlu : (u.set n k).length = u.length := by simp
    refine AWp.seq ?_
    refine r_c 3 (fs_Sign k) ?_
    refine a_z ?_
    refine AWp.cond rfl (fun h2 => ?_) (fun h2 => ?_)
    ·have h0 : k = 0 := by
      have h2 : sgZ k.num = 0 := by simpa using h2
      exact sgZ_num_eq.1 h2
     rw [if_pos h0] at hst hr
     refine AWp.exit ?_
     refine AWp.reg (m := 3) rfl ?_
     refine a_z ?_
     refine ⟨(n, u.set n k, o), Nat.lt_succ_self n, ⟨by omega, by simp only; omega, ho, hst, hr⟩, ?_⟩
     simp only [dvS_mk, hlu]
     refine SEnt.to [] rfl rfl rfl au_r (fun hs => au_f) (fun hs => ?_)
     ·repeat' (first | exact CvH.nil | refine CvH.cons rfl rfl rfl rfl ?_ ?_)
      all_goals (first | (exact CvLL.cloE hs hsu (closed_pE _)) | exact au_e)
    ·have h0 : k ≠ 0 := by
      intro e
      have h2 : ¬ sgZ k.num = 0 := by simpa using h2
      exact h2 (sgZ_num_eq.2 e)
     rw [if_neg h0] at hst hr
     refine AWp.skip ?_
     refine r_z 3 ?_
     refine AWp.cutB (fun _ : Unit => ⟨[(0, .lsl 1 0 o.length none 3), (1, .arr (pE (trimQ q))), (4, .lsl 2 0 u.length (some u.length) 3), (6, .lptr 3 0 0), (7, i64 n)], [(1, some ⟨35, 3, pE (rowM o k (trimQ q) n (trimQ q).length)⟩), (2, some ⟨35, 3, pE (u.set n k)⟩), (3, some ⟨35, 3, [qC (leadP q)]⟩)], 4, 82⟩) (fun _ => True) ?_ ?_
     ·refine AWp.block ?_
      refine AWp.loopS (fun i : Nat => dvT (trimQ q) (leadP q) n (u.set n k) k (i, rowM o k (trimQ q) n i)) (fun i => (trimQ q).length - i) (fun i => i ≤ (trimQ q).length) 0 (Nat.zero_le _) ?_ ?_
      ·simp only [dvT_mk, rowM, hlu]
       refine SEnt.to [(4, 8)] rfl rfl rfl au_r (fun hs => au_f) (fun hs => ?_)
       ·repeat' (first | exact CvH.nil | refine CvH.cons rfl rfl rfl rfl ?_ ?_)
        all_goals (first | (exact CvLL.cloE hs hsu (closed_pE _)) | exact au_e)
      rintro i hi
      simp only [dvT_mk]
      refine r_z 1 ?_
      refine AWp.seq ?_
      refine AWp.cond rfl (fun h3 => ?_) (fun h3 => ?_)
      ·refine AWp.skip ?_
       have hlt2 : i < (trimQ q).length := by simpa using h3
       have hgq : (pE (trimQ q))[((i : Nat) : Int).toNat]? = some (qC (coP (trimQ q) i)) := pE_get (coP_get hlt2)
       have hcur : qs (coP (rowM o k (trimQ q) n i) (n + i)) ≤ B := by
        rw [rowM_out _ _ _ _ _ _ (by omega)]; exact hb1 _
       have hkq : qs k ≤ B + tt := by
        have e1 := qs_div (coP o (n + (trimQ q).length - 1)) (leadP q)
        have e2 := hb1 (n + (trimQ q).length - 1)
        rw [hk]; omega
       have hkm := qs_mul k (coP (trimQ q) i)
       have hqi := hb2 i
       have hik : n + i < (rowM o k (trimQ q) n i).length := by simp; omega
       have hgr : (pE (rowM o k (trimQ q) n i))[(0 + (((n : Nat) : Int) + (i : Nat)).toNat)]? = some (qC (coP (rowM o k (trimQ q) n i) (n + i))) := by
        rw [show 0 + (((n : Nat) : Int) + (i : Nat)).toNat = n + i by omega]; exact pE_get (coP_get hik)
       refine AWp.seq ?_
       refine AWp.block ?_
       refine s_r 6 ?_
       refine a_1 ?_
       first | refine AR.op0 (.index_l rfl rfl (by omega) (by omega) te_55.h) rfl rfl ?_ | refine AR.op0 (.index_a rfl rfl (by omega) hgq rfl te_55.h) rfl rfl ?_
       first | refine AR.op0 (.load_l rfl rfl hgq tg_35.h ts_35.h (nle rfl)) rfl rfl ?_ | refine AR.op0 (.load_a rfl hgq tg_35.h ts_35.h (nle rfl)) rfl rfl ?_
       refine a_z ?_
       refine AWp.regD hmix (m := 16) rfl ?_
       refine a_8 ?_
       refine a_1 ?_
       first | refine AR.op0 (.load_l rfl rfl hgr tg_35.h ts_35.h (nle rfl)) rfl rfl ?_ | refine AR.op0 (.load_a rfl hgr tg_35.h ts_35.h (nle rfl)) rfl rfl ?_
       refine c_s (fs_mul k (coP (trimQ q) i) (by omega)) ?_
       refine c_s (fs_sub (coP (rowM o k (trimQ q) n i) (n + i)) (k * coP (trimQ q) i) (by omega)) ?_
       refine a_1 ?_
       refine o_1n (.store rfl rfl hgr rfl rfl rfl ts_35.h (nle rfl)) ?_
       refine AR.nil ⟨by kernel_rfl, ?_⟩
       refine AWp.reg (m := 2) rfl ?_
       refine a_z ?_
       refine ⟨i + 1, by omega, hlt2, ?_⟩
       have hst2 : (pE (rowM o k (trimQ q) n i)).set (0 + (((n : Nat) : Int) + (i : Nat)).toNat) (qC (coP (rowM o k (trimQ q) n i) (n + i) - k * coP (trimQ q) i)) = pE (rowM o k (trimQ q) n (i + 1)) := by
        rw [show 0 + (((n : Nat) : Int) + (i : Nat)).toNat = n + i by omega, pE_set]; rfl
       have hl2 : (rowM o k (trimQ q) n (i + 1)).length = (rowM o k (trimQ q) n i).length := by simp
       simp only [dvT_mk, hl2]
       refine SEnt.to [] rfl rfl rfl ?_ (fun hs => au_f) (fun hs => ?_)
       ·repeat' (first | exact ShrL.nil | refine ShrL.cons rfl rfl rfl rfl (by first | (simp) | rfl | (simp; done) | (simp <;> omega)) ?_)
       ·repeat' (first | exact CvH.nil | refine CvH.cons rfl rfl rfl rfl ?_ ?_)
        all_goals (first | (exact CvLL.cloE hs hst2 (closed_pE _)) | exact au_e)
      ·have hge : i = (trimQ q).length := by
        have : ¬ i < (trimQ q).length := by simpa using h3
        omega
       subst hge
       refine AWp.exit ⟨(), trivial, ?_⟩
       rw [rowM_length, hlu]
       exact s_e []
     rintro _ _
     refine AWp.reg (m := 3) rfl ?_
     refine a_z ?_
     refine ⟨(n, u.set n k, rowM o k (trimQ q) n (trimQ q).length), Nat.lt_succ_self n, ⟨by omega, by simp only; omega, by simp only; rw [rowM_length]; exact ho, hst, hr⟩, ?_⟩
     simp only [dvS_mk, hlu, rowM_length]
     exact s_e []
   ·exact absurd h1 (by simp)
 rintro ⟨u, o⟩ hx
 rw [← hx] at hdl hend ⊢
 simp only at hdl hend ⊢
 have hlu : u.length ≤ 274877906945 := by rw [hdl.1]; simp; omega
 have hfu : List.take u.length (List.drop 0 (pE u)) = pE u := by rw [List.drop_zero, List.take_of_length_le (by simp)]
 have hfo : List.take o.length (List.drop 0 (pE o)) = pE o := by rw [List.drop_zero, List.take_of_length_le (by simp)]
 refine s_r 6 ?_
 refine a_1 ?_
 refine o_1 (.callS1 rfl rfl rfl (.shut rfl (by first | exact nle rfl | (simp; done) | (simp; omega)) (.nil)) rfl ((by rw [hfu]; exact fs_Trim u (by omega)))) ?_
 refine a_1 ?_
 refine o_1 (.callS1 rfl rfl rfl (.shut rfl (by first | exact nle rfl | (simp; done) | (simp; omega)) (.nil)) rfl ((by rw [hfo]; exact fs_Trim o (by rw [hdl.2]; omega)))) ?_
 refine a_z ?_
 refine AWp.ret ?_
 refine Fin.many ⟨_, _, rfl, rfl, ⟨_, _, rfl, rfl, rfl⟩⟩ (nle rfl) ?_
 exact CvL.cons (Cv.clo shr_nil (closed_pA _)) (CvL.cons (Cv.clo shr_nil (closed_pA _)) CvL.nil)
def raS  : Rat × Rat × Nat → AState
 | (out, a, n) => ⟨[(1, i64 n), (2, .lptr 1 0 0), (4, .lptr 2 0 0), (5, .lptr 3 0 0)], [(1, some ⟨35, 3, [qC a]⟩), (2, some ⟨35, 3, [zC]⟩), (3, some ⟨35, 3, [qC out]⟩)], 4, 21⟩
theorem raS_mk  (out : Rat) (a : Rat) (n : Nat) : raS  (out, a, n) = ⟨[(1, i64 n), (2, .lptr 1 0 0), (4, .lptr 2 0 0), (5, .lptr 3 0 0)], [(1, some ⟨35, 3, [qC a]⟩), (2, some ⟨35, 3, [zC]⟩), (3, some ⟨35, 3, [qC out]⟩)], 4, 21⟩ := rfl
theorem fs_raised (a r : Rat) (n : Nat) (h : raiM 64 1 a n = some r) (hn : n ≤ 1099511627776) : FSpec Tryz.prog 234 [.agg (qC a), i64 n] (.agg (qC r)) := by
 refine FSpec.enter Tryz.func234 rfl (by kernel_rfl) rfl rfl rfl ?_ rfl ?_
 ·exact closed_cons (closed_qA a) (closed_cons (closed_v _) closed_nil)
 refine r_z 2 ?_
 refine r_c 3 (fs_Int 1 (by decide)) ?_
 refine a_z ?_
 refine AWp.cut (fun a : Rat => raS (r, a, 0)) (fun _ => True) ?_ ?_
 ·refine AWp.block ?_
  refine AWp.loopS (fun x : Nat × Rat × Rat × Nat => raS (x.2.1, x.2.2.1, x.2.2.2)) (fun x => x.1) (fun x => raiM x.1 x.2.1 x.2.2.1 x.2.2.2 = some r ∧ x.2.2.2 ≤ 1099511627776) (64, 1, a, n) ⟨h, hn⟩ ?_ ?_
  ·simp only [raS_mk]
   exact s_e [(2, 4), (3, 5)]
  rintro ⟨f, out, a, n⟩ ⟨h, hn⟩
  simp only at h hn
  simp only [raS_mk]
  cases f with
  | zero => cases h
  | succ f =>
   rw [raiM] at h
   refine AWp.seq ?_
   refine r_z 2 ?_
   refine AWp.cond rfl (fun h1 => ?_) (fun h1 => ?_)
   ·have hn0 : n ≠ 0 := by simp at h1; omega
    rw [if_neg hn0] at h
    split at h
    case isFalse => cases h
    case isTrue hs =>
    refine AWp.skip ?_
    refine AWp.seq ?_
    refine AWp.block ?_
    refine AWp.seq ?_
    refine r_z 3 ?_
    have h2i : (n : Int) / 2 = ((n / 2 : Nat) : Int) := by omega
    refine AWp.cond rfl (fun h2 => ?_) (fun h2 => ?_)
    ·have ho : n % 2 = 1 := by
      have : (n : Int) % 2 = 1 := by simpa using h2
      omega
     rw [if_pos ho] at h
     refine AWp.reg (m := 4) rfl ?_
     refine c_s (fs_mul out a hs.1) ?_
     refine a_z ?_
     refine AWp.reg (m := 4) rfl ?_
     refine c_s (fs_mul a a hs.2) ?_
     refine a_z ?_
     refine AWp.reg (m := 3) rfl ?_
     refine a_z ?_
     refine ⟨(f, out * a, a * a, n / 2), Nat.lt_succ_self f, ⟨h, by simp only; omega⟩, ?_⟩
     simp only [raS_mk]
     rw [h2i]
     exact s_e []
    ·have ho : ¬ n % 2 = 1 := by
      have : ¬ (n : Int) % 2 = 1 := by simpa using h2
      omega
     rw [if_neg ho] at h
     refine AWp.skip ?_
     refine AWp.reg (m := 4) rfl ?_
     refine c_s (fs_mul a a hs.2) ?_
     refine a_z ?_
     refine AWp.reg (m := 3) rfl ?_
     refine a_z ?_
     refine ⟨(f, out, a * a, n / 2), Nat.lt_succ_self f, ⟨h, by simp only; omega⟩, ?_⟩
     simp only [raS_mk]
     rw [h2i]
     exact s_e []
   ·have hn0 : n = 0 := by simp at h1; omega
    subst hn0
    rw [if_pos rfl] at h
    cases h
    refine AWp.exit ⟨a, trivial, ?_⟩
    simp only [raS_mk]
    exact s_e []
 rintro b _
 simp only [raS_mk]
 refine r_z 2 ?_
 refine AWp.ret ?_
 refine Fin.cellE rfl rfl rfl tg_35.h ts_35.h (nle rfl) ?_ ?_
 ·rfl
 ·exact closed_qA _
def gcS  : List Rat × List Rat → AState
 | (p, q) => ⟨[(0, .arr (pE p)), (1, .arr (pE q))], [], 1, 21⟩
theorem gcS_mk  (p : List Rat) (q : List Rat) : gcS  (p, q) = ⟨[(0, .arr (pE p)), (1, .arr (pE q))], [], 1, 21⟩ := rfl
theorem degP_neg {l : List Rat} : degP l < 0 ↔ trimQ l = [] := by
 unfold degP
 constructor
 ·intro h; exact List.length_eq_zero_iff.1 (by omega)
 ·intro h; rw [h]; decide
theorem fs_Gcd (f : Nat) (p q g : List Rat) (h : gcdM f p q = some g) (hp1 : p.length ≤ 274877906944) (hq1 : q.length ≤ 274877906944) : FSpec Tryz.prog 269 [.arr (pE p), .arr (pE q)] (.arr (pE g)) := by
 refine FSpec.enter Tryz.func269 rfl (by kernel_rfl) rfl rfl rfl ?_ rfl ?_
 ·exact closed_cons (closed_pA p) (closed_cons (closed_pA q) closed_nil)
 refine r_z 1 ?_
 refine AWp.cut (fun p : List Rat => ⟨[(0, .arr (pE p))], [], 1, 21⟩) (fun p => smL p ∧ p.length ≤ 274877906944 ∧ g = monicP p) ?_ ?_
 ·refine AWp.block ?_
  refine AWp.loopS (fun x : Nat × List Rat × List Rat => gcS x.2) (fun x => x.1) (fun x => gcdM x.1 x.2.1 x.2.2 = some g ∧ x.2.1.length ≤ 274877906944 ∧ x.2.2.length ≤ 274877906944) (f, p, q) ⟨h, hp1, hq1⟩ ?_ ?_
  ·simp only [gcS_mk]
   exact s_e []
  rintro ⟨f, p, q⟩ ⟨h, hp1, hq1⟩
  simp only at h hp1 hq1
  simp only [gcS_mk]
  cases f with
  | zero => cases h
  | succ f =>
   rw [gcdM] at h
   refine AWp.seq ?_
   refine r_c 3 (fs_Degree q (by omega)) ?_
   refine a_z ?_
   refine AWp.cond rfl (fun h1 => ?_) (fun h1 => ?_)
   ·have hq0 : trimQ q ≠ [] := by
     intro e
     have e2 := degP_neg.2 e
     simp at h1; omega
    rw [if_neg hq0] at h
    split at h
    case isFalse => cases h
    case isTrue hs =>
    have hl := divP_len (p := p) (q := q)
    have hm := monicP_len (divP p q).2
    refine AWp.skip ?_
    refine AWp.block ?_
    refine r_c 8 (fs_divide p q (mxL p) (mxL q) (bdL_mx p) (bdL_mx q) (mxL_pos p) (mxL_pos q) hs.1 hq0 hp1 hq1) ?_
    refine a_z ?_
    refine AWp.reg (m := 5) rfl ?_
    refine c_s (fs_monic (divP p q).2 (divP_sm hs hq0).2 (by omega)) ?_
    refine a_z ?_
    refine ⟨(f, q, monicP (divP p q).2), Nat.lt_succ_self f, ⟨h, hq1, by simp only; omega⟩, ?_⟩
    simp only [gcS_mk]
    exact s_e []
   ·have hq0 : trimQ q = [] := by
     refine degP_neg.1 ?_
     simp at h1; omega
    rw [if_pos hq0] at h
    split at h
    case isFalse => cases h
    case isTrue hs =>
    cases h
    refine AWp.exit ⟨p, ⟨hs, hp1, rfl⟩, ?_⟩
    exact s_e []
 rintro p ⟨hs, hp1, rfl⟩
 refine r_c 3 (fs_monic p hs (by omega)) ?_
 refine a_z ?_
 refine AWp.ret ?_
 refine Fin.tmpE rfl ?_ ?_
 ·rfl
 ·exact closed_pA _
def reS  : Rat × List Rat × List Rat → AState
 | (out, p, q) => ⟨[(0, .arr (pE p)), (1, .arr (pE q)), (4, .lptr 1 0 0), (5, .lptr 2 0 0)], [(1, some ⟨35, 3, [zC]⟩), (2, some ⟨35, 3, [qC out]⟩)], 3, 81⟩
theorem reS_mk  (out : Rat) (p : List Rat) (q : List Rat) : reS  (out, p, q) = ⟨[(0, .arr (pE p)), (1, .arr (pE q)), (4, .lptr 1 0 0), (5, .lptr 2 0 0)], [(1, some ⟨35, 3, [zC]⟩), (2, some ⟨35, 3, [qC out]⟩)], 3, 81⟩ := rfl
theorem degP_len (l : List Rat) : degP l ≤ l.length := by
 have := trimQ_len l
 unfold degP; omega
theorem divP_deg {p q : List Rat} : degP (divP p q).2 ≤ degP p := by
 have h1 := divR_length (trimQ q) (leadP q) ((trimQ p).length + 1 - (trimQ q).length) (List.replicate ((trimQ p).length + 1 - (trimQ q).length) 0) (trimQ p)
 have h4 := trimQ_len (divR (trimQ q) (leadP q) ((trimQ p).length + 1 - (trimQ q).length) (List.replicate ((trimQ p).length + 1 - (trimQ q).length) 0) (trimQ p)).2
 rw [h1.2] at h4
 unfold degP divP
 simp only [trimQ_idem]
 omega
theorem fs_Resultant (f : Nat) (p q : List Rat) (r : Rat) (h : resM f 1 p q = some r) : FSpec Tryz.prog 159 [.arr (pE p), .arr (pE q)] (.agg (qC r)) := by
 refine FSpec.enter Tryz.func159 rfl (by kernel_rfl) rfl rfl rfl ?_ rfl ?_
 ·exact closed_cons (closed_pA p) (closed_cons (closed_pA q) closed_nil)
 refine r_z 1 ?_
 refine r_c 3 (fs_Int 1 (by decide)) ?_
 refine a_z ?_
 refine AWp.block ?_
 refine AWp.loopS (fun x : Nat × Rat × List Rat × List Rat => reS x.2) (fun x => x.1) (fun x => resM x.1 x.2.1 x.2.2.1 x.2.2.2 = some r) (f, 1, p, q) h ?_ ?_
 ·simp only [reS_mk]
  exact s_e [(2, 5)]
 rintro ⟨f, out, p, q⟩ h
 simp only at h
 simp only [reS_mk]
 cases f with
 | zero => cases h
 | succ f =>
  rw [resM] at h
  split at h
  case isFalse => cases h
  case isTrue hl =>
  have hdp := degP_len p
  have hdq := degP_len q
  refine AWp.block ?_
  refine r_c 6 (fs_Degree p (by omega)) ?_
  refine c_s (fs_Degree q (by omega)) ?_
  refine a_z ?_
  refine AWp.cut (fun _ : Unit => ⟨[(0, .arr (pE p)), (1, .arr (pE q)), (4, .lptr 1 0 0), (5, .lptr 2 0 0), (6, i64 (degP p)), (7, i64 (degP q))], [(1, some ⟨35, 3, [zC]⟩), (2, some ⟨35, 3, [qC out]⟩)], 3, 81⟩) (fun _ => ¬ (degP p < 0 ∨ degP q < 0) ∧ ¬ degP q = 0 ∧ ¬ degP p < degP q) ?_ ?_
  ·refine AWp.block ?_
   by_cases hm1 : degP p < 0
   ·rw [if_pos (.inl hm1)] at h
    cases h
    refine s_r 7 ?_
    refine a_3 ?_
    refine AR.opN rfl rfl (gn (by simp [hm1])) rfl rfl ?_
    refine AR.opN rfl rfl (gn (by simp [hm1])) rfl rfl ?_
    refine o_0 (.pickT rfl (by simp [hm1]) rfl) ?_
    refine a_z ?_
    refine AWp.cond rfl (fun h1 => ?_) (fun h1 => ?_)
    ·refine r_z 2 ?_
     refine AWp.ret ?_
     refine Fin.cell rfl rfl rfl tg_35.h ts_35.h (nle rfl) (Cv.agg ?_)
     rw [qC0]
     exact CvL.cons (Cv.emp _) (CvL.cons (Cv.clo shr_nil (closed_v _)) (CvL.cons (Cv.emp _) CvL.nil))
    ·cases h1
   by_cases hn1 : degP q < 0
   ·rw [if_pos (.inr hn1)] at h
    cases h
    refine s_r 7 ?_
    refine a_3 ?_
    refine AR.op0y rfl rfl (gy (by simp [hm1])) (.move rfl) rfl rfl ?_
    refine AR.op0y rfl rfl (gy (by simp [hm1])) (.bin rfl rfl binI_lss) rfl rfl ?_
    refine o_0 (.pickF rfl (by simp [hm1]) rfl) ?_
    refine a_z ?_
    refine AWp.cond rfl (fun h1 => ?_) (fun h1 => ?_)
    ·refine r_z 2 ?_
     refine AWp.ret ?_
     refine Fin.cell rfl rfl rfl tg_35.h ts_35.h (nle rfl) (Cv.agg ?_)
     rw [qC0]
     exact CvL.cons (Cv.emp _) (CvL.cons (Cv.clo shr_nil (closed_v _)) (CvL.cons (Cv.emp _) CvL.nil))
    ·exact absurd h1 (by simp [hn1])
   have hmn : ¬ (degP p < 0 ∨ degP q < 0) := fun e => e.elim hm1 hn1
   rw [if_neg hmn] at h
   refine s_r 7 ?_
   refine a_3 ?_
   refine AR.op0y rfl rfl (gy (by simp [hm1])) (.move rfl) rfl rfl ?_
   refine AR.op0y rfl rfl (gy (by simp [hm1])) (.bin rfl rfl binI_lss) rfl rfl ?_
   refine o_0 (.pickF rfl (by simp [hm1]) rfl) ?_
   refine a_z ?_
   refine AWp.cond rfl (fun h1 => ?_) (fun h1 => ?_)
   ·exact absurd h1 (by simp [hn1])
   refine r_z 3 ?_
   refine AWp.cond rfl (fun h2 => ?_) (fun h2 => ?_)
   ·have hn0 : degP q = 0 := by simpa using h2
    rw [if_pos hn0] at h
    obtain ⟨x, hx, hy⟩ := Option.bind_eq_some_iff.1 h
    unfold mulC at hy
    split at hy
    case isFalse => cases hy
    case isTrue hsz =>
    cases hy
    have hra := fs_raised (leadP q) x (degP p).toNat hx (by omega)
    rw [Int.toNat_of_nonneg (by omega)] at hra
    refine AWp.seq ?_
    refine AWp.regD hmix (m := 7) rfl ?_
    refine c_s (fs_Lead q (by omega)) ?_
    refine c_s (hra) ?_
    refine c_s (fs_mul out x hsz) ?_
    refine a_1 ?_
    refine AR.nil ⟨by kernel_rfl, ?_⟩
    refine AWp.ret ?_
    refine Fin.cellE rfl rfl rfl tg_35.h ts_35.h (nle rfl) ?_ ?_
    ·rfl
    ·exact closed_qA _
   have hn0 : ¬ degP q = 0 := by simpa using h2
   rw [if_neg hn0] at h
   refine r_z 4 ?_
   refine AWp.cond rfl (fun h3 => ?_) (fun h3 => ?_)
   ·have hlt : degP p < degP q := by simpa using h3
    rw [if_pos hlt] at h
    refine AWp.cut (fun o : Rat => reS (o, p, q)) (fun o => o = if degP p % 2 = 1 ∧ degP q % 2 = 1 then -out else out) ?_ ?_
    ·by_cases ho1 : degP p % 2 = 1
     ·refine s_r 8 ?_
      refine a_4 ?_
      refine AR.op0y rfl rfl (gy (by simp [ho1])) (.move rfl) rfl rfl ?_
      refine AR.op0y rfl rfl (gy (by simp [ho1])) (.bin rfl rfl (bI64_rem (by omega))) rfl rfl ?_
      refine AR.op0y rfl rfl (gy (by simp [ho1])) (.bin rfl rfl binI_eql) rfl rfl ?_
      refine o_0 (.pickT rfl (by simp [ho1]) rfl) ?_
      refine AR.nil ?_
      refine AWp.cond rfl (fun h4 => ?_) (fun h4 => ?_)
      ·have ho2 : degP q % 2 = 1 := by simpa using h4
       refine AWp.reg (m := 3) rfl ?_
       refine c_s (fs_neg out) ?_
       refine a_z ?_
       refine ⟨-out, by rw [if_pos ⟨ho1, ho2⟩], ?_⟩
       simp only [reS_mk]
       exact s_e []
      ·have ho2 : ¬ degP q % 2 = 1 := by simpa using h4
       refine AWp.skip ⟨out, by rw [if_neg fun e => ho2 e.2], ?_⟩
       simp only [reS_mk]
       exact s_e []
     ·refine s_r 8 ?_
      refine a_4 ?_
      refine AR.opN rfl rfl (gn (by simp [ho1])) rfl rfl ?_
      refine AR.opN rfl rfl (gn (by simp [ho1])) rfl rfl ?_
      refine AR.opN rfl rfl (gn (by simp [ho1])) rfl rfl ?_
      refine o_0 (.pickF rfl (by simp [ho1]) rfl) ?_
      refine AR.nil ?_
      refine AWp.cond rfl (fun h4 => ?_) (fun h4 => ?_)
      ·cases h4
      ·refine AWp.skip ⟨out, by rw [if_neg fun e => ho1 e.1], ?_⟩
       simp only [reS_mk]
       exact s_e []
    rintro o rfl
    simp only [reS_mk]
    refine r_z 4 ?_
    refine AWp.exit ?_
    refine ⟨(f, _, q, p), Nat.lt_succ_self f, h, ?_⟩
    simp only [reS_mk]
    exact s_e []
   ·have hlt : ¬ degP p < degP q := by simpa using h3
    refine AWp.skip ⟨(), ⟨hmn, hn0, hlt⟩, ?_⟩
    exact s_e []
  rintro _ ⟨hm, hn0, hmn⟩
  rw [if_neg hm, if_neg hn0, if_neg hmn] at h
  split at h
  case isFalse => cases h
  case isTrue hs =>
  have hq0 : trimQ q ≠ [] := fun e => hm (.inr (degP_neg.2 e))
  have hl2 := divP_len (p := p) (q := q)
  have hdr := degP_len (divP p q).2
  refine r_c 8 (fs_divide p q (mxL p) (mxL q) (bdL_mx p) (bdL_mx q) (mxL_pos p) (mxL_pos q) hs.1 hq0 hl.1 hl.2) ?_
  refine a_z ?_
  refine r_c 3 (fs_Degree (divP p q).2 (by omega)) ?_
  refine a_z ?_
  refine AWp.seq ?_
  refine r_z 2 ?_
  refine AWp.cond rfl (fun h1 => ?_) (fun h1 => ?_)
  ·have h0 : degP (divP p q).2 < 0 := by simpa using h1
   rw [if_pos h0] at h
   cases h
   refine r_z 2 ?_
   refine AWp.ret ?_
   refine Fin.cell rfl rfl rfl tg_35.h ts_35.h (nle rfl) (Cv.agg ?_)
   rw [qC0]
   exact CvL.cons (Cv.emp _) (CvL.cons (Cv.clo shr_nil (closed_v _)) (CvL.cons (Cv.emp _) CvL.nil))
  have h0 : ¬ degP (divP p q).2 < 0 := by simpa using h1
  rw [if_neg h0] at h
  obtain ⟨x, hx, hy⟩ := Option.bind_eq_some_iff.1 h
  obtain ⟨y, hy1, hy2⟩ := Option.bind_eq_some_iff.1 hy
  unfold mulC at hy1
  split at hy1
  case isFalse => cases hy1
  case isTrue hsz =>
  cases hy1
  have hdl := divP_deg (p := p) (q := q)
  have hra := fs_raised (leadP q) x (degP p - degP (divP p q).2).toNat hx (by omega)
  rw [Int.toNat_of_nonneg (by omega)] at hra
  refine AWp.skip ?_
  refine AWp.seq ?_
  refine AWp.regD hmix (m := 9) rfl ?_
  refine c_s (fs_Lead q (by omega)) ?_
  refine c_s (hra) ?_
  refine c_s (fs_mul out x hsz) ?_
  refine a_1 ?_
  refine AR.nil ⟨by kernel_rfl, ?_⟩
  refine AWp.cut (fun o : Rat => ⟨[(1, .arr (pE q)), (4, .lptr 1 0 0), (5, .lptr 2 0 0), (9, .arr (pE (divP p q).2))], [(1, some ⟨35, 3, [zC]⟩), (2, some ⟨35, 3, [qC o]⟩)], 3, 81⟩) (fun o => o = if (degP p - degP (divP p q).2) % 2 = 1 ∧ degP q % 2 = 1 then -(out * x) else out * x) ?_ ?_
  ·by_cases ho1 : (degP p - degP (divP p q).2) % 2 = 1
   ·refine s_r 10 ?_
    refine a_6 ?_
    refine AR.op0y rfl rfl (gy (by simp [ho1])) (.move rfl) rfl rfl ?_
    refine AR.op0y rfl rfl (gy (by simp [ho1])) (.bin rfl rfl (bI64_rem (by omega))) rfl rfl ?_
    refine AR.op0y rfl rfl (gy (by simp [ho1])) (.bin rfl rfl binI_eql) rfl rfl ?_
    refine o_0 (.pickT rfl (by simp [ho1]) rfl) ?_
    refine AR.nil ?_
    refine AWp.cond rfl (fun h4 => ?_) (fun h4 => ?_)
    ·have ho2 : degP q % 2 = 1 := by simpa using h4
     refine AWp.reg (m := 3) rfl ?_
     refine c_s (fs_neg (out * x)) ?_
     refine a_z ?_
     refine ⟨-(out * x), by rw [if_pos ⟨ho1, ho2⟩], ?_⟩
     exact s_e []
    ·have ho2 : ¬ degP q % 2 = 1 := by simpa using h4
     refine AWp.skip ⟨out * x, by rw [if_neg fun e => ho2 e.2], ?_⟩
     exact s_e []
   ·refine s_r 10 ?_
    refine a_6 ?_
    refine AR.opN rfl rfl (gn (by simp [ho1])) rfl rfl ?_
    refine AR.opN rfl rfl (gn (by simp [ho1])) rfl rfl ?_
    refine AR.opN rfl rfl (gn (by simp [ho1])) rfl rfl ?_
    refine o_0 (.pickF rfl (by simp [ho1]) rfl) ?_
    refine AR.nil ?_
    refine AWp.cond rfl (fun h4 => ?_) (fun h4 => ?_)
    ·cases h4
    ·refine AWp.skip ⟨out * x, by rw [if_neg fun e => ho1 e.1], ?_⟩
     exact s_e []
  rintro o rfl
  refine AWp.reg (m := 2) rfl ?_
  refine a_z ?_
  refine ⟨(f, _, (divP p q).2, q), Nat.lt_succ_self f, hy2, ?_⟩
  simp only [reS_mk]
  exact s_e []
end Go.Proofs.YtdjfjpeoddmamaaGreatDoor
namespace Go.Abs
def evalP : List Rat → Rat → Rat
 | [], _ => 0
 | a :: l, x => evalP l x * x + a
def backP (l : List Rat) (k : Nat) : Option (List AV) := if k < l.length then some [i64 ((l.length - 1 - k : Nat) : Int), .agg (qC (coP l (l.length - 1 - k)))] else none
theorem drop_back {l : List Rat} {k : Nat} (h : k < l.length) : l.drop (l.length - (k + 1)) = coP l (l.length - 1 - k) :: l.drop (l.length - k) := by
 have h1 : l.length - (k + 1) < l.length := by omega
 rw [List.drop_eq_getElem_cons h1, show l.length - (k + 1) + 1 = l.length - k by omega]
 congr 1
 have := coP_get h1
 rw [List.getElem?_eq_getElem h1] at this
 rw [show l.length - 1 - k = l.length - (k + 1) by omega]
 exact Option.some.inj this
theorem evalP_bd {x : Rat} {s t : Nat} (hx : qs x ≤ t) : ∀ {l : List Rat}, bdL l s → qs (evalP l x) ≤ l.length * (s + t + 1) + 1
 | [], _ => by show qs 0 ≤ _; exact Nat.le_trans (by decide : qs 0 ≤ 1) (Nat.le_add_left 1 _)
 | a :: l, h => by
  have ih := evalP_bd (l := l) hx fun q hq => h q (List.mem_cons_of_mem _ hq)
  have ha := h a (List.mem_cons_self ..)
  have h1 := qs_add (evalP l x * x) a
  have h2 := qs_mul (evalP l x) x
  show qs (evalP l x * x + a) ≤ (l.length + 1) * (s + t + 1) + 1
  rw [Nat.add_mul, Nat.one_mul]
  omega
def okEval (p : List Rat) (x : Rat) : Prop := p.length * (mxL p + qs x + 1) + mxL p + qs x + 2 ≤ 137438953472 ∧ p.length ≤ 274877906944
instance (p : List Rat) (x : Rat) : Decidable (okEval p x) := inferInstanceAs (Decidable (_ ∧ _))
theorem evalP_part {p : List Rat} {x : Rat} (h : okEval p x) (k : Nat) (hk : k < p.length) : qs (evalP (p.drop (p.length - k)) x) + qs x ≤ 549755813888 ∧ qs (evalP (p.drop (p.length - k)) x * x) + qs (coP p (p.length - 1 - k)) ≤ 549755813888 := by
 have h1 := evalP_bd (t := qs x) (Nat.le_refl _) (l := p.drop (p.length - k)) (s := mxL p) fun q hq => bdL_mx p q (List.mem_of_mem_drop hq)
 have h2 := qs_mul (evalP (p.drop (p.length - k)) x) x
 have h3 := bdL_co (bdL_mx p) (mxL_pos p) (p.length - 1 - k)
 have h4 := h.1
 have h5 : (p.drop (p.length - k)).length * (mxL p + qs x + 1) ≤ p.length * (mxL p + qs x + 1) := Nat.mul_le_mul_right _ (by simp)
 omega
theorem evalP_sm {p : List Rat} {x : Rat} (h : okEval p x) : sm (evalP p x) := by
 have h1 := evalP_bd (t := qs x) (Nat.le_refl _) (bdL_mx p)
 have h2 := h.1
 unfold sm; omega
end Go.Abs
namespace Go.Proofs.YtdjfjpeoddmamaaGreatDoor
open Go.Abs
set_option maxRecDepth 20000
theorem gs_Backward_p (l : List Rat) (hl : l.length ≤ 281474976710656) : GSpec Tryz.prog 268 [bP l] (backP l) := by
 refine GSpec.enter Tryz.func268 rfl (by kernel_rfl) rfl rfl rfl ?_ ?_ rfl ?_
 ·exact closed_cons (closed_bP l) closed_nil
 ·intro k xs h
  unfold backP at h
  split at h
  ·cases h; exact closed_cons (closed_v _) (closed_cons (closed_qA _) closed_nil)
  ·cases h
 intro ll N E
 refine GWp.seq ?_
 refine GWp.lift ?_
 refine AWp.reg (m := 4) rfl ?_
 refine a_z ?_
 refine GWp.block ?_
 refine GWp.loopS (fun m : Nat => ⟨[(0, .v (.func (.yield ll) #[] #[])), (1, bP l), (3, i64 ((m : Int) - 1))], [], 1, 19⟩) (fun m => l.length - m) (fun m => m) (fun m => m ≤ l.length) l.length (Nat.le_refl _) (by simp) ?_ ?_
 ·exact s_e []
 intro m hm
 refine GWp.seq ?_
 refine GWp.seq ?_
 refine GWp.lift ?_
 refine AWp.reg (m := 2) rfl ?_
 refine a_z ?_
 refine GWp.cond rfl (fun h => ?_) (fun h => ?_)
 ·refine GWp.skip ?_
  have hm1 : 1 ≤ m := by have := of_decide_eq_true h; omega
  have hx' : (pE l)[((m : Int) - 1).toNat]? = some (qC (coP l (m - 1))) := by rw [show ((m : Int) - 1).toNat = m - 1 by omega]; exact pE_get (coP_get (by omega))
  refine GWp.seq ?_
  refine GWp.block ?_
  refine GWp.seq ?_
  refine GWp.regY (fr2 := [(0, .v (.func (.yield ll) #[] #[])), (1, bP l), (3, i64 ((m : Int) - 1)), (11, .v (.func (.yield ll) #[] #[])), (12, i64 ((m : Int) - 1)), (16, .agg (qC (coP l (m - 1))))]) (hp2 := []) (nx2 := 1) 6 rfl rfl rfl rfl rfl rfl ?_ rfl rfl rfl ?_ ?_ ?_
  ·refine o_0 (.move rfl) ?_
   refine o_0 (.move rfl) ?_
   first | refine AR.op0 (.load_l1 rfl rfl rfl tg_55.h rfl) rfl rfl ?_ | refine AR.op0 (.load_a1 rfl rfl tg_55.h rfl) rfl rfl ?_
   refine o_0 (.move rfl) ?_
   first | refine AR.op0 (.index_l rfl rfl (by omega) (by omega) te_55.h) rfl rfl ?_ | refine AR.op0 (.index_a rfl rfl (by omega) hx' rfl te_55.h) rfl rfl ?_
   first | refine AR.op0 (.load_l rfl rfl hx' tg_35.h ts_35.h (nle rfl)) rfl rfl ?_ | refine AR.op0 (.load_a rfl hx' tg_35.h ts_35.h (nle rfl)) rfl rfl ?_
   refine AR.nil ?_
   refine SEntT.to [] rfl rfl rfl au_r (fun hs => au_f) (fun hs => au_h)
  rotate_left 2
  intro go
  refine o_0 (.un rfl un_not) ?_
  refine AR.nil ?_
  rotate_left
  ·unfold backP
   rw [if_pos (by omega)]
   have e1 : ((l.length - 1 - (l.length - m) : Nat) : Int) = (m : Int) - 1 := by omega
   have e2 : l.length - 1 - (l.length - m) = m - 1 := by omega
   rw [e1, e2]
   rfl
  ·exact closed_cons (closed_v _) (closed_cons (closed_qA _) closed_nil)
  cases go with
  | false =>
   refine GWp.cond rfl (fun h => ?_) (fun h => ?_)
   ·exact GWp.ret ⟨.inr rfl, fun h => by cases h⟩
   ·cases h
  | true =>
   refine GWp.cond rfl (fun h => ?_) (fun h => ?_)
   ·cases h
   ·refine GWp.skip ?_
    refine GWp.lift ?_
    refine AWp.reg (m := 3) rfl ?_
    refine a_z ?_
    refine ⟨rfl, m - 1, by omega, by omega, by omega, ?_⟩
    exact s_e []
 ·refine GWp.exit ⟨.inl rfl, fun _ => ?_⟩
  have : m = 0 := by have := of_decide_eq_false h; omega
  subst this
  unfold backP
  rw [if_neg (by omega)]
theorem fs_Backward_p (l : List Rat) : FSpec Tryz.prog 220 [.arr (pE l)] (.clos 268 [] [bP l]) := by
 refine FSpec.enter Tryz.func220 rfl (by kernel_rfl) rfl rfl rfl ?_ rfl ?_
 ·exact closed_cons (closed_pA l) closed_nil
 refine r_z 2 ?_
 refine r_z 2 ?_
 refine AWp.ret ?_
 refine ⟨.inr rfl, [_], ⟨_, [], rfl, rfl, rfl⟩, ?_⟩
 exact Cv.clos CvL.nil (CvL.cons (Cv.boxp shr_nil rfl (fun _ _ h => by cases h) rfl (closed_cons (closed_pA l) closed_nil)) CvL.nil)
def hoS (p : List Rat) (g : Nat) (cap : List AV) (w : Nat → Rat) : Nat → AState
 | k => ⟨[(4, .lptr 1 0 0), (5, .aptr [[.clos g [] cap]] 0 0), (6, .lptr 2 0 0), (10, .clos 268 [] [bP p])], [(1, some ⟨35, 3, [qC (w k)]⟩), (2, some ⟨35, 3, [zC]⟩)], 3, 18⟩
theorem hoS_mk (p : List Rat) (g : Nat) (cap : List AV) (w : Nat → Rat) (k : Nat) : hoS p g cap w k = ⟨[(4, .lptr 1 0 0), (5, .aptr [[.clos g [] cap]] 0 0), (6, .lptr 2 0 0), (10, .clos 268 [] [bP p])], [(1, some ⟨35, 3, [qC (w k)]⟩), (2, some ⟨35, 3, [zC]⟩)], 3, 18⟩ := rfl
theorem fs_hornerQ (p : List Rat) (g : Nat) (cap : List AV) (w : Nat → Rat) (hl : p.length ≤ 281474976710656) (hcap : ∀ c ∈ cap, Closed c) (hg : ∀ k, k < p.length → FSpec Tryz.prog g ((.agg (qC (w k)) :: .agg (qC (coP p (p.length - 1 - k))) :: cap).map coe) (.agg (qC (w (k + 1))))) : FSpec Tryz.prog 145 [.arr (pE p), .agg (qC (w 0)), .clos g [] cap] (.agg (qC (w p.length))) := by
 have hb := fs_Backward_p p
 have hgs := gs_Backward_p p hl
 have hcc : Closed (.clos g [] cap) := closed_clos closed_nil hcap
 have hcc2 : Closed (.aptr [[.clos g [] cap]] 0 0) := closed_box (closed_cons hcc closed_nil)
 have hcl2 : Closed (.clos 268 [] [bP p]) := closed_clos closed_nil (closed_cons (closed_bP p) closed_nil)
 refine FSpec.enter Tryz.func145 rfl (by kernel_rfl) rfl rfl rfl ?_ rfl ?_
 ·exact closed_cons (closed_pA p) (closed_cons (closed_qA _) (closed_cons hcc closed_nil))
 refine r_z 3 ?_
 refine AWp.ent (st' := ⟨[(0, .arr (pE p)), (4, .lptr 1 0 0), (5, .aptr [[.clos g [] cap]] 0 0), (6, .lptr 2 0 0)], [(1, some ⟨35, 3, [qC (w 0)]⟩), (2, some ⟨35, 3, [zC]⟩)], 3, 18⟩) ?_ ?_
 ·refine SEnt.to [(1, 4), (2, 6)] rfl rfl rfl au_r (fun hs => ?_) (fun hs => ?_)
  ·repeat' (first | exact CvF.nil | refine CvF.cons rfl ?_ ?_)
   all_goals (first | (exact Cv.boxp hs rfl (dead_of rfl) rfl (closed_cons hcc closed_nil)) | exact au_c)
  ·repeat' (first | exact CvH.nil | refine CvH.cons rfl rfl rfl rfl ?_ ?_)
   all_goals (first | exact au_e | (refine CvLL.box ?_; repeat' (first | exact CvL.nil | refine CvL.cons ?_ ?_)))
   all_goals (first | (exact Cv.boxp hs rfl (dead_of rfl) rfl (closed_cons hcc closed_nil)) | exact au_c)
 refine AWp.seq ?_
 refine r_c 2 (hb) ?_
 refine AR.nil ?_
 refine AWp.cutT (fun _ : Unit => ⟨[(4, .lptr 1 0 0), (6, .lptr 2 0 0)], [(1, some ⟨35, 3, [qC (w p.length)]⟩), (2, some ⟨35, 3, [zC]⟩)], 3, 18⟩) (fun _ => True) ?_ ?_
 ·refine AWp.block ?_
  refine AWp.rangeFunc (α := Nat) (γ := Empty) p.length (hoS p g cap w) (fun k => k) (fun k => k ≤ p.length) (fun e => nomatch e) (fun _ e => nomatch e) 0 rfl hgs rfl rfl ?_ (fun _ => ⟨rfl, rfl⟩) (fun e => nomatch e) (Nat.zero_le _) rfl (fun _ h => h) ?_ ?_ ?_ ?_ (fun _ e => nomatch e)
  ·intro k xs hT
   unfold backP at hT
   split at hT
   ·cases hT; rfl
   ·cases hT
  ·rw [hoS_mk]
   refine SEntT.to [] rfl rfl rfl au_r (fun hs => au_f) (fun hs => au_h)
  ·exact closed_cons (closed_bP p) closed_nil
  ·intro l k xs hk hT
   unfold backP at hT
   split at hT
   rotate_left
   ·cases hT
   rename_i hlt
   cases hT
   show AWp _ _ _ _ ⟨[(12, .agg (qC (coP p (p.length - 1 - k)))), (11, i64 (p.length - 1 - k : Nat)), (4, .lptr 1 0 0), (5, .aptr [[.clos g [] cap]] 0 0), (6, .lptr 2 0 0), (10, .clos 268 [] [bP p]), (1004, .lptr 1 0 0), (1005, .aptr [[.clos g [] cap]] 0 0), (1006, .lptr 2 0 0), (1010, .clos 268 [] [bP p])], [(1, some ⟨35, 3, [qC (w k)]⟩), (2, some ⟨35, 3, [zC]⟩)], 3, 18⟩
   refine AWp.reg (m := 2) rfl ?_
   refine a_z ?_
   refine AWp.block ?_
   refine AWp.reg (m := 5) rfl ?_
   refine c_s (hg k hlt) ?_
   refine a_z ?_
   refine ⟨k + 1, ⟨hlt, rfl⟩, ?_⟩
   show SEntT _ ⟨[(1004, .lptr 1 0 0), (1005, .aptr [[.clos g [] cap]] 0 0), (1006, .lptr 2 0 0), (1010, .clos 268 [] [bP p])], [(1, some ⟨35, 3, [qC (w (k + 1))]⟩), (2, some ⟨35, 3, [zC]⟩)], 3, 18⟩
   refine SEntT.to [] rfl rfl rfl au_r (fun hs => au_f) (fun hs => au_h)
  ·intro k hk hT
   unfold backP at hT
   split at hT
   ·cases hT
   refine ⟨(), trivial, ?_⟩
   rw [hoS_mk]
   have h1 : k = p.length := by omega
   subst h1
   exact s_e []
 rintro _ _
 refine r_z 2 ?_
 refine AWp.ret ?_
 refine Fin.cellE rfl rfl rfl tg_35.h ts_35.h (nle rfl) ?_ ?_
 ·rfl
 ·exact closed_qA _
theorem fs_Eval1 (v c x : Rat) (h1 : qs v + qs x ≤ 549755813888) (h2 : qs (v * x) + qs c ≤ 549755813888) : FSpec Tryz.prog 146 [.agg (qC v), .agg (qC c), bQ x] (.agg (qC (v * x + c))) := by
 refine FSpec.enter Tryz.func146 rfl (by kernel_rfl) rfl rfl rfl ?_ rfl ?_
 ·exact closed_cons (closed_qA v) (closed_cons (closed_qA c) (closed_cons (closed_bQ x) closed_nil))
 refine r_z 3 ?_
 refine AWp.seq ?_
 refine AWp.regD hmix (m := 6) rfl ?_
 refine c_s (fs_mul v x h1) ?_
 refine c_s (fs_add (v * x) c h2) ?_
 refine a_1 ?_
 refine AR.nil ⟨by kernel_rfl, ?_⟩
 refine AWp.ret ?_
 refine Fin.cellE rfl rfl rfl tg_35.h ts_35.h (nle rfl) ?_ ?_
 ·rfl
 ·exact closed_qA _
theorem fs_Eval (p : List Rat) (x : Rat) (h : okEval p x) : FSpec Tryz.prog 54 [.arr (pE p), .agg (qC x)] (.agg (qC (evalP p x))) := by
 have hw : ∀ k, k < p.length → FSpec Tryz.prog 146 [.agg (qC (evalP (p.drop (p.length - k)) x)), .agg (qC (coP p (p.length - 1 - k))), bQ x] (.agg (qC (evalP (p.drop (p.length - (k + 1))) x))) := fun k hk => by
  have := evalP_part h k hk
  rw [drop_back hk]
  exact fs_Eval1 _ _ _ this.1 this.2
 have hh := fs_hornerQ p 146 [bQ x] (fun k => evalP (p.drop (p.length - k)) x) (by have := h.2; omega) (closed_cons (closed_bQ x) closed_nil) hw
 simp only [Nat.sub_zero, Nat.sub_self, List.drop_zero, List.drop_length] at hh
 rw [show evalP [] x = 0 from rfl, qC0] at hh
 refine FSpec.enter Tryz.func54 rfl (by kernel_rfl) rfl rfl rfl ?_ rfl ?_
 ·exact closed_cons (closed_pA p) (closed_cons (closed_qA x) closed_nil)
 refine r_z 2 ?_
 refine AWp.ent (st' := ⟨[(0, .arr (pE p)), (3, bQ x), (4, .lptr 1 0 0)], [(1, some ⟨35, 3, [zC]⟩)], 2, 9⟩) ?_ ?_
 ·exact s_e [(1, 4)]
 refine r_c 5 (hh) ?_
 refine a_z ?_
 refine AWp.ret ?_
 refine Fin.cellE rfl rfl rfl tg_35.h ts_35.h (nle rfl) ?_ ?_
 ·rfl
 ·exact closed_qA _
def hsS (p : List Rat) (g : Nat) (cap : List AV) (w : Nat → Rat × Rat) : Nat → AState
 | k => ⟨[(4, .lptr 1 0 0), (5, .aptr [[.clos g [] cap]] 0 0), (6, .lptr 2 0 0), (10, .clos 268 [] [bP p])], [(1, some ⟨37, 6, [spC (w k).1 (w k).2]⟩), (2, some ⟨37, 6, [zC ++ zC]⟩)], 3, 18⟩
theorem hsS_mk (p : List Rat) (g : Nat) (cap : List AV) (w : Nat → Rat × Rat) (k : Nat) : hsS p g cap w k = ⟨[(4, .lptr 1 0 0), (5, .aptr [[.clos g [] cap]] 0 0), (6, .lptr 2 0 0), (10, .clos 268 [] [bP p])], [(1, some ⟨37, 6, [spC (w k).1 (w k).2]⟩), (2, some ⟨37, 6, [zC ++ zC]⟩)], 3, 18⟩ := rfl
theorem fs_hornerS (p : List Rat) (g : Nat) (cap : List AV) (w : Nat → Rat × Rat) (hl : p.length ≤ 281474976710656) (hcap : ∀ c ∈ cap, Closed c) (hg : ∀ k, k < p.length → FSpec Tryz.prog g ((.agg (spC (w k).1 (w k).2) :: .agg (qC (coP p (p.length - 1 - k))) :: cap).map coe) (.agg (spC (w (k + 1)).1 (w (k + 1)).2))) : FSpec Tryz.prog 306 [.arr (pE p), .agg (spC (w 0).1 (w 0).2), .clos g [] cap] (.agg (spC (w p.length).1 (w p.length).2)) := by
 have hb := fs_Backward_p p
 have hgs := gs_Backward_p p hl
 have hcc : Closed (.clos g [] cap) := closed_clos closed_nil hcap
 have hcc2 : Closed (.aptr [[.clos g [] cap]] 0 0) := closed_box (closed_cons hcc closed_nil)
 have hcl2 : Closed (.clos 268 [] [bP p]) := closed_clos closed_nil (closed_cons (closed_bP p) closed_nil)
 refine FSpec.enter Tryz.func306 rfl (by kernel_rfl) rfl rfl rfl ?_ rfl ?_
 ·exact closed_cons (closed_pA p) (closed_cons (closed_spA _ _) (closed_cons hcc closed_nil))
 refine r_z 3 ?_
 refine AWp.ent (st' := ⟨[(0, .arr (pE p)), (4, .lptr 1 0 0), (5, .aptr [[.clos g [] cap]] 0 0), (6, .lptr 2 0 0)], [(1, some ⟨37, 6, [spC (w 0).1 (w 0).2]⟩), (2, some ⟨37, 6, [zC ++ zC]⟩)], 3, 18⟩) ?_ ?_
 ·refine SEnt.to [(1, 4), (2, 6)] rfl rfl rfl au_r (fun hs => ?_) (fun hs => ?_)
  ·repeat' (first | exact CvF.nil | refine CvF.cons rfl ?_ ?_)
   all_goals (first | (exact Cv.boxp hs rfl (dead_of rfl) rfl (closed_cons hcc closed_nil)) | exact au_c)
  ·repeat' (first | exact CvH.nil | refine CvH.cons rfl rfl rfl rfl ?_ ?_)
   all_goals (first | exact au_e | (refine CvLL.box ?_; repeat' (first | exact CvL.nil | refine CvL.cons ?_ ?_)))
   all_goals (first | (exact Cv.boxp hs rfl (dead_of rfl) rfl (closed_cons hcc closed_nil)) | exact au_c)
 refine AWp.seq ?_
 refine r_c 2 (hb) ?_
 refine AR.nil ?_
 refine AWp.cutT (fun _ : Unit => ⟨[(4, .lptr 1 0 0), (6, .lptr 2 0 0)], [(1, some ⟨37, 6, [spC (w p.length).1 (w p.length).2]⟩), (2, some ⟨37, 6, [zC ++ zC]⟩)], 3, 18⟩) (fun _ => True) ?_ ?_
 ·refine AWp.block ?_
  refine AWp.rangeFunc (α := Nat) (γ := Empty) p.length (hsS p g cap w) (fun k => k) (fun k => k ≤ p.length) (fun e => nomatch e) (fun _ e => nomatch e) 0 rfl hgs rfl rfl ?_ (fun _ => ⟨rfl, rfl⟩) (fun e => nomatch e) (Nat.zero_le _) rfl (fun _ h => h) ?_ ?_ ?_ ?_ (fun _ e => nomatch e)
  ·intro k xs hT
   unfold backP at hT
   split at hT
   ·cases hT; rfl
   ·cases hT
  ·rw [hsS_mk]
   refine SEntT.to [] rfl rfl rfl au_r (fun hs => au_f) (fun hs => au_h)
  ·exact closed_cons (closed_bP p) closed_nil
  ·intro l k xs hk hT
   unfold backP at hT
   split at hT
   rotate_left
   ·cases hT
   rename_i hlt
   cases hT
   show AWp _ _ _ _ ⟨[(12, .agg (qC (coP p (p.length - 1 - k)))), (11, i64 (p.length - 1 - k : Nat)), (4, .lptr 1 0 0), (5, .aptr [[.clos g [] cap]] 0 0), (6, .lptr 2 0 0), (10, .clos 268 [] [bP p]), (1004, .lptr 1 0 0), (1005, .aptr [[.clos g [] cap]] 0 0), (1006, .lptr 2 0 0), (1010, .clos 268 [] [bP p])], [(1, some ⟨37, 6, [spC (w k).1 (w k).2]⟩), (2, some ⟨37, 6, [zC ++ zC]⟩)], 3, 18⟩
   refine AWp.reg (m := 2) rfl ?_
   refine a_z ?_
   refine AWp.block ?_
   refine AWp.reg (m := 5) rfl ?_
   refine c_s (hg k hlt) ?_
   refine a_z ?_
   refine ⟨k + 1, ⟨hlt, rfl⟩, ?_⟩
   show SEntT _ ⟨[(1004, .lptr 1 0 0), (1005, .aptr [[.clos g [] cap]] 0 0), (1006, .lptr 2 0 0), (1010, .clos 268 [] [bP p])], [(1, some ⟨37, 6, [spC (w (k + 1)).1 (w (k + 1)).2]⟩), (2, some ⟨37, 6, [zC ++ zC]⟩)], 3, 18⟩
   refine SEntT.to [] rfl rfl rfl au_r (fun hs => au_f) (fun hs => au_h)
  ·intro k hk hT
   unfold backP at hT
   split at hT
   ·cases hT
   refine ⟨(), trivial, ?_⟩
   rw [hsS_mk]
   have h1 : k = p.length := by omega
   subst h1
   exact s_e []
 rintro _ _
 refine r_z 2 ?_
 refine AWp.ret ?_
 refine Fin.cellE rfl rfl rfl tg_37.h ts_37.h (nle rfl) ?_ ?_
 ·rfl
 ·exact closed_spA _ _
end Go.Proofs.YtdjfjpeoddmamaaGreatDoor
namespace Go.Abs
abbrev Sp := Rat × Rat
def prods (a b : Sp) : List Rat := [a.1 * b.1, a.1 * b.2, a.2 * b.1, a.2 * b.2]
def spMul (a b : Sp) : Sp := (minL (prods a b), maxL (prods a b))
def spAdd (a b : Sp) : Sp := (a.1 + b.1, a.2 + b.2)
def smS (a : Sp) : Prop := sm a.1 ∧ sm a.2
instance (a : Sp) : Decidable (smS a) := inferInstanceAs (Decidable (_ ∧ _))
def ovP (v0 s : Sp) : List Rat → Sp
 | [] => v0
 | a :: l => spAdd (spMul (ovP v0 s l) s) (a, a)
def okOv (v0 s : Sp) : List Rat → Prop
 | [] => smS v0
 | a :: l => okOv v0 s l ∧ smL (prods (ovP v0 s l) s) ∧ sm a ∧ smS (spAdd (spMul (ovP v0 s l) s) (a, a))
instance okOv_dec (v0 s : Sp) : (l : List Rat) → Decidable (okOv v0 s l)
 | [] => inferInstanceAs (Decidable (smS v0))
 | a :: l => @instDecidableAnd _ _ (okOv_dec v0 s l) (inferInstanceAs (Decidable (_ ∧ _ ∧ _)))
theorem okOv_sm {v0 s : Sp} : ∀ {l : List Rat}, okOv v0 s l → smS (ovP v0 s l)
 | [], h => h
 | _ :: _, h => h.2.2.2
theorem okOv_drop {v0 s : Sp} : ∀ {l : List Rat} (n : Nat), okOv v0 s l → okOv v0 s (l.drop n)
 | _, 0, h => h
 | [], _ + 1, h => h
 | _ :: _, n + 1, h => okOv_drop n h.1
def overP (p : List Rat) (s : Sp) : Sp := if ¬ cmpQ s.1 s.2 ≤ 0 ∨ trimQ p = [] then (0, 0) else ovP (leadP p, leadP p) s ((trimQ p).take ((trimQ p).length - 1))
def okOver (p : List Rat) (s : Sp) : Prop := smL p ∧ smS s ∧ p.length ≤ 274877906944 ∧ okOv (leadP p, leadP p) s ((trimQ p).take ((trimQ p).length - 1))
instance (p : List Rat) (s : Sp) : Decidable (okOver p s) := inferInstanceAs (Decidable (_ ∧ _ ∧ _ ∧ _))
def okMul (p q : List Rat) : Prop := p.length * (mxL p + mxL q + 1) + 1 ≤ 137438953472 ∧ mxL q ≤ 137438953472 ∧ p.length ≤ 274877906944 ∧ q.length ≤ 274877906944
instance (p q : List Rat) : Decidable (okMul p q) := inferInstanceAs (Decidable (_ ∧ _ ∧ _ ∧ _))
theorem okMul_sm {p q : List Rat} (h : okMul p q) : smL (mulP p q) :=
 bdL_sm (mulP_bd (bdL_mx p) (bdL_mx q) (mxL_pos p) (mxL_pos q)) h.1
theorem addP_len (p q : List Rat) : (addP p q).length ≤ max p.length q.length := by
 have := trimQ_len (tabP (max p.length q.length) fun i => coP p i + coP q i)
 simpa [addP] using this
theorem constP_len (a : Rat) : (constP a).length ≤ 1 := trimQ_len [a]
def compP (q : List Rat) : List Rat → List Rat
 | [] => []
 | a :: l => addP (mulP (compP q l) q) (constP a)
def okComp (q : List Rat) : List Rat → Prop
 | [] => True
 | a :: l => okComp q l ∧ okMul (compP q l) q ∧ sm a ∧ (mulP (compP q l) q).length ≤ 274877906944
instance okComp_dec (q : List Rat) : (l : List Rat) → Decidable (okComp q l)
 | [] => inferInstanceAs (Decidable True)
 | a :: l => @instDecidableAnd _ _ (okComp_dec q l) (inferInstanceAs (Decidable (_ ∧ _ ∧ _)))
theorem okComp_drop {q : List Rat} : ∀ {l : List Rat} (n : Nat), okComp q l → okComp q (l.drop n)
 | _, 0, h => h
 | [], _ + 1, h => h
 | _ :: _, n + 1, h => okComp_drop n h.1
end Go.Abs
namespace Go.Proofs.YtdjfjpeoddmamaaGreatDoor
open Go.Abs
set_option maxRecDepth 20000
abbrev bS (s : Sp) : AV := .aptr [spC s.1 s.2] 0 0
theorem closed_bS (s : Sp) : Closed (bS s) := closed_box (closed_spC _ _)
theorem spMul_sm {a b : Sp} (h : smL (prods a b)) : smS (spMul a b) := ⟨chooseL_sm h, chooseL_sm h⟩
theorem fs_Over1 (v s : Sp) (c : Rat) (hv : smS v) (hs : smS s) (hc : sm c) (hp : smL (prods v s)) : FSpec Tryz.prog 307 [.agg (spC v.1 v.2), .agg (qC c), bS s] (.agg (spC (spAdd (spMul v s) (c, c)).1 (spAdd (spMul v s) (c, c)).2)) := by
 have hm := spMul_sm hp
 refine FSpec.enter Tryz.func307 rfl (by kernel_rfl) rfl rfl rfl ?_ rfl ?_
 ·exact closed_cons (closed_spA _ _) (closed_cons (closed_qA c) (closed_cons (closed_bS s) closed_nil))
 refine r_z 3 ?_
 refine AWp.seq ?_
 refine AWp.regD hmix (m := 7) rfl ?_
 refine c_s (fs_SMul v.1 v.2 s.1 s.2 hv.1 hv.2 hs.1 hs.2 hp) ?_
 refine c_s (fs_At c) ?_
 refine c_s (fs_SAdd (spMul v s).1 (spMul v s).2 c c hm.1 hm.2 hc hc) ?_
 refine a_1 ?_
 refine AR.nil ⟨by kernel_rfl, ?_⟩
 refine AWp.ret ?_
 refine Fin.cellE rfl rfl rfl tg_37.h ts_37.h (nle rfl) ?_ ?_
 ·rfl
 ·exact closed_spA _ _
theorem fs_Over (p : List Rat) (s : Sp) (h : okOver p s) : FSpec Tryz.prog 282 [.arr (pE p), .agg (spC s.1 s.2)] (.agg (spC (overP p s).1 (overP p s).2)) := by
 obtain ⟨hsm, hs, hl, hov⟩ := h
 have htl := trimQ_len p
 refine FSpec.enter Tryz.func282 rfl (by kernel_rfl) rfl rfl rfl ?_ rfl ?_
 ·exact closed_cons (closed_pA p) (closed_cons (closed_spA _ _) closed_nil)
 refine r_z 2 ?_
 refine AWp.ent (st' := ⟨[(0, .arr (pE p)), (3, bS s), (4, .lptr 1 0 0)], [(1, some ⟨37, 6, [zC ++ zC]⟩)], 2, 30⟩) ?_ ?_
 ·exact s_e [(1, 4)]
 refine r_c 3 (fs_Trim p (by omega)) ?_
 refine a_z ?_
 refine AWp.cut (fun _ : Unit => ⟨[(0, .arr (pE (trimQ p))), (3, bS s), (4, .lptr 1 0 0)], [(1, some ⟨37, 6, [zC ++ zC]⟩)], 2, 30⟩) (fun _ => cmpQ s.1 s.2 ≤ 0 ∧ trimQ p ≠ []) ?_ ?_
 ·by_cases hv : cmpQ s.1 s.2 ≤ 0
  ·refine r_c 8 (fs_SValid s.1 s.2 hs.1 hs.2) ?_
   refine a_2 ?_
   refine AR.op0y rfl rfl (gy (by simp [hv])) (.move rfl) rfl rfl ?_
   first | refine AR.op0y rfl rfl (gy (by simp [hv])) (.lenD rfl rfl rfl rfl te_55.h) rfl rfl ?_ | refine AR.op0y rfl rfl (gy (by simp [hv])) (.lenI rfl rfl rfl rfl te_55.h) rfl rfl ?_ | refine AR.op0y rfl rfl (gy (by simp [hv])) (.lenP rfl rfl rfl rfl te_55.h) rfl rfl ?_ | refine AR.op0y rfl rfl (gy (by simp [hv])) (.lenC rfl rfl rfl rfl te_55.h) rfl rfl ?_ | refine AR.op0y rfl rfl (gy (by simp [hv])) (.lenR rfl rfl rfl rfl te_55.h) rfl rfl ?_ | refine AR.op0y rfl rfl (gy (by simp [hv])) (.len rfl rfl rfl rfl rfl te_55.h) rfl rfl ?_
   refine AR.op0y rfl rfl (gy (by simp [hv])) (.bin rfl rfl binI_eql) rfl rfl ?_
   refine o_0 (.pickF rfl (by simp [hv]) rfl) ?_
   refine AR.nil ?_
   refine AWp.cond rfl (fun h1 => ?_) (fun h1 => ?_)
   ·have h0 : trimQ p = [] := by
     have : (trimQ p).length = 0 := by simpa using h1
     exact List.length_eq_zero_iff.1 this
    have hr : overP p s = (0, 0) := by unfold overP; rw [if_pos (.inr h0)]
    rw [hr]
    refine r_z 2 ?_
    refine AWp.ret ?_
    refine Fin.cell rfl rfl rfl tg_37.h ts_37.h (nle rfl) (Cv.agg ?_)
    show CvL _ _ _ _ (qC 0 ++ qC 0)
    rw [qC0]
    exact CvL.cons (Cv.emp _) (CvL.cons (Cv.clo shr_nil (closed_v _)) (CvL.cons (Cv.emp _) (CvL.cons (Cv.emp _) (CvL.cons (Cv.clo shr_nil (closed_v _)) (CvL.cons (Cv.emp _) CvL.nil)))))
   ·have h0 : trimQ p ≠ [] := by
     have : ¬ (trimQ p).length = 0 := by simpa using h1
     exact fun e => this (by rw [e]; rfl)
    refine AWp.skip ⟨(), ⟨hv, h0⟩, ?_⟩
    exact s_e []
  ·refine r_c 8 (fs_SValid s.1 s.2 hs.1 hs.2) ?_
   refine a_2 ?_
   refine AR.opN rfl rfl (gn (by simp [hv])) rfl rfl ?_
   refine AR.opN rfl rfl (gn (by simp [hv])) rfl rfl ?_
   refine AR.opN rfl rfl (gn (by simp [hv])) rfl rfl ?_
   refine o_0 (.pickT rfl (by simp [hv]) rfl) ?_
   refine AR.nil ?_
   refine AWp.cond rfl (fun h1 => ?_) (fun h1 => ?_)
   ·have hr : overP p s = (0, 0) := by unfold overP; rw [if_pos (.inl hv)]
    rw [hr]
    refine r_z 2 ?_
    refine AWp.ret ?_
    refine Fin.cell rfl rfl rfl tg_37.h ts_37.h (nle rfl) (Cv.agg ?_)
    show CvL _ _ _ _ (qC 0 ++ qC 0)
    rw [qC0]
    exact CvL.cons (Cv.emp _) (CvL.cons (Cv.clo shr_nil (closed_v _)) (CvL.cons (Cv.emp _) (CvL.cons (Cv.emp _) (CvL.cons (Cv.clo shr_nil (closed_v _)) (CvL.cons (Cv.emp _) CvL.nil)))))
   ·cases h1
 rintro _ ⟨hv, h0⟩
 have hpl := List.length_pos_iff.2 h0
 have hr : overP p s = ovP (leadP p, leadP p) s ((trimQ p).take ((trimQ p).length - 1)) := by
  unfold overP; rw [if_neg (by rintro (e | e); exact e hv; exact h0 e)]
 obtain ⟨l, hll⟩ : ∃ l, l = (trimQ p).take ((trimQ p).length - 1) := ⟨_, rfl⟩
 rw [← hll] at hov hr
 rw [hr]
 have hlen : l.length = (trimQ p).length - 1 := by rw [hll]; simp
 have hsml : ∀ q ∈ l, sm q := fun q hq => hsm q (trimQ_mem (List.mem_of_mem_take (by rw [← hll]; exact hq)))
 have hw : ∀ k, k < l.length → FSpec Tryz.prog 307 [.agg (spC (ovP (leadP p, leadP p) s (l.drop (l.length - k))).1 (ovP (leadP p, leadP p) s (l.drop (l.length - k))).2), .agg (qC (coP l (l.length - 1 - k))), bS s] (.agg (spC (ovP (leadP p, leadP p) s (l.drop (l.length - (k + 1)))).1 (ovP (leadP p, leadP p) s (l.drop (l.length - (k + 1)))).2)) := fun k hk => by
  have h1 := okOv_drop (l.length - (k + 1)) hov
  rw [drop_back hk] at h1 ⊢
  exact fs_Over1 _ s _ (okOv_sm h1.1) hs h1.2.2.1 h1.2.1
 have hh := fs_hornerS l 307 [bS s] (fun k => ovP (leadP p, leadP p) s (l.drop (l.length - k))) (by omega) (closed_cons (closed_bS s) closed_nil) hw
 simp only [Nat.sub_zero, Nat.sub_self, List.drop_zero, List.drop_length] at hh
 have hg : (pE (trimQ p))[(((trimQ p).length : Int) - 1).toNat]? = some (qC (leadP p)) := by
  rw [show (((trimQ p).length : Int) - 1).toNat = (trimQ p).length - 1 by omega]; exact pE_get (leadP_get (by omega))
 refine r_z 4 ?_
 refine AWp.seq ?_
 refine AWp.regD hmix (m := 11) rfl ?_
 refine a_2 ?_
 refine o_0 (.sa_h rfl rfl (h := (trimQ p).length - 1) (by omega) (by simp) te_55.h (pE_len3 _)) ?_
 refine a_2 ?_
 first | refine AR.op0 (.index_l rfl rfl (by omega) (by omega) te_55.h) rfl rfl ?_ | refine AR.op0 (.index_a rfl rfl (by omega) hg rfl te_55.h) rfl rfl ?_
 first | refine AR.op0 (.load_l rfl rfl hg tg_35.h ts_35.h (nle rfl)) rfl rfl ?_ | refine AR.op0 (.load_a rfl hg tg_35.h ts_35.h (nle rfl)) rfl rfl ?_
 refine c_s (fs_At (leadP p)) ?_
 refine o_0 (.makeFunc rfl rfl) ?_
 refine o_0 (.call rfl rfl rfl ((by rw [pE_take, ← hll]; exact hh))) ?_
 refine o_1n (.store rfl rfl rfl rfl rfl rfl ts_37.h (nle rfl)) ?_
 refine AR.nil ⟨by kernel_rfl, ?_⟩
 refine AWp.ret ?_
 refine Fin.cellE rfl rfl rfl tg_37.h ts_37.h (nle rfl) ?_ ?_
 ·rfl
 ·exact closed_spA _ _
def hpS (p : List Rat) (g : Nat) (cap : List AV) (w : Nat → List Rat) : Nat → AState
 | k => ⟨[(4, .lptr 1 0 0), (5, .aptr [[.clos g [] cap]] 0 0), (10, .clos 268 [] [bP p])], [(1, some ⟨55, 1, [[.arr (pE (w k))]]⟩)], 2, 18⟩
theorem hpS_mk (p : List Rat) (g : Nat) (cap : List AV) (w : Nat → List Rat) (k : Nat) : hpS p g cap w k = ⟨[(4, .lptr 1 0 0), (5, .aptr [[.clos g [] cap]] 0 0), (10, .clos 268 [] [bP p])], [(1, some ⟨55, 1, [[.arr (pE (w k))]]⟩)], 2, 18⟩ := rfl
theorem fs_hornerP (p : List Rat) (g : Nat) (cap : List AV) (w : Nat → List Rat) (hl : p.length ≤ 281474976710656) (hcap : ∀ c ∈ cap, Closed c) (hg : ∀ k, k < p.length → FSpec Tryz.prog g ((.arr (pE (w k)) :: .agg (qC (coP p (p.length - 1 - k))) :: cap).map coe) (.arr (pE (w (k + 1))))) : FSpec Tryz.prog 185 [.arr (pE p), .arr (pE (w 0)), .clos g [] cap] (.arr (pE (w p.length))) := by
 have hb := fs_Backward_p p
 have hgs := gs_Backward_p p hl
 have hcc : Closed (.clos g [] cap) := closed_clos closed_nil hcap
 have hcc2 : Closed (.aptr [[.clos g [] cap]] 0 0) := closed_box (closed_cons hcc closed_nil)
 have hcl2 : Closed (.clos 268 [] [bP p]) := closed_clos closed_nil (closed_cons (closed_bP p) closed_nil)
 refine FSpec.enter Tryz.func185 rfl (by kernel_rfl) rfl rfl rfl ?_ rfl ?_
 ·exact closed_cons (closed_pA p) (closed_cons (closed_pA _) (closed_cons hcc closed_nil))
 refine r_z 3 ?_
 refine AWp.ent (st' := ⟨[(0, .arr (pE p)), (4, .lptr 1 0 0), (5, .aptr [[.clos g [] cap]] 0 0)], [(1, some ⟨55, 1, [[.arr (pE (w 0))]]⟩)], 2, 18⟩) ?_ ?_
 ·refine SEnt.to [(1, 4)] rfl rfl rfl au_r (fun hs => ?_) (fun hs => ?_)
  ·repeat' (first | exact CvF.nil | refine CvF.cons rfl ?_ ?_)
   all_goals (first | (exact Cv.boxp hs rfl (dead_of rfl) rfl (closed_cons hcc closed_nil)) | exact au_c)
  ·repeat' (first | exact CvH.nil | refine CvH.cons rfl rfl rfl rfl ?_ ?_)
   all_goals (first | exact au_e | (refine CvLL.box ?_; repeat' (first | exact CvL.nil | refine CvL.cons ?_ ?_)))
   all_goals (first | (exact Cv.boxp hs rfl (dead_of rfl) rfl (closed_cons hcc closed_nil)) | exact au_c)
 refine AWp.seq ?_
 refine r_c 2 (hb) ?_
 refine AR.nil ?_
 refine AWp.cutT (fun _ : Unit => ⟨[(4, .lptr 1 0 0)], [(1, some ⟨55, 1, [[.arr (pE (w p.length))]]⟩)], 2, 18⟩) (fun _ => True) ?_ ?_
 ·refine AWp.block ?_
  refine AWp.rangeFunc (α := Nat) (γ := Empty) p.length (hpS p g cap w) (fun k => k) (fun k => k ≤ p.length) (fun e => nomatch e) (fun _ e => nomatch e) 0 rfl hgs rfl rfl ?_ (fun _ => ⟨rfl, rfl⟩) (fun e => nomatch e) (Nat.zero_le _) rfl (fun _ h => h) ?_ ?_ ?_ ?_ (fun _ e => nomatch e)
  ·intro k xs hT
   unfold backP at hT
   split at hT
   ·cases hT; rfl
   ·cases hT
  ·rw [hpS_mk]
   refine SEntT.to [] rfl rfl rfl au_r (fun hs => au_f) (fun hs => au_h)
  ·exact closed_cons (closed_bP p) closed_nil
  ·intro l k xs hk hT
   unfold backP at hT
   split at hT
   rotate_left
   ·cases hT
   rename_i hlt
   cases hT
   show AWp _ _ _ _ ⟨[(12, .agg (qC (coP p (p.length - 1 - k)))), (11, i64 (p.length - 1 - k : Nat)), (4, .lptr 1 0 0), (5, .aptr [[.clos g [] cap]] 0 0), (10, .clos 268 [] [bP p]), (1004, .lptr 1 0 0), (1005, .aptr [[.clos g [] cap]] 0 0), (1010, .clos 268 [] [bP p])], [(1, some ⟨55, 1, [[.arr (pE (w k))]]⟩)], 2, 18⟩
   refine AWp.reg (m := 2) rfl ?_
   refine a_z ?_
   refine AWp.block ?_
   refine AWp.reg (m := 5) rfl ?_
   refine c_s (hg k hlt) ?_
   refine a_z ?_
   refine ⟨k + 1, ⟨hlt, rfl⟩, ?_⟩
   show SEntT _ ⟨[(1004, .lptr 1 0 0), (1005, .aptr [[.clos g [] cap]] 0 0), (1010, .clos 268 [] [bP p])], [(1, some ⟨55, 1, [[.arr (pE (w (k + 1)))]]⟩)], 2, 18⟩
   refine SEntT.to [] rfl rfl rfl au_r (fun hs => au_f) (fun hs => au_h)
  ·intro k hk hT
   unfold backP at hT
   split at hT
   ·cases hT
   refine ⟨(), trivial, ?_⟩
   rw [hpS_mk]
   have h1 : k = p.length := by omega
   subst h1
   exact s_e []
 rintro _ _
 refine r_z 2 ?_
 refine AWp.ret ?_
 refine Fin.tmpE rfl ?_ ?_
 ·rfl
 ·exact closed_pA _
theorem fs_compose1 (v q : List Rat) (c : Rat) (h : okMul v q) (hc : sm c) (hl : (mulP v q).length ≤ 274877906944) : FSpec Tryz.prog 186 [.arr (pE v), .agg (qC c), bP q] (.arr (pE (addP (mulP v q) (constP c)))) := by
 have hcl := constP_len c
 refine FSpec.enter Tryz.func186 rfl (by kernel_rfl) rfl rfl rfl ?_ rfl ?_
 ·exact closed_cons (closed_pA v) (closed_cons (closed_qA c) (closed_cons (closed_bP q) closed_nil))
 refine r_z 2 ?_
 refine AWp.seq ?_
 refine AWp.regD hmix (m := 7) rfl ?_
 refine c_s (fs_Mul v q (mxL v) (mxL q) (bdL_mx v) (bdL_mx q) (mxL_pos v) (mxL_pos q) h.1 h.2.1 h.2.2.1 h.2.2.2) ?_
 refine c_s (fs_constant c) ?_
 refine c_s (fs_Add (mulP v q) (constP c) (okMul_sm h) (smL_trim fun x hx => by rw [List.mem_singleton.1 hx]; exact hc) (by omega) (by omega)) ?_
 refine a_1 ?_
 refine AR.nil ⟨by kernel_rfl, ?_⟩
 refine AWp.ret ?_
 refine Fin.tmpE rfl ?_ ?_
 ·rfl
 ·exact closed_pA _
theorem fs_compose (p q : List Rat) (h : okComp q p) (hp : p.length ≤ 274877906944) : FSpec Tryz.prog 102 [.arr (pE p), .arr (pE q)] (.arr (pE (compP q p))) := by
 have hw : ∀ k, k < p.length → FSpec Tryz.prog 186 [.arr (pE (compP q (p.drop (p.length - k)))), .agg (qC (coP p (p.length - 1 - k))), bP q] (.arr (pE (compP q (p.drop (p.length - (k + 1)))))) := fun k hk => by
  have h1 := okComp_drop (p.length - (k + 1)) h
  rw [drop_back hk] at h1 ⊢
  exact fs_compose1 _ q _ h1.2.1 h1.2.2.1 h1.2.2.2
 have hh := fs_hornerP p 186 [bP q] (fun k => compP q (p.drop (p.length - k))) (by omega) (closed_cons (closed_bP q) closed_nil) hw
 simp only [Nat.sub_zero, Nat.sub_self, List.drop_zero, List.drop_length] at hh
 refine FSpec.enter Tryz.func102 rfl (by kernel_rfl) rfl rfl rfl ?_ rfl ?_
 ·exact closed_cons (closed_pA p) (closed_cons (closed_pA q) closed_nil)
 refine r_z 2 ?_
 refine AWp.ent (st' := ⟨[(0, .arr (pE p)), (3, bP q)], [], 1, 8⟩) ?_ ?_
 ·exact s_e []
 refine r_c 4 (hh) ?_
 refine a_z ?_
 refine AWp.ret ?_
 refine Fin.tmpE rfl ?_ ?_
 ·rfl
 ·exact closed_pA _
end Go.Proofs.YtdjfjpeoddmamaaGreatDoor
namespace Go.Abs
abbrev UB : Nat := 32768
def iE (l : List Nat) : List (List AV) := l.map fun (d : Nat) => [i64 d]
def hv (l : List Nat) : Nat := ofD UB l.reverse
def zd (n : Nat) : List Nat := (digs UB n).reverse
def zZ (z : Int) : List AV := [i64 (sgZ z), .arr (iE (zd z.natAbs))]
@[simp] theorem iE_length (l : List Nat) : (iE l).length = l.length := by simp [iE]
theorem iE_append (l m : List Nat) : iE (l ++ m) = iE l ++ iE m := by simp [iE]
theorem iE_set (l : List Nat) (i d : Nat) : (iE l).set i [i64 d] = iE (l.set i d) := by simp [iE, List.map_set]
theorem iE_replicate (k : Nat) : List.replicate k [i64 0] = iE (List.replicate k 0) := by simp [iE]
theorem iE_one (l : List Nat) : (iE l).all (·.all AV.one) = true := by
 simp only [iE, List.all_map, List.all_eq_true]; intro d _; rfl
theorem closed_iE (l : List Nat) : ∀ e ∈ iE l, ∀ c ∈ e, Closed c := by
 intro e he c hc
 simp [iE] at he
 obtain ⟨d, _, rfl⟩ := he
 simp at hc; subst hc
 exact closed_v _
theorem closed_iA (l : List Nat) : Closed (.arr (iE l)) := closed_arr (closed_iE l)
theorem closed_zZ (z : Int) : ∀ c ∈ zZ z, Closed c := closed_cons (closed_v _) (closed_cons (closed_iA _) closed_nil)
theorem closed_zZA (z : Int) : Closed (.agg (zZ z)) := closed_agg (closed_zZ z)
theorem AEval.lenI {P : Program} {id : Nat} {ev : Operand → Option AV} {hp : Nat → Option ABlk} {c : Call} {x : Operand} {T : Nat} {d : Nat × Nat} {l : List Nat} (hc : c.callee = .builtin .len) (ha : c.args = #[x]) (ht : c.argTypes = #[T]) (hx : ev x = some (.arr (iE l))) (he : elOf P T = some d) :
    AEval P id ev hp (.call c) ⟨.v (.int .i64 (l.length : Nat)), []⟩ [] := .len hc ha ht hx (by simp [lenA]) he
abbrev RQ := Rat × Bool
def rC (x : RQ) : List AV := zZ x.1.num ++ zZ (if x.2 then 0 else (x.1.den : Int))
def r0 : RQ := (0, true)
@[simp] theorem rC_length (x : RQ) : (rC x).length = 4 := rfl
theorem closed_rC (x : RQ) : ∀ c ∈ rC x, Closed c := fun c hc => (List.mem_append.1 hc).elim (closed_zZ _ c) (closed_zZ _ c)
theorem closed_rA (x : RQ) : Closed (.agg (rC x)) := closed_agg (closed_rC x)
def rE (l : List RQ) : List (List AV) := l.map rC
@[simp] theorem rE_length (l : List RQ) : (rE l).length = l.length := by simp [rE]
theorem rE_one (l : List RQ) : (rE l).all (·.all AV.one) = true := by
 simp only [rE, List.all_map, List.all_eq_true]; intro q _; rfl
theorem closed_rE (l : List RQ) : ∀ e ∈ rE l, ∀ c ∈ e, Closed c := by
 intro e he c hc
 obtain ⟨q, _, rfl⟩ := List.mem_map.1 he
 exact closed_rC q c hc
theorem closed_rEA (l : List RQ) : Closed (.arr (rE l)) := closed_arr (closed_rE l)
theorem AEval.lenR {P : Program} {id : Nat} {ev : Operand → Option AV} {hp : Nat → Option ABlk} {c : Call} {x : Operand} {T : Nat} {d : Nat × Nat} {l : List RQ} (hc : c.callee = .builtin .len) (ha : c.args = #[x]) (ht : c.argTypes = #[T]) (hx : ev x = some (.arr (rE l))) (he : elOf P T = some d) :
    AEval P id ev hp (.call c) ⟨.v (.int .i64 (l.length : Nat)), []⟩ [] := .len hc ha ht hx (by simp [lenA]) he
theorem div_divInt (a b : Rat) : a / b = Rat.divInt (a.num * b.den) (a.den * b.num) := by
 rw [Rat.div_def, Rat.inv_def]
 conv => lhs; rw [← Rat.num_divInt_den a]
 rw [Rat.divInt_mul_divInt]
end Go.Abs
