/- Part S12 of the proof. -/
import Derived.Test.YtdhedjbmdnnbkaaGreatDoorS11
set_option linter.all false
namespace Go.Proofs.YtdhedjbmdnnbkaaGreatDoor
open Go.Abs
set_option maxRecDepth 20000
theorem fs_QSpan (a : Rat) (k : Int) (h : sm a) : FSpec Tryz.prog 128 [.agg (qC a), i64 k] (.agg (spC (downQ a (wi k 256)) (upQ a (wi k 256)))) := by
 refine FSpec.enter Tryz.func128 rfl (by kernel_rfl) rfl rfl rfl ?_ rfl ?_
 ·exact closed_cons (closed_qA a) (closed_cons (closed_v _) closed_nil)
 refine r_z 2 ?_
 refine AWp.seq ?_
 refine AWp.regD hmix (m := 8) rfl ?_
 refine c_s (fs_Down a k h) ?_
 refine c_s (fs_Up a k h) ?_
 refine a_2 ?_
 refine AR.nil ⟨by kernel_rfl, ?_⟩
 refine AWp.ret ?_
 refine Fin.cellE rfl rfl rfl tg_65.h ts_65.h (nle rfl) ?_ ?_
 ·rfl
 ·exact closed_spA _ _
theorem fs_At (a : Rat) : FSpec Tryz.prog 187 [.agg (qC a)] (.agg (spC a a)) := by
 refine FSpec.enter Tryz.func187 rfl (by kernel_rfl) rfl rfl rfl ?_ rfl ?_
 ·exact closed_cons (closed_qA a) closed_nil
 refine r_z 2 ?_
 refine r_z 4 ?_
 refine AWp.ret ?_
 refine Fin.cellE rfl rfl rfl tg_65.h ts_65.h (nle rfl) ?_ ?_
 ·rfl
 ·exact closed_spA _ _
theorem fs_SValid (a b : Rat) (ha : sm a) (hb : sm b) : FSpec Tryz.prog 55 [.agg (spC a b)] (bln (decide (cmpQ a b ≤ 0))) := by
 refine FSpec.enter Tryz.func55 rfl (by kernel_rfl) rfl rfl rfl ?_ rfl ?_
 ·exact closed_cons (closed_spA a b) closed_nil
 refine r_z 2 ?_
 refine r_c 7 (fs_cmp a b ha hb) ?_
 refine a_z ?_
 refine AWp.ret ?_
 refine Fin.tmpE rfl ?_ ?_
 ·rfl
 ·exact closed_v _
theorem fs_SAdd (a b c d : Rat) (ha : sm a) (hb : sm b) (hc : sm c) (hd : sm d) : FSpec Tryz.prog 248 [.agg (spC a b), .agg (spC c d)] (.agg (spC (a + c) (b + d))) := by
 refine FSpec.enter Tryz.func248 rfl (by kernel_rfl) rfl rfl rfl ?_ rfl ?_
 ·exact closed_cons (closed_spA a b) (closed_cons (closed_spA c d) closed_nil)
 refine r_z 3 ?_
 refine AWp.seq ?_
 refine AWp.regD hmix (m := 12) rfl ?_
 refine c_s (fs_add a c (sm2 ha hc)) ?_
 refine c_s (fs_add b d (sm2 hb hd)) ?_
 refine a_2 ?_
 refine AR.nil ⟨by kernel_rfl, ?_⟩
 refine AWp.ret ?_
 refine Fin.cellE rfl rfl rfl tg_65.h ts_65.h (nle rfl) ?_ ?_
 ·rfl
 ·exact closed_spA _ _
theorem fs_SMiddle (a b : Rat) (ha : sm a) (hb : sm b) : FSpec Tryz.prog 244 [.agg (spC a b)] (.agg (qC ((a + b) * fineQ 1))) := by
 have h1 : qs (a + b) ≤ 274877906945 := by have := qs_add a b; unfold sm at ha hb; omega
 have h2 : qs (fineQ 1) ≤ 2 := by decide
 refine FSpec.enter Tryz.func244 rfl (by kernel_rfl) rfl rfl rfl ?_ rfl ?_
 ·exact closed_cons (closed_spA a b) closed_nil
 refine r_z 2 ?_
 refine r_c 8 (fs_add a b (sm2 ha hb)) ?_
 refine c_s (fs_Fine 1) ?_
 refine c_s (fs_mul (a + b) (fineQ 1) (by omega)) ?_
 refine a_z ?_
 refine AWp.ret ?_
 refine Fin.cellE rfl rfl rfl tg_37.h ts_37.h (nle rfl) ?_ ?_
 ·rfl
 ·exact closed_qA _
theorem fs_SWidth (a b : Rat) (ha : sm a) (hb : sm b) : FSpec Tryz.prog 190 [.agg (spC a b)] (.agg (qC (b - a))) := by
 refine FSpec.enter Tryz.func190 rfl (by kernel_rfl) rfl rfl rfl ?_ rfl ?_
 ·exact closed_cons (closed_spA a b) closed_nil
 refine r_z 2 ?_
 refine r_c 6 (fs_sub b a (sm2 hb ha)) ?_
 refine a_z ?_
 refine AWp.ret ?_
 refine Fin.cellE rfl rfl rfl tg_37.h ts_37.h (nle rfl) ?_ ?_
 ·rfl
 ·exact closed_qA _
theorem fs_Min1 (c : Int) : FSpec Tryz.prog 255 [i64 c] (bln (decide (c < 0))) := by
 refine FSpec.enter Tryz.func255 rfl (by kernel_rfl) rfl rfl rfl ?_ rfl ?_
 ·exact closed_cons (closed_v _) closed_nil
 refine r_z 1 ?_
 refine r_z 3 ?_
 refine AWp.ret ?_
 refine Fin.tmpE rfl ?_ ?_
 ·rfl
 ·exact closed_v _
theorem fs_Max1 (c : Int) : FSpec Tryz.prog 256 [i64 c] (bln (decide (0 < c))) := by
 refine FSpec.enter Tryz.func256 rfl (by kernel_rfl) rfl rfl rfl ?_ rfl ?_
 ·exact closed_cons (closed_v _) closed_nil
 refine r_z 1 ?_
 refine r_z 3 ?_
 refine AWp.ret ?_
 refine Fin.tmpE rfl ?_ ?_
 ·rfl
 ·exact closed_v _
def chooseS (g : Nat) (l : List Rat) : Nat × List AV → AState
 | (i, o) => ⟨[(0, .clos g [] []), (4, .lptr 1 0 0), (5, .lptr 2 0 0), (8, .arr (pE l)), (9, i64 l.length), (10, i64 i)], [(1, some ⟨37, 3, [zC]⟩), (2, some ⟨37, 3, [o]⟩)], 3, 27⟩
theorem chooseS_mk (g : Nat) (l : List Rat) (i : Nat) (o : List AV) : chooseS g l (i, o) = ⟨[(0, .clos g [] []), (4, .lptr 1 0 0), (5, .lptr 2 0 0), (8, .arr (pE l)), (9, i64 l.length), (10, i64 i)], [(1, some ⟨37, 3, [zC]⟩), (2, some ⟨37, 3, [o]⟩)], 3, 27⟩ := rfl
theorem fs_choose (g : Nat) (bf : Int → Bool) (hg : ∀ c, FSpec Tryz.prog g [i64 c] (bln (bf c))) (l : List Rat) (hl : smL l) (hln : l.length ≤ 1099511627776) : FSpec Tryz.prog 254 [.clos g [] [], .arr (pE l)] (.agg (qC (chooseL bf l))) := by
 refine FSpec.enter Tryz.func254 rfl (by kernel_rfl) rfl rfl rfl ?_ rfl ?_
 ·exact closed_cons (closed_clos closed_nil closed_nil) (closed_cons (closed_pA l) closed_nil)
 refine r_z 1 ?_
 refine r_z 1 ?_
 refine AWp.seq ?_
 refine r_z 3 ?_
 refine AWp.cutT (fun _ : Unit => ⟨[(4, .lptr 1 0 0), (5, .lptr 2 0 0)], [(1, some ⟨37, 3, [zC]⟩), (2, some ⟨37, 3, [qC (chooseL bf l)]⟩)], 3, 27⟩) (fun _ => True) ?_ ?_
 ·refine AWp.block ?_
  refine AWp.loopS (fun x : Nat × List AV => chooseS g l x) (fun x => l.length - x.1) (fun x => x.1 ≤ l.length ∧ ((x.1 = 0 → x.2 = zC) ∧ (x.1 ≠ 0 → x.2 = qC (chooseL bf (l.take x.1))))) (0, zC) ⟨Nat.zero_le _, fun _ => rfl, fun h => absurd rfl h⟩ ?_ ?_
  ·simp only [chooseS_mk]
   exact s_e [(1, 4), (2, 5)]
  rintro ⟨i, o⟩ ⟨hi, ho0, ho⟩
  simp only at hi ho0 ho
  simp only [chooseS_mk]
  refine r_z 1 ?_
  refine AWp.seq ?_
  refine AWp.cond rfl (fun h => ?_) (fun h => ?_)
  ·refine AWp.skip ?_
   have hlt : i < l.length := by simpa using h
   obtain ⟨q, hq⟩ : ∃ q, l[i]? = some q := ⟨_, List.getElem?_eq_getElem hlt⟩
   have hq' : (pE l)[((i : Nat) : Int).toNat]? = some (qC q) := pE_get hq
   have hsq : sm q := hl q (List.mem_of_getElem? hq)
   have hst : sm (chooseL bf (l.take i)) := chooseL_sm fun q hq => hl q (List.mem_of_mem_take hq)
   have hsn := chooseL_snoc bf (l.take i) q
   rw [← take_snoc hq] at hsn
   refine AWp.seq ?_
   refine AWp.block ?_
   refine s_r 6 ?_
   refine a_1 ?_
   first | refine AR.op0 (.index_l rfl rfl (by omega) (by omega) te_24.h) rfl rfl ?_ | refine AR.op0 (.index_a rfl rfl (by omega) hq' rfl te_24.h) rfl rfl ?_
   first | refine AR.op0 (.load_l rfl rfl hq' tg_37.h ts_37.h (nle rfl)) rfl rfl ?_ | refine AR.op0 (.load_a rfl hq' tg_37.h ts_37.h (nle rfl)) rfl rfl ?_
   refine a_z ?_
   refine AWp.cutB (fun _ : Unit => chooseS g l (i, qC (chooseL bf (l.take (i + 1))))) (fun _ => True) ?_ ?_
   ·by_cases h0 : i = 0
    ·subst h0
     have := ho0 rfl
     subst this
     rw [if_pos (.inl (by simp))] at hsn
     refine s_r 9 ?_
     refine a_3 ?_
     refine AR.opN rfl rfl (gn (by first | rfl | assumption | exact decide_eq_true (by omega) | (simp; done) | (simp; omega))) rfl rfl ?_
     refine AR.opN rfl rfl (gn (by first | rfl | assumption | exact decide_eq_true (by omega) | (simp; done) | (simp; omega))) rfl rfl ?_
     refine AR.opN rfl rfl (gn (by first | rfl | assumption | exact decide_eq_true (by omega) | (simp; done) | (simp; omega))) rfl rfl ?_
     refine AR.opN rfl rfl (gn (by first | rfl | assumption | exact decide_eq_true (by omega) | (simp; done) | (simp; omega))) rfl rfl ?_
     refine AR.opN rfl rfl (gn (by first | rfl | assumption | exact decide_eq_true (by omega) | (simp; done) | (simp; omega))) rfl rfl ?_
     refine o_0 (.pickT rfl (by first | rfl | assumption | exact decide_eq_true (by omega) | (simp; done) | (simp; omega)) rfl) ?_
     refine AR.nil ?_
     refine AWp.cond rfl (fun h => ?_) (fun h => ?_)
     ·refine AWp.reg (m := 2) rfl ?_
      refine a_z ?_
      refine ⟨(), trivial, ?_⟩
      simp only [chooseS_mk]
      rw [hsn]
      exact s_e []
     ·cases h
    ·have ho' : o = qC (chooseL bf (l.take i)) := ho h0
     subst ho'
     have hne : l.take i ≠ [] := fun h => by
      have := congrArg List.length h
      rw [List.length_take, List.length_nil] at this; omega
     refine s_r 9 ?_
     refine a_3 ?_
     refine AR.op0y rfl rfl (gy (by simp; omega)) (.move rfl) rfl rfl ?_
     first | refine AR.op0y rfl rfl (gy (by simp; omega)) (.load_l rfl rfl rfl tg_37.h ts_37.h (nle rfl)) rfl rfl ?_ | refine AR.op0y rfl rfl (gy (by simp; omega)) (.load_a rfl rfl tg_37.h ts_37.h (nle rfl)) rfl rfl ?_
     first | refine AR.op0y rfl rfl (gy (by simp; omega)) (.load_l rfl rfl rfl tg_37.h ts_37.h (nle rfl)) rfl rfl ?_ | refine AR.op0y rfl rfl (gy (by simp; omega)) (.load_a rfl rfl tg_37.h ts_37.h (nle rfl)) rfl rfl ?_
     refine AR.op0y rfl rfl (gy (by simp; omega)) (.call rfl rfl rfl (fs_cmp q (chooseL bf (l.take i)) hsq hst)) rfl rfl ?_
     refine AR.op0y rfl rfl (gy (by simp; omega)) (.call rfl rfl rfl (hg (cmpQ q (chooseL bf (l.take i))))) rfl rfl ?_
     refine o_0 (.pickF rfl (by simp; omega) rfl) ?_
     refine AR.nil ?_
     refine AWp.cond rfl (fun h1 => ?_) (fun h1 => ?_)
     ·refine AWp.reg (m := 2) rfl ?_
      refine a_z ?_
      refine ⟨(), trivial, ?_⟩
      simp only [chooseS_mk]
      rw [hsn, if_pos (.inr h1)]
      exact s_e []
     ·refine AWp.skip ⟨(), trivial, ?_⟩
      simp only [chooseS_mk]
      rw [hsn, if_neg (fun hh => hh.elim hne fun h2 => by rw [h1] at h2; cases h2)]
      exact s_e []
   rintro _ _
   rw [chooseS_mk]
   refine AWp.reg (m := 2) rfl ?_
   refine a_z ?_
   refine ⟨(i + 1, qC (chooseL bf (l.take (i + 1)))), by simp only; omega, ⟨by simp only; omega, fun h => absurd h (by simp), fun _ => rfl⟩, ?_⟩
   simp only [chooseS_mk]
   exact s_e []
  ·have hge : i = l.length := by simp at h; omega
   refine AWp.exit ⟨(), trivial, ?_⟩
   subst hge
   by_cases h0 : l.length = 0
   ·have := ho0 h0
    subst this
    have : chooseL bf l = 0 := by
     rw [List.length_eq_zero_iff] at h0; rw [h0]; rfl
    rw [this, qC0]
    exact s_e []
   ·have := ho h0
    subst this
    rw [List.take_length]
    exact s_e []
 rintro _ _
 refine r_z 2 ?_
 refine AWp.ret ?_
 refine Fin.cellE rfl rfl rfl tg_37.h ts_37.h (nle rfl) ?_ ?_
 ·rfl
 ·exact closed_qA _
theorem fs_Min (l : List Rat) (hl : smL l) (hln : l.length ≤ 1099511627776) : FSpec Tryz.prog 203 [.arr (pE l)] (.agg (qC (minL l))) := by
 refine FSpec.enter Tryz.func203 rfl (by kernel_rfl) rfl rfl rfl ?_ rfl ?_
 ·exact closed_cons (closed_pA l) closed_nil
 refine r_z 1 ?_
 refine r_c 3 (fs_choose 255 _ fs_Min1 l hl hln) ?_
 refine a_z ?_
 refine AWp.ret ?_
 refine Fin.cellE rfl rfl rfl tg_37.h ts_37.h (nle rfl) ?_ ?_
 ·rfl
 ·exact closed_qA _
theorem fs_Max (l : List Rat) (hl : smL l) (hln : l.length ≤ 1099511627776) : FSpec Tryz.prog 204 [.arr (pE l)] (.agg (qC (maxL l))) := by
 refine FSpec.enter Tryz.func204 rfl (by kernel_rfl) rfl rfl rfl ?_ rfl ?_
 ·exact closed_cons (closed_pA l) closed_nil
 refine r_z 1 ?_
 refine r_c 3 (fs_choose 256 _ fs_Max1 l hl hln) ?_
 refine a_z ?_
 refine AWp.ret ?_
 refine Fin.cellE rfl rfl rfl tg_37.h ts_37.h (nle rfl) ?_ ?_
 ·rfl
 ·exact closed_qA _
theorem smL_two {a b : Rat} (ha : sm a) (hb : sm b) : smL [a, b] := by
 intro q hq
 simp at hq
 rcases hq with rfl | rfl
 ·exact ha
 ·exact hb
theorem fs_SHull (a b c d : Rat) (ha : sm a) (hb : sm b) (hc : sm c) (hd : sm d) : FSpec Tryz.prog 129 [.agg (spC a b), .agg (spC c d)] (.agg (spC (minL [a, c]) (maxL [b, d]))) := by
 refine FSpec.enter Tryz.func129 rfl (by kernel_rfl) rfl rfl rfl ?_ rfl ?_
 ·exact closed_cons (closed_spA a b) (closed_cons (closed_spA c d) closed_nil)
 refine r_z 3 ?_
 refine AWp.seq ?_
 refine AWp.regD hmix (m := 14) rfl ?_
 refine a_5 ?_
 refine o_1 (.callS1 rfl rfl rfl (.shut rfl (by first | exact nle rfl | (simp; done) | (simp; omega)) (.nil)) rfl (fs_Min [a, c] (smL_two ha hc) (by simp))) ?_
 refine a_5 ?_
 refine o_1 (.callS1 rfl rfl rfl (.shut rfl (by first | exact nle rfl | (simp; done) | (simp; omega)) (.nil)) rfl (fs_Max [b, d] (smL_two hb hd) (by simp))) ?_
 refine a_2 ?_
 refine AR.nil ⟨by kernel_rfl, ?_⟩
 refine AWp.ret ?_
 refine Fin.cellE rfl rfl rfl tg_65.h ts_65.h (nle rfl) ?_ ?_
 ·rfl
 ·exact closed_spA _ _
theorem fs_spanned (l : List Rat) (hl : smL l) (hln : l.length ≤ 1099511627776) : FSpec Tryz.prog 288 [.arr (pE l)] (.agg (spC (minL l) (maxL l))) := by
 refine FSpec.enter Tryz.func288 rfl (by kernel_rfl) rfl rfl rfl ?_ rfl ?_
 ·exact closed_cons (closed_pA l) closed_nil
 refine r_z 1 ?_
 refine r_c 6 (fs_Min l hl hln) ?_
 refine c_s (fs_Max l hl hln) ?_
 refine a_z ?_
 refine AWp.ret ?_
 refine Fin.cellE rfl rfl rfl tg_65.h ts_65.h (nle rfl) ?_ ?_
 ·rfl
 ·exact closed_spA _ _
section
variable {P : Go.Program} {T : Nat} {x y : Operand}
theorem binS_add {l m : List UInt8} (h : l.length + m.length ≤ 9223372036854775807) : ∀ w, (do eqGuard .add T x y (.string ⟨l.toArray⟩) (.string ⟨m.toArray⟩); binOp .add T (.string ⟨l.toArray⟩) (.string ⟨m.toArray⟩) : Sem Value).run P w = .ok (.string ⟨(l ++ m).toArray⟩) w := fun w => by
 have hm : IntKind.i64.max = 9223372036854775807 := by decide
 have e : (⟨l.toArray⟩ : ByteArray) ++ ⟨m.toArray⟩ = ⟨(l ++ m).toArray⟩ := by
  apply ByteArray.ext; simp
 have hn : ¬ ((((⟨l.toArray⟩ : ByteArray).size + (⟨m.toArray⟩ : ByteArray).size : Nat) : Int) > IntKind.i64.max) := by
  rw [size_tx, size_tx, hm]; omega
 simp only [eqGuard, binOp, Op.stringOp, hn, if_false, e, Sem.run_bind, Sem.run_pure, Result.andThen_ok]
 rfl
end
def textQ (q : Rat) : List UInt8 := ((if q.num < 0 then [45] else []) ++ dec2 q.num.natAbs) ++ (if q.den = 1 then [] else 47 :: dec2 q.den)
def okT (q : Rat) : Prop := q.num.natAbs < 100 ∧ q.den < 100
instance (q : Rat) : Decidable (okT q) := inferInstanceAs (Decidable (_ ∧ _))
theorem okT_qs {q : Rat} (h : okT q) : qs q ≤ 1099511627776 := by
 obtain ⟨h1, h2⟩ := h
 have e1 := bl_le (n := q.num.natAbs) (k := 7) (by omega)
 have e2 := bl_le (n := q.den) (k := 7) (by omega)
 unfold qs; omega
theorem textQ_len {q : Rat} : (textQ q).length ≤ 6 ∧ 1 ≤ (textQ q).length := by
 have h1 := dec2_len q.num.natAbs
 have h2 := dec2_len q.den
 have h3 := List.length_pos_iff.2 (dec2_ne q.num.natAbs)
 unfold textQ
 split <;> split <;> simp <;> omega
def qtS (q : Rat) : List UInt8 → AState
 | l => ⟨[(1, .aptr [qC q] 0 0), (3, tx l)], [], 2, 24⟩
theorem qtS_mk (q : Rat) (l : List UInt8) : qtS q l = ⟨[(1, .aptr [qC q] 0 0), (3, tx l)], [], 2, 24⟩ := rfl
theorem fs_QText (q : Rat) (h : okT q) : FSpec Tryz.prog 89 [.agg (qC q)] (tx (textQ q)) := by
 have hd1 := dec2_len q.num.natAbs
 have hd2 := dec2_len q.den
 have hden : 1 ≤ q.den := q.den_pos
 refine FSpec.enter Tryz.func89 rfl (by kernel_rfl) rfl rfl rfl ?_ rfl ?_
 ·exact closed_cons (closed_qA q) closed_nil
 refine r_z 2 ?_
 refine AWp.ent (st' := ⟨[(1, .aptr [qC q] 0 0)], [], 2, 24⟩) ?_ ?_
 ·exact s_e []
 refine r_c 5 (fs_mtext q.num.natAbs h.1) ?_
 refine a_z ?_
 refine AWp.cut (qtS q) (fun l => l = (if q.num < 0 then [45] else []) ++ dec2 q.num.natAbs) ?_ ?_
 ·refine r_z 3 ?_
  refine AWp.cond rfl (fun h1 => ?_) (fun h1 => ?_)
  ·have h2 : q.num < 0 := by simpa using h1
   refine AWp.reg (m := 3) rfl ?_
   refine a_1 ?_
   refine o_0 (.bin rfl rfl (binS_add (l := [45]) (by simp; omega))) ?_
   refine a_z ?_
   refine ⟨_, by rw [if_pos h2], ?_⟩
   rw [qtS_mk]
   refine SEnt.to [] rfl rfl rfl au_r (fun hs => ?_) (fun hs => ?_)
   ·repeat' (first | exact CvF.nil | refine CvF.cons rfl ?_ ?_)
    all_goals (first | (exact Cv.clo hs (closed_box (closed_qC q))) | exact au_c)
   ·repeat' (first | exact CvH.nil | refine CvH.cons rfl rfl rfl rfl ?_ ?_)
    all_goals (first | exact au_e | (refine CvLL.box ?_; repeat' (first | exact CvL.nil | refine CvL.cons ?_ ?_)))
    all_goals (first | (exact Cv.clo hs (closed_box (closed_qC q))) | exact au_c)
  ·have h2 : ¬ q.num < 0 := by simpa using h1
   refine AWp.skip ⟨dec2 q.num.natAbs, by rw [if_neg h2]; rfl, ?_⟩
   rw [qtS_mk]
   refine SEnt.to [] rfl rfl rfl au_r (fun hs => ?_) (fun hs => ?_)
   ·repeat' (first | exact CvF.nil | refine CvF.cons rfl ?_ ?_)
    all_goals (first | (exact Cv.clo hs (closed_box (closed_qC q))) | exact au_c)
   ·repeat' (first | exact CvH.nil | refine CvH.cons rfl rfl rfl rfl ?_ ?_)
    all_goals (first | exact au_e | (refine CvLL.box ?_; repeat' (first | exact CvL.nil | refine CvL.cons ?_ ?_)))
    all_goals (first | (exact Cv.clo hs (closed_box (closed_qC q))) | exact au_c)
 rintro l hl
 have hll : l.length ≤ 3 := by rw [hl]; split <;> simp <;> omega
 rw [qtS_mk]
 refine AWp.cut (qtS q) (fun l => l = textQ q) ?_ ?_
 ·refine r_c 4 (fs_mzero (q.den - 1)) ?_
  refine a_z ?_
  refine AWp.cond rfl (fun h1 => ?_) (fun h1 => ?_)
  ·have h2 : ¬ q.den = 1 := by
    intro e; rw [e] at h1; simp at h1
   refine AWp.reg (m := 7) rfl ?_
   refine c_s (fs_bottom q (okT_qs h)) ?_
   refine c_s (fs_mtext q.den h.2) ?_
   refine o_0 (.bin rfl rfl (binS_add (l := [47]) (by simp; omega))) ?_
   refine o_0 (.bin rfl rfl (binS_add (by simp; omega))) ?_
   refine a_z ?_
   refine ⟨_, by unfold textQ; rw [if_neg h2, ← hl], ?_⟩
   rw [qtS_mk]
   refine SEnt.to [] rfl rfl rfl au_r (fun hs => ?_) (fun hs => ?_)
   ·repeat' (first | exact CvF.nil | refine CvF.cons rfl ?_ ?_)
    all_goals (first | (exact Cv.clo hs (closed_box (closed_qC q))) | exact au_c)
   ·repeat' (first | exact CvH.nil | refine CvH.cons rfl rfl rfl rfl ?_ ?_)
    all_goals (first | exact au_e | (refine CvLL.box ?_; repeat' (first | exact CvL.nil | refine CvL.cons ?_ ?_)))
    all_goals (first | (exact Cv.clo hs (closed_box (closed_qC q))) | exact au_c)
  ·have h2 : q.den = 1 := by
    have h3 : q.den - 1 = 0 := by simpa using h1
    omega
   refine AWp.skip ⟨l, by unfold textQ; rw [if_pos h2, ← hl, List.append_nil], ?_⟩
   rw [qtS_mk]
   refine SEnt.to [] rfl rfl rfl au_r (fun hs => ?_) (fun hs => ?_)
   ·repeat' (first | exact CvF.nil | refine CvF.cons rfl ?_ ?_)
    all_goals (first | (exact Cv.clo hs (closed_box (closed_qC q))) | exact au_c)
   ·repeat' (first | exact CvH.nil | refine CvH.cons rfl rfl rfl rfl ?_ ?_)
    all_goals (first | exact au_e | (refine CvLL.box ?_; repeat' (first | exact CvL.nil | refine CvL.cons ?_ ?_)))
    all_goals (first | (exact Cv.clo hs (closed_box (closed_qC q))) | exact au_c)
 rintro l rfl
 rw [qtS_mk]
 refine r_z 2 ?_
 refine AWp.ret ?_
 refine Fin.tmpE rfl ?_ ?_
 ·rfl
 ·exact closed_v _
def textSp (s : Rat × Rat) : List UInt8 := [91] ++ textQ s.1 ++ [32] ++ textQ s.2 ++ [93]
theorem fs_SText (s : Rat × Rat) (h1 : okT s.1) (h2 : okT s.2) : FSpec Tryz.prog 88 [.agg (spC s.1 s.2)] (tx (textSp s)) := by
 have e1 := (textQ_len (q := s.1)).1
 have e2 := (textQ_len (q := s.2)).1
 refine FSpec.enter Tryz.func88 rfl (by kernel_rfl) rfl rfl rfl ?_ rfl ?_
 ·exact closed_cons (closed_spA _ _) closed_nil
 refine r_z 2 ?_
 refine AWp.seq ?_
 refine AWp.regD hmix (m := 11) rfl ?_
 refine c_s (fs_QText s.1 h1) ?_
 refine o_0 (.bin rfl rfl (binS_add (l := [91]) (by simp; omega))) ?_
 refine o_0 (.bin rfl rfl (binS_add (m := [32]) (by simp; omega))) ?_
 refine c_s (fs_QText s.2 h2) ?_
 refine o_0 (.bin rfl rfl (binS_add (by simp; omega))) ?_
 refine o_0 (.bin rfl rfl (binS_add (m := [93]) (by simp; omega))) ?_
 refine a_1 ?_
 refine AR.nil ⟨by kernel_rfl, ?_⟩
 refine AWp.ret ?_
 refine Fin.tmpE rfl ?_ ?_
 ·rfl
 ·exact closed_v _
theorem fs_ends (g : Nat) (op : Rat → Rat → Rat) (a b c d : Rat) (h1 : FSpec Tryz.prog g [.agg (qC a), .agg (qC c)] (.agg (qC (op a c)))) (h2 : FSpec Tryz.prog g [.agg (qC a), .agg (qC d)] (.agg (qC (op a d)))) (h3 : FSpec Tryz.prog g [.agg (qC b), .agg (qC c)] (.agg (qC (op b c)))) (h4 : FSpec Tryz.prog g [.agg (qC b), .agg (qC d)] (.agg (qC (op b d))))
    (hs : smL [op a c, op a d, op b c, op b d]) : FSpec Tryz.prog 276 [.clos g [] [], .agg (spC a b), .agg (spC c d)] (.agg (spC (minL [op a c, op a d, op b c, op b d]) (maxL [op a c, op a d, op b c, op b d]))) := by
 refine FSpec.enter Tryz.func276 rfl (by kernel_rfl) rfl rfl rfl ?_ rfl ?_
 ·exact closed_cons (closed_clos closed_nil closed_nil) (closed_cons (closed_spA a b) (closed_cons (closed_spA c d) closed_nil))
 refine r_z 3 ?_
 refine AWp.seq ?_
 refine AWp.regD hmix (m := 27) rfl ?_
 refine c_s (h1) ?_
 refine c_s (h2) ?_
 refine c_s (h3) ?_
 refine c_s (h4) ?_
 refine a_1 ?_
 refine o_1 (.callS1 rfl rfl rfl (.shut rfl (by first | exact nle rfl | (simp; done) | (simp; omega)) (.nil)) rfl (fs_spanned [op a c, op a d, op b c, op b d] hs (by simp))) ?_
 refine a_1 ?_
 refine AR.nil ⟨by kernel_rfl, ?_⟩
 refine AWp.ret ?_
 refine Fin.cellE rfl rfl rfl tg_65.h ts_65.h (nle rfl) ?_ ?_
 ·rfl
 ·exact closed_spA _ _
theorem fs_SMul (a b c d : Rat) (ha : sm a) (hb : sm b) (hc : sm c) (hd : sm d) (hs : smL [a * c, a * d, b * c, b * d]) : FSpec Tryz.prog 247 [.agg (spC a b), .agg (spC c d)] (.agg (spC (minL [a * c, a * d, b * c, b * d]) (maxL [a * c, a * d, b * c, b * d]))) := by
 refine FSpec.enter Tryz.func247 rfl (by kernel_rfl) rfl rfl rfl ?_ rfl ?_
 ·exact closed_cons (closed_spA a b) (closed_cons (closed_spA c d) closed_nil)
 refine r_z 3 ?_
 refine r_c 4 (fs_ends 22 (fun x y => x * y) a b c d (fs_mul a c (sm2 ha hc)) (fs_mul a d (sm2 ha hd)) (fs_mul b c (sm2 hb hc)) (fs_mul b d (sm2 hb hd)) hs) ?_
 refine a_z ?_
 refine AWp.ret ?_
 refine Fin.cellE rfl rfl rfl tg_65.h ts_65.h (nle rfl) ?_ ?_
 ·rfl
 ·exact closed_spA _ _
theorem qs_int (n : Int) : qs (n : Rat) ≤ max (bl n.natAbs) 1 := by
 have e1 : (n : Rat).num = n := rfl
 have e2 : (n : Rat).den = 1 := rfl
 unfold qs; rw [e1, e2, bl_one]; exact Nat.le_refl _
theorem qs_i64 {n : Int} (h : -9223372036854775808 ≤ n ∧ n ≤ 9223372036854775807) : qs (n : Rat) ≤ 64 := by
 have h1 := qs_int n
 have h2 : bl n.natAbs ≤ 64 := bl_le (Nat.lt_of_le_of_lt (show n.natAbs ≤ 9223372036854775808 by omega) (by decide))
 omega
theorem fs_Of (n d : Int) (hn : -9223372036854775808 ≤ n ∧ n ≤ 9223372036854775807) (hd : -9223372036854775808 ≤ d ∧ d ≤ 9223372036854775807) (h0 : d ≠ 0) : FSpec Tryz.prog 87 [i64 n, i64 d] (.tup [.agg (qC ((n : Rat) / (d : Rat))), i64 0]) := by
 have h1 := qs_i64 hn
 have h2 := qs_i64 hd
 have hd0 : (d : Rat) ≠ 0 := by
  intro h
  have : (d : Rat).num = 0 := by rw [h]; rfl
  exact h0 this
 refine FSpec.enter Tryz.func87 rfl (by kernel_rfl) rfl rfl rfl ?_ rfl ?_
 ·exact closed_cons (closed_v _) (closed_cons (closed_v _) closed_nil)
 refine r_z 2 ?_
 refine r_c 9 (fs_Int n hn) ?_
 refine c_s (fs_Int d hd) ?_
 refine c_s (fs_div (n : Rat) (d : Rat) hd0 (by omega)) ?_
 refine a_z ?_
 refine AWp.ret ?_
 refine Fin.many ⟨_, _, rfl, ⟨_, _, _, _, _, rfl, rfl, rfl, .inl ⟨tg_37.h, _, ts_37.h, nle rfl, rfl⟩⟩, ⟨_, _, rfl, rfl, rfl⟩⟩ (nle rfl) ?_
 exact CvL.cons (Cv.clo shr_nil (closed_qA _)) (CvL.cons (Cv.clo shr_nil (closed_v _)) CvL.nil)
end Go.Proofs.YtdhedjbmdnnbkaaGreatDoor
namespace Go.Abs
def trimQ : List Rat → List Rat
 | [] => []
 | a :: l => match trimQ l with
  | [] => if a = 0 then [] else [a]
  | b :: m => a :: b :: m
theorem trimQ_cons (a : Rat) (l : List Rat) : trimQ (a :: l) = if trimQ l = [] then (if a = 0 then [] else [a]) else a :: trimQ l := by
 rw [trimQ]
 cases h : trimQ l <;> simp
theorem trimQ_snoc (l : List Rat) (a : Rat) : trimQ (l ++ [a]) = if a = 0 then trimQ l else l ++ [a] := by
 induction l with
 | nil => simp [trimQ]
 | cons b l ih =>
  rw [List.cons_append, trimQ_cons, ih, trimQ_cons]
  by_cases h : a = 0
  ·simp only [if_pos h]
  ·simp [if_neg h]
theorem trimQ_len (l : List Rat) : (trimQ l).length ≤ l.length := by
 induction l with
 | nil => simp [trimQ]
 | cons a l ih => rw [trimQ_cons]; split <;> (try split) <;> simp <;> omega
theorem trimQ_pre (l : List Rat) : trimQ l = l.take (trimQ l).length := by
 induction l with
 | nil => simp [trimQ]
 | cons a l ih =>
  rw [trimQ_cons]
  split
  ·split <;> simp
  ·simp [← ih]
theorem trimQ_mem {l : List Rat} {q : Rat} (h : q ∈ trimQ l) : q ∈ l := by
 rw [trimQ_pre] at h; exact List.mem_of_mem_take h
theorem trimQ_last {l : List Rat} {q : Rat} (h : (trimQ l).getLast? = some q) : q ≠ 0 := by
 induction l with
 | nil => simp [trimQ] at h
 | cons a l ih =>
  rw [trimQ_cons] at h
  split at h
  ·split at h
   ·cases h
   ·simp at h; subst h; assumption
  ·rename_i h0
   rw [List.getLast?_cons_of_ne_nil h0] at h
   exact ih h
theorem trimQ_idem (l : List Rat) : trimQ (trimQ l) = trimQ l := by
 rcases List.eq_nil_or_concat (trimQ l) with h | ⟨m, q, h⟩
 ·rw [h]; rfl
 ·have hq : q ≠ 0 := trimQ_last (l := l) (by rw [h]; simp)
  rw [h, List.concat_eq_append, trimQ_snoc, if_neg hq]
theorem smL_trim {l : List Rat} (h : smL l) : smL (trimQ l) := fun q hq => h q (trimQ_mem hq)
def degP (l : List Rat) : Int := (trimQ l).length - 1
def leadP (l : List Rat) : Rat := (trimQ l).getLastD 0
theorem leadP_ne {l : List Rat} (h : trimQ l ≠ []) : leadP l ≠ 0 := by
 unfold leadP
 refine trimQ_last (l := l) (q := (trimQ l).getLastD 0) ?_
 rw [List.getLastD_eq_getLast?]
 cases hl : (trimQ l).getLast? with
 | none => exact absurd (List.getLast?_eq_none_iff.1 hl) h
 | some q => rfl
theorem leadP_nil {l : List Rat} (h : trimQ l = []) : leadP l = 0 := by unfold leadP; rw [h]; rfl
theorem leadP_get {l : List Rat} {n : Nat} (h : (trimQ l).length = n + 1) : (trimQ l)[n]? = some (leadP l) := by
 unfold leadP
 rw [List.getLastD_eq_getLast?, List.getLast?_eq_getElem?, h, Nat.add_sub_cancel, List.getElem?_eq_getElem (by omega)]; rfl
theorem leadP_sm {l : List Rat} (h : smL l) : sm (leadP l) := by
 by_cases h0 : trimQ l = []
 ·rw [leadP_nil h0]; decide
 ·obtain ⟨n, hn⟩ : ∃ n, (trimQ l).length = n + 1 := ⟨(trimQ l).length - 1, by have := List.length_pos_iff.2 h0; omega⟩
  exact h _ (trimQ_mem (List.mem_of_getElem? (leadP_get hn)))
def tabP (n : Nat) (f : Nat → Rat) : List Rat := (List.range n).map f
@[simp] theorem tabP_length (n : Nat) (f : Nat → Rat) : (tabP n f).length = n := by simp [tabP]
def coP (p : List Rat) (i : Nat) : Rat := p.getD i 0
def addP (p q : List Rat) : List Rat := trimQ (tabP (max p.length q.length) fun i => coP p i + coP q i)
def scaleP (p : List Rat) (k : Rat) : List Rat := trimQ (tabP p.length fun i => coP p i * k)
def subP (p q : List Rat) : List Rat := addP p (scaleP q (-1))
def constP (a : Rat) : List Rat := trimQ [a]
def deriveP (p : List Rat) : List Rat := trimQ (tabP (p.length - 1) fun i => coP p (i + 1) * ((i + 1 : Nat) : Int))
def integralP (p : List Rat) : List Rat := trimQ (tabP (p.length + 1) fun i => if i = 0 then 0 else coP p (i - 1) / ((i : Nat) : Int))
def sameP (p q : List Rat) : Bool := decide (trimQ p = trimQ q)
def monicP (p : List Rat) : List Rat := if trimQ p = [] then [] else scaleP p (1 / leadP p)
theorem coP_sm {p : List Rat} (h : smL p) (i : Nat) : sm (coP p i) := by
 unfold coP
 rw [List.getD_eq_getElem?_getD]
 cases hi : p[i]? with
 | none => exact (by decide : sm 0)
 | some q => exact h q (List.mem_of_getElem? hi)
theorem coP_get {p : List Rat} {i : Nat} (h : i < p.length) : p[i]? = some (coP p i) := by
 unfold coP; rw [List.getD_eq_getElem?_getD, List.getElem?_eq_getElem h]; rfl
theorem coP_out {p : List Rat} {i : Nat} (h : p.length ≤ i) : coP p i = 0 := by
 unfold coP; rw [List.getD_eq_getElem?_getD, List.getElem?_eq_none h]; rfl
theorem closed_zC : ∀ c ∈ zC, Closed c := closed_cons closed_emp (closed_cons (closed_v _) (closed_cons closed_emp closed_nil))
theorem le_zC : LeL zC (qC 0) := by rw [qC0]; exact .cons .emp (.cons (.refl _) (.cons .emp .nil))
def bdL (l : List Rat) (n : Nat) : Prop := ∀ q ∈ l, qs q ≤ n
instance (l : List Rat) (n : Nat) : Decidable (bdL l n) := inferInstanceAs (Decidable (∀ q ∈ l, qs q ≤ n))
theorem bdL_sm {l : List Rat} {n : Nat} (h : bdL l n) (hn : n ≤ 137438953472) : smL l := fun q hq => Nat.le_trans (h q hq) hn
theorem bdL_co {l : List Rat} {n : Nat} (h : bdL l n) (hn : 1 ≤ n) (i : Nat) : qs (coP l i) ≤ n := by
 unfold coP
 rw [List.getD_eq_getElem?_getD]
 cases hi : l[i]? with
 | none => exact Nat.le_trans (by decide : qs 0 ≤ 1) hn
 | some q => exact h q (List.mem_of_getElem? hi)
def addAt (o : List Rat) (j : Nat) (x : Rat) : List Rat := o.set j (coP o j + x)
def rowP (o : List Rat) (a : Rat) (q : List Rat) (i : Nat) : Nat → List Rat
 | 0 => o
 | k + 1 => addAt (rowP o a q i k) (i + k) (a * coP q k)
def mulR (p q : List Rat) : Nat → List Rat
 | 0 => List.replicate (p.length + q.length - 1) 0
 | i + 1 => if coP p i = 0 then mulR p q i else rowP (mulR p q i) (coP p i) q i q.length
def mulP (p q : List Rat) : List Rat := if p = [] ∨ q = [] then [] else trimQ (mulR p q p.length)
@[simp] theorem addAt_length (o : List Rat) (j : Nat) (x : Rat) : (addAt o j x).length = o.length := by simp [addAt]
@[simp] theorem rowP_length (o : List Rat) (a : Rat) (q : List Rat) (i k : Nat) : (rowP o a q i k).length = o.length := by
 induction k with
 | zero => rfl
 | succ k ih => rw [rowP, addAt_length, ih]
@[simp] theorem mulR_length (p q : List Rat) (i : Nat) : (mulR p q i).length = p.length + q.length - 1 := by
 induction i with
 | zero => simp [mulR]
 | succ i ih => rw [mulR]; split <;> simp [ih]
theorem coP_addAt (o : List Rat) (j n : Nat) (x : Rat) : coP (addAt o j x) n = if n = j ∧ j < o.length then coP o j + x else coP o n := by
 unfold addAt coP
 rw [List.getD_eq_getElem?_getD, List.getElem?_set, List.getD_eq_getElem?_getD, List.getD_eq_getElem?_getD]
 by_cases h : j = n
 ·subst h
  by_cases h2 : j < o.length
  ·simp [h2]
  ·simp [h2]
 ·rw [if_neg h, if_neg (by omega)]
theorem coP_bd {o : List Rat} {n : Nat} (h : ∀ i, qs (coP o i) ≤ n) : bdL o n := by
 intro q hq
 obtain ⟨i, hi, rfl⟩ := List.getElem_of_mem hq
 have := h i
 unfold coP at this
 rwa [List.getD_eq_getElem?_getD, List.getElem?_eq_getElem hi] at this
theorem rowP_out (o : List Rat) (a : Rat) (q : List Rat) (i k n : Nat) (h : n < i ∨ i + k ≤ n) : coP (rowP o a q i k) n = coP o n := by
 induction k with
 | zero => rfl
 | succ k ih => rw [rowP, coP_addAt, if_neg (by omega), ih (by omega)]
theorem rowP_bd {o : List Rat} {a : Rat} {q : List Rat} {B s t : Nat} (i : Nat) (ho : ∀ n, qs (coP o n) ≤ B) (ha : qs a ≤ s) (hq : ∀ n, qs (coP q n) ≤ t) : ∀ k n, qs (coP (rowP o a q i k) n) ≤ B + (s + t + 1)
 | 0, n => Nat.le_trans (ho n) (by omega)
 | k + 1, n => by
  rw [rowP, coP_addAt]
  split
  ·rw [rowP_out o a q i k (i + k) (by omega)]
   have h1 := qs_add (coP o (i + k)) (a * coP q k)
   have h2 := qs_mul a (coP q k)
   have h3 := ho (i + k)
   have h4 := hq k
   omega
  ·exact rowP_bd i ho ha hq k n
theorem mulR_bd {p q : List Rat} {s t : Nat} (hp : ∀ n, qs (coP p n) ≤ s) (hq : ∀ n, qs (coP q n) ≤ t) : ∀ i n, qs (coP (mulR p q i) n) ≤ i * (s + t + 1) + 1
 | 0, n => by
  have : coP (mulR p q 0) n = 0 := by
   unfold mulR coP
   rw [List.getD_eq_getElem?_getD, List.getElem?_replicate]
   split <;> rfl
  rw [this]
  exact Nat.le_add_left 1 _
 | i + 1, n => by
  rw [mulR, Nat.add_mul, Nat.one_mul]
  split
  ·have := mulR_bd hp hq i n; omega
  ·have := rowP_bd (B := i * (s + t + 1) + 1) i (mulR_bd hp hq i) (hp i) hq q.length n
   omega
theorem mulP_bd {p q : List Rat} {s t : Nat} (hp : bdL p s) (hq : bdL q t) (hs : 1 ≤ s) (ht : 1 ≤ t) : bdL (mulP p q) (p.length * (s + t + 1) + 1) := by
 unfold mulP
 split
 ·intro q hq; cases hq
 ·intro x hx
  exact coP_bd (mulR_bd (bdL_co hp hs) (bdL_co hq ht) p.length) x (trimQ_mem hx)
theorem CvLL.zeros {r : Ren} {hp hp' : Nat → Option ABlk} (h : Shr r hp hp') (n : Nat) : CvLL r hp hp' (List.replicate n zC) (pE (List.replicate n 0)) := by
 induction n with
 | zero => rfl
 | succ n ih =>
  refine ⟨qC 0, _, rfl, ?_, ih⟩
  rw [qC0]
  exact CvL.cons (Cv.emp _) (CvL.cons (Cv.clo h (closed_v _)) (CvL.cons (Cv.emp _) CvL.nil))
def subAt (o : List Rat) (j : Nat) (x : Rat) : List Rat := o.set j (coP o j - x)
def rowM (o : List Rat) (k : Rat) (q : List Rat) (n : Nat) : Nat → List Rat
 | 0 => o
 | i + 1 => subAt (rowM o k q n i) (n + i) (k * coP q i)
def divR (q : List Rat) (lead : Rat) : Nat → List Rat → List Rat → List Rat × List Rat
 | 0, u, o => (u, o)
 | n + 1, u, o => divR q lead n (u.set n (coP o (n + q.length - 1) / lead)) (if coP o (n + q.length - 1) / lead = 0 then o else rowM o (coP o (n + q.length - 1) / lead) q n q.length)
def divP (p q : List Rat) : List Rat × List Rat :=
 let r := divR (trimQ q) (leadP q) ((trimQ p).length + 1 - (trimQ q).length) (List.replicate ((trimQ p).length + 1 - (trimQ q).length) 0) (trimQ p)
 (trimQ r.1, trimQ r.2)
@[simp] theorem subAt_length (o : List Rat) (j : Nat) (x : Rat) : (subAt o j x).length = o.length := by simp [subAt]
@[simp] theorem rowM_length (o : List Rat) (a : Rat) (q : List Rat) (i k : Nat) : (rowM o a q i k).length = o.length := by
 induction k with
 | zero => rfl
 | succ k ih => rw [rowM, subAt_length, ih]
theorem divR_length (q : List Rat) (lead : Rat) : ∀ c u o, (divR q lead c u o).1.length = u.length ∧ (divR q lead c u o).2.length = o.length
 | 0, u, o => ⟨rfl, rfl⟩
 | n + 1, u, o => by
  rw [divR]
  refine ⟨(divR_length q lead n _ _).1.trans (by simp), (divR_length q lead n _ _).2.trans ?_⟩
  split <;> simp
theorem coP_set (o : List Rat) (j n : Nat) (x : Rat) : coP (o.set j x) n = if n = j ∧ j < o.length then x else coP o n := by
 unfold coP
 rw [List.getD_eq_getElem?_getD, List.getElem?_set, List.getD_eq_getElem?_getD]
 by_cases h : j = n
 ·subst h
  by_cases h2 : j < o.length
  ·simp [h2]
  ·simp [h2]
 ·rw [if_neg h, if_neg (by omega)]
theorem coP_subAt (o : List Rat) (j n : Nat) (x : Rat) : coP (subAt o j x) n = if n = j ∧ j < o.length then coP o j - x else coP o n := coP_set o j n _
theorem rowM_out (o : List Rat) (a : Rat) (q : List Rat) (i k n : Nat) (h : n < i ∨ i + k ≤ n) : coP (rowM o a q i k) n = coP o n := by
 induction k with
 | zero => rfl
 | succ k ih => rw [rowM, coP_subAt, if_neg (by omega), ih (by omega)]
theorem rowM_bd {o : List Rat} {a : Rat} {q : List Rat} {B s t : Nat} (i : Nat) (ho : ∀ n, qs (coP o n) ≤ B) (ha : qs a ≤ s) (hq : ∀ n, qs (coP q n) ≤ t) : ∀ k n, qs (coP (rowM o a q i k) n) ≤ B + (s + t + 1)
 | 0, n => Nat.le_trans (ho n) (by omega)
 | k + 1, n => by
  rw [rowM, coP_subAt]
  split
  ·rw [rowM_out o a q i k (i + k) (by omega)]
   have h1 := qs_sub (coP o (i + k)) (a * coP q k)
   have h2 := qs_mul a (coP q k)
   have h3 := ho (i + k)
   have h4 := hq k
   omega
  ·exact rowM_bd i ho ha hq k n
def divB (q : List Rat) (lead : Rat) (L c : Nat) (u o : List Rat) : Prop :=
 ∃ B t, (∀ n, qs (coP o n) ≤ B) ∧ (∀ n, qs (coP q n) ≤ t) ∧ qs lead ≤ t ∧ 1 ≤ t ∧ (∀ n, qs (coP u n) ≤ L) ∧ 2 ^ c * (B + 2 * t + 1) ≤ L
theorem divB_cur {q : List Rat} {lead : Rat} {L c : Nat} {u o : List Rat} (h : divB q lead L c u o) : ∃ B t, (∀ n, qs (coP o n) ≤ B) ∧ (∀ n, qs (coP q n) ≤ t) ∧ qs lead ≤ t ∧ B + 2 * t + 1 ≤ L := by
 obtain ⟨B, t, h1, h2, h3, h4, h5, h6⟩ := h
 refine ⟨B, t, h1, h2, h3, Nat.le_trans ?_ h6⟩
 have := Nat.mul_le_mul_right (B + 2 * t + 1) (Nat.one_le_two_pow (n := c))
 omega
theorem divB_step {q : List Rat} {lead : Rat} {L n : Nat} {u o : List Rat} (h : divB q lead L (n + 1) u o) :
    divB q lead L n (u.set n (coP o (n + q.length - 1) / lead)) (if coP o (n + q.length - 1) / lead = 0 then o else rowM o (coP o (n + q.length - 1) / lead) q n q.length) := by
 obtain ⟨B, t, h1, h2, h3, h4, h5, h6⟩ := h
 obtain ⟨k, hk⟩ : ∃ k, k = coP o (n + q.length - 1) / lead := ⟨_, rfl⟩
 have hkb : qs k ≤ B + t := by
  have e1 := qs_div (coP o (n + q.length - 1)) lead
  have e2 := h1 (n + q.length - 1)
  rw [hk]; omega
 rw [← hk]
 obtain ⟨W, hW⟩ : ∃ W, W = 2 ^ n := ⟨_, rfl⟩
 have hW1 : 1 ≤ W := by rw [hW]; exact Nat.one_le_two_pow
 rw [Nat.pow_succ, ← hW] at h6
 have h7 : W * (2 * B + 2 * t + 1 + 2 * t + 1) ≤ L := by
  rw [Nat.mul_assoc] at h6
  have e : 2 * B + 2 * t + 1 + 2 * t + 1 = 2 * (B + 2 * t + 1) := by omega
  rw [e]; exact h6
 have h8 : 2 * B + 2 * t + 1 + 2 * t + 1 ≤ L := by
  have := Nat.mul_le_mul_right (2 * B + 2 * t + 1 + 2 * t + 1) hW1
  omega
 refine ⟨2 * B + 2 * t + 1, t, fun j => ?_, h2, h3, h4, fun j => ?_, by rw [← hW]; exact h7⟩
 ·split
  ·have := h1 j; omega
  ·have := rowM_bd n h1 hkb h2 q.length j; omega
 ·rw [coP_set]
  split
  ·omega
  ·exact h5 j
theorem divR_bd {q : List Rat} {lead : Rat} {L : Nat} : ∀ {c u o}, divB q lead L c u o → (∀ n, qs (coP (divR q lead c u o).1 n) ≤ L) ∧ (∀ n, qs (coP (divR q lead c u o).2 n) ≤ L)
 | 0, u, o, h => by
  obtain ⟨B, t, h1, h2, h3, h6⟩ := divB_cur h
  obtain ⟨_, _, _, _, _, _, h5, _⟩ := h
  exact ⟨h5, fun n => Nat.le_trans (h1 n) (by omega)⟩
 | n + 1, u, o, h => divR_bd (c := n) (divB_step h)
def mxL (l : List Rat) : Nat := l.foldr (fun q n => max (qs q) n) 1
theorem mxL_pos (l : List Rat) : 1 ≤ mxL l := by
 induction l with
 | nil => exact Nat.le_refl _
 | cons q l ih => exact Nat.le_trans ih (Nat.le_max_right _ _)
theorem bdL_mx (l : List Rat) : bdL l (mxL l) := by
 induction l with
 | nil => intro q hq; cases hq
 | cons a l ih =>
  intro q hq
  rcases List.mem_cons.1 hq with rfl | hq
  ·exact Nat.le_max_left _ _
  ·exact Nat.le_trans (ih q hq) (Nat.le_max_right _ _)
theorem mxL_le {l : List Rat} {n : Nat} (h : bdL l n) (hn : 1 ≤ n) : mxL l ≤ n := by
 induction l with
 | nil => exact hn
 | cons a l ih => exact Nat.max_le.2 ⟨h a (List.mem_cons_self ..), ih fun q hq => h q (List.mem_cons_of_mem _ hq)⟩
def okDiv (p q : List Rat) : Prop := 2 ^ ((trimQ p).length + 1 - (trimQ q).length) * (mxL p + 2 * mxL q + 1) ≤ 137438953472 ∧ p.length ≤ 274877906944 ∧ q.length ≤ 274877906944
instance (p q : List Rat) : Decidable (okDiv p q) := inferInstanceAs (Decidable (_ ∧ _ ∧ _))
theorem divB_start {p q : List Rat} {s t L : Nat} (hp : bdL p s) (hq : bdL q t) (hs : 1 ≤ s) (ht : 1 ≤ t) (hq0 : trimQ q ≠ []) (m : Nat) (h : 2 ^ m * (s + 2 * t + 1) ≤ L) : divB (trimQ q) (leadP q) L m (List.replicate m 0) (trimQ p) := by
 have hL : 1 ≤ L := by
  have h3 := Nat.mul_le_mul_right (s + 2 * t + 1) (Nat.one_le_two_pow (n := m))
  omega
 have hql := List.length_pos_iff.2 hq0
 refine ⟨s, t, bdL_co (fun x hx => hp x (trimQ_mem hx)) hs, bdL_co (fun x hx => hq x (trimQ_mem hx)) ht, hq _ (trimQ_mem (List.mem_of_getElem? (leadP_get (n := (trimQ q).length - 1) (by omega)))), ht, fun n => ?_, h⟩
 have : coP (List.replicate m 0) n = 0 := by
  unfold coP
  rw [List.getD_eq_getElem?_getD, List.getElem?_replicate]
  split <;> rfl
 rw [this]
 exact Nat.le_trans (by decide : qs 0 ≤ 1) hL
theorem divP_bd {p q : List Rat} {s t L : Nat} (hp : bdL p s) (hq : bdL q t) (hs : 1 ≤ s) (ht : 1 ≤ t) (hq0 : trimQ q ≠ []) (h : 2 ^ ((trimQ p).length + 1 - (trimQ q).length) * (s + 2 * t + 1) ≤ L) : bdL (divP p q).1 L ∧ bdL (divP p q).2 L := by
 have := divR_bd (divB_start hp hq hs ht hq0 _ h)
 exact ⟨fun x hx => coP_bd this.1 x (trimQ_mem hx), fun x hx => coP_bd this.2 x (trimQ_mem hx)⟩
theorem divP_sm {p q : List Rat} (h : okDiv p q) (hq0 : trimQ q ≠ []) : smL (divP p q).1 ∧ smL (divP p q).2 :=
 have := divP_bd (bdL_mx p) (bdL_mx q) (mxL_pos p) (mxL_pos q) hq0 h.1
 ⟨bdL_sm this.1 (Nat.le_refl _), bdL_sm this.2 (Nat.le_refl _)⟩
theorem divP_len {p q : List Rat} : (divP p q).1.length ≤ p.length + 1 ∧ (divP p q).2.length ≤ p.length := by
 have h1 := divR_length (trimQ q) (leadP q) ((trimQ p).length + 1 - (trimQ q).length) (List.replicate ((trimQ p).length + 1 - (trimQ q).length) 0) (trimQ p)
 have h2 := trimQ_len p
 have h3 := trimQ_len (divR (trimQ q) (leadP q) ((trimQ p).length + 1 - (trimQ q).length) (List.replicate ((trimQ p).length + 1 - (trimQ q).length) 0) (trimQ p)).1
 have h4 := trimQ_len (divR (trimQ q) (leadP q) ((trimQ p).length + 1 - (trimQ q).length) (List.replicate ((trimQ p).length + 1 - (trimQ q).length) 0) (trimQ p)).2
 rw [h1.1, List.length_replicate] at h3
 rw [h1.2] at h4
 exact ⟨by unfold divP; simp only; omega, by unfold divP; simp only; omega⟩
theorem scaleP_len (p : List Rat) (k : Rat) : (scaleP p k).length ≤ p.length := by
 have := trimQ_len (tabP p.length fun i => coP p i * k)
 simpa [scaleP] using this
theorem monicP_len (p : List Rat) : (monicP p).length ≤ p.length := by
 unfold monicP; split
 ·simp
 ·exact scaleP_len _ _
def gcdM : Nat → List Rat → List Rat → Option (List Rat)
 | 0, _, _ => none
 | f + 1, p, q => if trimQ q = [] then (if smL p then some (monicP p) else none) else if okDiv p q then gcdM f q (monicP (divP p q).2) else none
def raiM : Nat → Rat → Rat → Nat → Option Rat
 | 0, _, _, _ => none
 | f + 1, out, a, n => if n = 0 then some out else if qs out + qs a ≤ 549755813888 ∧ qs a + qs a ≤ 549755813888 then raiM f (if n % 2 = 1 then out * a else out) (a * a) (n / 2) else none
def mulC (a b : Rat) : Option Rat := if qs a + qs b ≤ 549755813888 then some (a * b) else none
def resM : Nat → Rat → List Rat → List Rat → Option Rat
 | 0, _, _, _ => none
 | f + 1, out, p, q =>
  if p.length ≤ 274877906944 ∧ q.length ≤ 274877906944 then
   if degP p < 0 ∨ degP q < 0 then some 0
   else if degP q = 0 then (raiM 64 1 (leadP q) (degP p).toNat).bind (mulC out)
   else if degP p < degP q then resM f (if degP p % 2 = 1 ∧ degP q % 2 = 1 then -out else out) q p
   else if okDiv p q then
    if degP (divP p q).2 < 0 then some 0
    else (raiM 64 1 (leadP q) (degP p - degP (divP p q).2).toNat).bind fun x => (mulC out x).bind fun y =>
     resM f (if (degP p - degP (divP p q).2) % 2 = 1 ∧ degP q % 2 = 1 then -y else y) (divP p q).2 q
   else none
  else none
end Go.Abs
namespace Go.Proofs.YtdhedjbmdnnbkaaGreatDoor
open Go.Abs
set_option maxRecDepth 20000
theorem fs_Clone (l : List Rat) (hl : l.length ≤ 1099511627776) : FSpec Tryz.prog 150 [.arr (pE l)] (.arr (pE l)) := by
 cases l with
 | nil =>
  refine FSpec.nil1 fun a c => ?_
  refine FSpec.enter Tryz.func150 rfl (by kernel_rfl) rfl rfl rfl ?_ rfl ?_
  ·exact closed_cons (closed_v _) closed_nil
  refine r_z 1 ?_
  refine AWp.seq ?_
  refine r_z 2 ?_
  refine AWp.cond rfl (fun h => ?_) (fun h => ?_)
  ·refine r_z 1 ?_
   refine AWp.ret ?_
   exact Fin.tmpN rfl
  ·refine AWp.skip ?_
   refine s_r 4 ?_
   refine a_2 ?_
   refine o_2 (.append_l rfl rfl rfl te_25.h rfl rfl rfl rfl rfl (by first | rfl | assumption | (simp; done) | (simp; omega) | omega) (by first | exact dE_one _ | exact iE_one _ | exact pE_one _ | exact cE_one _ | exact rE_one _ | rfl | simp) (by first | rfl | exact dE_one _ | exact iE_one _ | exact pE_one _ | exact cE_one _ | exact rE_one _ | simp) rfl (.vnil) tz_37.h rfl tb_37.h (by first | rfl | assumption | (simp; done) | (simp; omega) | omega) (by first | (simp [maxLen]; done) | (simp [maxLen]; omega))) ?_
   refine a_z ?_
   refine AWp.ret ?_
   exact Fin.tmpS rfl rfl rfl rfl (closed_pE [])
 | cons q l =>
  have hne : pE (q :: l) ≠ [] := by simp [pE]
  simp at hl
  refine FSpec.enter Tryz.func150 rfl (by kernel_rfl) rfl rfl rfl ?_ rfl ?_
  ·exact closed_cons (closed_arr (closed_pE _)) closed_nil
  refine r_z 1 ?_
  refine AWp.seq ?_
  refine s_r 2 ?_
  refine a_1 ?_
  first | refine AR.op0 (.nilq_v rfl rfl te_25.h) rfl rfl ?_ | refine AR.op0 (.nilq_arr rfl (hne) rfl te_25.h) rfl rfl ?_
  refine AR.nil ?_
  refine AWp.cond rfl (fun h => ?_) (fun h => ?_)
  ·cases h
  ·refine AWp.skip ?_
   refine s_r 4 ?_
   refine a_2 ?_
   refine o_2 (.append_l rfl rfl rfl te_25.h rfl rfl rfl rfl rfl (by first | rfl | assumption | (simp; done) | (simp; omega) | omega) (by first | exact dE_one _ | exact iE_one _ | exact pE_one _ | exact cE_one _ | exact rE_one _ | rfl | simp) (by first | rfl | exact dE_one _ | exact iE_one _ | exact pE_one _ | exact cE_one _ | exact rE_one _ | simp) rfl (.arr (pE_len3 _)) tz_37.h rfl tb_37.h (by first | rfl | assumption | (simp; done) | (simp; omega) | omega) (by first | (simp [maxLen]; done) | (simp [maxLen]; omega))) ?_
   refine a_z ?_
   refine AWp.ret ?_
   exact Fin.tmpS rfl rfl rfl (by simp) (closed_pE _)
def trS (l : List Rat) : Nat → AState
 | n => ⟨[(0, .arr (pE l)), (3, i64 n)], [], 1, 23⟩
theorem trS_mk (l : List Rat) (n : Nat) : trS l n = ⟨[(0, .arr (pE l)), (3, i64 n)], [], 1, 23⟩ := rfl
theorem fs_Trim (l : List Rat) (hl : l.length ≤ 1099511627776) : FSpec Tryz.prog 67 [.arr (pE l)] (.arr (pE (trimQ l))) := by
 refine FSpec.enter Tryz.func67 rfl (by kernel_rfl) rfl rfl rfl ?_ rfl ?_
 ·exact closed_cons (closed_arr (closed_pE _)) closed_nil
 refine r_z 1 ?_
 refine r_z 3 ?_
 refine AWp.cut (trS l) (fun n => n ≤ l.length ∧ trimQ l = l.take n) ?_ ?_
 ·refine AWp.block ?_
  refine AWp.loopS (trS l) (fun n => n) (fun n => n ≤ l.length ∧ trimQ l = trimQ (l.take n)) l.length ⟨Nat.le_refl _, by rw [List.take_length]⟩ ?_ ?_
  ·simp only [trS_mk]
   exact s_e []
  rintro n ⟨hn, ht⟩
  rw [trS_mk]
  cases n with
  | zero =>
   refine AWp.seq ?_
   refine s_r 11 ?_
   refine a_3 ?_
   refine AR.opN rfl rfl (gn (by simp)) rfl rfl ?_
   refine AR.opN rfl rfl (gn (by simp)) rfl rfl ?_
   refine AR.opN rfl rfl (gn (by simp)) rfl rfl ?_
   refine AR.opN rfl rfl (gn (by simp)) rfl rfl ?_
   refine AR.opN rfl rfl (gn (by simp)) rfl rfl ?_
   refine AR.opN rfl rfl (gn (by simp)) rfl rfl ?_
   refine AR.opN rfl rfl (gn (by simp)) rfl rfl ?_
   refine o_0 (.pickF rfl (by simp) rfl) ?_
   refine AR.nil ?_
   refine AWp.cond rfl (fun h => ?_) (fun h => ?_)
   ·cases h
   ·refine AWp.exit ⟨0, ⟨Nat.zero_le _, ?_⟩, ?_⟩
    ·rw [ht]; rfl
    ·simp only [trS_mk]
     exact s_e []
  | succ n =>
   obtain ⟨q, hq⟩ : ∃ q, l[n]? = some q := ⟨_, List.getElem?_eq_getElem (by omega)⟩
   have hq' : (pE l)[(((n + 1 : Nat) : Int) - 1).toNat]? = some (qC q) := by
    rw [show (((n + 1 : Nat) : Int) - 1).toNat = n by omega]; exact pE_get hq
   have hs : trimQ (l.take (n + 1)) = if q = 0 then trimQ (l.take n) else l.take (n + 1) := by
    rw [take_snoc hq, trimQ_snoc]
   refine AWp.seq ?_
   refine s_r 11 ?_
   refine a_3 ?_
   refine AR.op0y rfl rfl (gy (by simp <;> omega)) (.move rfl) rfl rfl ?_
   refine AR.op0y rfl rfl (gy (by simp <;> omega)) (.move rfl) rfl rfl ?_
   refine AR.op0y rfl rfl (gy (by simp <;> omega)) (.bin rfl rfl (bI64_sub (by omega))) rfl rfl ?_
   first | refine AR.op0y rfl rfl (gy (by simp <;> omega)) (.index_l rfl rfl (by omega) (by omega) te_25.h) rfl rfl ?_ | refine AR.op0y rfl rfl (gy (by simp <;> omega)) (.index_a rfl rfl (by omega) hq' rfl te_25.h) rfl rfl ?_
   first | refine AR.op0y rfl rfl (gy (by simp <;> omega)) (.load_l rfl rfl hq' tg_37.h ts_37.h (nle rfl)) rfl rfl ?_ | refine AR.op0y rfl rfl (gy (by simp <;> omega)) (.load_a rfl hq' tg_37.h ts_37.h (nle rfl)) rfl rfl ?_
   refine AR.op0y rfl rfl (gy (by simp <;> omega)) (.call rfl rfl rfl (fs_Sign q)) rfl rfl ?_
   refine AR.op0y rfl rfl (gy (by simp <;> omega)) (.bin rfl rfl binI_eql) rfl rfl ?_
   refine o_0 (.pickT rfl (by simp <;> omega) rfl) ?_
   refine AR.nil ?_
   refine AWp.cond rfl (fun h => ?_) (fun h => ?_)
   ·have h0 : q = 0 := by
     have h1 : sgZ q.num = 0 := by simpa using h
     exact sgZ_num_eq.1 h1
    refine AWp.skip ?_
    refine AWp.block ?_
    refine AWp.reg (m := 3) rfl ?_
    refine a_z ?_
    refine ⟨n, Nat.lt_succ_self n, ⟨by omega, ?_⟩, ?_⟩
    ·rw [ht, hs, if_pos h0]
    ·simp only [trS_mk]
     exact s_e []
   ·have h0 : q ≠ 0 := by
     intro e
     have h1 : ¬ sgZ q.num = 0 := by simpa using h
     exact h1 (sgZ_num_eq.2 e)
    refine AWp.exit ⟨n + 1, ⟨hn, ?_⟩, ?_⟩
    ·rw [ht, hs, if_neg h0]
    ·simp only [trS_mk]
     exact s_e []
 rintro n ⟨hn, ht⟩
 rw [trS_mk]
 have hcl := fs_Clone (l.take n) (by simp; omega)
 refine s_r 5 ?_
 refine a_2 ?_
 refine o_0 (.sa_h rfl rfl (h := n) rfl (by simp; omega) te_25.h (pE_len3 _)) ?_
 refine o_0 (.call rfl rfl rfl ((by rw [pE_take]; exact hcl))) ?_
 refine o_0 (.assign rfl) ?_
 refine AR.nil ?_
 refine AWp.ret ?_
 refine Fin.tmpE rfl ?_ ?_
 ·rw [ht]
 ·exact closed_arr (closed_pE _)
theorem fs_Degree (l : List Rat) (hl : l.length ≤ 1099511627776) : FSpec Tryz.prog 16 [.arr (pE l)] (i64 (degP l)) := by
 have := trimQ_len l
 refine FSpec.enter Tryz.func16 rfl (by kernel_rfl) rfl rfl rfl ?_ rfl ?_
 ·exact closed_cons (closed_arr (closed_pE _)) closed_nil
 refine r_z 1 ?_
 refine r_c 5 (fs_Trim l hl) ?_
 refine a_z ?_
 refine AWp.ret ?_
 refine Fin.tmpE rfl ?_ ?_
 ·rfl
 ·exact closed_v _
theorem fs_Lead (l : List Rat) (hl : l.length ≤ 1099511627776) : FSpec Tryz.prog 63 [.arr (pE l)] (.agg (qC (leadP l))) := by
 have hlen := trimQ_len l
 refine FSpec.enter Tryz.func63 rfl (by kernel_rfl) rfl rfl rfl ?_ rfl ?_
 ·exact closed_cons (closed_arr (closed_pE _)) closed_nil
 refine r_z 1 ?_
 refine r_c 3 (fs_Trim l hl) ?_
 refine a_z ?_
 refine AWp.seq ?_
 refine r_z 3 ?_
 refine AWp.cond rfl (fun h => ?_) (fun h => ?_)
 ·have h0 : trimQ l = [] := by
   have h1 : (trimQ l).length = 0 := by simpa using h
   exact List.length_eq_zero_iff.1 h1
  rw [leadP_nil h0]
  refine r_z 2 ?_
  refine AWp.ret ?_
  refine Fin.cell rfl rfl rfl tg_37.h ts_37.h (nle rfl) (Cv.agg ?_)
  rw [qC0]
  exact CvL.cons (Cv.emp _) (CvL.cons (Cv.clo shr_nil (closed_v _)) (CvL.cons (Cv.emp _) CvL.nil))
 ·obtain ⟨n, hn⟩ : ∃ n, (trimQ l).length = n + 1 := ⟨(trimQ l).length - 1, by
   have h1 : ¬ (trimQ l).length = 0 := by simpa using h
   omega⟩
  have hg : (pE (trimQ l))[(((trimQ l).length : Int) - 1).toNat]? = some (qC (leadP l)) := by
   rw [hn, show (((n + 1 : Nat) : Int) - 1).toNat = n by omega]; exact pE_get (leadP_get hn)
  refine AWp.skip ?_
  refine s_r 7 ?_
  refine a_4 ?_
  first | refine AR.op0 (.index_l rfl rfl (by omega) (by omega) te_25.h) rfl rfl ?_ | refine AR.op0 (.index_a rfl rfl (by omega) hg rfl te_25.h) rfl rfl ?_
  first | refine AR.op0 (.load_l rfl rfl hg tg_37.h ts_37.h (nle rfl)) rfl rfl ?_ | refine AR.op0 (.load_a rfl hg tg_37.h ts_37.h (nle rfl)) rfl rfl ?_
  refine a_z ?_
  refine AWp.ret ?_
  refine Fin.cellE rfl rfl rfl tg_37.h ts_37.h (nle rfl) ?_ ?_
  ·rfl
  ·exact closed_qA _
theorem fs_at (l : List Rat) (i : Nat) : FSpec Tryz.prog 124 [.arr (pE l), i64 i] (.agg (qC (coP l i))) := by
 refine FSpec.enter Tryz.func124 rfl (by kernel_rfl) rfl rfl rfl ?_ rfl ?_
 ·exact closed_cons (closed_arr (closed_pE _)) (closed_cons (closed_v _) closed_nil)
 refine r_z 1 ?_
 refine AWp.seq ?_
 refine r_z 4 ?_
 refine AWp.cond rfl (fun h => ?_) (fun h => ?_)
 ·have hlt : i < l.length := by simpa using h
  have hg : (pE l)[((i : Nat) : Int).toNat]? = some (qC (coP l i)) := pE_get (coP_get hlt)
  refine s_r 5 ?_
  refine a_2 ?_
  first | refine AR.op0 (.index_l rfl rfl (by omega) (by omega) te_25.h) rfl rfl ?_ | refine AR.op0 (.index_a rfl rfl (by omega) hg rfl te_25.h) rfl rfl ?_
  first | refine AR.op0 (.load_l rfl rfl hg tg_37.h ts_37.h (nle rfl)) rfl rfl ?_ | refine AR.op0 (.load_a rfl hg tg_37.h ts_37.h (nle rfl)) rfl rfl ?_
  refine a_z ?_
  refine AWp.ret ?_
  refine Fin.cellE rfl rfl rfl tg_37.h ts_37.h (nle rfl) ?_ ?_
  ·rfl
  ·exact closed_qA _
 ·have hge : l.length ≤ i := by simpa using h
  rw [coP_out hge]
  refine AWp.skip ?_
  refine r_z 2 ?_
  refine AWp.ret ?_
  refine Fin.cell rfl rfl rfl tg_37.h ts_37.h (nle rfl) (Cv.agg ?_)
  rw [qC0]
  exact CvL.cons (Cv.emp _) (CvL.cons (Cv.clo shr_nil (closed_v _)) (CvL.cons (Cv.emp _) CvL.nil))
theorem eE_set {n i e : Nat} {f : Nat → Rat} (h : i < n) (he : e = i) : (pE (tabP i f) ++ List.replicate (n - i) zC).set e (qC (f i)) = pE (tabP (i + 1) f) ++ List.replicate (n - (i + 1)) zC := by
 subst he
 obtain ⟨k, rfl⟩ : ∃ k, n = e + 1 + k := ⟨n - (e + 1), by omega⟩
 rw [show e + 1 + k - e = k + 1 by omega, show e + 1 + k - (e + 1) = k by omega, List.replicate_succ, List.set_append_right _ _ (by simp)]
 simp [tabP, List.range_succ, pE]
theorem eE_get {n i e : Nat} {f : Nat → Rat} (h : i < n) (he : e = i) : (pE (tabP i f) ++ List.replicate (n - i) zC)[e]? = some zC := by
 subst he
 rw [List.getElem?_append_right (by simp), List.getElem?_replicate, if_pos (by simp; omega)]
theorem closed_eE (n i : Nat) (f : Nat → Rat) : ∀ e ∈ pE (tabP i f) ++ List.replicate (n - i) zC, ∀ c ∈ e, Closed c := by
 intro e he
 rcases List.mem_append.1 he with he | he
 ·exact closed_pE _ e he
 ·rw [List.eq_of_mem_replicate he]; exact closed_zC
def eachS (n : Nat) (f : Nat → Rat) (g : Nat) (cap : List AV) : Nat → AState
 | i => ⟨[(1, .clos g [] cap), (5, .lsl 1 0 n (some n) 3), (10, i64 n), (11, i64 i)], [(1, some ⟨37, 3, pE (tabP i f) ++ List.replicate (n - i) zC⟩)], 2, 23⟩
theorem eachS_mk (n : Nat) (f : Nat → Rat) (g : Nat) (cap : List AV) (i : Nat) : eachS n f g cap i = ⟨[(1, .clos g [] cap), (5, .lsl 1 0 n (some n) 3), (10, i64 n), (11, i64 i)], [(1, some ⟨37, 3, pE (tabP i f) ++ List.replicate (n - i) zC⟩)], 2, 23⟩ := rfl
theorem fs_each (n : Nat) (f : Nat → Rat) (g : Nat) (cap : List AV) (hn : n ≤ 1099511627776) (hcap : ∀ c ∈ cap, Closed c) (hg : ∀ i, i < n → FSpec Tryz.prog g ((i64 i :: cap).map coe) (.agg (qC (f i)))) : FSpec Tryz.prog 101 [i64 n, .clos g [] cap] (.arr (pE (trimQ (tabP n f)))) := by
 refine FSpec.enter Tryz.func101 rfl (by kernel_rfl) rfl rfl rfl ?_ rfl ?_
 ·exact closed_cons (closed_v _) (closed_cons (closed_clos closed_nil hcap) closed_nil)
 refine r_z 1 ?_
 refine r_z 3 ?_
 refine AWp.seq ?_
 refine r_z 3 ?_
 refine AWp.cutT (fun _ : Unit => eachS n f g cap n) (fun _ => True) ?_ ?_
 ·refine AWp.block ?_
  refine AWp.loopS (eachS n f g cap) (fun i => n - i) (fun i => i ≤ n) 0 (Nat.zero_le _) ?_ ?_
  ·simp only [eachS_mk]
   refine SEnt.to [(1, 5)] rfl rfl rfl au_r (fun hs => ?_) (fun hs => ?_)
   ·repeat' (first | exact CvF.nil | refine CvF.cons rfl ?_ ?_)
    all_goals (first | (exact Cv.clo hs (closed_clos closed_nil hcap)) | exact au_c)
   ·repeat' (first | exact CvH.nil | refine CvH.cons rfl rfl rfl rfl ?_ ?_)
    all_goals (first | (exact CvLL.cloE hs rfl (closed_eE n 0 f)) | exact au_e | (refine CvLL.box ?_; repeat' (first | exact CvL.nil | refine CvL.cons ?_ ?_)))
    all_goals (first | (exact Cv.clo hs (closed_clos closed_nil hcap)) | exact au_c)
  rintro i hi
  rw [eachS_mk]
  refine r_z 1 ?_
  refine AWp.seq ?_
  refine AWp.cond rfl (fun h => ?_) (fun h => ?_)
  ·refine AWp.skip ?_
   have hlt : i < n := by simpa using h
   refine AWp.seq ?_
   refine AWp.block ?_
   refine r_z 2 ?_
   refine AWp.reg (m := 7) rfl ?_
   refine c_s (hg i hlt) ?_
   refine a_1 ?_
   refine o_1n (.store rfl rfl (eE_get hlt (Nat.zero_add i)) rfl rfl rfl ts_37.h (nle rfl)) ?_
   refine AR.nil ?_
   refine AWp.reg (m := 2) rfl ?_
   refine a_z ?_
   refine ⟨i + 1, by omega, hlt, ?_⟩
   simp only [eachS_mk]
   refine SEnt.to [] rfl rfl rfl au_r (fun hs => ?_) (fun hs => ?_)
   ·repeat' (first | exact CvF.nil | refine CvF.cons rfl ?_ ?_)
    all_goals (first | (exact Cv.clo hs (closed_clos closed_nil hcap)) | exact au_c)
   ·repeat' (first | exact CvH.nil | refine CvH.cons rfl rfl rfl rfl ?_ ?_)
    all_goals (first | (exact CvLL.cloE hs (eE_set hlt (Nat.zero_add i)) (closed_eE n (i + 1) f)) | exact au_e | (refine CvLL.box ?_; repeat' (first | exact CvL.nil | refine CvL.cons ?_ ?_)))
    all_goals (first | (exact Cv.clo hs (closed_clos closed_nil hcap)) | exact au_c)
  ·have hge : i = n := by
    have : ¬ i < n := by simpa using h
    omega
   subst hge
   refine AWp.exit ⟨(), trivial, ?_⟩
   simp only [eachS_mk]
   refine SEnt.to [] rfl rfl rfl au_r (fun hs => ?_) (fun hs => ?_)
   ·repeat' (first | exact CvF.nil | refine CvF.cons rfl ?_ ?_)
    all_goals (first | (exact Cv.clo hs (closed_clos closed_nil hcap)) | exact au_c)
   ·repeat' (first | exact CvH.nil | refine CvH.cons rfl rfl rfl rfl ?_ ?_)
    all_goals (first | (exact CvLL.clo hs (closed_eE i i f)) | exact au_e | (refine CvLL.box ?_; repeat' (first | exact CvL.nil | refine CvL.cons ?_ ?_)))
    all_goals (first | (exact Cv.clo hs (closed_clos closed_nil hcap)) | exact au_c)
 rintro _ _
 rw [eachS_mk]
 have hfull : List.take n (List.drop 0 (pE (tabP n f) ++ List.replicate (n - n) zC)) = pE (tabP n f) := by
  rw [Nat.sub_self, List.replicate_zero, List.append_nil, List.drop_zero, List.take_of_length_le (by simp)]
 refine s_r 3 ?_
 refine a_1 ?_
 refine o_1 (.callS1 rfl rfl rfl (.shut rfl (by first | exact nle rfl | (simp; done) | (simp; omega)) (.nil)) rfl ((by rw [hfull]; exact fs_Trim (tabP n f) (by simp; exact hn)))) ?_
 refine a_z ?_
 refine AWp.ret ?_
 refine Fin.tmpE rfl ?_ ?_
 ·rfl
 ·exact closed_arr (closed_pE _)
end Go.Proofs.YtdhedjbmdnnbkaaGreatDoor
