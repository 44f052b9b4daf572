/- Part V12 of the proof. -/
import Derived.Test.YtdhedjbmdnnbkaaGreatDoorV11
import Derived.Shelf.Strconv.Itoa3
import Derived.Shelf.Strings.Repeat
set_option linter.all false
namespace Go.Proofs.YtdhedjbmdnnbkaaGreatDoor
open Go.Abs
set_option maxRecDepth 20000
theorem fs_QSpan (a : Rat) (k : Int) (h : sm a) : FSpec Tryz.prog 128 [.agg (qC a), i64 k] (.agg (spC (downQ a (wi k 256)) (upQ a (wi k 256)))) := by
 refine FSpec.enter Tryz.func128 rfl (by kernel_rfl) rfl rfl rfl ?_ rfl ?_
 ·exact aa_ (ae_ a) (aa_ (ac_ _) ab_)
 refine r_z 2 ?_
 refine AWp.seq ?_
 refine AWp.regD hmix (m := 8) rfl ?_
 refine c_s (fs_Down a k h) ?_
 refine c_s (fs_Up a k h) ?_
 refine a_2 ?_
 refine AR.nil ⟨by kernel_rfl, ?_⟩
 refine AWp.ret ?_
 refine Fin.cellE rfl rfl rfl tg_65.h ts_65.h (nle rfl) ?_ ?_
 ·rfl
 ·exact ai_ _ _
theorem fs_At (a : Rat) : FSpec Tryz.prog 187 [.agg (qC a)] (.agg (spC a a)) := by
 refine FSpec.enter Tryz.func187 rfl (by kernel_rfl) rfl rfl rfl ?_ rfl ?_
 ·exact aa_ (ae_ a) ab_
 refine r_z 2 ?_
 refine r_z 4 ?_
 refine AWp.ret ?_
 refine Fin.cellE rfl rfl rfl tg_65.h ts_65.h (nle rfl) ?_ ?_
 ·rfl
 ·exact ai_ _ _
theorem pu_ (a b : Rat) (ha : sm a) (hb : sm b) : FSpec Tryz.prog 55 [.agg (spC a b)] (bln (decide (cmpQ a b ≤ 0))) := by
 refine FSpec.enter Tryz.func55 rfl (by kernel_rfl) rfl rfl rfl ?_ rfl ?_
 ·exact aa_ (ai_ a b) ab_
 refine r_z 2 ?_
 refine r_c 7 (ru_ a b ha hb) ?_
 refine a_z ?_
 refine AWp.ret ?_
 refine Fin.tmpE rfl ?_ ?_
 ·rfl
 ·exact ac_ _
theorem fs_SAdd (a b c d : Rat) (ha : sm a) (hb : sm b) (hc : sm c) (hd : sm d) : FSpec Tryz.prog 248 [.agg (spC a b), .agg (spC c d)] (.agg (spC (a + c) (b + d))) := by
 refine FSpec.enter Tryz.func248 rfl (by kernel_rfl) rfl rfl rfl ?_ rfl ?_
 ·exact aa_ (ai_ a b) (aa_ (ai_ c d) ab_)
 refine r_z 3 ?_
 refine AWp.seq ?_
 refine AWp.regD hmix (m := 12) rfl ?_
 refine c_s (ia_ a c (sm2 ha hc)) ?_
 refine c_s (ia_ b d (sm2 hb hd)) ?_
 refine a_2 ?_
 refine AR.nil ⟨by kernel_rfl, ?_⟩
 refine AWp.ret ?_
 refine Fin.cellE rfl rfl rfl tg_65.h ts_65.h (nle rfl) ?_ ?_
 ·rfl
 ·exact ai_ _ _
theorem fs_SMiddle (a b : Rat) (ha : sm a) (hb : sm b) : FSpec Tryz.prog 244 [.agg (spC a b)] (.agg (qC ((a + b) * fineQ 1))) := by
 have h1 : qs (a + b) ≤ 274877906945 := by have := ln_ a b; unfold sm at ha hb; omega
 have h2 : qs (fineQ 1) ≤ 2 := by decide
 refine FSpec.enter Tryz.func244 rfl (by kernel_rfl) rfl rfl rfl ?_ rfl ?_
 ·exact aa_ (ai_ a b) ab_
 refine r_z 2 ?_
 refine r_c 8 (ia_ a b (sm2 ha hb)) ?_
 refine c_s (pv_ 1) ?_
 refine c_s (do_ (a + b) (fineQ 1) (by omega)) ?_
 refine a_z ?_
 refine AWp.ret ?_
 refine Fin.cellE rfl rfl rfl tg_37.h ts_37.h (nle rfl) ?_ ?_
 ·rfl
 ·exact ae_ _
theorem fs_SWidth (a b : Rat) (ha : sm a) (hb : sm b) : FSpec Tryz.prog 190 [.agg (spC a b)] (.agg (qC (b - a))) := by
 refine FSpec.enter Tryz.func190 rfl (by kernel_rfl) rfl rfl rfl ?_ rfl ?_
 ·exact aa_ (ai_ a b) ab_
 refine r_z 2 ?_
 refine r_c 6 (rq_ b a (sm2 hb ha)) ?_
 refine a_z ?_
 refine AWp.ret ?_
 refine Fin.cellE rfl rfl rfl tg_37.h ts_37.h (nle rfl) ?_ ?_
 ·rfl
 ·exact ae_ _
theorem fs_Min1 (c : Int) : FSpec Tryz.prog 255 [i64 c] (bln (decide (c < 0))) := by
 refine FSpec.enter Tryz.func255 rfl (by kernel_rfl) rfl rfl rfl ?_ rfl ?_
 ·exact aa_ (ac_ _) ab_
 refine r_z 1 ?_
 refine r_z 3 ?_
 refine AWp.ret ?_
 refine Fin.tmpE rfl ?_ ?_
 ·rfl
 ·exact ac_ _
theorem fs_Max1 (c : Int) : FSpec Tryz.prog 256 [i64 c] (bln (decide (0 < c))) := by
 refine FSpec.enter Tryz.func256 rfl (by kernel_rfl) rfl rfl rfl ?_ rfl ?_
 ·exact aa_ (ac_ _) ab_
 refine r_z 1 ?_
 refine r_z 3 ?_
 refine AWp.ret ?_
 refine Fin.tmpE rfl ?_ ?_
 ·rfl
 ·exact ac_ _
def ym_ (g : Nat) (l : List Rat) : Nat × List AV → AState
 | (i, o) => ⟨[(0, .clos g [] []), (4, .lptr 1 0 0), (5, .lptr 2 0 0), (8, .arr (pE l)), (9, i64 l.length), (10, i64 i)], [(1, some ⟨37, 3, [zC]⟩), (2, some ⟨37, 3, [o]⟩)], 3, 27⟩
theorem fd_ (g : Nat) (l : List Rat) (i : Nat) (o : List AV) : ym_ g l (i, o) = ⟨[(0, .clos g [] []), (4, .lptr 1 0 0), (5, .lptr 2 0 0), (8, .arr (pE l)), (9, i64 l.length), (10, i64 i)], [(1, some ⟨37, 3, [zC]⟩), (2, some ⟨37, 3, [o]⟩)], 3, 27⟩ := rfl
theorem vv_ (g : Nat) (bf : Int → Bool) (hg : ∀ c, FSpec Tryz.prog g [i64 c] (bln (bf c))) (l : List Rat) (hl : smL l) (hln : l.length ≤ 1099511627776) : FSpec Tryz.prog 254 [.clos g [] [], .arr (pE l)] (.agg (qC (dn_ bf l))) := by
 refine FSpec.enter Tryz.func254 rfl (by kernel_rfl) rfl rfl rfl ?_ rfl ?_
 ·exact aa_ (af_ ab_ ab_) (aa_ (ad_ l) ab_)
 refine r_z 1 ?_
 refine r_z 1 ?_
 refine AWp.seq ?_
 refine r_z 3 ?_
 refine AWp.cutT (fun _ : Unit => ⟨[(4, .lptr 1 0 0), (5, .lptr 2 0 0)], [(1, some ⟨37, 3, [zC]⟩), (2, some ⟨37, 3, [qC (dn_ bf l)]⟩)], 3, 27⟩) (fun _ => True) ?_ ?_
 ·refine AWp.block ?_
  refine AWp.loopS (fun x : Nat × List AV => ym_ g l x) (fun x => l.length - x.1) (fun x => x.1 ≤ l.length ∧ ((x.1 = 0 → x.2 = zC) ∧ (x.1 ≠ 0 → x.2 = qC (dn_ bf (l.take x.1))))) (0, zC) ⟨Nat.zero_le _, fun _ => rfl, fun h => absurd rfl h⟩ ?_ ?_
  ·simp only [fd_]
   exact s_e [(1, 4), (2, 5)]
  rintro ⟨i, o⟩ ⟨hi, ho0, ho⟩
  simp only at hi ho0 ho
  simp only [fd_]
  refine r_z 1 ?_
  refine AWp.seq ?_
  refine AWp.cond rfl (fun h => ?_) (fun h => ?_)
  ·refine AWp.skip ?_
   have hlt : i < l.length := by simpa using h
   obtain ⟨q, hq⟩ : ∃ q, l[i]? = some q := ⟨_, List.getElem?_eq_getElem hlt⟩
   have hq' : (pE l)[((i : Nat) : Int).toNat]? = some (qC q) := cv_ hq
   have hsq : sm q := hl q (List.mem_of_getElem? hq)
   have hst : sm (dn_ bf (l.take i)) := mx_ fun q hq => hl q (List.mem_of_mem_take hq)
   have hsn := wq_ bf (l.take i) q
   rw [← cw_ hq] at hsn
   refine AWp.seq ?_
   refine AWp.block ?_
   refine s_r 6 ?_
   refine a_1 ?_
   first | refine AR.op0 (.index_l rfl rfl (by omega) (by omega) te_24.h) rfl rfl ?_ | refine AR.op0 (.index_a rfl rfl (by omega) hq' rfl te_24.h) rfl rfl ?_
   first | refine AR.op0 (.load_l rfl rfl hq' tg_37.h ts_37.h (nle rfl)) rfl rfl ?_ | refine AR.op0 (.load_a rfl hq' tg_37.h ts_37.h (nle rfl)) rfl rfl ?_
   refine a_z ?_
   refine AWp.cutB (fun _ : Unit => ym_ g l (i, qC (dn_ bf (l.take (i + 1))))) (fun _ => True) ?_ ?_
   ·by_cases h0 : i = 0
    ·subst h0
     have := ho0 rfl
     subst this
     rw [if_pos (.inl (by simp))] at hsn
     refine s_r 9 ?_
     refine a_3 ?_
     refine AR.opN rfl rfl (gn (by first | rfl | assumption | exact decide_eq_true (by omega) | (simp; done) | (simp; omega))) rfl rfl ?_
     refine AR.opN rfl rfl (gn (by first | rfl | assumption | exact decide_eq_true (by omega) | (simp; done) | (simp; omega))) rfl rfl ?_
     refine AR.opN rfl rfl (gn (by first | rfl | assumption | exact decide_eq_true (by omega) | (simp; done) | (simp; omega))) rfl rfl ?_
     refine AR.opN rfl rfl (gn (by first | rfl | assumption | exact decide_eq_true (by omega) | (simp; done) | (simp; omega))) rfl rfl ?_
     refine AR.opN rfl rfl (gn (by first | rfl | assumption | exact decide_eq_true (by omega) | (simp; done) | (simp; omega))) rfl rfl ?_
     refine o_0 (.pickT rfl (by first | rfl | assumption | exact decide_eq_true (by omega) | (simp; done) | (simp; omega)) rfl) ?_
     refine AR.nil ?_
     refine AWp.cond rfl (fun h => ?_) (fun h => ?_)
     ·refine AWp.reg (m := 2) rfl ?_
      refine a_z ?_
      refine ⟨(), trivial, ?_⟩
      simp only [fd_]
      rw [hsn]
      exact s_e []
     ·cases h
    ·have ho' : o = qC (dn_ bf (l.take i)) := ho h0
     subst ho'
     have hne : l.take i ≠ [] := fun h => by
      have := congrArg List.length h
      rw [List.length_take, List.length_nil] at this; omega
     refine s_r 9 ?_
     refine a_3 ?_
     refine AR.op0y rfl rfl (gy (by simp; omega)) (.move rfl) rfl rfl ?_
     first | refine AR.op0y rfl rfl (gy (by simp; omega)) (.load_l rfl rfl rfl tg_37.h ts_37.h (nle rfl)) rfl rfl ?_ | refine AR.op0y rfl rfl (gy (by simp; omega)) (.load_a rfl rfl tg_37.h ts_37.h (nle rfl)) rfl rfl ?_
     first | refine AR.op0y rfl rfl (gy (by simp; omega)) (.load_l rfl rfl rfl tg_37.h ts_37.h (nle rfl)) rfl rfl ?_ | refine AR.op0y rfl rfl (gy (by simp; omega)) (.load_a rfl rfl tg_37.h ts_37.h (nle rfl)) rfl rfl ?_
     refine AR.op0y rfl rfl (gy (by simp; omega)) (.call rfl rfl rfl (ru_ q (dn_ bf (l.take i)) hsq hst)) rfl rfl ?_
     refine AR.op0y rfl rfl (gy (by simp; omega)) (.call rfl rfl rfl (hg (cmpQ q (dn_ bf (l.take i))))) rfl rfl ?_
     refine o_0 (.pickF rfl (by simp; omega) rfl) ?_
     refine AR.nil ?_
     refine AWp.cond rfl (fun h1 => ?_) (fun h1 => ?_)
     ·refine AWp.reg (m := 2) rfl ?_
      refine a_z ?_
      refine ⟨(), trivial, ?_⟩
      simp only [fd_]
      rw [hsn, if_pos (.inr h1)]
      exact s_e []
     ·refine AWp.skip ⟨(), trivial, ?_⟩
      simp only [fd_]
      rw [hsn, if_neg (fun hh => hh.elim hne fun h2 => by rw [h1] at h2; cases h2)]
      exact s_e []
   rintro _ _
   rw [fd_]
   refine AWp.reg (m := 2) rfl ?_
   refine a_z ?_
   refine ⟨(i + 1, qC (dn_ bf (l.take (i + 1)))), by simp only; omega, ⟨by simp only; omega, fun h => absurd h (by simp), fun _ => rfl⟩, ?_⟩
   simp only [fd_]
   exact s_e []
  ·have hge : i = l.length := by simp at h; omega
   refine AWp.exit ⟨(), trivial, ?_⟩
   subst hge
   by_cases h0 : l.length = 0
   ·have := ho0 h0
    subst this
    have : dn_ bf l = 0 := by
     rw [List.length_eq_zero_iff] at h0; rw [h0]; rfl
    rw [this, qC0]
    exact s_e []
   ·have := ho h0
    subst this
    rw [List.take_length]
    exact s_e []
 rintro _ _
 refine r_z 2 ?_
 refine AWp.ret ?_
 refine Fin.cellE rfl rfl rfl tg_37.h ts_37.h (nle rfl) ?_ ?_
 ·rfl
 ·exact ae_ _
theorem fs_Min (l : List Rat) (hl : smL l) (hln : l.length ≤ 1099511627776) : FSpec Tryz.prog 203 [.arr (pE l)] (.agg (qC (minL l))) := by
 refine FSpec.enter Tryz.func203 rfl (by kernel_rfl) rfl rfl rfl ?_ rfl ?_
 ·exact aa_ (ad_ l) ab_
 refine r_z 1 ?_
 refine r_c 3 (vv_ 255 _ fs_Min1 l hl hln) ?_
 refine a_z ?_
 refine AWp.ret ?_
 refine Fin.cellE rfl rfl rfl tg_37.h ts_37.h (nle rfl) ?_ ?_
 ·rfl
 ·exact ae_ _
theorem fs_Max (l : List Rat) (hl : smL l) (hln : l.length ≤ 1099511627776) : FSpec Tryz.prog 204 [.arr (pE l)] (.agg (qC (maxL l))) := by
 refine FSpec.enter Tryz.func204 rfl (by kernel_rfl) rfl rfl rfl ?_ rfl ?_
 ·exact aa_ (ad_ l) ab_
 refine r_z 1 ?_
 refine r_c 3 (vv_ 256 _ fs_Max1 l hl hln) ?_
 refine a_z ?_
 refine AWp.ret ?_
 refine Fin.cellE rfl rfl rfl tg_37.h ts_37.h (nle rfl) ?_ ?_
 ·rfl
 ·exact ae_ _
theorem smL_two {a b : Rat} (ha : sm a) (hb : sm b) : smL [a, b] := by
 intro q hq
 simp at hq
 rcases hq with rfl | rfl
 ·exact ha
 ·exact hb
theorem fs_SHull (a b c d : Rat) (ha : sm a) (hb : sm b) (hc : sm c) (hd : sm d) : FSpec Tryz.prog 129 [.agg (spC a b), .agg (spC c d)] (.agg (spC (minL [a, c]) (maxL [b, d]))) := by
 refine FSpec.enter Tryz.func129 rfl (by kernel_rfl) rfl rfl rfl ?_ rfl ?_
 ·exact aa_ (ai_ a b) (aa_ (ai_ c d) ab_)
 refine r_z 3 ?_
 refine AWp.seq ?_
 refine AWp.regD hmix (m := 14) rfl ?_
 refine a_5 ?_
 refine o_1 (.callS1 rfl rfl rfl (.shut rfl (by first | exact nle rfl | (simp; done) | (simp; omega)) (.nil)) rfl (fs_Min [a, c] (smL_two ha hc) (by simp))) ?_
 refine a_5 ?_
 refine o_1 (.callS1 rfl rfl rfl (.shut rfl (by first | exact nle rfl | (simp; done) | (simp; omega)) (.nil)) rfl (fs_Max [b, d] (smL_two hb hd) (by simp))) ?_
 refine a_2 ?_
 refine AR.nil ⟨by kernel_rfl, ?_⟩
 refine AWp.ret ?_
 refine Fin.cellE rfl rfl rfl tg_65.h ts_65.h (nle rfl) ?_ ?_
 ·rfl
 ·exact ai_ _ _
theorem fs_spanned (l : List Rat) (hl : smL l) (hln : l.length ≤ 1099511627776) : FSpec Tryz.prog 288 [.arr (pE l)] (.agg (spC (minL l) (maxL l))) := by
 refine FSpec.enter Tryz.func288 rfl (by kernel_rfl) rfl rfl rfl ?_ rfl ?_
 ·exact aa_ (ad_ l) ab_
 refine r_z 1 ?_
 refine r_c 6 (fs_Min l hl hln) ?_
 refine c_s (fs_Max l hl hln) ?_
 refine a_z ?_
 refine AWp.ret ?_
 refine Fin.cellE rfl rfl rfl tg_65.h ts_65.h (nle rfl) ?_ ?_
 ·rfl
 ·exact ai_ _ _
section
variable {P : Go.Program} {T : Nat} {x y : Operand}
theorem cs_ {l m : List UInt8} (h : l.length + m.length ≤ 9223372036854775807) : ∀ w, (do eqGuard .add T x y (.string ⟨l.toArray⟩) (.string ⟨m.toArray⟩); binOp .add T (.string ⟨l.toArray⟩) (.string ⟨m.toArray⟩) : Sem Value).run P w = .ok (.string ⟨(l ++ m).toArray⟩) w := fun w => by
 have hm : IntKind.i64.max = 9223372036854775807 := by decide
 have e : (⟨l.toArray⟩ : ByteArray) ++ ⟨m.toArray⟩ = ⟨(l ++ m).toArray⟩ := by
  apply ByteArray.ext; simp
 have hn : ¬ ((((⟨l.toArray⟩ : ByteArray).size + (⟨m.toArray⟩ : ByteArray).size : Nat) : Int) > IntKind.i64.max) := by
  rw [ml_, ml_, hm]; omega
 simp only [eqGuard, binOp, Op.stringOp, hn, if_false, e, Sem.run_bind, Sem.run_pure, Result.andThen_ok]
 rfl
theorem ts_ {l m : List UInt8} : ∀ w, (do eqGuard .eql T x y (.string ⟨l.toArray⟩) (.string ⟨m.toArray⟩); binOp .eql T (.string ⟨l.toArray⟩) (.string ⟨m.toArray⟩) : Sem Value).run P w = .ok (.bool (decide (l = m))) w := fun w => by
 rw [tr_]
 congr 2
 have e : ∀ l : List UInt8, (⟨l.toArray⟩ : ByteArray).toList = l := by
  intro l
  have := ByteArray.toList_eq (bs := ⟨l.toArray⟩)
  simpa using this
 rw [e, e]
 rw [Bool.eq_iff_iff]; simp
end
def textQ (q : Rat) : List UInt8 := ((if q.num < 0 then [45] else []) ++ dec2 q.num.natAbs) ++ (if q.den = 1 then [] else 47 :: dec2 q.den)
def okT (q : Rat) : Prop := q.num.natAbs < 100 ∧ q.den < 100
instance (q : Rat) : Decidable (okT q) := inferInstanceAs (Decidable (_ ∧ _))
theorem okT_qs {q : Rat} (h : okT q) : qs q ≤ 1099511627776 := by
 obtain ⟨h1, h2⟩ := h
 have e1 := bl_le (n := q.num.natAbs) (k := 7) (by omega)
 have e2 := bl_le (n := q.den) (k := 7) (by omega)
 unfold qs; omega
theorem textQ_len {q : Rat} : (textQ q).length ≤ 6 ∧ 1 ≤ (textQ q).length := by
 have h1 := jk_ q.num.natAbs
 have h2 := jk_ q.den
 have h3 := List.length_pos_iff.2 (yj_ q.num.natAbs)
 unfold textQ
 split <;> split <;> simp <;> omega
def qtS (q : Rat) : List UInt8 → AState
 | l => ⟨[(1, .aptr [qC q] 0 0), (3, tx l)], [], 2, 24⟩
theorem rh_ (q : Rat) (l : List UInt8) : qtS q l = ⟨[(1, .aptr [qC q] 0 0), (3, tx l)], [], 2, 24⟩ := rfl
theorem ly_ (q : Rat) (h : okT q) : FSpec Tryz.prog 89 [.agg (qC q)] (tx (textQ q)) := by
 have hd1 := jk_ q.num.natAbs
 have hd2 := jk_ q.den
 have hden : 1 ≤ q.den := q.den_pos
 refine FSpec.enter Tryz.func89 rfl (by kernel_rfl) rfl rfl rfl ?_ rfl ?_
 ·exact aa_ (ae_ q) ab_
 refine r_z 2 ?_
 refine AWp.ent (st' := ⟨[(1, .aptr [qC q] 0 0)], [], 2, 24⟩) ?_ ?_
 ·exact s_e []
 refine r_c 5 (fs_mtext q.num.natAbs h.1) ?_
 refine a_z ?_
 refine AWp.cut (qtS q) (fun l => l = (if q.num < 0 then [45] else []) ++ dec2 q.num.natAbs) ?_ ?_
 ·refine r_z 3 ?_
  refine AWp.cond rfl (fun h1 => ?_) (fun h1 => ?_)
  ·have h2 : q.num < 0 := by simpa using h1
   refine AWp.reg (m := 3) rfl ?_
   refine a_1 ?_
   refine o_0 (.bin rfl rfl (cs_ (l := [45]) (by simp; omega))) ?_
   refine a_z ?_
   refine ⟨_, by rw [if_pos h2], ?_⟩
   rw [rh_]
   refine SEnt.to [] rfl rfl rfl au_r (fun hs => ?_) (fun hs => ?_)
   ·repeat' (first | exact CvF.nil | refine CvF.cons rfl ?_ ?_)
    all_goals (first | (exact Cv.clo hs (bb_ (aq_ q))) | exact au_c)
   ·repeat' (first | exact CvH.nil | refine CvH.cons rfl rfl rfl rfl ?_ ?_)
    all_goals (first | exact au_e | (refine CvLL.box ?_; repeat' (first | exact CvL.nil | refine CvL.cons ?_ ?_)))
    all_goals (first | (exact Cv.clo hs (bb_ (aq_ q))) | exact au_c)
  ·have h2 : ¬ q.num < 0 := by simpa using h1
   refine AWp.skip ⟨dec2 q.num.natAbs, by rw [if_neg h2]; rfl, ?_⟩
   rw [rh_]
   refine SEnt.to [] rfl rfl rfl au_r (fun hs => ?_) (fun hs => ?_)
   ·repeat' (first | exact CvF.nil | refine CvF.cons rfl ?_ ?_)
    all_goals (first | (exact Cv.clo hs (bb_ (aq_ q))) | exact au_c)
   ·repeat' (first | exact CvH.nil | refine CvH.cons rfl rfl rfl rfl ?_ ?_)
    all_goals (first | exact au_e | (refine CvLL.box ?_; repeat' (first | exact CvL.nil | refine CvL.cons ?_ ?_)))
    all_goals (first | (exact Cv.clo hs (bb_ (aq_ q))) | exact au_c)
 rintro l hl
 have hll : l.length ≤ 3 := by rw [hl]; split <;> simp <;> omega
 rw [rh_]
 refine AWp.cut (qtS q) (fun l => l = textQ q) ?_ ?_
 ·refine r_c 4 (hj_ (q.den - 1)) ?_
  refine a_z ?_
  refine AWp.cond rfl (fun h1 => ?_) (fun h1 => ?_)
  ·have h2 : ¬ q.den = 1 := by
    intro e; rw [e] at h1; simp at h1
   refine AWp.reg (m := 7) rfl ?_
   refine c_s (dg_ q (okT_qs h)) ?_
   refine c_s (fs_mtext q.den h.2) ?_
   refine o_0 (.bin rfl rfl (cs_ (l := [47]) (by simp; omega))) ?_
   refine o_0 (.bin rfl rfl (cs_ (by simp; omega))) ?_
   refine a_z ?_
   refine ⟨_, by unfold textQ; rw [if_neg h2, ← hl], ?_⟩
   rw [rh_]
   refine SEnt.to [] rfl rfl rfl au_r (fun hs => ?_) (fun hs => ?_)
   ·repeat' (first | exact CvF.nil | refine CvF.cons rfl ?_ ?_)
    all_goals (first | (exact Cv.clo hs (bb_ (aq_ q))) | exact au_c)
   ·repeat' (first | exact CvH.nil | refine CvH.cons rfl rfl rfl rfl ?_ ?_)
    all_goals (first | exact au_e | (refine CvLL.box ?_; repeat' (first | exact CvL.nil | refine CvL.cons ?_ ?_)))
    all_goals (first | (exact Cv.clo hs (bb_ (aq_ q))) | exact au_c)
  ·have h2 : q.den = 1 := by
    have h3 : q.den - 1 = 0 := by simpa using h1
    omega
   refine AWp.skip ⟨l, by unfold textQ; rw [if_pos h2, ← hl, List.append_nil], ?_⟩
   rw [rh_]
   refine SEnt.to [] rfl rfl rfl au_r (fun hs => ?_) (fun hs => ?_)
   ·repeat' (first | exact CvF.nil | refine CvF.cons rfl ?_ ?_)
    all_goals (first | (exact Cv.clo hs (bb_ (aq_ q))) | exact au_c)
   ·repeat' (first | exact CvH.nil | refine CvH.cons rfl rfl rfl rfl ?_ ?_)
    all_goals (first | exact au_e | (refine CvLL.box ?_; repeat' (first | exact CvL.nil | refine CvL.cons ?_ ?_)))
    all_goals (first | (exact Cv.clo hs (bb_ (aq_ q))) | exact au_c)
 rintro l rfl
 rw [rh_]
 refine r_z 2 ?_
 refine AWp.ret ?_
 refine Fin.tmpE rfl ?_ ?_
 ·rfl
 ·exact ac_ _
def textSp (s : Rat × Rat) : List UInt8 := [91] ++ textQ s.1 ++ [32] ++ textQ s.2 ++ [93]
theorem fs_SText (s : Rat × Rat) (h1 : okT s.1) (h2 : okT s.2) : FSpec Tryz.prog 88 [.agg (spC s.1 s.2)] (tx (textSp s)) := by
 have e1 := (textQ_len (q := s.1)).1
 have e2 := (textQ_len (q := s.2)).1
 refine FSpec.enter Tryz.func88 rfl (by kernel_rfl) rfl rfl rfl ?_ rfl ?_
 ·exact aa_ (ai_ _ _) ab_
 refine r_z 2 ?_
 refine AWp.seq ?_
 refine AWp.regD hmix (m := 11) rfl ?_
 refine c_s (ly_ s.1 h1) ?_
 refine o_0 (.bin rfl rfl (cs_ (l := [91]) (by simp; omega))) ?_
 refine o_0 (.bin rfl rfl (cs_ (m := [32]) (by simp; omega))) ?_
 refine c_s (ly_ s.2 h2) ?_
 refine o_0 (.bin rfl rfl (cs_ (by simp; omega))) ?_
 refine o_0 (.bin rfl rfl (cs_ (m := [93]) (by simp; omega))) ?_
 refine a_1 ?_
 refine AR.nil ⟨by kernel_rfl, ?_⟩
 refine AWp.ret ?_
 refine Fin.tmpE rfl ?_ ?_
 ·rfl
 ·exact ac_ _
end Go.Proofs.YtdhedjbmdnnbkaaGreatDoor
namespace Go.Proofs.YtdhedjbmdnnbkaaGreatDoor
open Go.Shelf
def lay171_ren : Go.Shelf.Ren := ⟨fun | 171 => 147 | 243 => 214 | 246 => 260 | 283 => 279 | 284 => 280 | 285 => 281 | 286 => 282 | 129 => 290 | 317 => 289 | 318 => 291 | 319 => 292 | 320 => 293 | 337 => 295 | 338 => 296 | n => n, fun | 3 => 3 | 9 => 9 | 2 => 2 | 4 => 4 | 171 => 285 | 0 => 0 | 53 => 207 | 37 => 180 | 5 => 5 | 173 => 288 | 212 => 298 | 51 => 206 | 20 => 20 | 213 => 299 | 46 => 276 | 232 => 303 | 233 => 304 | n => n, fun | 17 => 0 | 18 => 2 | 19 => 3 | n => n⟩
theorem lay171 : Go.Proofs.LaysM.n171 Tryz.prog lay171_ren := {
 mixed := by kernel_rfl,
 f129 := Tryz.func290.trans (congrArg some (by kernel_rfl)),
 f171 := Tryz.func147.trans (congrArg some (by kernel_rfl)),
 f243 := Tryz.func214.trans (congrArg some (by kernel_rfl)),
 f246 := Tryz.func260.trans (congrArg some (by kernel_rfl)),
 f283 := Tryz.func279.trans (congrArg some (by kernel_rfl)),
 f284 := Tryz.func280.trans (congrArg some (by kernel_rfl)),
 f285 := Tryz.func281.trans (congrArg some (by kernel_rfl)),
 f286 := Tryz.func282.trans (congrArg some (by kernel_rfl)),
 f317 := Tryz.func289.trans (congrArg some (by kernel_rfl)),
 f318 := Tryz.func291.trans (congrArg some (by kernel_rfl)),
 f319 := Tryz.func292.trans (congrArg some (by kernel_rfl)),
 f320 := Tryz.func293.trans (congrArg some (by kernel_rfl)),
 f337 := Tryz.func295.trans (congrArg some (by kernel_rfl)),
 f338 := Tryz.func296.trans (congrArg some (by kernel_rfl)),
 t0 := Tryz.underlying0,
 a0 := Tryz.isAgg0,
 z0 := Tryz.sizeOf0,
 v0 := Tryz.zeroValue0,
 t2 := Tryz.underlying2,
 a2 := Tryz.isAgg2,
 z2 := Tryz.sizeOf2,
 v2 := Tryz.zeroValue2,
 t3 := Tryz.underlying3,
 a3 := Tryz.isAgg3,
 z3 := Tryz.sizeOf3,
 v3 := Tryz.zeroValue3,
 t4 := Tryz.underlying4,
 a4 := Tryz.isAgg4,
 z4 := Tryz.sizeOf4,
 v4 := Tryz.zeroValue4,
 t5 := Tryz.underlying5,
 a5 := Tryz.isAgg5,
 z5 := Tryz.sizeOf5,
 v5 := Tryz.zeroValue5,
 t9 := Tryz.underlying9,
 a9 := Tryz.isAgg9,
 z9 := Tryz.sizeOf9,
 v9 := Tryz.zeroValue9,
 t20 := Tryz.underlying20,
 a20 := Tryz.isAgg20,
 z20 := Tryz.sizeOf20,
 v20 := Tryz.zeroValue20,
 t37 := Tryz.underlying180,
 a37 := Tryz.isAgg180,
 z37 := Tryz.sizeOf180,
 v37 := Tryz.zeroValue180,
 t46 := Tryz.underlying276,
 a46 := Tryz.isAgg276,
 z46 := Tryz.sizeOf276,
 v46 := Tryz.zeroValue276,
 t51 := Tryz.underlying206,
 a51 := Tryz.isAgg206,
 z51 := Tryz.sizeOf206,
 v51 := Tryz.zeroValue206,
 t53 := Tryz.underlying207,
 a53 := Tryz.isAgg207,
 z53 := Tryz.sizeOf207,
 v53 := Tryz.zeroValue207,
 t171 := Tryz.underlying285,
 a171 := Tryz.isAgg285,
 z171 := Tryz.sizeOf285,
 v171 := Tryz.zeroValue285,
 t173 := Tryz.underlying288,
 a173 := Tryz.isAgg288,
 z173 := Tryz.sizeOf288,
 v173 := Tryz.zeroValue288,
 t212 := Tryz.underlying298,
 a212 := Tryz.isAgg298,
 z212 := Tryz.sizeOf298,
 v212 := Tryz.zeroValue298,
 t213 := Tryz.underlying299,
 a213 := Tryz.isAgg299,
 z213 := Tryz.sizeOf299,
 t232 := Tryz.underlying303,
 a232 := Tryz.isAgg303,
 z232 := Tryz.sizeOf303,
 v232 := Tryz.zeroValue303,
 t233 := Tryz.underlying304,
 a233 := Tryz.isAgg304,
 z233 := Tryz.sizeOf304,
 v233 := Tryz.zeroValue304,
 g17 := by kernel_rfl,
 g18 := by kernel_rfl,
 g19 := by kernel_rfl,
 i0 := by kernel_rfl,
 i2 := by kernel_rfl,
 i3 := by kernel_rfl,
 i4 := by kernel_rfl,
 i5 := by kernel_rfl,
 i9 := by kernel_rfl,
 i20 := by kernel_rfl,
 i37 := by kernel_rfl,
 i46 := by kernel_rfl,
 i51 := by kernel_rfl,
 i53 := by kernel_rfl,
 i171 := by kernel_rfl,
 i173 := by kernel_rfl,
 i212 := by kernel_rfl,
 i232 := by kernel_rfl,
 i233 := by kernel_rfl,
 m17 := by kernel_rfl,
 m18 := by kernel_rfl,
 m19 := by kernel_rfl }
def rm_ : Go.Shelf.Ren := ⟨fun | 105 => 234 | 212 => 270 | 99 => 271 | 165 => 272 | 166 => 145 | 170 => 144 | 169 => 148 | 263 => 283 | 264 => 284 | 206 => 285 | 240 => 213 | 241 => 286 | 276 => 259 | 277 => 294 | n => n, fun | 9 => 9 | 3 => 3 | 4 => 4 | 20 => 20 | 0 => 0 | 46 => 276 | 109 => 277 | 5 => 5 | 72 => 182 | 76 => 185 | 51 => 206 | 146 => 290 | 53 => 207 | 148 => 292 | 70 => 179 | 37 => 180 | 75 => 184 | 127 => 233 | 164 => 270 | 80 => 108 | n => n, fun | n => n⟩
theorem lay105 : Go.Proofs.Lays.n105 Tryz.prog rm_ := {
 mixed := by kernel_rfl,
 f99 := Tryz.func271.trans (congrArg some (by kernel_rfl)),
 f105 := Tryz.func234.trans (congrArg some (by kernel_rfl)),
 f165 := Tryz.func272.trans (congrArg some (by kernel_rfl)),
 f166 := Tryz.func145.trans (congrArg some (by kernel_rfl)),
 f169 := Tryz.func148.trans (congrArg some (by kernel_rfl)),
 f170 := Tryz.func144.trans (congrArg some (by kernel_rfl)),
 f206 := Tryz.func285.trans (congrArg some (by kernel_rfl)),
 f212 := Tryz.func270.trans (congrArg some (by kernel_rfl)),
 f240 := Tryz.func213.trans (congrArg some (by kernel_rfl)),
 f241 := Tryz.func286.trans (congrArg some (by kernel_rfl)),
 f263 := Tryz.func283.trans (congrArg some (by kernel_rfl)),
 f264 := Tryz.func284.trans (congrArg some (by kernel_rfl)),
 f276 := Tryz.func259.trans (congrArg some (by kernel_rfl)),
 f277 := Tryz.func294.trans (congrArg some (by kernel_rfl)),
 t0 := Tryz.underlying0,
 a0 := Tryz.isAgg0,
 z0 := Tryz.sizeOf0,
 v0 := Tryz.zeroValue0,
 t3 := Tryz.underlying3,
 a3 := Tryz.isAgg3,
 z3 := Tryz.sizeOf3,
 v3 := Tryz.zeroValue3,
 t4 := Tryz.underlying4,
 a4 := Tryz.isAgg4,
 z4 := Tryz.sizeOf4,
 v4 := Tryz.zeroValue4,
 t5 := Tryz.underlying5,
 a5 := Tryz.isAgg5,
 z5 := Tryz.sizeOf5,
 v5 := Tryz.zeroValue5,
 t9 := Tryz.underlying9,
 a9 := Tryz.isAgg9,
 z9 := Tryz.sizeOf9,
 v9 := Tryz.zeroValue9,
 t20 := Tryz.underlying20,
 a20 := Tryz.isAgg20,
 z20 := Tryz.sizeOf20,
 v20 := Tryz.zeroValue20,
 t37 := Tryz.underlying180,
 a37 := Tryz.isAgg180,
 z37 := Tryz.sizeOf180,
 v37 := Tryz.zeroValue180,
 t46 := Tryz.underlying276,
 a46 := Tryz.isAgg276,
 z46 := Tryz.sizeOf276,
 v46 := Tryz.zeroValue276,
 t51 := Tryz.underlying206,
 a51 := Tryz.isAgg206,
 z51 := Tryz.sizeOf206,
 v51 := Tryz.zeroValue206,
 t53 := Tryz.underlying207,
 a53 := Tryz.isAgg207,
 z53 := Tryz.sizeOf207,
 v53 := Tryz.zeroValue207,
 t70 := Tryz.underlying179,
 a70 := Tryz.isAgg179,
 z70 := Tryz.sizeOf179,
 v70 := Tryz.zeroValue179,
 t72 := Tryz.underlying182,
 a72 := Tryz.isAgg182,
 z72 := Tryz.sizeOf182,
 v72 := Tryz.zeroValue182,
 t75 := Tryz.underlying184,
 a75 := Tryz.isAgg184,
 z75 := Tryz.sizeOf184,
 v75 := Tryz.zeroValue184,
 t76 := Tryz.underlying185,
 a76 := Tryz.isAgg185,
 z76 := Tryz.sizeOf185,
 v76 := Tryz.zeroValue185,
 t109 := Tryz.underlying277,
 a109 := Tryz.isAgg277,
 z109 := Tryz.sizeOf277,
 v109 := Tryz.zeroValue277,
 t127 := Tryz.underlying233,
 a127 := Tryz.isAgg233,
 z127 := Tryz.sizeOf233,
 v127 := Tryz.zeroValue233,
 t146 := Tryz.underlying290,
 a146 := Tryz.isAgg290,
 z146 := Tryz.sizeOf290,
 v146 := Tryz.zeroValue290,
 t148 := Tryz.underlying292,
 a148 := Tryz.isAgg292,
 z148 := Tryz.sizeOf292,
 v148 := Tryz.zeroValue292,
 t164 := Tryz.underlying270,
 a164 := Tryz.isAgg270,
 z164 := Tryz.sizeOf270,
 v164 := Tryz.zeroValue270 }
theorem ext105 : Builder.Extra Tryz.prog rm_ := {
 sizeBuilder := by kernel_rfl,
 liesBuilder := by kernel_rfl,
 t5 := Tryz.underlying5,
 a5 := Tryz.isAgg5,
 z5 := Tryz.sizeOf5,
 v5 := Tryz.zeroValue5,
 infoByte := by kernel_rfl,
 cellsByte := by kernel_rfl,
 sizeByte := by kernel_rfl,
 neB5 := by decide }
end Go.Proofs.YtdhedjbmdnnbkaaGreatDoor
namespace Go.Proofs.YtdhedjbmdnnbkaaGreatDoor
open Go.Abs Go.RowKit
theorem tab_glob : (Tryz.prog).globalNamed "internal/strconv.uint64pow10" = some GT := by kernel_rfl
theorem tab_is {w : World} (h : TabW w) : Lib.TabIs Tryz.prog w "internal/strconv.uint64pow10" .u64 Lib.pow10Tab := by
 obtain ⟨t, z, h⟩ := h
 unfold Lib.TabIs World.var?
 rw [tab_glob]
 show (match w.heap[GT]? with | some (.cells cs _ _) => some cs | _ => none) = _
 rw [h]; rfl
theorem below_grow (w : World) (k : Nat) (os : Array Obj) : Below w.heap.size w (Sort.grow (w.drewN k) os) :=
 ⟨rfl, rfl, rfl, by show w.heap.size ≤ (w.heap ++ os).size; simp, fun i hi => by show (w.heap ++ os)[i]? = _; rw [Array.getElem?_append_left hi]⟩
theorem fs_ItoaA (n : Nat) (h : n ≤ 9223372036854775807) : FSpec Tryz.prog 147 [i64 n] (tx (Lib.decDigits n)) := by
 refine ⟨aa_ (ac_ _) ab_, (xy_ 0 (by decide)).enters, fun M w vals hM hargs => ?_⟩
 obtain ⟨x, xs, rfl, hx, hxs⟩ := hargs
 have hx' : x = .int .i64 n := hx
 have hxs' : xs = [] := hxs
 subst hx'; subst hxs'
 have hc := Any.strconv_Itoa lay171 (n : Int) (by omega) (by omega) w (tab_is hM.tab)
 refine Calls.mono hc fun e w' ⟨he, k, os, hw⟩ => ⟨_, he, ?_, ?_⟩
 ·show Value.string _ = Value.string _
  unfold Lib.itoa
  rw [if_neg (by omega), Int.toNat_natCast]
 ·rw [hw]; exact below_grow w k os
theorem fs_RepeatZ (z : UInt8) (n : Nat) (h : n ≤ 100) : FSpec Tryz.prog 234 [tx [z], i64 n] (tx (List.replicate n z)) := by
 have en : ∀ (xs : Array Value) (w : World), (callFunc 234 xs).run Tryz.prog w = .ok (.enter 234 xs) w := fun xs w => qd_ Tryz.func234 (c := (Tryz.f234).body.get rfl) (by kernel_rfl) rfl xs w
 refine ⟨aa_ (ac_ _) (aa_ (ac_ _) ab_), en, fun M w vals hM hargs => ?_⟩
 obtain ⟨x, xs, rfl, hx, y, ys, rfl, hy, hxs⟩ := hargs
 have hx' : x = .string ⟨[z].toArray⟩ := hx
 have hy' : y = .int .i64 n := hy
 have hxs' : ys = [] := hxs
 subst hx'; subst hy'; subst hxs'
 have hc := Any.strings_Repeat lay105 ext105 ⟨[z].toArray⟩ n w (by omega) (by simp [ByteArray.size]; omega)
 refine Calls.mono hc fun e w' ⟨he, hb⟩ => ⟨_, he, ?_, hb⟩
 show Value.string _ = Value.string _
 congr 2
 have : ∀ k, Lib.repeatL [z] k = List.replicate k z := fun k => by
  induction k with
  | zero => rfl
  | succ k ih => rw [Lib.repeatL, ih, List.replicate_succ]; rfl
 exact congrArg List.toArray (this n)
end Go.Proofs.YtdhedjbmdnnbkaaGreatDoor
namespace Go.Proofs.YtdhedjbmdnnbkaaGreatDoor
open Go.Abs
set_option maxRecDepth 20000
def pad9 (n : Nat) : List UInt8 := List.replicate (9 - (Lib.decDigits n).length) 48 ++ Lib.decDigits n
def txD : List Nat → List UInt8
 | [] => []
 | x :: xs => Lib.decDigits x ++ xs.flatMap pad9
def mtx (m : Nat) : List UInt8 := if m = 0 then [48] else txD (digs MB m).reverse
theorem yv_ {l : List Nat} (h : l ≠ []) (x : Nat) : txD (l ++ [x]) = txD l ++ pad9 x := by
 cases l with
 | nil => exact absurd rfl h
 | cons a l => simp [txD]
theorem xm_ : ∀ k n, n < 10 ^ (k + 1) → Lib.nDigits n ≤ k + 1
 | 0, n, h => by rw [Lib.nDigits_small (by simpa using h)]; omega
 | k + 1, n, h => by
  by_cases h1 : n < 10
  ·rw [Lib.nDigits_small h1]; omega
  ·rw [Lib.nDigits_big h1]
   have : n / 10 < 10 ^ (k + 1) := by rw [Nat.pow_succ] at h; omega
   have := xm_ k (n / 10) this
   omega
theorem yi_ {n : Nat} (h : n < 1000000000) : (Lib.decDigits n).length ≤ 9 := by
 rw [Lib.decDigits_length]; exact xm_ 8 n h
theorem dec_ne (n : Nat) : Lib.decDigits n ≠ [] := by
 intro e
 have h1 := Lib.decDigits_length n
 rw [e] at h1
 have := Lib.nDigits_pos n
 simp at h1; omega
theorem pad9_len {n : Nat} (h : n < 1000000000) : (pad9 n).length = 9 := by
 have := yi_ h
 simp [pad9]; omega
theorem txD_ne {l : List Nat} (h : l ≠ []) : txD l ≠ [] := by
 cases l with
 | nil => exact absurd rfl h
 | cons a l => intro e; exact dec_ne a (List.append_eq_nil_iff.1 e).1
theorem txD_len {l : List Nat} (h : ∀ x ∈ l, x < 1000000000) : (txD l).length ≤ 9 * l.length := by
 cases l with
 | nil => simp [txD]
 | cons a l =>
  have h1 := yi_ (h a (List.mem_cons_self ..))
  have h2 : ∀ l : List Nat, (∀ x ∈ l, x < 1000000000) → (l.flatMap pad9).length = 9 * l.length := by
   intro l
   induction l with
   | nil => intro _; rfl
   | cons b l ih =>
    intro h
    rw [List.flatMap_cons, List.length_append, pad9_len (h b (List.mem_cons_self ..)), ih fun x hx => h x (List.mem_cons_of_mem _ hx), List.length_cons]
    omega
  have h3 := h2 l fun x hx => h x (List.mem_cons_of_mem _ hx)
  simp only [txD, List.length_append, List.length_cons]
  omega
def tf0 (L : List Nat) : Unit → AState
 | u => ⟨[(1, .lptr 1 0 0), (3, .lptr 2 0 0), (11, .clos 269 [] [.aptr [[.arr (dE L)]] 0 0])], [(1, some ⟨33, 1, [[.arr (dE L)]]⟩), (2, some ⟨182, 2, [bldC 2 0 none]⟩)], 4, 31⟩
theorem tf0_mk (L : List Nat) (u : Unit) : tf0 L u = ⟨[(1, .lptr 1 0 0), (3, .lptr 2 0 0), (11, .clos 269 [] [.aptr [[.arr (dE L)]] 0 0])], [(1, some ⟨33, 1, [[.arr (dE L)]]⟩), (2, some ⟨182, 2, [bldC 2 0 none]⟩)], 4, 31⟩ := rfl
def tf1 (L : List Nat) : List UInt8 → AState
 | q => ⟨[(1, .lptr 1 0 0), (3, .lptr 2 0 0), (11, .clos 269 [] [.aptr [[.arr (dE L)]] 0 0])], [(1, some ⟨33, 1, [[.arr (dE L)]]⟩), (2, some ⟨182, 2, [bldC 2 3 (some q)]⟩), (3, some ⟨5, 1, bE q⟩)], 4, 31⟩
theorem tf1_mk (L : List Nat) (q : List UInt8) : tf1 L q = ⟨[(1, .lptr 1 0 0), (3, .lptr 2 0 0), (11, .clos 269 [] [.aptr [[.arr (dE L)]] 0 0])], [(1, some ⟨33, 1, [[.arr (dE L)]]⟩), (2, some ⟨182, 2, [bldC 2 3 (some q)]⟩), (3, some ⟨5, 1, bE q⟩)], 4, 31⟩ := rfl
def tfS (L : List Nat) : Nat → AState
 | 0 => tf0 L ()
 | k + 1 => tf1 L (txD (L.reverse.take (k + 1)))
theorem vu_ (m : Nat) (h : bl m ≤ 68719476736) : FSpec Tryz.prog 172 [.agg [mag m]] (tx (mtx m)) := by
 have hz := hj_ m
 refine FSpec.enter Tryz.func172 rfl (by kernel_rfl) rfl rfl rfl ?_ rfl ?_
 ·exact aa_ (ag_ (aa_ (ah_ m) ab_)) ab_
 refine r_z 2 ?_
 refine AWp.seq ?_
 refine r_c 2 (hz) ?_
 refine AR.nil ?_
 refine AWp.cond rfl (fun h1 => ?_) (fun h1 => ?_)
 ·have h2 : m = 0 := by simpa using h1
  subst h2
  refine r_z 1 ?_
  refine AWp.ret ?_
  refine Fin.tmpE rfl ?_ ?_
  ·rfl
  ·exact ac_ _
 have h2 : m ≠ 0 := by simpa using h1
 obtain ⟨L, hL⟩ : ∃ L, L = digs MB m := ⟨_, rfl⟩
 have hm : mag m = .arr (dE L) := by unfold mag; rw [hL]
 have hLl : L.length ≤ 68719476736 := by
  rw [hL]; exact Nat.le_trans (bc_ (b := MB) (by decide) m) h
 have hLb : ∀ x ∈ L, x < 1000000000 := by rw [hL]; exact cm_ (b := MB) (by decide) m
 have hLn : L ≠ [] := by rw [hL]; exact fun e => h2 ((eh_ (b := MB) (by decide)).1 e)
 have hn1 := List.length_pos_iff.2 hLn
 rw [show mtx m = txD L.reverse by unfold mtx; rw [if_neg h2, hL]]
 clear hz
 rw [hm]
 refine AWp.skip ?_
 have hcl : Closed (.aptr [[.arr (dE L)]] 0 0) := gi_ (fun e he c hc => by simp at he; subst he; simp at hc; subst hc; exact aw_ _)
 have hcl2 : Closed (.clos 269 [] [.aptr [[.arr (dE L)]] 0 0]) := af_ ab_ (aa_ hcl ab_)
 have hdl : (dE L).length = L.length := mf_ L
 refine r_z 1 ?_
 refine AWp.seq ?_
 refine r_c 3 (hl_ L) ?_
 refine AR.nil ?_
 refine AWp.cutT (fun _ : Unit => tf1 L (txD L.reverse)) (fun _ => True) ?_ ?_
 ·refine AWp.block ?_
  refine AWp.rangeFunc (α := Nat) (γ := Empty) L.length (tfS L) (fun k => k) (fun k => k ≤ L.length) (fun e => nomatch e) (fun _ e => nomatch e) 0 rfl (hi_ L (by omega)) rfl rfl ?_ (fun k => by cases k <;> exact ⟨rfl, rfl⟩) (fun e => nomatch e) (Nat.zero_le _) rfl (fun _ h => h) ?_ ?_ ?_ ?_ (fun _ e => nomatch e)
  ·intro k xs hT
   unfold backT at hT
   split at hT
   ·cases hT; rfl
   ·cases hT
  ·show SEntT _ (tf0 L ())
   rw [tf0_mk]
   refine SEntT.to [(1, 1), (2, 3)] rfl rfl rfl au_r (fun hs => ?_) (fun hs => ?_)
   ·repeat' (first | exact CvF.nil | refine CvF.cons rfl ?_ ?_)
    all_goals (first | (exact Cv.clo hs hcl2) | exact au_c)
   ·repeat' (first | exact CvH.nil | refine CvH.cons rfl rfl rfl rfl ?_ ?_)
    all_goals (first | exact au_e | (refine CvLL.box ?_; repeat' (first | exact CvL.nil | refine CvL.cons ?_ ?_)))
    all_goals (first | (exact Cv.clo hs hcl2) | exact au_c)
  ·exact aa_ hcl ab_
  ·intro l k xs hk hT
   unfold backT at hT
   split at hT
   rotate_left
   ·cases hT
   rename_i hlt
   cases hT
   obtain ⟨x, hx⟩ : ∃ x, x = L.getD (L.length - 1 - k) 0 := ⟨_, rfl⟩
   have hgx : L[L.length - 1 - k]? = some x := by
    rw [hx, List.getD_eq_getElem?_getD, List.getElem?_eq_getElem (by omega)]; rfl
   have hxb : x < 1000000000 := hLb x (List.mem_of_getElem? hgx)
   have htk : L.reverse.take (k + 1) = L.reverse.take k ++ [x] := by
    rw [List.take_add_one, List.getElem?_reverse (by omega), hgx]; rfl
   have hit := fs_ItoaA x (by omega)
   have hdl9 := yi_ hxb
   rw [← hx]
   cases k with
   | zero =>
    show AWp _ _ _ _ ⟨setPs (tf0 L ()).fr _ _ ++ cx_ (tf0 L ()).fr, _, _, _⟩
    show AWp _ _ _ _ ⟨[(13, u32 x), (12, i64 ((L.length - 1 - 0 : Nat) : Int)), (1, .lptr 1 0 0), (3, .lptr 2 0 0), (11, .clos 269 [] [.aptr [[.arr (dE L)]] 0 0]), (1001, .lptr 1 0 0), (1003, .lptr 2 0 0), (1011, .clos 269 [] [.aptr [[.arr (dE L)]] 0 0])], [(1, some ⟨33, 1, [[.arr (dE L)]]⟩), (2, some ⟨182, 2, [bldC 2 0 none]⟩)], 4, 31⟩
    refine r_z 1 ?_
    refine AWp.reg (m := 1) rfl ?_
    refine a_z ?_
    refine AWp.block ?_
    refine r_c 4 (hit) ?_
    refine a_z ?_
    refine AWp.seq ?_
    refine r_z 6 ?_
    refine AWp.cond rfl (fun h3 => ?_) (fun h3 => ?_)
    ·exact absurd h3 (by simp; omega)
    refine AWp.skip ?_
    refine AWp.reg (m := 2) rfl ?_
    refine a_1 ?_
    refine o_2 (.callB (s := none) (j := 0) rfl rfl rfl rfl rfl rfl (fun _ h => by cases h) (hb_ (Lib.decDigits x) (dec_ne x) (by omega))) ?_
    refine AR.nil ?_
    refine ⟨0 + 1, ⟨by omega, rfl⟩, ?_⟩
    have e : txD (L.reverse.take (0 + 1)) = Lib.decDigits x := by rw [htk]; simp [txD]
    show SEntT _ ⟨cx_ (tf1 L (txD (L.reverse.take (0 + 1)))).fr, (tf1 L (txD (L.reverse.take (0 + 1)))).hp, _, _⟩
    rw [e]
    show SEntT _ ⟨[(1001, .lptr 1 0 0), (1003, .lptr 2 0 0), (1011, .clos 269 [] [.aptr [[.arr (dE L)]] 0 0])], [(1, some ⟨33, 1, [[.arr (dE L)]]⟩), (2, some ⟨182, 2, [bldC 2 3 (some (Lib.decDigits x))]⟩), (3, some ⟨5, 1, bE (Lib.decDigits x)⟩)], 4, 31⟩
    refine SEntT.to2 [(3, 100017)] rfl rfl rfl au_r (fun hs => ?_) (fun hs => ?_)
    ·repeat' (first | exact CvF.nil | refine CvF.cons rfl ?_ ?_)
     all_goals (first | (exact Cv.clo hs hcl2) | exact au_c)
    ·repeat' (first | exact CvH.nil | refine CvH.cons rfl rfl rfl rfl ?_ ?_)
     all_goals (first | exact au_e | (refine CvLL.box ?_; repeat' (first | exact CvL.nil | refine CvL.cons ?_ ?_)))
     all_goals (first | (exact Cv.clo hs hcl2) | exact au_c)
   | succ k =>
    obtain ⟨q, hq⟩ : ∃ q, q = txD (L.reverse.take (k + 1)) := ⟨_, rfl⟩
    have hrn : L.reverse.take (k + 1) ≠ [] := by
     intro e
     have := congrArg List.length e
     rw [List.length_take, List.length_reverse] at this
     simp only [List.length_nil] at this; omega
    have hql : q.length ≤ 9 * L.length := by
     have h3 := txD_len (l := L.reverse.take (k + 1)) (fun y hy => hLb y (List.mem_reverse.1 (List.mem_of_mem_take hy)))
     have h4 : (L.reverse.take (k + 1)).length ≤ L.length := by simp; omega
     rw [hq]; omega
    show AWp _ _ _ _ ⟨setPs (tf1 L (txD (L.reverse.take (k + 1)))).fr _ _ ++ cx_ (tf1 L (txD (L.reverse.take (k + 1)))).fr, (tf1 L (txD (L.reverse.take (k + 1)))).hp, 4, _⟩
    rw [← hq]
    show AWp _ _ _ _ ⟨[(13, u32 x), (12, i64 ((L.length - 1 - (k + 1) : Nat) : Int)), (1, .lptr 1 0 0), (3, .lptr 2 0 0), (11, .clos 269 [] [.aptr [[.arr (dE L)]] 0 0]), (1001, .lptr 1 0 0), (1003, .lptr 2 0 0), (1011, .clos 269 [] [.aptr [[.arr (dE L)]] 0 0])], [(1, some ⟨33, 1, [[.arr (dE L)]]⟩), (2, some ⟨182, 2, [bldC 2 3 (some q)]⟩), (3, some ⟨5, 1, bE q⟩)], 4, 31⟩
    refine r_z 1 ?_
    refine AWp.reg (m := 1) rfl ?_
    refine a_z ?_
    refine AWp.block ?_
    refine r_c 4 (hit) ?_
    refine a_z ?_
    refine AWp.seq ?_
    refine r_z 6 ?_
    refine AWp.cond rfl (fun h3 => ?_) (fun h3 => ?_)
    rotate_left
    ·exact absurd (of_decide_eq_false h3) (by omega)
    have e9 : ((9 : Int) - ((⟨(Lib.decDigits x).toArray⟩ : ByteArray).size : Int)) = ((9 - (Lib.decDigits x).length : Nat) : Int) := by rw [ml_]; omega
    have hrep : FSpec Tryz.prog 234 [tx [48], .v (.int .i64 ((9 : Int) - ((⟨(Lib.decDigits x).toArray⟩ : ByteArray).size : Int)))] (tx (List.replicate (9 - (Lib.decDigits x).length) 48)) := by
     rw [e9]; exact fs_RepeatZ 48 (9 - (Lib.decDigits x).length) (by omega)
    refine AWp.reg (m := 5) rfl ?_
    refine o_0 (.move rfl) ?_
    refine o_0 (.builtinV (vs := [_]) rfl rfl (fun _ _ _ => rfl)) ?_
    refine o_0 (.bin rfl rfl (mj_ (by rw [ml_]; omega))) ?_
    refine c_s (hrep) ?_
    refine o_3 (.callB (s := some _) rfl rfl rfl rfl rfl rfl (fun _ h => by cases h; exact ⟨rfl, by decide⟩) (fn_ q (List.replicate (9 - (Lib.decDigits x).length) 48) (by simp; omega))) ?_
    refine AR.nil ?_
    refine AWp.reg (m := 2) rfl ?_
    refine a_1 ?_
    refine o_3 (.callB (s := some _) rfl rfl rfl rfl rfl rfl (fun _ h => by cases h; exact ⟨rfl, by decide⟩) (fn_ (q ++ List.replicate (9 - (Lib.decDigits x).length) 48) (Lib.decDigits x) (by simp; omega))) ?_
    refine AR.nil ?_
    refine ⟨k + 1 + 1, ⟨by omega, rfl⟩, ?_⟩
    have e : txD (L.reverse.take (k + 1 + 1)) = q ++ List.replicate (9 - (Lib.decDigits x).length) 48 ++ Lib.decDigits x := by
     rw [htk, yv_ hrn, ← hq, List.append_assoc]; rfl
    show SEntT _ ⟨cx_ (tf1 L (txD (L.reverse.take (k + 1 + 1)))).fr, (tf1 L (txD (L.reverse.take (k + 1 + 1)))).hp, _, _⟩
    rw [e]
    show SEntT _ ⟨[(1001, .lptr 1 0 0), (1003, .lptr 2 0 0), (1011, .clos 269 [] [.aptr [[.arr (dE L)]] 0 0])], [(1, some ⟨33, 1, [[.arr (dE L)]]⟩), (2, some ⟨182, 2, [bldC 2 3 (some (q ++ List.replicate (9 - (Lib.decDigits x).length) 48 ++ Lib.decDigits x))]⟩), (3, some ⟨5, 1, bE (q ++ List.replicate (9 - (Lib.decDigits x).length) 48 ++ Lib.decDigits x)⟩)], 4, 31⟩
    refine SEntT.to2 [(3, 100022)] rfl rfl rfl au_r (fun hs => ?_) (fun hs => ?_)
    ·repeat' (first | exact CvF.nil | refine CvF.cons rfl ?_ ?_)
     all_goals (first | (exact Cv.clo hs hcl2) | exact au_c)
    ·repeat' (first | exact CvH.nil | refine CvH.cons rfl rfl rfl rfl ?_ ?_)
     all_goals (first | exact au_e | (refine CvLL.box ?_; repeat' (first | exact CvL.nil | refine CvL.cons ?_ ?_)))
     all_goals (first | (exact Cv.clo hs hcl2) | exact au_c)
  ·intro k hk hT
   unfold backT at hT
   split at hT
   ·cases hT
   have hk1 : k = L.length := by
    rename_i hn; omega
   subst hk1
   obtain ⟨j, hj⟩ : ∃ j, L.length = j + 1 := ⟨L.length - 1, by omega⟩
   refine ⟨(), trivial, ?_⟩
   show SEnt (tfS L L.length) _
   rw [hj]
   show SEnt (tf1 L (txD (L.reverse.take (j + 1)))) _
   rw [← hj, List.take_of_length_le (by simp)]
   exact SEnt.refl _
 rintro _ _
 rw [tf1_mk]
 have hne : txD L.reverse ≠ [] := txD_ne (by simpa using hLn)
 refine s_r 2 ?_
 refine o_2 (.callD rfl rfl rfl rfl rfl rfl (by decide) (by first | assumption | simp) (qe_)) ?_
 refine a_z ?_
 refine AWp.ret ?_
 refine Fin.tmpE rfl ?_ ?_
 ·rfl
 ·exact ac_ _
theorem mtx_len (m : Nat) : (mtx m).length ≤ 9 * bl m + 1 := by
 unfold mtx
 split
 ·simp
 ·have h1 := txD_len (l := (digs MB m).reverse) fun x hx => cm_ (b := MB) (by decide) m x (List.mem_reverse.1 hx)
  have h2 := bc_ (b := MB) (by decide) m
  rw [List.length_reverse] at h1
  omega
def qtx (q : Rat) : List UInt8 := ((if q.num < 0 then [45] else []) ++ mtx q.num.natAbs) ++ (if q.den = 1 then [] else 47 :: mtx q.den)
def quS (q : Rat) : List UInt8 → AState
 | l => ⟨[(1, .aptr [qC q] 0 0), (3, tx l)], [], 2, 24⟩
theorem rg_ (q : Rat) (l : List UInt8) : quS q l = ⟨[(1, .aptr [qC q] 0 0), (3, tx l)], [], 2, 24⟩ := rfl
theorem fs_QTextA (q : Rat) (h : qs q ≤ 68719476736) : FSpec Tryz.prog 89 [.agg (qC q)] (tx (qtx q)) := by
 have hd1 := mtx_len q.num.natAbs
 have hd2 := mtx_len q.den
 have hden : 1 ≤ q.den := q.den_pos
 have hq1 := co_ q
 have hq2 := ci_ q
 refine FSpec.enter Tryz.func89 rfl (by kernel_rfl) rfl rfl rfl ?_ rfl ?_
 ·exact aa_ (ae_ q) ab_
 refine r_z 2 ?_
 refine AWp.ent (st' := ⟨[(1, .aptr [qC q] 0 0)], [], 2, 24⟩) ?_ ?_
 ·exact s_e []
 refine r_c 5 (vu_ q.num.natAbs (Nat.le_trans (co_ q) h)) ?_
 refine a_z ?_
 refine AWp.cut (quS q) (fun l => l = (if q.num < 0 then [45] else []) ++ mtx q.num.natAbs) ?_ ?_
 ·refine r_z 3 ?_
  refine AWp.cond rfl (fun h1 => ?_) (fun h1 => ?_)
  ·have h2 : q.num < 0 := by simpa using h1
   refine AWp.reg (m := 3) rfl ?_
   refine a_1 ?_
   refine o_0 (.bin rfl rfl (cs_ (l := [45]) (by simp; omega))) ?_
   refine a_z ?_
   refine ⟨_, by rw [if_pos h2], ?_⟩
   rw [rg_]
   refine SEnt.to [] rfl rfl rfl au_r (fun hs => ?_) (fun hs => ?_)
   ·repeat' (first | exact CvF.nil | refine CvF.cons rfl ?_ ?_)
    all_goals (first | (exact Cv.clo hs (bb_ (aq_ q))) | exact au_c)
   ·repeat' (first | exact CvH.nil | refine CvH.cons rfl rfl rfl rfl ?_ ?_)
    all_goals (first | exact au_e | (refine CvLL.box ?_; repeat' (first | exact CvL.nil | refine CvL.cons ?_ ?_)))
    all_goals (first | (exact Cv.clo hs (bb_ (aq_ q))) | exact au_c)
  ·have h2 : ¬ q.num < 0 := by simpa using h1
   refine AWp.skip ⟨mtx q.num.natAbs, by rw [if_neg h2]; rfl, ?_⟩
   rw [rg_]
   refine SEnt.to [] rfl rfl rfl au_r (fun hs => ?_) (fun hs => ?_)
   ·repeat' (first | exact CvF.nil | refine CvF.cons rfl ?_ ?_)
    all_goals (first | (exact Cv.clo hs (bb_ (aq_ q))) | exact au_c)
   ·repeat' (first | exact CvH.nil | refine CvH.cons rfl rfl rfl rfl ?_ ?_)
    all_goals (first | exact au_e | (refine CvLL.box ?_; repeat' (first | exact CvL.nil | refine CvL.cons ?_ ?_)))
    all_goals (first | (exact Cv.clo hs (bb_ (aq_ q))) | exact au_c)
 rintro l hl
 have hll : l.length ≤ 618475290626 := by rw [hl]; split <;> simp <;> omega
 rw [rg_]
 refine AWp.cut (quS q) (fun l => l = qtx q) ?_ ?_
 ·refine r_c 4 (hj_ (q.den - 1)) ?_
  refine a_z ?_
  refine AWp.cond rfl (fun h1 => ?_) (fun h1 => ?_)
  ·have h2 : ¬ q.den = 1 := by
    intro e; rw [e] at h1; simp at h1
   refine AWp.reg (m := 7) rfl ?_
   refine c_s (dg_ q (by omega)) ?_
   refine c_s (vu_ q.den (Nat.le_trans (ci_ q) h)) ?_
   refine o_0 (.bin rfl rfl (cs_ (l := [47]) (by simp; omega))) ?_
   refine o_0 (.bin rfl rfl (cs_ (by simp; omega))) ?_
   refine a_z ?_
   refine ⟨_, by unfold qtx; rw [if_neg h2, ← hl], ?_⟩
   rw [rg_]
   refine SEnt.to [] rfl rfl rfl au_r (fun hs => ?_) (fun hs => ?_)
   ·repeat' (first | exact CvF.nil | refine CvF.cons rfl ?_ ?_)
    all_goals (first | (exact Cv.clo hs (bb_ (aq_ q))) | exact au_c)
   ·repeat' (first | exact CvH.nil | refine CvH.cons rfl rfl rfl rfl ?_ ?_)
    all_goals (first | exact au_e | (refine CvLL.box ?_; repeat' (first | exact CvL.nil | refine CvL.cons ?_ ?_)))
    all_goals (first | (exact Cv.clo hs (bb_ (aq_ q))) | exact au_c)
  ·have h2 : q.den = 1 := by
    have h3 : q.den - 1 = 0 := by simpa using h1
    omega
   refine AWp.skip ⟨l, by unfold qtx; rw [if_pos h2, ← hl, List.append_nil], ?_⟩
   rw [rg_]
   refine SEnt.to [] rfl rfl rfl au_r (fun hs => ?_) (fun hs => ?_)
   ·repeat' (first | exact CvF.nil | refine CvF.cons rfl ?_ ?_)
    all_goals (first | (exact Cv.clo hs (bb_ (aq_ q))) | exact au_c)
   ·repeat' (first | exact CvH.nil | refine CvH.cons rfl rfl rfl rfl ?_ ?_)
    all_goals (first | exact au_e | (refine CvLL.box ?_; repeat' (first | exact CvL.nil | refine CvL.cons ?_ ?_)))
    all_goals (first | (exact Cv.clo hs (bb_ (aq_ q))) | exact au_c)
 rintro l rfl
 rw [rg_]
 refine r_z 2 ?_
 refine AWp.ret ?_
 refine Fin.tmpE rfl ?_ ?_
 ·rfl
 ·exact ac_ _
end Go.Proofs.YtdhedjbmdnnbkaaGreatDoor
namespace Go.Abs
def trimQ : List Rat → List Rat
 | [] => []
 | a :: l => match trimQ l with
  | [] => if a = 0 then [] else [a]
  | b :: m => a :: b :: m
theorem di_ (a : Rat) (l : List Rat) : trimQ (a :: l) = if trimQ l = [] then (if a = 0 then [] else [a]) else a :: trimQ l := by
 rw [trimQ]
 cases h : trimQ l <;> simp
theorem iz_ (l : List Rat) (a : Rat) : trimQ (l ++ [a]) = if a = 0 then trimQ l else l ++ [a] := by
 induction l with
 | nil => simp [trimQ]
 | cons b l ih =>
  rw [List.cons_append, di_, ih, di_]
  by_cases h : a = 0
  ·simp only [if_pos h]
  ·simp [if_neg h]
theorem bm_ (l : List Rat) : (trimQ l).length ≤ l.length := by
 induction l with
 | nil => simp [trimQ]
 | cons a l ih => rw [di_]; split <;> (try split) <;> simp <;> omega
theorem ol_ (l : List Rat) : trimQ l = l.take (trimQ l).length := by
 induction l with
 | nil => simp [trimQ]
 | cons a l ih =>
  rw [di_]
  split
  ·split <;> simp
  ·simp [← ih]
theorem ca_ {l : List Rat} {q : Rat} (h : q ∈ trimQ l) : q ∈ l := by
 rw [ol_] at h; exact List.mem_of_mem_take h
theorem qv_ {l : List Rat} {q : Rat} (h : (trimQ l).getLast? = some q) : q ≠ 0 := by
 induction l with
 | nil => simp [trimQ] at h
 | cons a l ih =>
  rw [di_] at h
  split at h
  ·split at h
   ·cases h
   ·simp at h; subst h; assumption
  ·rename_i h0
   rw [List.getLast?_cons_of_ne_nil h0] at h
   exact ih h
theorem ek_ (l : List Rat) : trimQ (trimQ l) = trimQ l := by
 rcases List.eq_nil_or_concat (trimQ l) with h | ⟨m, q, h⟩
 ·rw [h]; rfl
 ·have hq : q ≠ 0 := qv_ (l := l) (by rw [h]; simp)
  rw [h, List.concat_eq_append, iz_, if_neg hq]
theorem yx_ {l : List Rat} (h : smL l) : smL (trimQ l) := fun q hq => h q (ca_ hq)
def degP (l : List Rat) : Int := (trimQ l).length - 1
def leadP (l : List Rat) : Rat := (trimQ l).getLastD 0
theorem jg_ {l : List Rat} (h : trimQ l ≠ []) : leadP l ≠ 0 := by
 unfold leadP
 refine qv_ (l := l) (q := (trimQ l).getLastD 0) ?_
 rw [List.getLastD_eq_getLast?]
 cases hl : (trimQ l).getLast? with
 | none => exact absurd (List.getLast?_eq_none_iff.1 hl) h
 | some q => rfl
theorem pf_ {l : List Rat} (h : trimQ l = []) : leadP l = 0 := by unfold leadP; rw [h]; rfl
theorem dt_ {l : List Rat} {n : Nat} (h : (trimQ l).length = n + 1) : (trimQ l)[n]? = some (leadP l) := by
 unfold leadP
 rw [List.getLastD_eq_getLast?, List.getLast?_eq_getElem?, h, Nat.add_sub_cancel, List.getElem?_eq_getElem (by omega)]; rfl
theorem sx_ {l : List Rat} (h : smL l) : sm (leadP l) := by
 by_cases h0 : trimQ l = []
 ·rw [pf_ h0]; decide
 ·obtain ⟨n, hn⟩ : ∃ n, (trimQ l).length = n + 1 := ⟨(trimQ l).length - 1, by have := List.length_pos_iff.2 h0; omega⟩
  exact h _ (ca_ (List.mem_of_getElem? (dt_ hn)))
def tabP (n : Nat) (f : Nat → Rat) : List Rat := (List.range n).map f
@[simp] theorem tabP_length (n : Nat) (f : Nat → Rat) : (tabP n f).length = n := by simp [tabP]
def coP (p : List Rat) (i : Nat) : Rat := p.getD i 0
def addP (p q : List Rat) : List Rat := trimQ (tabP (max p.length q.length) fun i => coP p i + coP q i)
def bp_ (p : List Rat) (k : Rat) : List Rat := trimQ (tabP p.length fun i => coP p i * k)
def subP (p q : List Rat) : List Rat := addP p (bp_ q (-1))
def ew_ (a : Rat) : List Rat := trimQ [a]
def ei_ (p : List Rat) : List Rat := trimQ (tabP (p.length - 1) fun i => coP p (i + 1) * ((i + 1 : Nat) : Int))
def jv_ (p : List Rat) : List Rat := if trimQ p = [] then [] else bp_ p (1 / leadP p)
theorem qi_ {p : List Rat} (h : smL p) (i : Nat) : sm (coP p i) := by
 unfold coP
 rw [List.getD_eq_getElem?_getD]
 cases hi : p[i]? with
 | none => exact (by decide : sm 0)
 | some q => exact h q (List.mem_of_getElem? hi)
theorem bg_ {p : List Rat} {i : Nat} (h : i < p.length) : p[i]? = some (coP p i) := by
 unfold coP; rw [List.getD_eq_getElem?_getD, List.getElem?_eq_getElem h]; rfl
theorem ho_ {p : List Rat} {i : Nat} (h : p.length ≤ i) : coP p i = 0 := by
 unfold coP; rw [List.getD_eq_getElem?_getD, List.getElem?_eq_none h]; rfl
theorem wo_ : ∀ c ∈ zC, Closed c := aa_ az_ (aa_ (ac_ _) (aa_ az_ ab_))
theorem le_zC : LeL zC (qC 0) := by rw [qC0]; exact .cons .emp (.cons (.refl _) (.cons .emp .nil))
def bdL (l : List Rat) (n : Nat) : Prop := ∀ q ∈ l, qs q ≤ n
instance (l : List Rat) (n : Nat) : Decidable (bdL l n) := inferInstanceAs (Decidable (∀ q ∈ l, qs q ≤ n))
theorem mi_ {l : List Rat} {n : Nat} (h : bdL l n) (hn : n ≤ 137438953472) : smL l := fun q hq => Nat.le_trans (h q hq) hn
theorem fo_ {l : List Rat} {n : Nat} (h : bdL l n) (hn : 1 ≤ n) (i : Nat) : qs (coP l i) ≤ n := by
 unfold coP
 rw [List.getD_eq_getElem?_getD]
 cases hi : l[i]? with
 | none => exact Nat.le_trans (by decide : qs 0 ≤ 1) hn
 | some q => exact h q (List.mem_of_getElem? hi)
def addAt (o : List Rat) (j : Nat) (x : Rat) : List Rat := o.set j (coP o j + x)
def rowP (o : List Rat) (a : Rat) (q : List Rat) (i : Nat) : Nat → List Rat
 | 0 => o
 | k + 1 => addAt (rowP o a q i k) (i + k) (a * coP q k)
def mulR (p q : List Rat) : Nat → List Rat
 | 0 => List.replicate (p.length + q.length - 1) 0
 | i + 1 => if coP p i = 0 then mulR p q i else rowP (mulR p q i) (coP p i) q i q.length
def mulP (p q : List Rat) : List Rat := if p = [] ∨ q = [] then [] else trimQ (mulR p q p.length)
@[simp] theorem wz_ (o : List Rat) (j : Nat) (x : Rat) : (addAt o j x).length = o.length := by simp [addAt]
@[simp] theorem xj_ (o : List Rat) (a : Rat) (q : List Rat) (i k : Nat) : (rowP o a q i k).length = o.length := by
 induction k with
 | zero => rfl
 | succ k ih => rw [rowP, wz_, ih]
@[simp] theorem pa_ (p q : List Rat) (i : Nat) : (mulR p q i).length = p.length + q.length - 1 := by
 induction i with
 | zero => simp [mulR]
 | succ i ih => rw [mulR]; split <;> simp [ih]
theorem qk_ (o : List Rat) (j n : Nat) (x : Rat) : coP (addAt o j x) n = if n = j ∧ j < o.length then coP o j + x else coP o n := by
 unfold addAt coP
 rw [List.getD_eq_getElem?_getD, List.getElem?_set, List.getD_eq_getElem?_getD, List.getD_eq_getElem?_getD]
 by_cases h : j = n
 ·subst h
  by_cases h2 : j < o.length
  ·simp [h2]
  ·simp [h2]
 ·rw [if_neg h, if_neg (by omega)]
theorem iu_ {o : List Rat} {n : Nat} (h : ∀ i, qs (coP o i) ≤ n) : bdL o n := by
 intro q hq
 obtain ⟨i, hi, rfl⟩ := List.getElem_of_mem hq
 have := h i
 unfold coP at this
 rwa [List.getD_eq_getElem?_getD, List.getElem?_eq_getElem hi] at this
theorem sn_ (o : List Rat) (a : Rat) (q : List Rat) (i k n : Nat) (h : n < i ∨ i + k ≤ n) : coP (rowP o a q i k) n = coP o n := by
 induction k with
 | zero => rfl
 | succ k ih => rw [rowP, qk_, if_neg (by omega), ih (by omega)]
theorem rowP_bd {o : List Rat} {a : Rat} {q : List Rat} {B s t : Nat} (i : Nat) (ho : ∀ n, qs (coP o n) ≤ B) (ha : qs a ≤ s) (hq : ∀ n, qs (coP q n) ≤ t) : ∀ k n, qs (coP (rowP o a q i k) n) ≤ B + (s + t + 1)
 | 0, n => Nat.le_trans (ho n) (by omega)
 | k + 1, n => by
  rw [rowP, qk_]
  split
  ·rw [sn_ o a q i k (i + k) (by omega)]
   have h1 := ln_ (coP o (i + k)) (a * coP q k)
   have h2 := gf_ a (coP q k)
   have h3 := ho (i + k)
   have h4 := hq k
   omega
  ·exact rowP_bd i ho ha hq k n
theorem st_ {p q : List Rat} {s t : Nat} (hp : ∀ n, qs (coP p n) ≤ s) (hq : ∀ n, qs (coP q n) ≤ t) : ∀ i n, qs (coP (mulR p q i) n) ≤ i * (s + t + 1) + 1
 | 0, n => by
  have : coP (mulR p q 0) n = 0 := by
   unfold mulR coP
   rw [List.getD_eq_getElem?_getD, List.getElem?_replicate]
   split <;> rfl
  rw [this]
  exact Nat.le_add_left 1 _
 | i + 1, n => by
  rw [mulR, Nat.add_mul, Nat.one_mul]
  split
  ·have := st_ hp hq i n; omega
  ·have := rowP_bd (B := i * (s + t + 1) + 1) i (st_ hp hq i) (hp i) hq q.length n
   omega
theorem mulP_bd {p q : List Rat} {s t : Nat} (hp : bdL p s) (hq : bdL q t) (hs : 1 ≤ s) (ht : 1 ≤ t) : bdL (mulP p q) (p.length * (s + t + 1) + 1) := by
 unfold mulP
 split
 ·intro q hq; cases hq
 ·intro x hx
  exact iu_ (st_ (fo_ hp hs) (fo_ hq ht) p.length) x (ca_ hx)
theorem CvLL.zeros {r : Ren} {hp hp' : Nat → Option ABlk} (h : Shr r hp hp') (n : Nat) : CvLL r hp hp' (List.replicate n zC) (pE (List.replicate n 0)) := by
 induction n with
 | zero => rfl
 | succ n ih =>
  refine ⟨qC 0, _, rfl, ?_, ih⟩
  rw [qC0]
  exact CvL.cons (Cv.emp _) (CvL.cons (Cv.clo h (ac_ _)) (CvL.cons (Cv.emp _) CvL.nil))
def subAt (o : List Rat) (j : Nat) (x : Rat) : List Rat := o.set j (coP o j - x)
def rowM (o : List Rat) (k : Rat) (q : List Rat) (n : Nat) : Nat → List Rat
 | 0 => o
 | i + 1 => subAt (rowM o k q n i) (n + i) (k * coP q i)
def divR (q : List Rat) (lead : Rat) : Nat → List Rat → List Rat → List Rat × List Rat
 | 0, u, o => (u, o)
 | n + 1, u, o => divR q lead n (u.set n (coP o (n + q.length - 1) / lead)) (if coP o (n + q.length - 1) / lead = 0 then o else rowM o (coP o (n + q.length - 1) / lead) q n q.length)
def divP (p q : List Rat) : List Rat × List Rat :=
 let r := divR (trimQ q) (leadP q) ((trimQ p).length + 1 - (trimQ q).length) (List.replicate ((trimQ p).length + 1 - (trimQ q).length) 0) (trimQ p)
 (trimQ r.1, trimQ r.2)
@[simp] theorem up_ (o : List Rat) (j : Nat) (x : Rat) : (subAt o j x).length = o.length := by simp [subAt]
@[simp] theorem kb_ (o : List Rat) (a : Rat) (q : List Rat) (i k : Nat) : (rowM o a q i k).length = o.length := by
 induction k with
 | zero => rfl
 | succ k ih => rw [rowM, up_, ih]
theorem gh_ (q : List Rat) (lead : Rat) : ∀ c u o, (divR q lead c u o).1.length = u.length ∧ (divR q lead c u o).2.length = o.length
 | 0, u, o => ⟨rfl, rfl⟩
 | n + 1, u, o => by
  rw [divR]
  refine ⟨(gh_ q lead n _ _).1.trans (by simp), (gh_ q lead n _ _).2.trans ?_⟩
  split <;> simp
theorem coP_set (o : List Rat) (j n : Nat) (x : Rat) : coP (o.set j x) n = if n = j ∧ j < o.length then x else coP o n := by
 unfold coP
 rw [List.getD_eq_getElem?_getD, List.getElem?_set, List.getD_eq_getElem?_getD]
 by_cases h : j = n
 ·subst h
  by_cases h2 : j < o.length
  ·simp [h2]
  ·simp [h2]
 ·rw [if_neg h, if_neg (by omega)]
theorem wm_ (o : List Rat) (j n : Nat) (x : Rat) : coP (subAt o j x) n = if n = j ∧ j < o.length then coP o j - x else coP o n := coP_set o j n _
theorem zd_ (o : List Rat) (a : Rat) (q : List Rat) (i k n : Nat) (h : n < i ∨ i + k ≤ n) : coP (rowM o a q i k) n = coP o n := by
 induction k with
 | zero => rfl
 | succ k ih => rw [rowM, wm_, if_neg (by omega), ih (by omega)]
theorem rowM_bd {o : List Rat} {a : Rat} {q : List Rat} {B s t : Nat} (i : Nat) (ho : ∀ n, qs (coP o n) ≤ B) (ha : qs a ≤ s) (hq : ∀ n, qs (coP q n) ≤ t) : ∀ k n, qs (coP (rowM o a q i k) n) ≤ B + (s + t + 1)
 | 0, n => Nat.le_trans (ho n) (by omega)
 | k + 1, n => by
  rw [rowM, wm_]
  split
  ·rw [zd_ o a q i k (i + k) (by omega)]
   have h1 := vb_ (coP o (i + k)) (a * coP q k)
   have h2 := gf_ a (coP q k)
   have h3 := ho (i + k)
   have h4 := hq k
   omega
  ·exact rowM_bd i ho ha hq k n
def divB (q : List Rat) (lead : Rat) (L c : Nat) (u o : List Rat) : Prop :=
 ∃ B t, (∀ n, qs (coP o n) ≤ B) ∧ (∀ n, qs (coP q n) ≤ t) ∧ qs lead ≤ t ∧ 1 ≤ t ∧ (∀ n, qs (coP u n) ≤ L) ∧ 2 ^ c * (B + 2 * t + 1) ≤ L
theorem divB_cur {q : List Rat} {lead : Rat} {L c : Nat} {u o : List Rat} (h : divB q lead L c u o) : ∃ B t, (∀ n, qs (coP o n) ≤ B) ∧ (∀ n, qs (coP q n) ≤ t) ∧ qs lead ≤ t ∧ B + 2 * t + 1 ≤ L := by
 obtain ⟨B, t, h1, h2, h3, h4, h5, h6⟩ := h
 refine ⟨B, t, h1, h2, h3, Nat.le_trans ?_ h6⟩
 have := Nat.mul_le_mul_right (B + 2 * t + 1) (Nat.one_le_two_pow (n := c))
 omega
theorem wj_ {q : List Rat} {lead : Rat} {L n : Nat} {u o : List Rat} (h : divB q lead L (n + 1) u o) :
    divB q lead L n (u.set n (coP o (n + q.length - 1) / lead)) (if coP o (n + q.length - 1) / lead = 0 then o else rowM o (coP o (n + q.length - 1) / lead) q n q.length) := by
 obtain ⟨B, t, h1, h2, h3, h4, h5, h6⟩ := h
 obtain ⟨k, hk⟩ : ∃ k, k = coP o (n + q.length - 1) / lead := ⟨_, rfl⟩
 have hkb : qs k ≤ B + t := by
  have e1 := ih_ (coP o (n + q.length - 1)) lead
  have e2 := h1 (n + q.length - 1)
  rw [hk]; omega
 rw [← hk]
 obtain ⟨W, hW⟩ : ∃ W, W = 2 ^ n := ⟨_, rfl⟩
 have hW1 : 1 ≤ W := by rw [hW]; exact Nat.one_le_two_pow
 rw [Nat.pow_succ, ← hW] at h6
 have h7 : W * (2 * B + 2 * t + 1 + 2 * t + 1) ≤ L := by
  rw [Nat.mul_assoc] at h6
  have e : 2 * B + 2 * t + 1 + 2 * t + 1 = 2 * (B + 2 * t + 1) := by omega
  rw [e]; exact h6
 have h8 : 2 * B + 2 * t + 1 + 2 * t + 1 ≤ L := by
  have := Nat.mul_le_mul_right (2 * B + 2 * t + 1 + 2 * t + 1) hW1
  omega
 refine ⟨2 * B + 2 * t + 1, t, fun j => ?_, h2, h3, h4, fun j => ?_, by rw [← hW]; exact h7⟩
 ·split
  ·have := h1 j; omega
  ·have := rowM_bd n h1 hkb h2 q.length j; omega
 ·rw [coP_set]
  split
  ·omega
  ·exact h5 j
theorem yg_ {q : List Rat} {lead : Rat} {L : Nat} : ∀ {c u o}, divB q lead L c u o → (∀ n, qs (coP (divR q lead c u o).1 n) ≤ L) ∧ (∀ n, qs (coP (divR q lead c u o).2 n) ≤ L)
 | 0, u, o, h => by
  obtain ⟨B, t, h1, h2, h3, h6⟩ := divB_cur h
  obtain ⟨_, _, _, _, _, _, h5, _⟩ := h
  exact ⟨h5, fun n => Nat.le_trans (h1 n) (by omega)⟩
 | n + 1, u, o, h => yg_ (c := n) (wj_ h)
def mxL (l : List Rat) : Nat := l.foldr (fun q n => max (qs q) n) 1
theorem cz_ (l : List Rat) : 1 ≤ mxL l := by
 induction l with
 | nil => exact Nat.le_refl _
 | cons q l ih => exact Nat.le_trans ih (Nat.le_max_right _ _)
theorem dq_ (l : List Rat) : bdL l (mxL l) := by
 induction l with
 | nil => intro q hq; cases hq
 | cons a l ih =>
  intro q hq
  rcases List.mem_cons.1 hq with rfl | hq
  ·exact Nat.le_max_left _ _
  ·exact Nat.le_trans (ih q hq) (Nat.le_max_right _ _)
theorem zv_ {l : List Rat} {n : Nat} (h : bdL l n) (hn : 1 ≤ n) : mxL l ≤ n := by
 induction l with
 | nil => exact hn
 | cons a l ih => exact Nat.max_le.2 ⟨h a (List.mem_cons_self ..), ih fun q hq => h q (List.mem_cons_of_mem _ hq)⟩
def okDiv (p q : List Rat) : Prop := 2 ^ ((trimQ p).length + 1 - (trimQ q).length) * (mxL p + 2 * mxL q + 1) ≤ 137438953472 ∧ p.length ≤ 274877906944 ∧ q.length ≤ 274877906944
instance (p q : List Rat) : Decidable (okDiv p q) := inferInstanceAs (Decidable (_ ∧ _ ∧ _))
theorem divB_start {p q : List Rat} {s t L : Nat} (hp : bdL p s) (hq : bdL q t) (hs : 1 ≤ s) (ht : 1 ≤ t) (hq0 : trimQ q ≠ []) (m : Nat) (h : 2 ^ m * (s + 2 * t + 1) ≤ L) : divB (trimQ q) (leadP q) L m (List.replicate m 0) (trimQ p) := by
 have hL : 1 ≤ L := by
  have h3 := Nat.mul_le_mul_right (s + 2 * t + 1) (Nat.one_le_two_pow (n := m))
  omega
 have hql := List.length_pos_iff.2 hq0
 refine ⟨s, t, fo_ (fun x hx => hp x (ca_ hx)) hs, fo_ (fun x hx => hq x (ca_ hx)) ht, hq _ (ca_ (List.mem_of_getElem? (dt_ (n := (trimQ q).length - 1) (by omega)))), ht, fun n => ?_, h⟩
 have : coP (List.replicate m 0) n = 0 := by
  unfold coP
  rw [List.getD_eq_getElem?_getD, List.getElem?_replicate]
  split <;> rfl
 rw [this]
 exact Nat.le_trans (by decide : qs 0 ≤ 1) hL
theorem divP_bd {p q : List Rat} {s t L : Nat} (hp : bdL p s) (hq : bdL q t) (hs : 1 ≤ s) (ht : 1 ≤ t) (hq0 : trimQ q ≠ []) (h : 2 ^ ((trimQ p).length + 1 - (trimQ q).length) * (s + 2 * t + 1) ≤ L) : bdL (divP p q).1 L ∧ bdL (divP p q).2 L := by
 have := yg_ (divB_start hp hq hs ht hq0 _ h)
 exact ⟨fun x hx => iu_ this.1 x (ca_ hx), fun x hx => iu_ this.2 x (ca_ hx)⟩
theorem yh_ {p q : List Rat} (h : okDiv p q) (hq0 : trimQ q ≠ []) : smL (divP p q).1 ∧ smL (divP p q).2 :=
 have := divP_bd (dq_ p) (dq_ q) (cz_ p) (cz_ q) hq0 h.1
 ⟨mi_ this.1 (Nat.le_refl _), mi_ this.2 (Nat.le_refl _)⟩
theorem of_ {p q : List Rat} : (divP p q).1.length ≤ p.length + 1 ∧ (divP p q).2.length ≤ p.length := by
 have h1 := gh_ (trimQ q) (leadP q) ((trimQ p).length + 1 - (trimQ q).length) (List.replicate ((trimQ p).length + 1 - (trimQ q).length) 0) (trimQ p)
 have h2 := bm_ p
 have h3 := bm_ (divR (trimQ q) (leadP q) ((trimQ p).length + 1 - (trimQ q).length) (List.replicate ((trimQ p).length + 1 - (trimQ q).length) 0) (trimQ p)).1
 have h4 := bm_ (divR (trimQ q) (leadP q) ((trimQ p).length + 1 - (trimQ q).length) (List.replicate ((trimQ p).length + 1 - (trimQ q).length) 0) (trimQ p)).2
 rw [h1.1, List.length_replicate] at h3
 rw [h1.2] at h4
 exact ⟨by unfold divP; simp only; omega, by unfold divP; simp only; omega⟩
theorem cg_ (p : List Rat) (k : Rat) : (bp_ p k).length ≤ p.length := by
 have := bm_ (tabP p.length fun i => coP p i * k)
 simpa [bp_] using this
theorem monicP_len (p : List Rat) : (jv_ p).length ≤ p.length := by
 unfold jv_; split
 ·simp
 ·exact cg_ _ _
def gcdM : Nat → List Rat → List Rat → Option (List Rat)
 | 0, _, _ => none
 | f + 1, p, q => if trimQ q = [] then (if smL p then some (jv_ p) else none) else if okDiv p q then gcdM f q (jv_ (divP p q).2) else none
def raiM : Nat → Rat → Rat → Nat → Option Rat
 | 0, _, _, _ => none
 | f + 1, out, a, n => if n = 0 then some out else if qs out + qs a ≤ 549755813888 ∧ qs a + qs a ≤ 549755813888 then raiM f (if n % 2 = 1 then out * a else out) (a * a) (n / 2) else none
def mulC (a b : Rat) : Option Rat := if qs a + qs b ≤ 549755813888 then some (a * b) else none
def resM : Nat → Rat → List Rat → List Rat → Option Rat
 | 0, _, _, _ => none
 | f + 1, out, p, q =>
  if p.length ≤ 274877906944 ∧ q.length ≤ 274877906944 then
   if degP p < 0 ∨ degP q < 0 then some 0
   else if degP q = 0 then (raiM 64 1 (leadP q) (degP p).toNat).bind (mulC out)
   else if degP p < degP q then resM f (if degP p % 2 = 1 ∧ degP q % 2 = 1 then -out else out) q p
   else if okDiv p q then
    if degP (divP p q).2 < 0 then some 0
    else (raiM 64 1 (leadP q) (degP p - degP (divP p q).2).toNat).bind fun x => (mulC out x).bind fun y =>
     resM f (if (degP p - degP (divP p q).2) % 2 = 1 ∧ degP q % 2 = 1 then -y else y) (divP p q).2 q
   else none
  else none
def evalP : List Rat → Rat → Rat
 | [], _ => 0
 | a :: l, x => evalP l x * x + a
def backP (l : List Rat) (k : Nat) : Option (List AV) := if k < l.length then some [i64 ((l.length - 1 - k : Nat) : Int), .agg (qC (coP l (l.length - 1 - k)))] else none
theorem wg_ {l : List Rat} {k : Nat} (h : k < l.length) : l.drop (l.length - (k + 1)) = coP l (l.length - 1 - k) :: l.drop (l.length - k) := by
 have h1 : l.length - (k + 1) < l.length := by omega
 rw [List.drop_eq_getElem_cons h1, show l.length - (k + 1) + 1 = l.length - k by omega]
 congr 1
 have := bg_ h1
 rw [List.getElem?_eq_getElem h1] at this
 rw [show l.length - 1 - k = l.length - (k + 1) by omega]
 exact Option.some.inj this
theorem mc_ {x : Rat} {s t : Nat} (hx : qs x ≤ t) : ∀ {l : List Rat}, bdL l s → qs (evalP l x) ≤ l.length * (s + t + 1) + 1
 | [], _ => by show qs 0 ≤ _; exact Nat.le_trans (by decide : qs 0 ≤ 1) (Nat.le_add_left 1 _)
 | a :: l, h => by
  have ih := mc_ (l := l) hx fun q hq => h q (List.mem_cons_of_mem _ hq)
  have ha := h a (List.mem_cons_self ..)
  have h1 := ln_ (evalP l x * x) a
  have h2 := gf_ (evalP l x) x
  show qs (evalP l x * x + a) ≤ (l.length + 1) * (s + t + 1) + 1
  rw [Nat.add_mul, Nat.one_mul]
  omega
def gu_ (p : List Rat) (x : Rat) : Prop := p.length * (mxL p + qs x + 1) + mxL p + qs x + 2 ≤ 137438953472 ∧ p.length ≤ 274877906944
instance (p : List Rat) (x : Rat) : Decidable (gu_ p x) := inferInstanceAs (Decidable (_ ∧ _))
theorem evalP_part {p : List Rat} {x : Rat} (h : gu_ p x) (k : Nat) (hk : k < p.length) : qs (evalP (p.drop (p.length - k)) x) + qs x ≤ 549755813888 ∧ qs (evalP (p.drop (p.length - k)) x * x) + qs (coP p (p.length - 1 - k)) ≤ 549755813888 := by
 have h1 := mc_ (t := qs x) (Nat.le_refl _) (l := p.drop (p.length - k)) (s := mxL p) fun q hq => dq_ p q (List.mem_of_mem_drop hq)
 have h2 := gf_ (evalP (p.drop (p.length - k)) x) x
 have h3 := fo_ (dq_ p) (cz_ p) (p.length - 1 - k)
 have h4 := h.1
 have h5 : (p.drop (p.length - k)).length * (mxL p + qs x + 1) ≤ p.length * (mxL p + qs x + 1) := Nat.mul_le_mul_right _ (by simp)
 omega
theorem oe_ {p : List Rat} {x : Rat} (h : gu_ p x) : sm (evalP p x) := by
 have h1 := mc_ (t := qs x) (Nat.le_refl _) (dq_ p)
 have h2 := h.1
 unfold sm; omega
abbrev Sp := Rat × Rat
def prods (a b : Sp) : List Rat := [a.1 * b.1, a.1 * b.2, a.2 * b.1, a.2 * b.2]
def spMul (a b : Sp) : Sp := (minL (prods a b), maxL (prods a b))
def spAdd (a b : Sp) : Sp := (a.1 + b.1, a.2 + b.2)
def smS (a : Sp) : Prop := sm a.1 ∧ sm a.2
instance (a : Sp) : Decidable (smS a) := inferInstanceAs (Decidable (_ ∧ _))
def ovP (v0 s : Sp) : List Rat → Sp
 | [] => v0
 | a :: l => spAdd (spMul (ovP v0 s l) s) (a, a)
def okOv (v0 s : Sp) : List Rat → Prop
 | [] => smS v0
 | a :: l => okOv v0 s l ∧ smL (prods (ovP v0 s l) s) ∧ sm a ∧ smS (spAdd (spMul (ovP v0 s l) s) (a, a))
instance okOv_dec (v0 s : Sp) : (l : List Rat) → Decidable (okOv v0 s l)
 | [] => inferInstanceAs (Decidable (smS v0))
 | a :: l => @instDecidableAnd _ _ (okOv_dec v0 s l) (inferInstanceAs (Decidable (_ ∧ _ ∧ _)))
theorem okOv_sm {v0 s : Sp} : ∀ {l : List Rat}, okOv v0 s l → smS (ovP v0 s l)
 | [], h => h
 | _ :: _, h => h.2.2.2
theorem vi_ {v0 s : Sp} : ∀ {l : List Rat} (n : Nat), okOv v0 s l → okOv v0 s (l.drop n)
 | _, 0, h => h
 | [], _ + 1, h => h
 | _ :: _, n + 1, h => vi_ n h.1
def overP (p : List Rat) (s : Sp) : Sp := if ¬ cmpQ s.1 s.2 ≤ 0 ∨ trimQ p = [] then (0, 0) else ovP (leadP p, leadP p) s ((trimQ p).take ((trimQ p).length - 1))
def zr_ (p : List Rat) (s : Sp) : Prop := smL p ∧ smS s ∧ p.length ≤ 274877906944 ∧ okOv (leadP p, leadP p) s ((trimQ p).take ((trimQ p).length - 1))
instance (p : List Rat) (s : Sp) : Decidable (zr_ p s) := inferInstanceAs (Decidable (_ ∧ _ ∧ _ ∧ _))
def okMul (p q : List Rat) : Prop := p.length * (mxL p + mxL q + 1) + 1 ≤ 137438953472 ∧ mxL q ≤ 137438953472 ∧ p.length ≤ 274877906944 ∧ q.length ≤ 274877906944
instance (p q : List Rat) : Decidable (okMul p q) := inferInstanceAs (Decidable (_ ∧ _ ∧ _ ∧ _))
theorem okMul_sm {p q : List Rat} (h : okMul p q) : smL (mulP p q) :=
 mi_ (mulP_bd (dq_ p) (dq_ q) (cz_ p) (cz_ q)) h.1
theorem hr_ (p q : List Rat) : (addP p q).length ≤ max p.length q.length := by
 have := bm_ (tabP (max p.length q.length) fun i => coP p i + coP q i)
 simpa [addP] using this
theorem jl_ (a : Rat) : (ew_ a).length ≤ 1 := bm_ [a]
def compP (q : List Rat) : List Rat → List Rat
 | [] => []
 | a :: l => addP (mulP (compP q l) q) (ew_ a)
def okComp (q : List Rat) : List Rat → Prop
 | [] => True
 | a :: l => okComp q l ∧ okMul (compP q l) q ∧ sm a ∧ (mulP (compP q l) q).length ≤ 274877906944
instance okComp_dec (q : List Rat) : (l : List Rat) → Decidable (okComp q l)
 | [] => inferInstanceAs (Decidable True)
 | a :: l => @instDecidableAnd _ _ (okComp_dec q l) (inferInstanceAs (Decidable (_ ∧ _ ∧ _)))
abbrev UB : Nat := 32768
def iE (l : List Nat) : List (List AV) := l.map fun (d : Nat) => [i64 d]
def hv (l : List Nat) : Nat := ofD UB l.reverse
def zd (n : Nat) : List Nat := (digs UB n).reverse
def zZ (z : Int) : List AV := [i64 (sgZ z), .arr (iE (zd z.natAbs))]
def fp_ : List Nat → List Nat
 | [] => []
 | d :: l => if d = 0 then fp_ l else d :: l
@[simp] theorem pj_ (l : List Nat) : (iE l).length = l.length := by simp [iE]
theorem jw_ {l : List Nat} {i d : Nat} (h : l[i]? = some d) : (iE l)[i]? = some [i64 d] := by simp [iE, h]
theorem iE_take (l : List Nat) (k : Nat) : (iE l).take k = iE (l.take k) := by simp [iE]
theorem er_ (l m : List Nat) : iE (l ++ m) = iE l ++ iE m := by simp [iE]
theorem hy_ (l : List Nat) (i d : Nat) : (iE l).set i [i64 d] = iE (l.set i d) := by simp [iE, List.map_set]
theorem cq_ (k : Nat) : List.replicate k [i64 0] = iE (List.replicate k 0) := by simp [iE]
theorem hz_ (l : List Nat) : (iE l).all (·.all AV.one) = true := by
 simp only [iE, List.all_map, List.all_eq_true]; intro d _; rfl
theorem ky_ (l : List Nat) : ∀ e ∈ iE l, e.length = 1 := by intro e he; simp [iE] at he; obtain ⟨d, _, rfl⟩ := he; rfl
theorem bh_ (l : List Nat) : ∀ e ∈ iE l, ∀ c ∈ e, Closed c := by
 intro e he c hc
 simp [iE] at he
 obtain ⟨d, _, rfl⟩ := he
 simp at hc; subst hc
 exact ac_ _
theorem av_ (l : List Nat) : Closed (.arr (iE l)) := ao_ (bh_ l)
theorem bv_ (z : Int) : ∀ c ∈ zZ z, Closed c := aa_ (ac_ _) (aa_ (av_ _) ab_)
theorem al_ (z : Int) : Closed (.agg (zZ z)) := ag_ (bv_ z)
theorem trimD_snoc (m : List Nat) (d : Nat) : trimD (m ++ [d]) = if d = 0 then trimD m else m ++ [d] := by
 induction m with
 | nil => simp [trimD]
 | cons a m ih =>
  rw [List.cons_append, trimD, ih]
  by_cases hd : d = 0
  ·rw [if_pos hd, if_pos hd]; rfl
  ·rw [if_neg hd, if_neg hd]
   cases m <;> rfl
theorem xa_ (l : List Nat) : fp_ l = (trimD l.reverse).reverse := by
 induction l with
 | nil => rfl
 | cons d l ih =>
  rw [fp_, List.reverse_cons, trimD_snoc]
  split
  ·exact ih
  ·simp
theorem eo_ {l : List Nat} (h : ∀ d ∈ l, d < UB) : fp_ l = zd (hv l) := by
 rw [xa_, hd_ (b := UB) (by decide) (fun d hd => h d (List.mem_reverse.1 hd))]; rfl
theorem hv_zd (n : Nat) : hv (zd n) = n := by unfold hv zd; rw [List.reverse_reverse, bd_ (by decide)]
theorem zd_lt (n : Nat) : ∀ d ∈ zd n, d < UB := fun d hd => cm_ (by decide) n d (List.mem_reverse.1 hd)
theorem bt_ (n : Nat) : (zd n).length = (digs UB n).length := List.length_reverse
theorem pl_ (d : Nat) (l : List Nat) : hv (d :: l) = hv l + UB ^ l.length * d := by
 unfold hv; rw [List.reverse_cons, fu_, List.length_reverse]
theorem pk_ (l : List Nat) (d : Nat) : hv (l ++ [d]) = hv l * UB + d := by
 unfold hv; simp [ofD]; rw [Nat.mul_comm, Nat.add_comm]
theorem vp_ : hv [] = 0 := rfl
theorem mk_ : zd 0 = [] := by unfold zd; rw [bq_]; rfl
theorem zd_eq_nil {n : Nat} : zd n = [] ↔ n = 0 := by
 unfold zd; rw [List.reverse_eq_nil_iff]; exact eh_ (by decide)
theorem qy_ {l : List Nat} (h : ∀ d ∈ l, d < UB) : fp_ l = [] ↔ hv l = 0 := by rw [eo_ h]; exact zd_eq_nil
theorem zZ_zero : zZ 0 = [i64 0, .arr []] := by unfold zZ; show [i64 0, AV.arr (iE (zd 0))] = _; rw [mk_]; rfl
theorem hv_lt {l : List Nat} (h : ∀ d ∈ l, d < UB) : hv l < UB ^ l.length := by
 have := fl_ (b := UB) (l := l.reverse) fun d hd => h d (List.mem_reverse.1 hd)
 rwa [List.length_reverse] at this
theorem AEval.lenI {P : Program} {id : Nat} {ev : Operand → Option AV} {hp : Nat → Option ABlk} {c : Call} {x : Operand} {T : Nat} {d : Nat × Nat} {l : List Nat} (hc : c.callee = .builtin .len) (ha : c.args = #[x]) (ht : c.argTypes = #[T]) (hx : ev x = some (.arr (iE l))) (he : elOf P T = some d) :
    AEval P id ev hp (.call c) ⟨.v (.int .i64 (l.length : Nat)), []⟩ [] := .len hc ha ht hx (by simp [lenA]) he
abbrev RQ := Rat × Bool
def rok (x : RQ) : Prop := x.2 = true → x.1 = 0
def rC (x : RQ) : List AV := zZ x.1.num ++ zZ (if x.2 then 0 else (x.1.den : Int))
def rq (q : Rat) : RQ := (q, false)
def r0 : RQ := (0, true)
theorem ez_ (q : Rat) : rok (rq q) := fun h => by cases h
theorem rok_r0 : rok r0 := fun _ => rfl
@[simp] theorem rC_length (x : RQ) : (rC x).length = 4 := rfl
theorem bz_ (x : RQ) : ∀ c ∈ rC x, Closed c := fun c hc => (List.mem_append.1 hc).elim (bv_ _ c) (bv_ _ c)
theorem ay_ (x : RQ) : Closed (.agg (rC x)) := ag_ (bz_ x)
theorem rC_rq (q : Rat) : rC (rq q) = zZ q.num ++ zZ (q.den : Int) := rfl
theorem rC_r0 : rC r0 = [i64 0, .arr [], i64 0, .arr []] := by
 show zZ 0 ++ zZ 0 = _
 rw [zZ_zero]; rfl
def rE (l : List RQ) : List (List AV) := l.map rC
@[simp] theorem rE_length (l : List RQ) : (rE l).length = l.length := by simp [rE]
theorem ht_ {l : List RQ} {i : Nat} {q : RQ} (h : l[i]? = some q) : (rE l)[i]? = some (rC q) := by simp [rE, h]
theorem rE_take (l : List RQ) (k : Nat) : (rE l).take k = rE (l.take k) := by simp [rE]
theorem gs_ (l : List RQ) : (rE l).all (·.all AV.one) = true := by
 simp only [rE, List.all_map, List.all_eq_true]; intro q _; rfl
theorem so_ (l : List RQ) : ∀ e ∈ rE l, e.length = 4 := by
 intro e he
 obtain ⟨q, _, rfl⟩ := List.mem_map.1 he
 rfl
theorem cl_ (l : List RQ) : ∀ e ∈ rE l, ∀ c ∈ e, Closed c := by
 intro e he c hc
 obtain ⟨q, _, rfl⟩ := List.mem_map.1 he
 exact bz_ q c hc
theorem au_ (l : List RQ) : Closed (.arr (rE l)) := ao_ (cl_ l)
theorem AEval.lenR {P : Program} {id : Nat} {ev : Operand → Option AV} {hp : Nat → Option ABlk} {c : Call} {x : Operand} {T : Nat} {d : Nat × Nat} {l : List RQ} (hc : c.callee = .builtin .len) (ha : c.args = #[x]) (ht : c.argTypes = #[T]) (hx : ev x = some (.arr (rE l))) (he : elOf P T = some d) :
    AEval P id ev hp (.call c) ⟨.v (.int .i64 (l.length : Nat)), []⟩ [] := .len hc ha ht hx (by simp [lenA]) he
theorem sgZ_mkRat {n : Int} {d : Nat} (hd : 0 < d) : sgZ (mkRat n d).num = sgZ n := by
 rw [gv_ hd]
 have hg : 0 < Nat.gcd n.natAbs d := Nat.gcd_pos_of_pos_right _ hd
 have h1 : n ≠ 0 → 0 < n.natAbs / Nat.gcd n.natAbs d := fun h => Nat.div_pos (Nat.gcd_le_left _ (by omega)) hg
 unfold sgZ sgn
 by_cases h0 : n = 0
 ·subst h0; simp
 ·have := h1 h0
  by_cases hn : n < 0
  ·simp [hn, h0]; omega
  ·simp [hn, h0]; omega
theorem ms_ (n d : Int) (hd : d < 0) : Rat.divInt n d = mkRat (-n) d.natAbs := by
 obtain ⟨m, rfl⟩ : ∃ m : Nat, d = Int.negSucc m := ⟨d.natAbs - 1, by omega⟩
 rfl
theorem mr_ (n d : Int) (hd : 0 < d) : Rat.divInt n d = mkRat n d.natAbs := by
 obtain ⟨m, rfl⟩ : ∃ m : Nat, d = (m : Int) := ⟨d.natAbs, by omega⟩
 rfl
theorem sa_ (a b : Rat) : a / b = Rat.divInt (a.num * b.den) (a.den * b.num) := by
 rw [Rat.div_def, Rat.inv_def]
 conv => lhs; rw [← Rat.num_divInt_den a]
 rw [Rat.divInt_mul_divInt]
end Go.Abs
