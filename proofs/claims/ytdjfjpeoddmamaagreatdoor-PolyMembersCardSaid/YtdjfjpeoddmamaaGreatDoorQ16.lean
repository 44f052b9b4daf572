/- Part Q16 of the proof. -/
import Derived.Test.YtdjfjpeoddmamaaGreatDoorQ15
import Derived.Lib.UnsafeStr
import Derived.Lib.Builder
import Derived.Shelf.RegionOpenPlain
import Derived.Lib.Strings
import Derived.Lib.Slices
import Derived.Lib.Walk
set_option linter.all false
namespace Go.Proofs.YtdjfjpeoddmamaaGreatDoor
open Go.Abs
set_option maxRecDepth 20000
def seqF (st : Nat → List Rat → List Rat → List Rat) (one : List Rat) : Nat → List Rat × List Rat
 | 0 => (constP 1, one)
 | k + 1 => ((seqF st one k).2, st (k + 1) (seqF st one k).2 (seqF st one k).1)
def seqT (st : Nat → List Rat → List Rat → List Rat) (one : List Rat) (k : Nat) : Option (List AV) := some [.arr (pE (seqF st one k).1)]
abbrev bFm (one : List Rat) (g : Nat) (cap : List AV) : AV := .aptr [fmC one g cap] 0 0
theorem closed_bFm (one : List Rat) (g : Nat) {cap : List AV} (h : ∀ c ∈ cap, Closed c) : Closed (bFm one g cap) := closed_box (closed_fmC _ _ h)
theorem gs_membersG (st : Nat → List Rat → List Rat → List Rat) (one : List Rat) (g : Nat) (cap : List AV) (hcap : ∀ c ∈ cap, Closed c) (K : Nat) (hK : K ≤ 1000000)
    (hok : ∀ k, k < K → FSpec Tryz.prog g (([i64 ((k : Int) + 1), .arr (pE (seqF st one k).2), .arr (pE (seqF st one k).1)] ++ cap).map coe) (.arr (pE (st (k + 1) (seqF st one k).2 (seqF st one k).1)))) : GSpecB Tryz.prog 267 [bFm one g cap] (seqT st one) K := by
 have hcb := closed_bFm one g hcap
 refine GSpecB.enter Tryz.func267 rfl (by kernel_rfl) rfl rfl rfl ?_ ?_ rfl ?_
 ·exact closed_cons hcb closed_nil
 ·intro k xs h
  cases h
  exact closed_cons (closed_pA _) closed_nil
 intro ll N hN E
 refine GWp.seq ?_
 refine GWp.lift ?_
 refine AWp.regD hmix (m := 6) rfl ?_
 refine c_s (fs_Int 1 (by decide)) ?_
 refine c_s (fs_constant 1) ?_
 refine a_4 ?_
 refine AR.nil ⟨by kernel_rfl, ?_⟩
 refine GWp.seq ?_
 refine GWp.lift ?_
 refine AWp.reg (m := 1) rfl ?_
 refine a_z ?_
 refine GWp.block ?_
 refine GWp.loopS (fun k : Nat => ⟨[(0, .v (.func (.yield ll) #[] #[])), (1, bFm one g cap), (3, .arr (pE (seqF st one k).1)), (4, .arr (pE (seqF st one k).2)), (5, i64 ((k : Int) + 1))], [], 1, 22⟩) (fun k => k) (fun k => N + 1 - k) (fun k => k ≤ N) 0 (Nat.zero_le _) rfl ?_ ?_
 ·refine SEnt.to [] rfl rfl rfl au_r (fun hs => ?_) (fun hs => ?_)
  ·repeat' (first | exact CvF.nil | refine CvF.cons rfl ?_ ?_)
   all_goals (first | (exact Cv.clo hs hcb) | exact au_c)
  ·repeat' (first | exact CvH.nil | refine CvH.cons rfl rfl rfl rfl ?_ ?_)
   all_goals (first | exact au_e | (refine CvLL.box ?_; repeat' (first | exact CvL.nil | refine CvL.cons ?_ ?_)))
   all_goals (first | (exact Cv.clo hs hcb) | exact au_c)
 intro k hk
 refine GWp.seq ?_
 refine GWp.seq ?_
 refine GWp.regY (fr2 := [(0, .v (.func (.yield ll) #[] #[])), (1, bFm one g cap), (3, .arr (pE (seqF st one k).1)), (4, .arr (pE (seqF st one k).2)), (5, i64 ((k : Int) + 1)), (10, .v (.func (.yield ll) #[] #[])), (11, .arr (pE (seqF st one k).1))]) (hp2 := []) (nx2 := 2) 2 rfl rfl rfl rfl rfl rfl ?_ rfl rfl rfl ?_ ?_ ?_
 ·refine o_0 (.move rfl) ?_
  refine o_0 (.move rfl) ?_
  refine AR.nil ?_
  refine SEntT.to [] rfl rfl rfl au_r (fun hs => au_f) (fun hs => au_h)
 rotate_left 2
 intro go
 refine AR.nil ?_
 rotate_left
 ·rfl
 ·exact closed_cons (closed_pA _) closed_nil
 cases go with
 | false =>
  refine GWp.cond rfl (fun h => ?_) (fun h => ?_)
  ·cases h
  ·exact GWp.exit ⟨.inl rfl, fun h => by cases h⟩
 | true =>
  refine GWp.bound fun hk1 => ?_
  refine GWp.cond rfl (fun h => ?_) (fun h => ?_)
  rotate_left
  ·cases h
  refine GWp.skip ?_
  have hst := hok k (by omega)
  refine GWp.lift ?_
  refine AWp.seq ?_
  refine AWp.block ?_
  refine AWp.reg (m := 9) rfl ?_
  refine c_s (hst) ?_
  refine a_z ?_
  refine AWp.reg (m := 3) rfl ?_
  refine a_z ?_
  refine ⟨rfl, k + 1, by omega, hk1, rfl, ?_⟩
  refine SEnt.to [] rfl rfl rfl au_r (fun hs => ?_) (fun hs => ?_)
  ·repeat' (first | exact CvF.nil | refine CvF.cons rfl ?_ ?_)
   all_goals (first | (exact Cv.clo hs hcb) | exact au_c)
  ·repeat' (first | exact CvH.nil | refine CvH.cons rfl rfl rfl rfl ?_ ?_)
   all_goals (first | exact au_e | (refine CvLL.box ?_; repeat' (first | exact CvL.nil | refine CvL.cons ?_ ?_)))
   all_goals (first | (exact Cv.clo hs hcb) | exact au_c)
theorem fs_membersG (one : List Rat) (g : Nat) (cap : List AV) (hcap : ∀ c ∈ cap, Closed c) : FSpec Tryz.prog 219 [.agg (fmC one g cap)] (.clos 267 [] [bFm one g cap]) := by
 have hc : ∀ c ∈ fmC one g cap, Closed c := closed_fmC _ _ hcap
 refine FSpec.enter Tryz.func219 rfl (by kernel_rfl) rfl rfl rfl ?_ rfl ?_
 ·exact closed_cons (closed_agg hc) closed_nil
 refine r_z 2 ?_
 refine r_z 2 ?_
 refine AWp.ret ?_
 refine ⟨.inr rfl, [_], ⟨_, [], rfl, rfl, rfl⟩, ?_⟩
 exact Cv.clos CvL.nil (CvL.cons (Cv.boxp shr_nil rfl (fun _ _ h => by cases h) rfl hc) CvL.nil)
def stL (n : Nat) (p last : List Rat) : List Rat := scaleP (subP (mulP (scaleP [0, 1] ((2 * (n : Int) + 1 : Int) : Rat)) p) (scaleP last ((n : Int) : Rat))) (((1 : Int) : Rat) / (((n : Int) + 1 : Int) : Rat))
def okL (n : Nat) (p last : List Rat) : Prop := okMul (scaleP [0, 1] ((2 * (n : Int) + 1 : Int) : Rat)) p ∧ smL last ∧ smL (scaleP last ((n : Int) : Rat)) ∧ smL (subP (mulP (scaleP [0, 1] ((2 * (n : Int) + 1 : Int) : Rat)) p) (scaleP last ((n : Int) : Rat))) ∧ (mulP (scaleP [0, 1] ((2 * (n : Int) + 1 : Int) : Rat)) p).length ≤ 1000 ∧ last.length ≤ 1000 ∧ n ≤ 1000
instance (n : Nat) (p last : List Rat) : Decidable (okL n p last) := inferInstanceAs (Decidable (_ ∧ _ ∧ _ ∧ _ ∧ _ ∧ _ ∧ _))
theorem qs_int21 {n : Int} (h : -2000000 ≤ n ∧ n ≤ 2000000) : qs (n : Rat) ≤ 21 := by
 refine Nat.max_le.2 ⟨?_, ?_⟩
 ·show bl n.natAbs ≤ 21
  exact bl_le (by omega)
 ·show bl 1 ≤ 21
  rw [bl_one]; decide
theorem fs_famL (n : Nat) (p last : List Rat) (h : okL n p last) : FSpec Tryz.prog 216 [i64 n, .arr (pE p), .arr (pE last)] (.arr (pE (stL n p last))) := by
 obtain ⟨h1, h2, h3, h4, h5, h6, hn⟩ := h
 have q1 := qs_int21 (n := 2 * (n : Int) + 1) (by omega)
 have q2 := qs_int21 (n := (n : Int)) (by omega)
 have q3 := qs_int21 (n := (n : Int) + 1) (by omega)
 have q4 := qs_int21 (n := 1) (by omega)
 have q5 := qs_div ((1 : Int) : Rat) (((n : Int) + 1 : Int) : Rat)
 have hne : (((n : Int) + 1 : Int) : Rat) ≠ 0 := fun e => by
  have : (n : Int) + 1 = 0 := by exact_mod_cast e
  omega
 have hsl := scaleP_len last ((n : Int) : Rat)
 have hsb : (subP (mulP (scaleP [0, 1] ((2 * (n : Int) + 1 : Int) : Rat)) p) (scaleP last ((n : Int) : Rat))).length ≤ 274877906944 := by
  have a1 := scaleP_len (scaleP last ((n : Int) : Rat)) (-1)
  have a2 := addP_len (mulP (scaleP [0, 1] ((2 * (n : Int) + 1 : Int) : Rat)) p) (scaleP (scaleP last ((n : Int) : Rat)) (-1))
  unfold subP
  omega
 have s1 : smL [0, 1] := by decide
 unfold stL
 refine FSpec.enter Tryz.func216 rfl (by kernel_rfl) rfl rfl rfl ?_ rfl ?_
 ·exact closed_cons (closed_v _) (closed_cons (closed_pA _) (closed_cons (closed_pA _) closed_nil))
 refine r_z 1 ?_
 refine r_c 20 (fs_x) ?_
 refine c_s (fs_Int (2 * (n : Int) + 1) (by omega)) ?_
 refine o_0 (.call rfl rfl rfl (fs_Scale [0, 1] _ s1 (by unfold sm; omega) (by decide))) ?_
 refine o_0 (.move rfl) ?_
 refine o_0 (.call rfl rfl rfl (fs_Mul _ p (mxL _) (mxL p) (bdL_mx _) (bdL_mx _) (mxL_pos _) (mxL_pos _) h1.1 h1.2.1 h1.2.2.1 h1.2.2.2)) ?_
 refine o_0 (.move rfl) ?_
 refine o_0 (.move rfl) ?_
 refine o_0 (.call rfl rfl rfl (fs_Int (n : Int) (by omega))) ?_
 refine o_0 (.call rfl rfl rfl (fs_Scale last _ h2 (by unfold sm; omega) (by omega))) ?_
 refine o_0 (.call rfl rfl rfl (fs_Sub _ _ (okMul_sm h1) h3 (by omega) (by omega))) ?_
 refine o_0 (.call rfl rfl rfl (fs_Int 1 (by decide))) ?_
 refine o_0 (.move rfl) ?_
 refine o_0 (.bin rfl rfl (bI64_add (by omega))) ?_
 refine o_0 (.call rfl rfl rfl (fs_Int ((n : Int) + 1) (by omega))) ?_
 refine o_0 (.call rfl rfl rfl (fs_over2 _ _ hne (by omega))) ?_
 refine o_0 (.call rfl rfl rfl (fs_Scale _ _ h4 (by unfold sm; omega) (by omega))) ?_
 refine o_0 (.assign rfl) ?_
 refine AR.nil ?_
 refine AWp.ret ?_
 refine Fin.tmpE rfl ?_ ?_
 ·rfl
 ·exact closed_pA _
def stH (n : Nat) (p last : List Rat) : List Rat := subP (mulP twP p) (scaleP last ((2 * (n : Int) : Int) : Rat))
def okH (n : Nat) (p last : List Rat) : Prop := okMul twP p ∧ smL last ∧ smL (scaleP last ((2 * (n : Int) : Int) : Rat)) ∧ (mulP twP p).length ≤ 1000 ∧ last.length ≤ 1000 ∧ n ≤ 1000
instance (n : Nat) (p last : List Rat) : Decidable (okH n p last) := inferInstanceAs (Decidable (_ ∧ _ ∧ _ ∧ _ ∧ _ ∧ _))
theorem fs_famH (n : Nat) (p last : List Rat) (h : okH n p last) : FSpec Tryz.prog 218 [i64 n, .arr (pE p), .arr (pE last), bP twP] (.arr (pE (stH n p last))) := by
 obtain ⟨h1, h2, h3, h4, h5, hn⟩ := h
 have q1 := qs_int21 (n := 2 * (n : Int)) (by omega)
 have hsl := scaleP_len last ((2 * (n : Int) : Int) : Rat)
 unfold stH
 refine FSpec.enter Tryz.func218 rfl (by kernel_rfl) rfl rfl rfl ?_ rfl ?_
 ·exact closed_cons (closed_v _) (closed_cons (closed_pA _) (closed_cons (closed_pA _) (closed_cons (closed_bP _) closed_nil)))
 refine r_z 1 ?_
 refine r_c 10 (fs_Mul twP p (mxL twP) (mxL p) (bdL_mx _) (bdL_mx _) (mxL_pos _) (mxL_pos _) h1.1 h1.2.1 h1.2.2.1 h1.2.2.2) ?_
 refine c_s (fs_Int (2 * (n : Int)) (by omega)) ?_
 refine o_0 (.call rfl rfl rfl (fs_Scale last _ h2 (by unfold sm; omega) (by omega))) ?_
 refine o_0 (.call rfl rfl rfl (fs_Sub _ _ (okMul_sm h1) h3 (by omega) (by omega))) ?_
 refine o_0 (.assign rfl) ?_
 refine AR.nil ?_
 refine AWp.ret ?_
 refine Fin.tmpE rfl ?_ ?_
 ·rfl
 ·exact closed_pA _
end Go.Proofs.YtdjfjpeoddmamaaGreatDoor
namespace Go.Abs
theorem AEval.lookupT {P : Program} {id : Nat} {ev : Operand → Option AV} {hp : Nat → Option ABlk} {T kt e : TypeId} {kd : IntKind} {x ix : Operand} {ks : List Value} {vs : List AV} {kk : Int} {n : Nat} {a : AV} (h1 : ev x = some (.mp ks vs)) (h3 : ev ix = some (.v (.int kd kk))) (hT : P.underlying T = some (.map kt e)) (hK : P.underlying kt = some (.int kd)) (hn : keyAt kd kk ks = some n) (ha : vs[n]? = some a) (hg : goodKeys kd ks = true) :
    AEval P id ev hp (.lookup T x ix true) ⟨.tup [a, .v (.bool true)], []⟩ [] := by
 refine .sem fun M0 w0 β hp' w ρ o ho mem hev hcst hid0 hid hidh hrd => ?_
 obtain ⟨r, ens, ck, hm, g1, _, l, gp, g2, g3⟩ := hev x (by simp [Op.operands]) _ h1
 have hk : ρ ix = .int kd kk := hev ix (by simp [Op.operands]) _ h3
 obtain ⟨en, f0, f1, f2⟩ := keyAt_get n a g2 g3 hn ha
 obtain ⟨k1, k2⟩ := goodKeys_spec hg
 have hp := gp.map (fun e : MapEntry => e.key)
 rw [g2] at hp
 obtain ⟨j, hj⟩ := find_mem (kd0 := kd) 0 (gp.mem_iff.1 f0) f1 (hp.nodup_iff.1 k1) (fun y hy => k2 y (hp.mem_iff.2 hy))
 refine .pure (y := .tuple #[en.val, .bool true]) mem ?_ ⟨#[en.val, .bool true], rfl, _, _, rfl, f2, _, _, rfl, rfl, rfl⟩
 have hrun : (Instr.lookup T (.map (some r)) (.int kd kk) true).run P w = .ok (.tuple #[en.val, .bool true]) w := by
  simp [Instr.lookup, run_underlying hT, MapKept.run_getObj_map g1, MapKept.run_checkKey (k := .int kd kk) hK (by simp [MapKept.IsKey]), MapKept.run_findKey hK hj, Result.andThen]
 simp only [execOp, ho, hm, hk]
 exact run_v _ hrun
end Go.Abs
namespace Go.Proofs.YtdjfjpeoddmamaaGreatDoor
open Go.Abs
set_option maxRecDepth 100000
def meS (one : List Rat) (g : Nat) (cap : List AV) (n : Nat) : Nat → AState
 | k => ⟨[(3, .lptr 1 0 0), (4, .lptr 2 0 0), (7, .clos 267 [] [bFm one g cap])], [(1, some ⟨3, 1, [[i64 ((n : Int) - (k : Int))]]⟩), (2, some ⟨55, 1, [[.emp]]⟩)], 3, 14⟩
theorem meS_mk (one : List Rat) (g : Nat) (cap : List AV) (n : Nat) (k : Nat) : meS one g cap n k = ⟨[(3, .lptr 1 0 0), (4, .lptr 2 0 0), (7, .clos 267 [] [bFm one g cap])], [(1, some ⟨3, 1, [[i64 ((n : Int) - (k : Int))]]⟩), (2, some ⟨55, 1, [[.emp]]⟩)], 3, 14⟩ := rfl
def meX (r : List Rat) : Unit → AState
 | u => ⟨[(4, .lptr 1 0 0)], [(1, some ⟨55, 1, [[.arr (pE r)]]⟩)], 3, 14⟩
theorem fs_member (st : Nat → List Rat → List Rat → List Rat) (one : List Rat) (g : Nat) (cap : List AV) (hcap : ∀ c ∈ cap, Closed c) (n : Nat) (hn : n ≤ 1000)
    (hok : ∀ k, k < n → FSpec Tryz.prog g (([i64 ((k : Int) + 1), .arr (pE (seqF st one k).2), .arr (pE (seqF st one k).1)] ++ cap).map coe) (.arr (pE (st (k + 1) (seqF st one k).2 (seqF st one k).1)))) : FSpec Tryz.prog 137 [.agg (fmC one g cap), i64 n] (.arr (pE (seqF st one n).1)) := by
 have hgs := gs_membersG st one g cap hcap n (by omega) hok
 have hcF : Closed (.clos 267 [] [bFm one g cap]) := closed_clos closed_nil (closed_cons (closed_bFm one g hcap) closed_nil)
 obtain ⟨r, hr⟩ : ∃ r, r = (seqF st one n).1 := ⟨_, rfl⟩
 rw [← hr]
 refine FSpec.enter Tryz.func137 rfl (by kernel_rfl) rfl rfl rfl ?_ rfl ?_
 ·exact closed_cons (closed_agg (closed_fmC _ _ hcap)) (closed_cons (closed_v _) closed_nil)
 refine r_z 3 ?_
 refine AWp.seq ?_
 refine r_c 2 (fs_membersG one g cap hcap) ?_
 refine AR.nil ?_
 refine AWp.cutT (meX r) (fun _ => False) ?_ (fun _ h => h.elim)
 refine AWp.block ?_
 refine AWp.rangeFuncB (α := Nat) (γ := Unit) n (meS one g cap n) (fun k => k) (fun k => k ≤ n) (meX r) (fun e _ => e = .ret) 0 rfl hgs rfl rfl ?_ (fun _ => ⟨rfl, rfl⟩) (fun _ => rfl) (Nat.zero_le _) rfl (fun _ h => h) ?_ ?_ ?_ ?_ ?_
 ·intro k xs hT; cases hT; rfl
 ·rw [meS_mk, show (n : Int) - ((0 : Nat) : Int) = n by omega]
  refine SEntT.to [(1, 3), (2, 4)] rfl rfl rfl au_r (fun hs => ?_) (fun hs => ?_)
  ·repeat' (first | exact CvF.nil | refine CvF.cons rfl ?_ ?_)
   all_goals (first | (exact Cv.clo hs hcF) | exact au_c)
  ·repeat' (first | exact CvH.nil | refine CvH.cons rfl rfl rfl rfl ?_ ?_)
   all_goals (first | (exact CvLL.box (CvL.cons (Cv.clo hs (closed_v _)) CvL.nil)) | exact au_e | (refine CvLL.box ?_; repeat' (first | exact CvL.nil | refine CvL.cons ?_ ?_)))
   all_goals (first | (exact Cv.clo hs hcF) | exact au_c)
 ·exact closed_cons (closed_bFm one g hcap) closed_nil
 ·intro l k xs hk hT
  cases hT
  show AWp _ _ _ _ ⟨[(8, .arr (pE (seqF st one k).1)), (3, .lptr 1 0 0), (4, .lptr 2 0 0), (7, .clos 267 [] [bFm one g cap]), (1003, .lptr 1 0 0), (1004, .lptr 2 0 0), (1007, .clos 267 [] [bFm one g cap])], [(1, some ⟨3, 1, [[i64 ((n : Int) - (k : Int))]]⟩), (2, some ⟨55, 1, [[.emp]]⟩)], 3, 14⟩
  refine AWp.reg (m := 1) rfl ?_
  refine a_z ?_
  refine AWp.block ?_
  by_cases he : k = n
  ·subst he
   refine AWp.seq ?_
   refine s_r 2 ?_
   refine a_1 ?_
   refine o_0 (.bin rfl rfl (vT binI_eql (decide_eq_true (by omega)))) ?_
   refine AR.nil ?_
   refine AWp.cond rfl (fun h => ?_) (fun h => ?_)
   rotate_left
   ·cases h
   refine r_z 2 ?_
   refine AWp.ret ?_
   refine ⟨rfl, (), rfl, ?_⟩
   rw [hr]
   show SEntT _ ⟨[(1004, .lptr 1 0 0)], [(1, some ⟨55, 1, [[.arr (pE ((seqF st one k).1))]]⟩)], 3, 14⟩
   refine SEntT.to [(1, 4)] rfl rfl rfl au_r (fun hs => au_f) (fun hs => ?_)
   ·repeat' (first | exact CvH.nil | refine CvH.cons rfl rfl rfl rfl ?_ ?_)
    all_goals (first | (exact CvLL.box (CvL.cons (Cv.clo hs (closed_pA _)) CvL.nil)) | exact au_e)
  ·refine AWp.seq ?_
   refine s_r 2 ?_
   refine a_1 ?_
   refine o_0 (.bin rfl rfl (vF binI_eql (decide_eq_false (by omega)))) ?_
   refine AR.nil ?_
   refine AWp.cond rfl (fun h => ?_) (fun h => ?_)
   ·cases h
   refine AWp.skip ?_
   refine AWp.reg (m := 3) rfl ?_
   refine a_z ?_
   refine ⟨k + 1, ⟨by omega, rfl⟩, ?_⟩
   show SEntT _ ⟨[(1003, .lptr 1 0 0), (1004, .lptr 2 0 0), (1007, .clos 267 [] [bFm one g cap])], [(1, some ⟨3, 1, [[i64 ((n : Int) - ((k + 1) : Int))]]⟩), (2, some ⟨55, 1, [[.emp]]⟩)], 3, 14⟩
   rw [show (n : Int) - ((k : Int) + 1) = (n : Int) - (k : Int) - 1 by omega]
   refine SEntT.to [] rfl rfl rfl au_r (fun hs => ?_) (fun hs => ?_)
   ·repeat' (first | exact CvF.nil | refine CvF.cons rfl ?_ ?_)
    all_goals (first | (exact Cv.clo hs hcF) | exact au_c)
   ·repeat' (first | exact CvH.nil | refine CvH.cons rfl rfl rfl rfl ?_ ?_)
    all_goals (first | (exact CvLL.box (CvL.cons (Cv.clo hs (closed_v _)) CvL.nil)) | exact au_e | (refine CvLL.box ?_; repeat' (first | exact CvL.nil | refine CvL.cons ?_ ?_)))
    all_goals (first | (exact Cv.clo hs hcF) | exact au_c)
 ·intro k hk hT; cases hT
 ·rintro e u rfl
  exact Fin.cell1E rfl rfl rfl tg_55.h rfl rfl (closed_pA _)
def stC (_ : Nat) (p last : List Rat) : List Rat := subP (mulP twP p) last
def okC (_ : Nat) (p last : List Rat) : Prop := okMul twP p ∧ smL last ∧ (mulP twP p).length ≤ 1000 ∧ last.length ≤ 1000
instance (n : Nat) (p last : List Rat) : Decidable (okC n p last) := inferInstanceAs (Decidable (_ ∧ _ ∧ _ ∧ _))
theorem fs_Family1 (n : Nat) (hn : n ≤ 40) (hok : ∀ k, k < n → okC (k + 1) (seqF stC [0, 1] k).2 (seqF stC [0, 1] k).1) : FSpec Tryz.prog 48 [.v (.int .u8 1), i64 n] (.tup [.arr (pE (seqF stC [0, 1] n).1), i64 0]) := by
 have hme := fs_member stC [0, 1] 215 [bP twP] (closed_cons (closed_bP _) closed_nil) n (by omega) (fun k hk => fs_fam1 ((k : Int) + 1) _ _ (hok k hk).1 (hok k hk).2.1 (by have := (hok k hk).2.2.1; omega) (by have := (hok k hk).2.2.2; omega))
 refine FSpec.enter Tryz.func48 rfl (by kernel_rfl) rfl rfl rfl ?_ rfl ?_
 ·exact closed_cons (closed_v _) (closed_cons (closed_v _) closed_nil)
 refine r_z 2 ?_
 refine r_c 9 (fs_families) ?_
 refine a_1 ?_
 refine o_0 (.lookupT rfl rfl tm_191.h tu_5.h rfl rfl rfl) ?_
 refine a_z ?_
 refine AWp.seq ?_
 refine AWp.cutT (fun _ : Unit => ⟨[(1, i64 n), (6, .lptr 1 0 0)], [(1, some ⟨189, 2, [fmC [0, 1] 215 [bP twP]]⟩)], 2, 27⟩) (fun _ => True) ?_ ?_
 ·refine AWp.block ?_
  refine r_z 3 ?_
  refine AWp.cond rfl (fun h => ?_) (fun h => ?_)
  ·cases h
  refine s_r 7 ?_
  refine a_1 ?_
  refine o_0 (.bin rfl rfl (vF binI_lss (decide_eq_false (by omega)))) ?_
  refine a_1 ?_
  first | refine AR.op0y rfl rfl rfl (.move rfl) rfl rfl ?_ | refine AR.opN rfl rfl (by first | (simp [boolOf]; done) | exact nofun) rfl rfl ?_
  refine AR.op0y rfl rfl rfl (.bin rfl rfl (vF binI_gtr (decide_eq_false (by omega)))) rfl rfl ?_
  refine a_z ?_
  refine AWp.cond rfl (fun h => ?_) (fun h => ?_)
  ·cases h
  refine AWp.skip ⟨(), trivial, ?_⟩
  refine SEnt.to [(1, 6)] rfl rfl rfl au_r (fun hs => au_f) (fun hs => ?_)
  ·repeat' (first | exact CvH.nil | refine CvH.cons rfl rfl rfl rfl ?_ ?_)
   all_goals (first | (exact CvLL.box (CvL.clo hs (closed_fmC _ _ (closed_cons (closed_bP _) closed_nil)))) | exact au_e)
 rintro _ _
 refine r_c 5 (hme) ?_
 refine a_z ?_
 refine AWp.ret ?_
 refine Fin.many ⟨_, _, rfl, rfl, ⟨_, _, rfl, rfl, rfl⟩⟩ (nle rfl) ?_
 exact CvL.cons (Cv.clo shr_nil (closed_pA _)) (CvL.cons (Cv.clo shr_nil (closed_v _)) CvL.nil)
theorem fs_Family2 (n : Nat) (hn : n ≤ 40) (hok : ∀ k, k < n → okC (k + 1) (seqF stC twP k).2 (seqF stC twP k).1) : FSpec Tryz.prog 48 [.v (.int .u8 2), i64 n] (.tup [.arr (pE (seqF stC twP n).1), i64 0]) := by
 have hme := fs_member stC twP 215 [bP twP] (closed_cons (closed_bP _) closed_nil) n (by omega) (fun k hk => fs_fam1 ((k : Int) + 1) _ _ (hok k hk).1 (hok k hk).2.1 (by have := (hok k hk).2.2.1; omega) (by have := (hok k hk).2.2.2; omega))
 refine FSpec.enter Tryz.func48 rfl (by kernel_rfl) rfl rfl rfl ?_ rfl ?_
 ·exact closed_cons (closed_v _) (closed_cons (closed_v _) closed_nil)
 refine r_z 2 ?_
 refine r_c 9 (fs_families) ?_
 refine a_1 ?_
 refine o_0 (.lookupT rfl rfl tm_191.h tu_5.h rfl rfl rfl) ?_
 refine a_z ?_
 refine AWp.seq ?_
 refine AWp.cutT (fun _ : Unit => ⟨[(1, i64 n), (6, .lptr 1 0 0)], [(1, some ⟨189, 2, [fmC twP 215 [bP twP]]⟩)], 2, 27⟩) (fun _ => True) ?_ ?_
 ·refine AWp.block ?_
  refine r_z 3 ?_
  refine AWp.cond rfl (fun h => ?_) (fun h => ?_)
  ·cases h
  refine s_r 7 ?_
  refine a_1 ?_
  refine o_0 (.bin rfl rfl (vF binI_lss (decide_eq_false (by omega)))) ?_
  refine a_1 ?_
  first | refine AR.op0y rfl rfl rfl (.move rfl) rfl rfl ?_ | refine AR.opN rfl rfl (by first | (simp [boolOf]; done) | exact nofun) rfl rfl ?_
  refine AR.op0y rfl rfl rfl (.bin rfl rfl (vF binI_gtr (decide_eq_false (by omega)))) rfl rfl ?_
  refine a_z ?_
  refine AWp.cond rfl (fun h => ?_) (fun h => ?_)
  ·cases h
  refine AWp.skip ⟨(), trivial, ?_⟩
  refine SEnt.to [(1, 6)] rfl rfl rfl au_r (fun hs => au_f) (fun hs => ?_)
  ·repeat' (first | exact CvH.nil | refine CvH.cons rfl rfl rfl rfl ?_ ?_)
   all_goals (first | (exact CvLL.box (CvL.clo hs (closed_fmC _ _ (closed_cons (closed_bP _) closed_nil)))) | exact au_e)
 rintro _ _
 refine r_c 5 (hme) ?_
 refine a_z ?_
 refine AWp.ret ?_
 refine Fin.many ⟨_, _, rfl, rfl, ⟨_, _, rfl, rfl, rfl⟩⟩ (nle rfl) ?_
 exact CvL.cons (Cv.clo shr_nil (closed_pA _)) (CvL.cons (Cv.clo shr_nil (closed_v _)) CvL.nil)
theorem fs_Family3 (n : Nat) (hn : n ≤ 40) (hok : ∀ k, k < n → okL (k + 1) (seqF stL [0, 1] k).2 (seqF stL [0, 1] k).1) : FSpec Tryz.prog 48 [.v (.int .u8 3), i64 n] (.tup [.arr (pE (seqF stL [0, 1] n).1), i64 0]) := by
 have hme := fs_member stL [0, 1] 216 [] (fun _ h => by cases h) n (by omega) (fun k hk => fs_famL (k + 1) _ _ (hok k hk))
 refine FSpec.enter Tryz.func48 rfl (by kernel_rfl) rfl rfl rfl ?_ rfl ?_
 ·exact closed_cons (closed_v _) (closed_cons (closed_v _) closed_nil)
 refine r_z 2 ?_
 refine r_c 9 (fs_families) ?_
 refine a_1 ?_
 refine o_0 (.lookupT rfl rfl tm_191.h tu_5.h rfl rfl rfl) ?_
 refine a_z ?_
 refine AWp.seq ?_
 refine AWp.cutT (fun _ : Unit => ⟨[(1, i64 n), (6, .lptr 1 0 0)], [(1, some ⟨189, 2, [fmC [0, 1] 216 []]⟩)], 2, 27⟩) (fun _ => True) ?_ ?_
 ·refine AWp.block ?_
  refine r_z 3 ?_
  refine AWp.cond rfl (fun h => ?_) (fun h => ?_)
  ·cases h
  refine s_r 7 ?_
  refine a_1 ?_
  refine o_0 (.bin rfl rfl (vF binI_lss (decide_eq_false (by omega)))) ?_
  refine a_1 ?_
  first | refine AR.op0y rfl rfl rfl (.move rfl) rfl rfl ?_ | refine AR.opN rfl rfl (by first | (simp [boolOf]; done) | exact nofun) rfl rfl ?_
  refine AR.op0y rfl rfl rfl (.bin rfl rfl (vF binI_gtr (decide_eq_false (by omega)))) rfl rfl ?_
  refine a_z ?_
  refine AWp.cond rfl (fun h => ?_) (fun h => ?_)
  ·cases h
  refine AWp.skip ⟨(), trivial, ?_⟩
  refine SEnt.to [(1, 6)] rfl rfl rfl au_r (fun hs => au_f) (fun hs => ?_)
  ·repeat' (first | exact CvH.nil | refine CvH.cons rfl rfl rfl rfl ?_ ?_)
   all_goals (first | (exact CvLL.box (CvL.clo hs (closed_fmC _ _ (fun _ h => by cases h)))) | exact au_e)
 rintro _ _
 refine r_c 5 (hme) ?_
 refine a_z ?_
 refine AWp.ret ?_
 refine Fin.many ⟨_, _, rfl, rfl, ⟨_, _, rfl, rfl, rfl⟩⟩ (nle rfl) ?_
 exact CvL.cons (Cv.clo shr_nil (closed_pA _)) (CvL.cons (Cv.clo shr_nil (closed_v _)) CvL.nil)
theorem fs_Family5 (n : Nat) (hn : n ≤ 40) (hok : ∀ k, k < n → okH (k + 1) (seqF stH twP k).2 (seqF stH twP k).1) : FSpec Tryz.prog 48 [.v (.int .u8 5), i64 n] (.tup [.arr (pE (seqF stH twP n).1), i64 0]) := by
 have hme := fs_member stH twP 218 [bP twP] (closed_cons (closed_bP _) closed_nil) n (by omega) (fun k hk => fs_famH (k + 1) _ _ (hok k hk))
 refine FSpec.enter Tryz.func48 rfl (by kernel_rfl) rfl rfl rfl ?_ rfl ?_
 ·exact closed_cons (closed_v _) (closed_cons (closed_v _) closed_nil)
 refine r_z 2 ?_
 refine r_c 9 (fs_families) ?_
 refine a_1 ?_
 refine o_0 (.lookupT rfl rfl tm_191.h tu_5.h rfl rfl rfl) ?_
 refine a_z ?_
 refine AWp.seq ?_
 refine AWp.cutT (fun _ : Unit => ⟨[(1, i64 n), (6, .lptr 1 0 0)], [(1, some ⟨189, 2, [fmC twP 218 [bP twP]]⟩)], 2, 27⟩) (fun _ => True) ?_ ?_
 ·refine AWp.block ?_
  refine r_z 3 ?_
  refine AWp.cond rfl (fun h => ?_) (fun h => ?_)
  ·cases h
  refine s_r 7 ?_
  refine a_1 ?_
  refine o_0 (.bin rfl rfl (vF binI_lss (decide_eq_false (by omega)))) ?_
  refine a_1 ?_
  first | refine AR.op0y rfl rfl rfl (.move rfl) rfl rfl ?_ | refine AR.opN rfl rfl (by first | (simp [boolOf]; done) | exact nofun) rfl rfl ?_
  refine AR.op0y rfl rfl rfl (.bin rfl rfl (vF binI_gtr (decide_eq_false (by omega)))) rfl rfl ?_
  refine a_z ?_
  refine AWp.cond rfl (fun h => ?_) (fun h => ?_)
  ·cases h
  refine AWp.skip ⟨(), trivial, ?_⟩
  refine SEnt.to [(1, 6)] rfl rfl rfl au_r (fun hs => au_f) (fun hs => ?_)
  ·repeat' (first | exact CvH.nil | refine CvH.cons rfl rfl rfl rfl ?_ ?_)
   all_goals (first | (exact CvLL.box (CvL.clo hs (closed_fmC _ _ (closed_cons (closed_bP _) closed_nil)))) | exact au_e)
 rintro _ _
 refine r_c 5 (hme) ?_
 refine a_z ?_
 refine AWp.ret ?_
 refine Fin.many ⟨_, _, rfl, rfl, ⟨_, _, rfl, rfl, rfl⟩⟩ (nle rfl) ?_
 exact CvL.cons (Cv.clo shr_nil (closed_pA _)) (CvL.cons (Cv.clo shr_nil (closed_v _)) CvL.nil)
theorem fs_Compose (p q : List Rat) (h : okComp q p) (hp : p.length ≤ 274877906944) (hq : q.length ≤ 274877906944) (hd : 0 ≤ (if 0 > degP p then 0 else degP p) * (if 0 > degP q then 0 else degP q) ∧ (if 0 > degP p then 0 else degP p) * (if 0 > degP q then 0 else degP q) ≤ 1000) : FSpec Tryz.prog 23 [.arr (pE p), .arr (pE q)] (.tup [.arr (pE (compP q p)), i64 0]) := by
 refine FSpec.enter Tryz.func23 rfl (by kernel_rfl) rfl rfl rfl ?_ rfl ?_
 ·exact closed_cons (closed_pA p) (closed_cons (closed_pA q) closed_nil)
 refine r_z 2 ?_
 refine AWp.seq ?_
 refine r_c 8 (fs_Degree p (by omega)) ?_
 refine c_s (fs_Degree q (by omega)) ?_
 refine a_2 ?_
 refine o_0 (.bin rfl rfl (vF binI_gtr (decide_eq_false (by omega)))) ?_
 refine AR.nil ?_
 refine AWp.cond rfl (fun h1 => ?_) (fun h1 => ?_)
 ·cases h1
 refine AWp.skip ?_
 refine r_c 5 (fs_compose p q h hp) ?_
 refine a_z ?_
 refine AWp.ret ?_
 refine Fin.many ⟨_, _, rfl, rfl, ⟨_, _, rfl, rfl, rfl⟩⟩ (nle rfl) ?_
 exact CvL.cons (Cv.clo shr_nil (closed_pA _)) (CvL.cons (Cv.clo shr_nil (closed_v _)) CvL.nil)
theorem fs_BoundE (p : List Rat) (h : okBound p) (h0 : trimQ p ≠ []) (hl : p.length ≤ 1099511627776) : FSpec Tryz.prog 57 [.arr (pE p)] (.tup [.agg (qC (boundP p)), i64 0]) := by
 refine FSpec.enter Tryz.func57 rfl (by kernel_rfl) rfl rfl rfl ?_ rfl ?_
 ·exact closed_cons (closed_pA p) closed_nil
 refine r_z 2 ?_
 refine AWp.seq ?_
 refine r_c 3 (fs_Degree p hl) ?_
 refine a_z ?_
 refine AWp.cond rfl (fun h1 => ?_) (fun h1 => ?_)
 ·exact absurd (degP_neg.1 (by simpa using h1)) h0
 refine AWp.skip ?_
 refine r_c 4 (fs_bound p h h0) ?_
 refine a_z ?_
 refine AWp.ret ?_
 refine Fin.many ⟨_, _, rfl, ⟨_, _, _, _, _, rfl, rfl, rfl, .inl ⟨tg_35.h, _, ts_35.h, nle rfl, rfl⟩⟩, ⟨_, _, rfl, rfl, rfl⟩⟩ (nle rfl) ?_
 exact CvL.cons (Cv.clo shr_nil (closed_qA _)) (CvL.cons (Cv.clo shr_nil (closed_v _)) CvL.nil)
theorem fs_Count (f : Nat) (p : List Rat) (c : Cnt) (s : Sp) (hc : countsM f p = some c) (hf : f ≤ 1000000) (h1 : okBe c s.1) (h2 : okUp c s.2) (hs : smS s) (hv : cmpQ s.1 s.2 ≤ 0) (hl : largeP p = 0) (hp : p.length ≤ 1099511627776) :
    FSpec Tryz.prog 56 [.arr (pE p), .agg (spC s.1 s.2)] (.tup [i64 (uptoV c s.2 - belowV c s.1), i64 0]) := by
 have hb1 := uptoV_bd (x := s.2) h2.1
 have hb2 := belowV_bd (x := s.1) h1.1.1
 have hla := fs_large p hp
 rw [hl] at hla
 refine FSpec.enter Tryz.func56 rfl (by kernel_rfl) rfl rfl rfl ?_ rfl ?_
 ·exact closed_cons (closed_pA p) (closed_cons (closed_spA _ _) closed_nil)
 refine r_z 3 ?_
 refine AWp.seq ?_
 refine r_c 3 (fs_SValid s.1 s.2 hs.1 hs.2) ?_
 refine a_z ?_
 refine AWp.cond rfl (fun h3 => ?_) (fun h3 => ?_)
 ·exact absurd h3 (by simp [hv])
 refine AWp.skip ?_
 refine AWp.seq ?_
 refine r_c 3 (hla) ?_
 refine a_z ?_
 refine r_z 2 ?_
 refine AWp.cond rfl (fun h4 => ?_) (fun h4 => ?_)
 ·exact absurd h4 (by decide)
 refine AWp.skip ?_
 refine r_c 3 (fs_counts f p c hc hf) ?_
 refine a_z ?_
 refine AWp.seq ?_
 refine AWp.regD hmix (m := 11) rfl ?_
 refine c_s (fs_upto c s.2 h2) ?_
 refine c_s (fs_below c s.1 h1) ?_
 refine a_3 ?_
 refine AR.nil ⟨by kernel_rfl, ?_⟩
 refine AWp.ret ?_
 refine Fin.many ⟨_, _, rfl, rfl, ⟨_, _, rfl, rfl, rfl⟩⟩ (nle rfl) ?_
 exact CvL.cons (Cv.clo shr_nil (closed_v _)) (CvL.cons (Cv.clo shr_nil (closed_v _)) CvL.nil)
def at_ (t : List (List Rat)) (k : Nat) : List Rat := t.getD k []
theorem seq_tab {st : Nat → List Rat → List Rat → List Rat} {one : List Rat} {t : List (List Rat)} {n : Nat} (h0 : at_ t 0 = constP 1) (h1 : at_ t 1 = one) (h : ∀ k, k < n → st (k + 1) (at_ t (k + 1)) (at_ t k) = at_ t (k + 2)) : ∀ k, k ≤ n → seqF st one k = (at_ t k, at_ t (k + 1))
 | 0, _ => by rw [seqF, h0, h1]
 | k + 1, hk => by rw [seqF, seq_tab h0 h1 h k (by omega)]; simp only; rw [h k (by omega)]
def tabT : List (List Rat) := [[1], [0, 1], [-1, 0, 2], [0, -3, 0, 4], [1, 0, -8, 0, 8], [0, 5, 0, -20, 0, 16], [-1, 0, 18, 0, -48, 0, 32], [0, -7, 0, 56, 0, -112, 0, 64], [1, 0, -32, 0, 160, 0, -256, 0, 128], [0, 9, 0, -120, 0, 432, 0, -576, 0, 256], [-1, 0, 50, 0, -400, 0, 1120, 0, -1280, 0, 512], [0, -11, 0, 220, 0, -1232, 0, 2816, 0, -2816, 0, 1024], [1, 0, -72, 0, 840, 0, -3584, 0, 6912, 0, -6144, 0, 2048], [0, 13, 0, -364, 0, 2912, 0, -9984, 0, 16640, 0, -13312, 0, 4096], [-1, 0, 98, 0, -1568, 0, 9408, 0, -26880, 0, 39424, 0, -28672, 0, 8192], [0, -15, 0, 560, 0, -6048, 0, 28800, 0, -70400, 0, 92160, 0, -61440, 0, 16384], [1, 0, -128, 0, 2688, 0, -21504, 0, 84480, 0, -180224, 0, 212992, 0, -131072, 0, 32768], [0, 17, 0, -816, 0, 11424, 0, -71808, 0, 239360, 0, -452608, 0, 487424, 0, -278528, 0, 65536], [-1, 0, 162, 0, -4320, 0, 44352, 0, -228096, 0, 658944, 0, -1118208, 0, 1105920, 0, -589824, 0, 131072], [0, -19, 0, 1140, 0, -20064, 0, 160512, 0, -695552, 0, 1770496, 0, -2723840, 0, 2490368, 0, -1245184, 0, 262144], [1, 0, -200, 0, 6600, 0, -84480, 0, 549120, 0, -2050048, 0, 4659200, 0, -6553600, 0, 5570560, 0, -2621440, 0, 524288], [0, 21, 0, -1540, 0, 33264, 0, -329472, 0, 1793792, 0, -5870592, 0, 12042240, 0, -15597568, 0, 12386304, 0, -5505024, 0, 1048576], [-1, 0, 242, 0, -9680, 0, 151008, 0, -1208064, 0, 5637632, 0, -16400384, 0, 30638080, 0, -36765696, 0, 27394048, 0, -11534336, 0, 2097152], [0, -23, 0, 2024, 0, -52624, 0, 631488, 0, -4209920, 0, 17145856, 0, -44843008, 0, 76873728, 0, -85917696, 0, 60293120, 0, -24117248, 0, 4194304], [1, 0, -288, 0, 13728, 0, -256256, 0, 2471040, 0, -14057472, 0, 50692096, 0, -120324096, 0, 190513152, 0, -199229440, 0, 132120576, 0, -50331648, 0, 8388608], [0, 25, 0, -2600, 0, 80080, 0, -1144000, 0, 9152000, 0, -45260800, 0, 146227200, 0, -317521920, 0, 466944000, 0, -458752000, 0, 288358400, 0, -104857600, 0, 16777216], [-1, 0, 338, 0, -18928, 0, 416416, 0, -4759040, 0, 32361472, 0, -141213696, 0, 412778496, 0, -825556992, 0, 1133117440, 0, -1049624576, 0, 627048448, 0, -218103808, 0, 33554432], [0, -27, 0, 3276, 0, -117936, 0, 1976832, 0, -18670080, 0, 109983744, 0, -428654592, 0, 1143078912, 0, -2118057984, 0, 2724986880, 0, -2387607552, 0, 1358954496, 0, -452984832, 0, 67108864], [1, 0, -392, 0, 25480, 0, -652288, 0, 8712704, 0, -69701632, 0, 361181184, 0, -1270087680, 0, 3111714816, 0, -5369233408, 0, 6499598336, 0, -5402263552, 0, 2936012800, 0, -939524096, 0, 134217728], [0, 29, 0, -4060, 0, 168896, 0, -3281408, 0, 36095488, 0, -249387008, 0, 1151016960, 0, -3683254272, 0, 8341487616, 0, -13463453696, 0, 15386804224, 0, -12163481600, 0, 6325010432, 0, -1946157056, 0, 268435456], [-1, 0, 450, 0, -33600, 0, 990080, 0, -15275520, 0, 141892608, 0, -859955200, 0, 3572121600, 0, -10478223360, 0, 22052208640, 0, -33426505728, 0, 36175872000, 0, -27262976000, 0, 13589544960, 0, -4026531840, 0, 536870912], [0, -31, 0, 4960, 0, -236096, 0, 5261568, 0, -66646528, 0, 533172224, 0, -2870927360, 0, 10827497472, 0, -29297934336, 0, 57567870976, 0, -82239815680, 0, 84515225600, 0, -60850962432, 0, 29125246976, 0, -8321499136, 0, 1073741824], [1, 0, -512, 0, 43520, 0, -1462272, 0, 25798656, 0, -275185664, 0, 1926299648, 0, -9313976320, 0, 32133218304, 0, -80648077312, 0, 148562247680, 0, -200655503360, 0, 196293427200, 0, -135291469824, 0, 62277025792, 0, -17179869184, 0, 2147483648], [0, 33, 0, -5984, 0, 323136, 0, -8186112, 0, 118243840, 0, -1083543552, 0, 6723526656, 0, -29455450112, 0, 93564370944, 0, -218864025600, 0, 379364311040, 0, -485826232320, 0, 453437816832, 0, -299708186624, 0, 132875550720, 0, -35433480192, 0, 4294967296], [-1, 0, 578, 0, -55488, 0, 2108544, 0, -42170880, 0, 511673344, 0, -4093386752, 0, 22761029632, 0, -91044118528, 0, 267776819200, 0, -586290298880, 0, 959384125440, 0, -1167945891840, 0, 1042167103488, 0, -661693399040, 0, 282930970624, 0, -73014444032, 0, 8589934592], [0, -35, 0, 7140, 0, -434112, 0, 12403200, 0, -202585600, 0, 2106890240, 0, -14910300160, 0, 74977509376, 0, -275652608000, 0, 754417664000, 0, -1551944908800, 0, 2404594483200, 0, -2789329600512, 0, 2384042393600, 0, -1456262348800, 0, 601295421440, 0, -150323855360, 0, 17179869184], [1, 0, -648, 0, 69768, 0, -2976768, 0, 66977280, 0, -916844544, 0, 8307167232, 0, -52581629952, 0, 240999137280, 0, -819082035200, 0, 2095125626880, 0, -4063273943040, 0, 5977134858240, 0, -6620826304512, 0, 5429778186240, 0, -3195455668224, 0, 1275605286912, 0, -309237645312, 0, 34359738368], [0, 37, 0, -8436, 0, 573648, 0, -18356736, 0, 336540160, 0, -3940579328, 0, 31524634624, 0, -180140769280, 0, 757650882560, 0, -2392581734400, 0, 5742196162560, 0, -10531142369280, 0, 14743599316992, 0, -15625695002624, 0, 12315818721280, 0, -6992206757888, 0, 2701534429184, 0, -635655159808, 0, 68719476736]]
def tabU : List (List Rat) := [[1], [0, 2], [-1, 0, 4], [0, -4, 0, 8], [1, 0, -12, 0, 16], [0, 6, 0, -32, 0, 32], [-1, 0, 24, 0, -80, 0, 64], [0, -8, 0, 80, 0, -192, 0, 128]]
def tabL : List (List Rat) := [[1], [0, 1], [mkRat (-1) 2, 0, mkRat 3 2], [0, mkRat (-3) 2, 0, mkRat 5 2], [mkRat 3 8, 0, mkRat (-15) 4, 0, mkRat 35 8], [0, mkRat 15 8, 0, mkRat (-35) 4, 0, mkRat 63 8], [mkRat (-5) 16, 0, mkRat 105 16, 0, mkRat (-315) 16, 0, mkRat 231 16], [0, mkRat (-35) 16, 0, mkRat 315 16, 0, mkRat (-693) 16, 0, mkRat 429 16]]
def tabH : List (List Rat) := [[1], [0, 2], [-2, 0, 4], [0, -12, 0, 8], [12, 0, -48, 0, 16], [0, 120, 0, -160, 0, 32], [-120, 0, 720, 0, -480, 0, 64], [0, -1680, 0, 3360, 0, -1344, 0, 128]]
theorem chkT : at_ tabT 0 = constP 1 ∧ at_ tabT 1 = [0, 1] ∧ ∀ k, k < 36 → (okC (k + 1) (at_ tabT (k + 1)) (at_ tabT k) ∧ stC (k + 1) (at_ tabT (k + 1)) (at_ tabT k) = at_ tabT (k + 2)) := by decide +kernel
theorem sqmT (k : Nat) (hk : k ≤ 36) : seqF stC [0, 1] k = (at_ tabT k, at_ tabT (k + 1)) := seq_tab chkT.1 chkT.2.1 (fun k hk => (chkT.2.2 k hk).2) k hk
theorem chkU : at_ tabU 0 = constP 1 ∧ at_ tabU 1 = twP ∧ ∀ k, k < 6 → (okC (k + 1) (at_ tabU (k + 1)) (at_ tabU k) ∧ stC (k + 1) (at_ tabU (k + 1)) (at_ tabU k) = at_ tabU (k + 2)) := by decide +kernel
theorem sqmU (k : Nat) (hk : k ≤ 6) : seqF stC twP k = (at_ tabU k, at_ tabU (k + 1)) := seq_tab chkU.1 chkU.2.1 (fun k hk => (chkU.2.2 k hk).2) k hk
theorem chkL : at_ tabL 0 = constP 1 ∧ at_ tabL 1 = [0, 1] ∧ ∀ k, k < 6 → (okL (k + 1) (at_ tabL (k + 1)) (at_ tabL k) ∧ stL (k + 1) (at_ tabL (k + 1)) (at_ tabL k) = at_ tabL (k + 2)) := by decide +kernel
theorem sqmL (k : Nat) (hk : k ≤ 6) : seqF stL [0, 1] k = (at_ tabL k, at_ tabL (k + 1)) := seq_tab chkL.1 chkL.2.1 (fun k hk => (chkL.2.2 k hk).2) k hk
theorem chkH : at_ tabH 0 = constP 1 ∧ at_ tabH 1 = twP ∧ ∀ k, k < 6 → (okH (k + 1) (at_ tabH (k + 1)) (at_ tabH k) ∧ stH (k + 1) (at_ tabH (k + 1)) (at_ tabH k) = at_ tabH (k + 2)) := by decide +kernel
theorem sqmH (k : Nat) (hk : k ≤ 6) : seqF stH twP k = (at_ tabH k, at_ tabH (k + 1)) := seq_tab chkH.1 chkH.2.1 (fun k hk => (chkH.2.2 k hk).2) k hk
theorem famT (n : Nat) (hn : n ≤ 36) : FSpec Tryz.prog 48 [.v (.int .u8 1), i64 n] (.tup [.arr (pE (at_ tabT n)), i64 0]) := by
 have h := fs_Family1 n (by omega) (fun k hk => by rw [sqmT k (by omega)]; exact (chkT.2.2 k (by omega)).1)
 rw [sqmT n hn] at h
 exact h
theorem famU (n : Nat) (hn : n ≤ 6) : FSpec Tryz.prog 48 [.v (.int .u8 2), i64 n] (.tup [.arr (pE (at_ tabU n)), i64 0]) := by
 have h := fs_Family2 n (by omega) (fun k hk => by rw [sqmU k (by omega)]; exact (chkU.2.2 k (by omega)).1)
 rw [sqmU n hn] at h
 exact h
theorem famL (n : Nat) (hn : n ≤ 6) : FSpec Tryz.prog 48 [.v (.int .u8 3), i64 n] (.tup [.arr (pE (at_ tabL n)), i64 0]) := by
 have h := fs_Family3 n (by omega) (fun k hk => by rw [sqmL k (by omega)]; exact (chkL.2.2 k (by omega)).1)
 rw [sqmL n hn] at h
 exact h
theorem famH (n : Nat) (hn : n ≤ 6) : FSpec Tryz.prog 48 [.v (.int .u8 5), i64 n] (.tup [.arr (pE (at_ tabH n)), i64 0]) := by
 have h := fs_Family5 n (by omega) (fun k hk => by rw [sqmH k (by omega)]; exact (chkH.2.2 k (by omega)).1)
 rw [sqmH n hn] at h
 exact h
def pcM1 (i k : Nat) : Prop := okComp (at_ tabT k) (at_ tabT i) ∧ (at_ tabT i).length ≤ 1000 ∧ (at_ tabT k).length ≤ 1000 ∧ (0 ≤ (if 0 > degP (at_ tabT i) then 0 else degP (at_ tabT i)) * (if 0 > degP (at_ tabT k) then 0 else degP (at_ tabT k)) ∧ (if 0 > degP (at_ tabT i) then 0 else degP (at_ tabT i)) * (if 0 > degP (at_ tabT k) then 0 else degP (at_ tabT k)) ≤ 1000) ∧ smL (at_ tabT (i * k)) ∧ smL (compP (at_ tabT k) (at_ tabT i)) ∧ (at_ tabT (i * k)).length ≤ 1000 ∧ (compP (at_ tabT k) (at_ tabT i)).length ≤ 1000 ∧ sameP (at_ tabT (i * k)) (compP (at_ tabT k) (at_ tabT i)) = true
instance (i k : Nat) : Decidable (pcM1 i k) := inferInstanceAs (Decidable (_ ∧ _ ∧ _ ∧ _ ∧ _ ∧ _ ∧ _ ∧ _ ∧ _))
theorem chk1 : ∀ i, i < 7 → ∀ k, k < 7 → pcM1 i k := by decide +kernel
def pcM2 (i : Nat) : Prop := smL (at_ tabT (i + 1)) ∧ (at_ tabT (i + 1)).length ≤ 1000 ∧ smL (at_ tabU i) ∧ (at_ tabU i).length ≤ 1000 ∧ sm (((i : Int) + 1 : Int) : Rat) ∧ smL (deriveP (at_ tabT (i + 1))) ∧ smL (scaleP (at_ tabU i) (((i : Int) + 1 : Int) : Rat)) ∧ sameP (deriveP (at_ tabT (i + 1))) (scaleP (at_ tabU i) (((i : Int) + 1 : Int) : Rat)) = true
instance (i : Nat) : Decidable (pcM2 i) := inferInstanceAs (Decidable (_ ∧ _ ∧ _ ∧ _ ∧ _ ∧ _ ∧ _ ∧ _))
theorem chk2 : ∀ i, i < 7 → pcM2 i := by decide +kernel
def wantQ (i k : Nat) : Rat := if i = k then ((2 : Int) : Rat) / ((2 * (i : Int) + 1 : Int) : Rat) else 0
def intL (i k : Nat) : List Rat := integralP (mulP (at_ tabL i) (at_ tabL k))
def pcM3 (i k : Nat) : Prop := okMul (at_ tabL i) (at_ tabL k) ∧ (mulP (at_ tabL i) (at_ tabL k)).length ≤ 1000 ∧ okEval (intL i k) ((1 : Int) : Rat) ∧ okEval (intL i k) ((-1 : Int) : Rat) ∧ evalP (intL i k) ((1 : Int) : Rat) - evalP (intL i k) ((-1 : Int) : Rat) = wantQ i k ∧ sm (wantQ i k)
instance (i k : Nat) : Decidable (pcM3 i k) := inferInstanceAs (Decidable (_ ∧ _ ∧ _ ∧ _ ∧ _ ∧ _))
theorem chk3 : ∀ i, i < 7 → ∀ k, k < 7 → pcM3 i k := by decide +kernel
def cntB (p : List Rat) (lo hi : Rat) (n : Nat) : Bool := match countsM 20 p with
 | some c => decide (okBe c lo ∧ okUp c hi ∧ sm lo ∧ sm hi ∧ cmpQ lo hi ≤ 0 ∧ largeP p = 0 ∧ p.length ≤ 1000 ∧ uptoV c hi - belowV c lo = (n : Int))
 | none => false
theorem cntB_spec {p : List Rat} {lo hi : Rat} {n : Nat} (h : cntB p lo hi n = true) : FSpec Tryz.prog 56 [.arr (pE p), .agg (spC lo hi)] (.tup [i64 (n : Int), i64 0]) := by
 unfold cntB at h
 cases hc : countsM 20 p with
 | none => rw [hc] at h; cases h
 | some c =>
  rw [hc] at h
  obtain ⟨h1, h2, h3, h4, h5, h6, h7, h8⟩ := of_decide_eq_true h
  have := fs_Count 20 p c (lo, hi) hc (by decide) h1 h2 ⟨h3, h4⟩ h5 h6 (by omega)
  simp only at this
  rw [h8] at this
  exact this
theorem chk4 : ∀ i, i < 7 → (cntB (at_ tabT i) ((-1 : Int) : Rat) ((1 : Int) : Rat) i = true ∧ cntB (at_ tabL i) ((-1 : Int) : Rat) ((1 : Int) : Rat) i = true) := by decide +kernel
def pcM5 (i : Nat) : Prop := okBound (at_ tabH i) ∧ trimQ (at_ tabH i) ≠ [] ∧ (at_ tabH i).length ≤ 1000 ∧ cntB (at_ tabH i) (-boundP (at_ tabH i)) (boundP (at_ tabH i)) i = true
instance (i : Nat) : Decidable (pcM5 i) := inferInstanceAs (Decidable (_ ∧ _ ∧ _ ∧ _))
theorem chk5 : ∀ i, i < 7 → pcM5 i := by decide +kernel
end Go.Proofs.YtdjfjpeoddmamaaGreatDoor
namespace Go.Proofs.YtdjfjpeoddmamaaGreatDoor
open Go.Abs Go.RowKit
set_option maxRecDepth 20000
theorem ub_ptr : Tryz.prog.underlying 220 = some (.pointer 223) := by kernel_rfl
theorem ub_unsafe : Tryz.prog.underlying 323 = some .unsafePointer := by kernel_rfl
theorem ub_size : (Tryz.prog.info? 223).map (·.size) = some 2 := by kernel_rfl
set_option maxHeartbeats 1000000 in
theorem cs_used (b : Nat) (w : World) (h0 : w.cell? ⟨b, 0, none⟩ = some (.pointer (some ⟨b, 0, none⟩))) :
    Calls Tryz.prog 241 #[.pointer (some ⟨b, 0, none⟩)] w fun e w' => e = .returned (.tuple #[]) ∧ w' = w := by
 obtain ⟨j, hj, _⟩ := Option.map_eq_some_iff.1 ub_size
 go_enter Tryz.func241, Tryz.ntmps241
 go_wp2
 rw [Lib.run_neq_ptr_same w _ ub_ptr hj]
 go_wp2
 go_end0
 exact ⟨rfl, rfl⟩
theorem lies_builder {n : Nat} (hn : 2 ≤ n) : liesAt Tryz.prog Tryz.prog.depth 223 (n / Tryz.prog.cellsOf 223) 0 223 1 = true := by
 have hc : Tryz.prog.cellsOf 223 = 2 := by kernel_rfl
 rw [hc]
 have hd : Tryz.prog.depth = (2 * (Tryz.prog.types.size + Made.depth) + 1) + 1 := rfl
 rw [hd]
 simp only [liesAt, Bool.or_eq_true]
 left
 rw [hd]
 have : 1 ≤ n / 2 := by omega
 simp [rowAt, sameLayout, this, hc]
set_option maxHeartbeats 1000000 in
theorem cs_fresh (b : Nat) (w : World) (cs : Array Value) (hh : w.heap[b]? = some (.cells cs 223 (0, 0))) (hsz : 2 ≤ cs.size) (hc : cs[0]? = some (.pointer none)) :
    Calls Tryz.prog 241 #[.pointer (some ⟨b, 0, none⟩)] w fun e w' => e = .returned (.tuple #[]) ∧ w' = w.setCell ⟨b, 0, none⟩ (.pointer (some ⟨b, 0, none⟩)) := by
 obtain ⟨j, hj, hjs⟩ := Option.map_eq_some_iff.1 ub_size
 have h0 : w.cell? ⟨b, 0, none⟩ = some (.pointer none) := by simp [World.cell?, hh, hc]
 have hsh : w.shape? b = some (223, cs.size) := by simp [World.shape?, hh]
 have hfz : w.frozen? ⟨b, 0, none⟩ = false := by simp [World.frozen?, hh]
 go_enter Tryz.func241, Tryz.ntmps241
 go_wp2
 rw [Lib.run_to_unsafe w ⟨b, 0, none⟩ ub_ptr ub_unsafe hj (by rw [hjs]; decide) hsh (by show 0 < cs.size; omega)]
 simp only [Result.andThen]
 rw [Oper.upon_value]
 go_wp2
 rw [run_callFunc_extern Tryz.func288 (by kernel_rfl) (by kernel_rfl) (by kernel_rfl) (e := Extern.AbiNoEscape.same) (by kernel_rfl)]
 rw [Lib.run_noEscape]
 simp only [Result.andThen]
 rw [Oper.upon_value]
 go_wp2
 rw [Lib.run_from_unsafe w ⟨b, 0, none⟩ ub_unsafe ub_ptr hj hsh (lies_builder hsz)]
 simp only [Result.andThen]
 rw [Oper.upon_value]
 go_wp2
 go_end0
 exact ⟨rfl, rfl⟩
theorem enters_at {P : Go.Program} {f : Nat} {fn : Func} {c : Code} (hf : P.funcs[f]? = some fn) (hb : fn.body = some c) (hname : (fn.name == "runtime.NumGoroutine") = false) (xs : Array Value) (w : World) : (callFunc f xs).run P w = .ok (.enter f xs) w := by
 have hname' : ¬ fn.name = "runtime.NumGoroutine" := by simpa using hname
 simp [callFunc, hf, hname', hb]
theorem cs_copyCheck : CSpec Tryz.prog 241 223 :=
 ⟨fun xs w => enters_at Tryz.func241 rfl (by kernel_rfl) xs w, fun b w h0 => cs_used b w h0, fun b w cs hh hsz h0 => cs_fresh b w cs hh hsz h0⟩
theorem pure_tup (a b : Value) : Pure (.tup [.v a, .v b]) := by
 rintro M M' β β' w w' y ⟨xs, rfl, x1, x2, e, h1, ⟨x3, x4, e2, h2, h3⟩⟩
 exact ⟨xs, rfl, x1, x2, e, h1, x3, x4, e2, h2, h3⟩
theorem us_string : Tryz.prog.underlying 9 = some .string := by kernel_rfl
theorem bE_len (q : List UInt8) : lenA (.arr (bE q)) = some q.length := by simp [lenA, bE_length]
theorem size_tx (t : List UInt8) : (⟨t.toArray⟩ : ByteArray).size = t.length := by simp [ByteArray.size]
theorem bs_Write0 (t : List UInt8) (h0 : t ≠ []) (hl : t.length ≤ 1099511627776) : BSpec Tryz.prog 171 223 5 none t [tx t] (.tup [i64 t.length, .v .nilIface]) := by
 refine BSpec.intro Tryz.func171 rfl (by kernel_rfl) (closed_cons (closed_v _) closed_nil) (pure_tup _ _) (nle rfl) ?_
 show AWp _ _ _ _ ⟨[(0, .lptr 0 0 0), (1, tx t)], [(0, some ⟨223, 2, [bldC 0 1 none]⟩)], 2, 19⟩
 refine r_z 2 ?_
 refine s_r 2 ?_
 refine a_1 ?_
 refine o_1 (.callC rfl rfl rfl rfl rfl (by first | exact .inl rfl | exact .inr rfl) (cs_copyCheck)) ?_
 refine AR.nil ?_
 refine s_r 10 ?_
 refine a_6 ?_
 refine o_1 (.appS_e rfl rfl rfl te_221.h us_string rfl rfl h0 tz_5.h rfl tb_5.h (by omega)) ?_
 refine a_z ?_
 refine s_r 4 ?_
 refine o_0 (.move rfl) ?_
 refine o_0 (.builtinV (vs := [_]) rfl rfl (fun _ _ _ => rfl)) ?_
 refine o_0 (.assign rfl) ?_
 refine o_0 (.assign rfl) ?_
 refine AR.nil ?_
 refine AWp.ret ⟨.inr rfl, ?_, 12, by decide, rfl, rfl⟩
 refine ⟨[_, _], ⟨_, _, rfl, rfl, ⟨_, _, rfl, rfl, rfl⟩⟩, Cv.tup ?_⟩
 refine CvL.cons (Cv.loE shr_nil ?_ (closed_v _)) (CvL.cons (Cv.clo shr_nil (closed_v _)) CvL.nil)
 rw [size_tx]; rfl
theorem bs_Write1 (q t : List UInt8) (hl : q.length + t.length ≤ 1099511627776) : BSpec Tryz.prog 171 223 5 (some q) (q ++ t) [tx t] (.tup [i64 t.length, .v .nilIface]) := by
 refine BSpec.intro Tryz.func171 rfl (by kernel_rfl) (closed_cons (closed_v _) closed_nil) (pure_tup _ _) (nle rfl) ?_
 show AWp _ _ _ _ ⟨[(0, .lptr 0 0 0), (1, tx t)], [(0, some ⟨223, 2, [bldC 0 1 (some q)]⟩), (1, some ⟨5, 1, bE q⟩)], 2, 19⟩
 refine r_z 2 ?_
 refine s_r 2 ?_
 refine a_1 ?_
 refine o_1 (.callC rfl rfl rfl rfl rfl (by first | exact .inl rfl | exact .inr rfl) (cs_copyCheck)) ?_
 refine AR.nil ?_
 refine s_r 10 ?_
 refine a_6 ?_
 refine o_2 (.appS_l rfl rfl rfl te_221.h us_string rfl rfl rfl rfl tz_5.h rfl tb_5.h (by omega)) ?_
 refine a_z ?_
 refine s_r 4 ?_
 refine o_0 (.move rfl) ?_
 refine o_0 (.builtinV (vs := [_]) rfl rfl (fun _ _ _ => rfl)) ?_
 refine o_0 (.assign rfl) ?_
 refine o_0 (.assign rfl) ?_
 refine AR.nil ?_
 refine AWp.ret ⟨.inr rfl, ?_, 12, by decide, rfl, rfl⟩
 refine ⟨[_, _], ⟨_, _, rfl, rfl, ⟨_, _, rfl, rfl, rfl⟩⟩, Cv.tup ?_⟩
 refine CvL.cons (Cv.loE shr_nil ?_ (closed_v _)) (CvL.cons (Cv.clo shr_nil (closed_v _)) CvL.nil)
 rw [size_tx]; rfl
theorem fs_Len0 : FSpec Tryz.prog 170 [.aptr [bldV none] 0 0] (i64 0) := by
 have hc : Closed (.aptr [bldV none] 0 0) := closed_box (closed_cons (closed_v _) (closed_cons closed_emp closed_nil))
 refine FSpec.enter Tryz.func170 rfl (by kernel_rfl) rfl rfl rfl ?_ rfl ?_
 ·exact closed_cons hc closed_nil
 refine r_z 1 ?_
 refine r_z 6 ?_
 refine AWp.ret ?_
 refine Fin.tmpE rfl ?_ ?_
 ·rfl
 ·exact closed_v _
theorem fs_Len1 (q : List UInt8) : FSpec Tryz.prog 170 [.aptr [bldV (some q)] 0 0] (i64 q.length) := by
 have hc : Closed (.aptr [bldV (some q)] 0 0) := closed_box (closed_cons (lo_any 0).closed (closed_cons (closed_arr (closed_bE q)) closed_nil))
 refine FSpec.enter Tryz.func170 rfl (by kernel_rfl) rfl rfl rfl ?_ rfl ?_
 ·exact closed_cons hc closed_nil
 refine r_z 1 ?_
 refine s_r 6 ?_
 refine a_4 ?_
 refine o_0 (.len rfl rfl rfl rfl (bE_len q) te_221.h) ?_
 refine a_z ?_
 refine AWp.ret ?_
 refine Fin.tmpE rfl ?_ ?_
 ·rfl
 ·exact closed_v _
theorem ub_byte : Tryz.prog.underlying 288 = some (.pointer 5) := by kernel_rfl
theorem ub_cells : Tryz.prog.cellsOf 5 = 1 := by kernel_rfl
theorem but_freeze (w : World) (g n : Nat) : But g w (w.drew.freeze ⟨g, 0, none⟩ n) := by
 have hh : ∀ x, x ≠ g → (w.drew.freeze ⟨g, 0, none⟩ n).heap[x]? = w.heap[x]? := by
  intro x hx
  unfold World.freeze
  split
  ·rfl
  ·show (w.heap.modify g _)[x]? = _
   rw [Array.getElem?_modify, if_neg (Ne.symm hx)]
 have hsz : (w.drew.freeze ⟨g, 0, none⟩ n).heap.size = w.heap.size := by
  unfold World.freeze
  split
  ·rfl
  ·show (w.heap.modify g _).size = _
   simp
 refine ⟨?_, ?_, ?_, by omega, fun x _ hx => hh x hx, fun x N hx => ?_⟩
 ·unfold World.freeze; split <;> rfl
 ·unfold World.freeze; split <;> rfl
 ·unfold World.freeze; split <;> rfl
 ·by_cases hxg : x = g
  ·subst hxg
   unfold World.freeze
   split
   ·exact hx
   ·unfold sizeAt at hx ⊢
    show (match (w.heap.modify x _)[x]? with | some (.cells cs _ _) => some cs.size | some (.map _ _) => some 0 | _ => none) = some N
    rw [Array.getElem?_modify, if_pos rfl]
    cases ho : w.heap[x]? with
    | none => rw [ho] at hx; cases hx
    | some o =>
     rw [ho] at hx
     cases o <;> simp_all
  ·unfold sizeAt at hx ⊢
   rw [hh x hxg]; exact hx
set_option maxHeartbeats 2000000 in
theorem ds_run (b bj cap : Nat) (q : List UInt8) (w : World) (cs ck : Array Value) (h0 : q ≠ []) (hb : w.heap[b]? = some (.cells cs 223 (0, 0))) (hc1 : cs[1]? = some (.slice (some ⟨bj, 0, none⟩) q.length cap)) (hl : q.length ≤ cap) (hm : cap ≤ maxLen) (hne : b ≠ bj) (hj : w.heap[bj]? = some (.cells ck 5 (0, 0))) (hck : cap ≤ ck.size)
    (hq : ∀ (k : Nat) (x : UInt8), q[k]? = some x → ck[k]? = some (Value.int .u8 x.toNat)) : Calls Tryz.prog 173 #[.pointer (some ⟨b, 0, none⟩)] w fun e w' => e = .returned (.string ⟨q.toArray⟩) ∧ But bj w w' := by
 have hl0 : q.length ≠ 0 := by simpa using h0
 have c1 : w.drew.cell? ⟨b, 1, none⟩ = some (.slice (some ⟨bj, 0, none⟩) q.length cap) := by
  have : w.drew.heap[b]? = some (.cells cs 223 (0, 0)) := hb
  simp [World.cell?, this, hc1]
 have hSD : (Builtin.unsafeSliceData_ #[221] 288 #[.slice (some ⟨bj, 0, none⟩) q.length cap]).run Tryz.prog w.drew = .ok (.pointer (some ⟨bj, 0, none⟩)) w.drew :=
  Lib.run_unsafeSliceData_row _ _ _ _ _ _ (by omega)
 have hUS : (Builtin.unsafeString_ #[288, 3] 9 #[.pointer (some ⟨bj, 0, none⟩), .int .i64 q.length]).run Tryz.prog w.drew = .ok (.string ⟨q.toArray⟩) (w.drew.freeze ⟨bj, 0, none⟩ q.length) := by
  refine Lib.run_unsafeString_row w.drew 288 3 9 5 ub_byte ub_cells bj ck.size (by have hg' : w.drew.heap[bj]? = some (.cells ck 5 (0, 0)) := hj; simp [World.shape?, hg']) q h0 (by omega) (by unfold maxLen at hm; omega) ?_
  intro j x hx
  have hg' : w.drew.heap[bj]? = some (.cells ck 5 (0, 0)) := hj
  rw [show (⟨bj, 0, none⟩ : Addr).add j = ⟨bj, 0 + j, none⟩ from add_mk bj 0 j]
  simp [World.cell?, hg', hq j x hx]
 have mixed := hmix
 go_enter Tryz.func173, Tryz.ntmps173
 go_wp2
 go_region_o
 all_goals (go_wp2; go_ret; exact ⟨rfl, but_freeze w bj q.length⟩)
theorem ds_String : DSpec Tryz.prog 173 223 5 :=
 ⟨fun xs w => enters_at Tryz.func173 rfl (by kernel_rfl) xs w, fun b bj cap q w cs ck h0 hb hc1 hl hm hne hj hck hq => ds_run b bj cap q w cs ck h0 hb hc1 hl hm hne hj hck hq⟩
end Go.Proofs.YtdjfjpeoddmamaaGreatDoor
namespace Go.Proofs.YtdjfjpeoddmamaaGreatDoor
open Go.Abs
set_option maxRecDepth 20000
def dec2 (n : Nat) : List UInt8 := if n < 10 then [48 + n.toUInt8] else [48 + (n / 10).toUInt8, 48 + (n % 10).toUInt8]
theorem cut_text (s : ByteArray) (l h : Nat) (zl zh : Int) (el : zl = (l : Int)) (eh : zh = (h : Int)) (hlh : l ≤ h) (hh : h ≤ s.size) : ∀ w, (Instr.sliceAt 9 (.string s) (some (.int .i64 zl)) (some (.int .i64 zh)) none).run Tryz.prog w = .ok (.string (s.extract l h)) w := fun w => by
 subst el eh
 have b1 : ∀ (i y : Nat) (c : BoundsCode), i ≤ y → (Instr.sliceBound (.int .i64 (i : Int)) y c).run Tryz.prog w = .ok i w := fun i y c hi => run_bound hi c w
 have hr : (Instr.slice 9 (.string s) (some (.int .i64 (l : Int))) (some (.int .i64 (h : Int))) none).run Tryz.prog w = .ok (.string (s.extract l h)) w := by
  simp [Instr.slice, run_underlying us_string, Instr.sliceBounds, b1 h s.size _ hh, b1 l h _ hlh, Result.andThen]
 unfold Instr.sliceAt
 rw [Sem.run_bind, run_underlying us_string]
 exact hr
def smallsB : ByteArray := ⟨((List.range 100).flatMap fun n => [48 + (n / 10).toUInt8, 48 + (n % 10).toUInt8]).toArray⟩
theorem fs_small2 (i : Nat) (h : i < 100) : FSpec Tryz.prog 315 [i64 i] (tx (dec2 i)) := by
 refine FSpec.enter Tryz.func315 rfl (by kernel_rfl) rfl rfl rfl ?_ rfl ?_
 ·exact closed_cons (closed_v _) closed_nil
 refine r_z 1 ?_
 refine AWp.seq ?_
 refine r_z 2 ?_
 refine AWp.cond rfl (fun h1 => ?_) (fun h1 => ?_)
 ·have h2 : i < 10 := by simp at h1; omega
  refine s_r 5 ?_
  refine a_3 ?_
  refine o_0 (.slice_v rfl rfl rfl rfl (cut_text _ i (i + 1) _ _ rfl (by omega) (by omega) (by exact Nat.le_trans (m := 10) (by omega) (by decide)))) ?_
  refine a_z ?_
  refine AWp.ret ?_
  refine Fin.tmpE rfl ?_ ?_
  ·have key : ∀ i, i < 10 → (ByteArray.mk #[48, 49, 50, 51, 52, 53, 54, 55, 56, 57, 97, 98, 99, 100, 101, 102, 103, 104, 105, 106, 107, 108, 109, 110, 111, 112, 113, 114, 115, 116, 117, 118, 119, 120, 121, 122]).extract i (i + 1) = ⟨(dec2 i).toArray⟩ := by decide
   exact congrArg (fun s => AV.v (.string s)) (key i h2)
  ·exact closed_v _
 ·have h2 : 10 ≤ i := by simp at h1; omega
  refine AWp.skip ?_
  refine s_r 7 ?_
  refine a_5 ?_
  refine o_0 (.slice_v rfl rfl rfl rfl (cut_text _ (i * 2) (i * 2 + 2) _ _ (by omega) (by omega) (by omega) (by exact Nat.le_trans (m := 200) (by omega) (by decide)))) ?_
  refine a_z ?_
  refine AWp.ret ?_
  refine Fin.tmpE rfl ?_ ?_
  ·have key : ∀ i, i < 100 → 10 ≤ i → smallsB.extract (i * 2) (i * 2 + 2) = ⟨(dec2 i).toArray⟩ := by decide
   refine congrArg (fun s => AV.v (.string s)) (Eq.trans (congrArg (fun s : ByteArray => s.extract _ _) (?_ : _ = smallsB)) (key i h h2))
   kernel_rfl
  ·exact closed_v _
theorem fs_FormatInt (i : Nat) (h : i < 100) : FSpec Tryz.prog 289 [i64 i, i64 10] (tx (dec2 i)) := by
 refine FSpec.enter Tryz.func289 rfl (by kernel_rfl) rfl rfl rfl ?_ rfl ?_
 ·exact closed_cons (closed_v _) (closed_cons (closed_v _) closed_nil)
 refine r_z 1 ?_
 refine AWp.seq ?_
 refine r_z 2 ?_
 refine AWp.cond rfl (fun h1 => ?_) (fun h1 => ?_)
 ·refine AWp.seq ?_
  refine s_r 6 ?_
  refine a_3 ?_
  refine AR.op0y rfl rfl (gy (by simp)) (.move rfl) rfl rfl ?_
  refine AR.op0y rfl rfl (gy (by simp)) (.bin rfl rfl binI_lss) rfl rfl ?_
  refine o_0 (.pickT rfl (by simp) rfl) ?_
  refine AR.nil ?_
  refine AWp.cond rfl (fun h2 => ?_) (fun h2 => ?_)
  ·refine r_c 3 (fs_small2 i h) ?_
   refine a_z ?_
   refine AWp.ret ?_
   refine Fin.tmpE rfl ?_ ?_
   ·rfl
   ·exact closed_v _
  ·exact absurd h2 (by simp; omega)
 ·exact absurd h1 (by simp)
theorem fs_iItoa (i : Nat) (h : i < 100) : FSpec Tryz.prog 242 [i64 i] (tx (dec2 i)) := by
 refine FSpec.enter Tryz.func242 rfl (by kernel_rfl) rfl rfl rfl ?_ rfl ?_
 ·exact closed_cons (closed_v _) closed_nil
 refine r_z 1 ?_
 refine r_c 3 (fs_FormatInt i h) ?_
 refine a_z ?_
 refine AWp.ret ?_
 refine Fin.tmpE rfl ?_ ?_
 ·rfl
 ·exact closed_v _
theorem fs_Itoa (i : Nat) (h : i < 100) : FSpec Tryz.prog 172 [i64 i] (tx (dec2 i)) := by
 refine FSpec.enter Tryz.func172 rfl (by kernel_rfl) rfl rfl rfl ?_ rfl ?_
 ·exact closed_cons (closed_v _) closed_nil
 refine r_z 1 ?_
 refine r_c 3 (fs_iItoa i h) ?_
 refine a_z ?_
 refine AWp.ret ?_
 refine Fin.tmpE rfl ?_ ?_
 ·rfl
 ·exact closed_v _
def te0 (m : Nat) : Unit → AState
 | u => ⟨[(1, .lptr 1 0 0), (3, .lptr 2 0 0), (11, .clos 284 [] [.aptr [[.arr (dE [m])]] 0 0])], [(1, some ⟨31, 1, [[.arr (dE [m])]]⟩), (2, some ⟨223, 2, [bldC 2 0 none]⟩)], 4, 31⟩
theorem te0_mk (m : Nat) (u : Unit) : te0 m u = ⟨[(1, .lptr 1 0 0), (3, .lptr 2 0 0), (11, .clos 284 [] [.aptr [[.arr (dE [m])]] 0 0])], [(1, some ⟨31, 1, [[.arr (dE [m])]]⟩), (2, some ⟨223, 2, [bldC 2 0 none]⟩)], 4, 31⟩ := rfl
def te1 (m : Nat) : Unit → AState
 | u => ⟨[(1, .lptr 1 0 0), (3, .lptr 2 0 0), (11, .clos 284 [] [.aptr [[.arr (dE [m])]] 0 0])], [(1, some ⟨31, 1, [[.arr (dE [m])]]⟩), (2, some ⟨223, 2, [bldC 2 3 (some (dec2 m))]⟩), (3, some ⟨5, 1, bE (dec2 m)⟩)], 4, 31⟩
theorem te1_mk (m : Nat) (u : Unit) : te1 m u = ⟨[(1, .lptr 1 0 0), (3, .lptr 2 0 0), (11, .clos 284 [] [.aptr [[.arr (dE [m])]] 0 0])], [(1, some ⟨31, 1, [[.arr (dE [m])]]⟩), (2, some ⟨223, 2, [bldC 2 3 (some (dec2 m))]⟩), (3, some ⟨5, 1, bE (dec2 m)⟩)], 4, 31⟩ := rfl
def teS (m : Nat) : Nat → AState
 | 0 => te0 m ()
 | _ + 1 => te1 m ()
theorem digs_one2 {m : Nat} (h0 : m ≠ 0) (h : m < 100) : digs MB m = [m] := by
 have hb : MB = 1000000000 := rfl
 rw [digs_pos (by decide) (by omega), Nat.mod_eq_of_lt (by omega), Nat.div_eq_of_lt (by omega), digs_zero]
theorem dec2_ne (m : Nat) : dec2 m ≠ [] := by unfold dec2; split <;> simp
theorem dec2_len (m : Nat) : (dec2 m).length ≤ 2 := by unfold dec2; split <;> simp
theorem fs_mtext (m : Nat) (h : m < 100) : FSpec Tryz.prog 168 [.agg [mag m]] (tx (dec2 m)) := by
 have hz := fs_mzero m
 refine FSpec.enter Tryz.func168 rfl (by kernel_rfl) rfl rfl rfl ?_ rfl ?_
 ·exact closed_cons (closed_agg (closed_cons (closed_mag m) closed_nil)) closed_nil
 refine r_z 2 ?_
 refine AWp.seq ?_
 refine r_c 2 (hz) ?_
 refine AR.nil ?_
 refine AWp.cond rfl (fun h1 => ?_) (fun h1 => ?_)
 ·have h2 : m = 0 := by simpa using h1
  subst h2
  refine r_z 1 ?_
  refine AWp.ret ?_
  refine Fin.tmpE rfl ?_ ?_
  ·rfl
  ·exact closed_v _
 have h2 : m ≠ 0 := by simpa using h1
 have hm : mag m = .arr (dE [m]) := by unfold mag; rw [digs_one2 h2 h]
 rw [hm]
 refine AWp.skip ?_
 have hln : ([m] : List Nat).length = 1 := rfl
 have hcl : Closed (.aptr [[.arr (dE [m])]] 0 0) := closed_aptr (fun e he c hc => by simp at he; subst he; simp at hc; subst hc; exact closed_arrD _)
 have hcl2 : Closed (.clos 284 [] [.aptr [[.arr (dE [m])]] 0 0]) := closed_clos closed_nil (closed_cons hcl closed_nil)
 refine r_z 1 ?_
 refine AWp.seq ?_
 refine r_c 3 (fs_Backward_u [m]) ?_
 refine AR.nil ?_
 refine AWp.cutT (fun _ : Unit => te1 m ()) (fun _ => True) ?_ ?_
 ·refine AWp.block ?_
  refine AWp.rangeFunc (α := Nat) (γ := Empty) 1 (teS m) (fun k => k) (fun k => k ≤ 1) (fun e => nomatch e) (fun _ e => nomatch e) 0 rfl (gs_Backward_u [m] (by simp)) rfl rfl ?_ (fun k => by cases k <;> exact ⟨rfl, rfl⟩) (fun e => nomatch e) (Nat.zero_le _) rfl (fun _ h => h) ?_ ?_ ?_ ?_ (fun _ e => nomatch e)
  ·intro k xs hT
   unfold backT at hT
   split at hT
   ·cases hT; rfl
   ·cases hT
  ·show SEntT _ (te0 m ())
   rw [te0_mk]
   refine SEntT.to [(1, 1), (2, 3)] rfl rfl rfl au_r (fun hs => ?_) (fun hs => ?_)
   ·repeat' (first | exact CvF.nil | refine CvF.cons rfl ?_ ?_)
    all_goals (first | (exact Cv.clo hs hcl2) | exact au_c)
   ·repeat' (first | exact CvH.nil | refine CvH.cons rfl rfl rfl rfl ?_ ?_)
    all_goals (first | exact au_e | (refine CvLL.box ?_; repeat' (first | exact CvL.nil | refine CvL.cons ?_ ?_)))
    all_goals (first | (exact Cv.clo hs hcl2) | exact au_c)
  ·exact closed_cons hcl closed_nil
  ·intro l k xs hk hT
   unfold backT at hT
   split at hT
   rotate_left
   ·cases hT
   rename_i hlt
   have hk0 : k = 0 := by simpa using hlt
   subst hk0
   cases hT
   show AWp _ _ _ _ ⟨setPs (te0 m ()).fr _ _ ++ shiftFr (te0 m ()).fr, _, _, _⟩
   show AWp _ _ _ _ ⟨[(13, u32 m), (12, i64 0), (1, .lptr 1 0 0), (3, .lptr 2 0 0), (11, .clos 284 [] [.aptr [[.arr (dE [m])]] 0 0]), (1001, .lptr 1 0 0), (1003, .lptr 2 0 0), (1011, .clos 284 [] [.aptr [[.arr (dE [m])]] 0 0])], [(1, some ⟨31, 1, [[.arr (dE [m])]]⟩), (2, some ⟨223, 2, [bldC 2 0 none]⟩)], 4, 31⟩
   refine r_z 1 ?_
   refine AWp.reg (m := 1) rfl ?_
   refine a_z ?_
   refine AWp.block ?_
   refine r_c 4 (fs_Itoa m h) ?_
   refine a_z ?_
   refine AWp.seq ?_
   refine r_z 6 ?_
   refine AWp.cond rfl (fun h3 => ?_) (fun h3 => ?_)
   ·exact absurd h3 (by simp)
   refine AWp.skip ?_
   refine AWp.reg (m := 2) rfl ?_
   refine a_1 ?_
   refine o_2 (.callB (s := none) (j := 0) rfl rfl rfl rfl rfl rfl (fun _ h => by cases h) (bs_Write0 (dec2 m) (dec2_ne m) (by have := dec2_len m; omega))) ?_
   refine AR.nil ?_
   refine ⟨0 + 1, ⟨by omega, rfl⟩, ?_⟩
   show SEntT _ ⟨[(1001, .lptr 1 0 0), (1003, .lptr 2 0 0), (1011, .clos 284 [] [.aptr [[.arr (dE [m])]] 0 0])], [(1, some ⟨31, 1, [[.arr (dE [m])]]⟩), (2, some ⟨223, 2, [bldC 2 3 (some (dec2 m))]⟩), (3, some ⟨5, 1, bE (dec2 m)⟩)], 4, 31⟩
   refine SEntT.to2 [(3, 100017)] rfl rfl rfl au_r (fun hs => ?_) (fun hs => ?_)
   ·repeat' (first | exact CvF.nil | refine CvF.cons rfl ?_ ?_)
    all_goals (first | (exact Cv.clo hs hcl2) | exact au_c)
   ·repeat' (first | exact CvH.nil | refine CvH.cons rfl rfl rfl rfl ?_ ?_)
    all_goals (first | exact au_e | (refine CvLL.box ?_; repeat' (first | exact CvL.nil | refine CvL.cons ?_ ?_)))
    all_goals (first | (exact Cv.clo hs hcl2) | exact au_c)
  ·intro k hk hT
   unfold backT at hT
   split at hT
   ·cases hT
   have hk1 : k = 1 := by
    rename_i hn; simp at hn; omega
   subst hk1
   exact ⟨(), trivial, SEnt.refl _⟩
 rintro _ _
 rw [te1_mk]
 have hne := dec2_ne m
 refine s_r 2 ?_
 refine o_2 (.callD rfl rfl rfl rfl rfl rfl (by decide) (by first | assumption | simp) (ds_String)) ?_
 refine a_z ?_
 refine AWp.ret ?_
 refine Fin.tmpE rfl ?_ ?_
 ·rfl
 ·exact closed_v _
section
variable {P : Go.Program} {T : Nat} {x y : Operand}
theorem binS_add {l m : List UInt8} (h : l.length + m.length ≤ 9223372036854775807) : ∀ w, (do eqGuard .add T x y (.string ⟨l.toArray⟩) (.string ⟨m.toArray⟩); binOp .add T (.string ⟨l.toArray⟩) (.string ⟨m.toArray⟩) : Sem Value).run P w = .ok (.string ⟨(l ++ m).toArray⟩) w := fun w => by
 have hm : IntKind.i64.max = 9223372036854775807 := by decide
 have e : (⟨l.toArray⟩ : ByteArray) ++ ⟨m.toArray⟩ = ⟨(l ++ m).toArray⟩ := by
  apply ByteArray.ext; simp
 have hn : ¬ ((((⟨l.toArray⟩ : ByteArray).size + (⟨m.toArray⟩ : ByteArray).size : Nat) : Int) > IntKind.i64.max) := by
  rw [size_tx, size_tx, hm]; omega
 simp only [eqGuard, binOp, Op.stringOp, hn, if_false, e, Sem.run_bind, Sem.run_pure, Result.andThen_ok]
 rfl
end
def textQ (q : Rat) : List UInt8 := ((if q.num < 0 then [45] else []) ++ dec2 q.num.natAbs) ++ (if q.den = 1 then [] else 47 :: dec2 q.den)
def okT (q : Rat) : Prop := q.num.natAbs < 100 ∧ q.den < 100
instance (q : Rat) : Decidable (okT q) := inferInstanceAs (Decidable (_ ∧ _))
theorem okT_qs {q : Rat} (h : okT q) : qs q ≤ 1099511627776 := by
 obtain ⟨h1, h2⟩ := h
 have e1 := bl_le (n := q.num.natAbs) (k := 7) (by omega)
 have e2 := bl_le (n := q.den) (k := 7) (by omega)
 unfold qs; omega
theorem textQ_len {q : Rat} : (textQ q).length ≤ 6 ∧ 1 ≤ (textQ q).length := by
 have h1 := dec2_len q.num.natAbs
 have h2 := dec2_len q.den
 have h3 := List.length_pos_iff.2 (dec2_ne q.num.natAbs)
 unfold textQ
 split <;> split <;> simp <;> omega
def qtS (q : Rat) : List UInt8 → AState
 | l => ⟨[(1, .aptr [qC q] 0 0), (3, tx l)], [], 2, 24⟩
theorem qtS_mk (q : Rat) (l : List UInt8) : qtS q l = ⟨[(1, .aptr [qC q] 0 0), (3, tx l)], [], 2, 24⟩ := rfl
theorem fs_QText (q : Rat) (h : okT q) : FSpec Tryz.prog 74 [.agg (qC q)] (tx (textQ q)) := by
 have hd1 := dec2_len q.num.natAbs
 have hd2 := dec2_len q.den
 have hden : 1 ≤ q.den := q.den_pos
 refine FSpec.enter Tryz.func74 rfl (by kernel_rfl) rfl rfl rfl ?_ rfl ?_
 ·exact closed_cons (closed_qA q) closed_nil
 refine r_z 2 ?_
 refine AWp.ent (st' := ⟨[(1, .aptr [qC q] 0 0)], [], 2, 24⟩) ?_ ?_
 ·exact s_e []
 refine r_c 5 (fs_mtext q.num.natAbs h.1) ?_
 refine a_z ?_
 refine AWp.cut (qtS q) (fun l => l = (if q.num < 0 then [45] else []) ++ dec2 q.num.natAbs) ?_ ?_
 ·refine r_z 3 ?_
  refine AWp.cond rfl (fun h1 => ?_) (fun h1 => ?_)
  ·have h2 : q.num < 0 := by simpa using h1
   refine AWp.reg (m := 3) rfl ?_
   refine a_1 ?_
   refine o_0 (.bin rfl rfl (binS_add (l := [45]) (by simp; omega))) ?_
   refine a_z ?_
   refine ⟨_, by rw [if_pos h2], ?_⟩
   rw [qtS_mk]
   refine SEnt.to [] rfl rfl rfl au_r (fun hs => ?_) (fun hs => ?_)
   ·repeat' (first | exact CvF.nil | refine CvF.cons rfl ?_ ?_)
    all_goals (first | (exact Cv.clo hs (closed_box (closed_qC q))) | exact au_c)
   ·repeat' (first | exact CvH.nil | refine CvH.cons rfl rfl rfl rfl ?_ ?_)
    all_goals (first | exact au_e | (refine CvLL.box ?_; repeat' (first | exact CvL.nil | refine CvL.cons ?_ ?_)))
    all_goals (first | (exact Cv.clo hs (closed_box (closed_qC q))) | exact au_c)
  ·have h2 : ¬ q.num < 0 := by simpa using h1
   refine AWp.skip ⟨dec2 q.num.natAbs, by rw [if_neg h2]; rfl, ?_⟩
   rw [qtS_mk]
   refine SEnt.to [] rfl rfl rfl au_r (fun hs => ?_) (fun hs => ?_)
   ·repeat' (first | exact CvF.nil | refine CvF.cons rfl ?_ ?_)
    all_goals (first | (exact Cv.clo hs (closed_box (closed_qC q))) | exact au_c)
   ·repeat' (first | exact CvH.nil | refine CvH.cons rfl rfl rfl rfl ?_ ?_)
    all_goals (first | exact au_e | (refine CvLL.box ?_; repeat' (first | exact CvL.nil | refine CvL.cons ?_ ?_)))
    all_goals (first | (exact Cv.clo hs (closed_box (closed_qC q))) | exact au_c)
 rintro l hl
 have hll : l.length ≤ 3 := by rw [hl]; split <;> simp <;> omega
 rw [qtS_mk]
 refine AWp.cut (qtS q) (fun l => l = textQ q) ?_ ?_
 ·refine r_c 4 (fs_mzero (q.den - 1)) ?_
  refine a_z ?_
  refine AWp.cond rfl (fun h1 => ?_) (fun h1 => ?_)
  ·have h2 : ¬ q.den = 1 := by
    intro e; rw [e] at h1; simp at h1
   refine AWp.reg (m := 7) rfl ?_
   refine c_s (fs_bottom q (okT_qs h)) ?_
   refine c_s (fs_mtext q.den h.2) ?_
   refine o_0 (.bin rfl rfl (binS_add (l := [47]) (by simp; omega))) ?_
   refine o_0 (.bin rfl rfl (binS_add (by simp; omega))) ?_
   refine a_z ?_
   refine ⟨_, by unfold textQ; rw [if_neg h2, ← hl], ?_⟩
   rw [qtS_mk]
   refine SEnt.to [] rfl rfl rfl au_r (fun hs => ?_) (fun hs => ?_)
   ·repeat' (first | exact CvF.nil | refine CvF.cons rfl ?_ ?_)
    all_goals (first | (exact Cv.clo hs (closed_box (closed_qC q))) | exact au_c)
   ·repeat' (first | exact CvH.nil | refine CvH.cons rfl rfl rfl rfl ?_ ?_)
    all_goals (first | exact au_e | (refine CvLL.box ?_; repeat' (first | exact CvL.nil | refine CvL.cons ?_ ?_)))
    all_goals (first | (exact Cv.clo hs (closed_box (closed_qC q))) | exact au_c)
  ·have h2 : q.den = 1 := by
    have h3 : q.den - 1 = 0 := by simpa using h1
    omega
   refine AWp.skip ⟨l, by unfold textQ; rw [if_pos h2, ← hl, List.append_nil], ?_⟩
   rw [qtS_mk]
   refine SEnt.to [] rfl rfl rfl au_r (fun hs => ?_) (fun hs => ?_)
   ·repeat' (first | exact CvF.nil | refine CvF.cons rfl ?_ ?_)
    all_goals (first | (exact Cv.clo hs (closed_box (closed_qC q))) | exact au_c)
   ·repeat' (first | exact CvH.nil | refine CvH.cons rfl rfl rfl rfl ?_ ?_)
    all_goals (first | exact au_e | (refine CvLL.box ?_; repeat' (first | exact CvL.nil | refine CvL.cons ?_ ?_)))
    all_goals (first | (exact Cv.clo hs (closed_box (closed_qC q))) | exact au_c)
 rintro l rfl
 rw [qtS_mk]
 refine r_z 2 ?_
 refine AWp.ret ?_
 refine Fin.tmpE rfl ?_ ?_
 ·rfl
 ·exact closed_v _
def textSp (s : Rat × Rat) : List UInt8 := [91] ++ textQ s.1 ++ [32] ++ textQ s.2 ++ [93]
theorem fs_SText (s : Rat × Rat) (h1 : okT s.1) (h2 : okT s.2) : FSpec Tryz.prog 158 [.agg (spC s.1 s.2)] (tx (textSp s)) := by
 have e1 := (textQ_len (q := s.1)).1
 have e2 := (textQ_len (q := s.2)).1
 refine FSpec.enter Tryz.func158 rfl (by kernel_rfl) rfl rfl rfl ?_ rfl ?_
 ·exact closed_cons (closed_spA _ _) closed_nil
 refine r_z 2 ?_
 refine AWp.seq ?_
 refine AWp.regD hmix (m := 11) rfl ?_
 refine c_s (fs_QText s.1 h1) ?_
 refine o_0 (.bin rfl rfl (binS_add (l := [91]) (by simp; omega))) ?_
 refine o_0 (.bin rfl rfl (binS_add (m := [32]) (by simp; omega))) ?_
 refine c_s (fs_QText s.2 h2) ?_
 refine o_0 (.bin rfl rfl (binS_add (by simp; omega))) ?_
 refine o_0 (.bin rfl rfl (binS_add (m := [93]) (by simp; omega))) ?_
 refine a_1 ?_
 refine AR.nil ⟨by kernel_rfl, ?_⟩
 refine AWp.ret ?_
 refine Fin.tmpE rfl ?_ ?_
 ·rfl
 ·exact closed_v _
end Go.Proofs.YtdjfjpeoddmamaaGreatDoor
