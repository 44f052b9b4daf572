/- Part V20 of the proof. -/
import Derived.Test.YtdhedjbmdnnbkaaGreatDoorV19
set_option linter.all false
namespace Go.Proofs.YtdhedjbmdnnbkaaGreatDoor
open Go.Abs
set_option maxRecDepth 20000
def oS (t n : Nat) (fr : Fr) : List RQ → AState
 | [] => ⟨(t, .emp) :: fr, [], 1, n⟩
 | y :: Y => ⟨(t, .lsl 1 0 (Y.length + 1) none 4) :: fr, [(1, some ⟨75, 4, rE (y :: Y)⟩)], 2, n⟩
theorem ju_ (t n : Nat) (fr : Fr) : oS t n fr [] = ⟨(t, .emp) :: fr, [], 1, n⟩ := rfl
theorem ec_ (t n : Nat) (fr : Fr) (y : RQ) (Y : List RQ) : oS t n fr (y :: Y) = ⟨(t, .lsl 1 0 (Y.length + 1) none 4) :: fr, [(1, some ⟨75, 4, rE (y :: Y)⟩)], 2, n⟩ := rfl
def rP (v : List Rat) : List RQ := v.map rq
theorem nd_ (v : List Rat) : okX (rP v) := fun y hy => by obtain ⟨q, _, rfl⟩ := List.mem_map.1 hy; exact ez_ q
theorem vR_rP (v : List Rat) : vR (rP v) = v := by
 unfold vR rP
 rw [List.map_map]
 exact List.map_id' v
@[simp] theorem cy_ (v : List Rat) : (rP v).length = v.length := by simp [rP]
theorem sg_ (v : List Rat) : trimR (rP v) = rP (trimQ v) := by
 unfold trimR
 rw [vR_rP, rP, ← List.map_take, ← ol_]; rfl
theorem qu_ {x : List RQ} {i : Nat} (h : i < x.length) : ∃ y, x[i]? = some y ∧ y.1 = coP (vR x) i := by
 refine ⟨_, List.getElem?_eq_getElem h, ?_⟩
 unfold coP vR
 rw [List.getD_eq_getElem?_getD, List.getElem?_map, List.getElem?_eq_getElem h]; rfl
theorem vR_bd {x : List RQ} {s : Nat} (h : bdL (vR x) s) {y : RQ} {i : Nat} (hy : x[i]? = some y) : qs y.1 ≤ s := h _ (List.mem_map.2 ⟨y, List.mem_of_getElem? hy, rfl⟩)
theorem take_succ' {V : List Rat} {j : Nat} (h : j < V.length) : V.take (j + 1) = V.take j ++ [coP V j] := cw_ (bg_ h)
theorem vr_ (x : List RQ) (k : RQ) (s : Nat) (hx : okX x) (hk : rok k) (hs : bdL (vR x) s) (hlim : s + qs k.1 ≤ 1099511627776) (hl : x.length ≤ 1000000) : FSpec Tryz.prog 48 [.arr (rE x), .agg (rC k)] (.arr (rE (rP (bp_ (vR x) k.1)))) := by
 obtain ⟨V, hV⟩ : ∃ V, V = tabP (vR x).length (fun i => coP (vR x) i * k.1) := ⟨_, rfl⟩
 refine FSpec.enter Tryz.func48 rfl (by kernel_rfl) rfl rfl rfl ?_ rfl ?_
 ·exact aa_ (au_ x) (aa_ (ay_ k) ab_)
 have hkc : Closed (.aptr [rC k] 0 0) := bb_ (bz_ k)
 refine r_z 2 ?_
 refine AWp.ent (st' := ⟨[(3, .aptr [rC k] 0 0), (0, .arr (rE x))], [], 1, 24⟩) ?_ ?_
 ·refine SEnt.to [] rfl rfl rfl au_r (fun hs => ?_) (fun hs => ?_)
  ·repeat' (first | exact CvF.nil | refine CvF.cons rfl ?_ ?_)
   all_goals (first | (exact Cv.boxp hs rfl (bl_ rfl) rfl (bz_ k)) | exact au_c)
  ·repeat' (first | exact CvH.nil | refine CvH.cons rfl rfl rfl rfl ?_ ?_)
   all_goals (first | exact au_e | (refine CvLL.box ?_; repeat' (first | exact CvL.nil | refine CvL.cons ?_ ?_)))
   all_goals (first | (exact Cv.boxp hs rfl (bl_ rfl) rfl (bz_ k)) | exact au_c)
 refine r_z 1 ?_
 refine AWp.seq ?_
 refine r_z 1 ?_
 have hVl : V.length = x.length := by rw [hV]; simp
 refine AWp.cutT (fun _ : Unit => oS 5 24 [(3, .aptr [rC k] 0 0), (0, .arr (rE x))] (rP V)) (fun _ => True) ?_ ?_
 ·refine AWp.block ?_
  refine AWp.loopS (fun j : Nat => oS 5 24 [(6, i64 ((j : Nat) : Int)), (3, .aptr [rC k] 0 0), (0, .arr (rE x))] (rP (V.take j))) (fun j => V.length - j) (fun j => j ≤ V.length) 0 (Nat.zero_le _) ?_ ?_
  ·show SEnt _ (oS _ _ _ [])
   rw [ju_]
   exact s_e []
  rintro j hj
  by_cases hlt : j < V.length
  ·obtain ⟨y, hy, hyv⟩ := qu_ (x := x) (i := j) (by omega)
   have hyb := vR_bd hs hy
   have hyo := hx y (List.mem_of_getElem? hy)
   have hgt : (rE x)[((j : Nat) : Int).toNat]? = some (rC y) := ht_ hy
   obtain ⟨c, hc⟩ : ∃ c, c = y.1 * k.1 := ⟨_, rfl⟩
   have hco : coP V j = c := by rw [hV, mu_, if_pos (by simp; omega), ← hyv, hc]
   have hm := fs_rMul y k hyo hk (by omega)
   rw [← hc] at hm
   have htk := take_succ' hlt
   rw [hco] at htk
   have hrp : rP (V.take (j + 1)) = rP (V.take j) ++ [rq c] := by rw [htk]; simp [rP]
   have hQl : (rP (V.take j)).length = j := by simp; omega
   cases hQ : rP (V.take j) with
   | nil =>
    rw [hQ, List.nil_append] at hrp
    simp only [ju_]
    refine AWp.seq ?_
    refine q_z 4 ?_
    refine AWp.cond rfl (fun h => ?_) (fun h => ?_)
    rotate_left
    ·cases h
    refine AWp.skip ?_
    refine AWp.seq ?_
    refine AWp.block ?_
    refine AWp.regD hmix (m := 10) rfl ?_
    refine a_3 ?_
    first | refine AR.op0 (.index_l rfl rfl (by omega) (by omega) te_27.h) rfl rfl ?_ | refine AR.op0 (.index_a rfl rfl (by omega) hgt rfl te_27.h) rfl rfl ?_
    first | refine AR.op0 (.load_l rfl rfl hgt tg_75.h ts_75.h (nle rfl)) rfl rfl ?_ | refine AR.op0 (.load_a rfl hgt tg_75.h ts_75.h (nle rfl)) rfl rfl ?_
    refine c_s (hm) ?_
    refine a_3 ?_
    refine AR.nil ⟨by kernel_rfl, ?_⟩
    refine AWp.reg (m := 3) rfl ?_
    refine a_z ?_
    refine ⟨j + 1, by omega, hlt, ?_⟩
    rw [hrp, ec_]
    refine SEnt.to [(1, 5)] rfl rfl rfl au_r (fun hs => au_f) (fun hs => ?_)
    ·repeat' (first | exact CvH.nil | refine CvH.cons rfl rfl rfl rfl ?_ ?_)
     all_goals (first | (exact CvLL.clo hs (cl_ _)) | exact au_e)
   | cons q Q =>
    rw [hQ] at hQl
    rw [hQ, List.cons_append] at hrp
    simp at hQl
    simp only [ec_]
    refine AWp.seq ?_
    refine q_z 4 ?_
    refine AWp.cond rfl (fun h => ?_) (fun h => ?_)
    rotate_left
    ·cases h
    refine AWp.skip ?_
    refine AWp.seq ?_
    refine AWp.block ?_
    refine AWp.regD hmix (m := 10) rfl ?_
    refine a_3 ?_
    first | refine AR.op0 (.index_l rfl rfl (by omega) (by omega) te_27.h) rfl rfl ?_ | refine AR.op0 (.index_a rfl rfl (by omega) hgt rfl te_27.h) rfl rfl ?_
    first | refine AR.op0 (.load_l rfl rfl hgt tg_75.h ts_75.h (nle rfl)) rfl rfl ?_ | refine AR.op0 (.load_a rfl hgt tg_75.h ts_75.h (nle rfl)) rfl rfl ?_
    refine c_s (hm) ?_
    refine a_3 ?_
    refine AR.nil ⟨by kernel_rfl, ?_⟩
    refine AWp.reg (m := 3) rfl ?_
    refine a_z ?_
    refine ⟨j + 1, by omega, hlt, ?_⟩
    rw [hrp, ec_]
    have e : rE (q :: Q) ++ [rC (rq c)] = rE (q :: (Q ++ [rq c])) := by simp [rE]
    refine SEnt.to [(1, 5)] rfl rfl rfl ?_ (fun hs => au_f) (fun hs => ?_)
    ·repeat' (first | exact ShrL.nil | refine ShrL.cons rfl rfl rfl rfl (by first | (simp) | rfl | (simp; done) | (simp <;> omega)) ?_)
    ·repeat' (first | exact CvH.nil | refine CvH.cons rfl rfl rfl rfl ?_ ?_)
     all_goals (first | (exact CvLL.cloE hs e (cl_ _)) | exact au_e)
  ·have hge : j = V.length := by omega
   subst hge
   rw [List.take_length]
   cases hQ : rP V with
   | nil =>
    simp only [ju_]
    refine AWp.seq ?_
    refine q_z 4 ?_
    refine AWp.cond rfl (fun h => ?_) (fun h => ?_)
    ·cases h
    refine AWp.exit ⟨(), trivial, ?_⟩
    exact s_e []
   | cons q Q =>
    simp only [ec_]
    refine AWp.seq ?_
    refine q_z 4 ?_
    refine AWp.cond rfl (fun h => ?_) (fun h => ?_)
    ·cases h
    refine AWp.exit ⟨(), trivial, ?_⟩
    refine SEnt.to [(1, 5)] rfl rfl rfl au_r (fun hs => au_f) (fun hs => ?_)
    ·repeat' (first | exact CvH.nil | refine CvH.cons rfl rfl rfl rfl ?_ ?_)
     all_goals (first | (exact CvLL.clo hs (cl_ _)) | exact au_e)
 rintro _ _
 have htr := oa_ (rP V) (by simp; omega)
 rw [sg_] at htr
 cases hQ : rP V with
 | nil =>
  rw [hQ] at htr
  simp only [ju_]
  refine r_c 3 (htr) ?_
  refine a_z ?_
  refine AWp.ret ?_
  refine Fin.tmpE rfl ?_ ?_
  ·rw [hV]; rfl
  ·exact au_ _
 | cons q Q =>
  rw [hQ] at htr
  simp only [ec_]
  refine s_r 3 ?_
  refine a_1 ?_
  refine o_1 (.callS1 rfl rfl rfl (.shut rfl (by first | exact nle rfl | (simp; done) | (simp; omega)) (.nil)) rfl ((FSpec.argE htr (by rw [List.drop_zero]; exact List.take_of_length_le (by simp))))) ?_
  refine a_z ?_
  refine AWp.ret ?_
  refine Fin.tmpE rfl ?_ ?_
  ·rw [hV]; rfl
  ·exact au_ _
@[simp] theorem trimR_length (x : List RQ) : (trimR x).length = (trimQ (vR x)).length := by rw [← vR_trim, gp_]
theorem vs_ (q : Rat) : FSpec Tryz.prog 50 [.agg (rC (rq q))] (.arr (rE (rP (ew_ q)))) := by
 have htr := oa_ (rP [q]) (by simp)
 rw [sg_] at htr
 refine FSpec.enter Tryz.func50 rfl (by kernel_rfl) rfl rfl rfl ?_ rfl ?_
 ·exact aa_ (ay_ _) ab_
 refine r_z 2 ?_
 refine s_r 4 ?_
 refine a_2 ?_
 refine o_1 (.callS1 rfl rfl rfl (.shut rfl (by first | exact nle rfl | (simp; done) | (simp; omega)) (.nil)) rfl ((FSpec.argE htr (by rw [List.drop_zero]; exact List.take_of_length_le (by simp))))) ?_
 refine a_z ?_
 refine AWp.ret ?_
 refine Fin.tmpE rfl ?_ ?_
 ·rfl
 ·exact au_ _
end Go.Proofs.YtdhedjbmdnnbkaaGreatDoor
namespace Go.Abs
theorem bd_co' {p : List Rat} {s : Nat} (h : bdL p s) (hs : 1 ≤ s) : ∀ i, qs (coP p i) ≤ s := fun i => fo_ h hs i
theorem se_ {p : List Rat} {k : Rat} {s : Nat} (h : bdL p s) (hs : 1 ≤ s) : bdL (bp_ p k) (s + qs k) := iu_ fun i => by
 rw [ex_]
 have := gf_ (coP p i) k
 have := bd_co' h hs i
 omega
theorem bdL_neg {p : List Rat} {s : Nat} (h : bdL p s) (hs : 1 ≤ s) : bdL (bp_ p (-1)) s := iu_ fun i => by
 rw [ex_, show coP p i * (-1) = -coP p i by grind, hu_]
 exact bd_co' h hs i
theorem tu_ {p q : List Rat} {s t : Nat} (hp : bdL p s) (hq : bdL q t) (hs : 1 ≤ s) (ht : 1 ≤ t) : bdL (addP p q) (s + t + 1) := iu_ fun i => by
 rw [iv_]
 have := ln_ (coP p i) (coP q i)
 have := bd_co' hp hs i
 have := bd_co' hq ht i
 omega
theorem bdL_subP {p q : List Rat} {s t : Nat} (hp : bdL p s) (hq : bdL q t) (hs : 1 ≤ s) (ht : 1 ≤ t) : bdL (subP p q) (s + t + 1) := tu_ hp (bdL_neg hq ht) hs ht
def shP (i : Nat) (v : List Rat) : List Rat := List.replicate i 0 ++ v
theorem jc_ (i : Nat) (v : List Rat) : (shP i v).length = i + v.length := by simp [shP]
theorem yy_ (i : Nat) (v : List Rat) : shP (i + 1) v = 0 :: shP i v := by simp [shP, List.replicate_succ]
theorem evalP_sh (v : List Rat) (x : Rat) : ∀ i, evalP (shP i v) x = evalP v x * x ^ i
 | 0 => by simp [shP]
 | i + 1 => by
  rw [yy_, bs_, evalP_sh v x i, Rat.pow_succ]
  grind
theorem qj_ (v : List Rat) (i n : Nat) : coP (shP i v) n = if n < i then 0 else coP v (n - i) := by
 induction i generalizing n with
 | zero => simp [shP]
 | succ i ih =>
  rw [yy_]
  cases n with
  | zero => rw [gn_, if_pos (by omega)]
  | succ n =>
   rw [fi_, ih, Nat.add_sub_add_right]
   by_cases h : n < i
   ·rw [if_pos h, if_pos (by omega)]
   ·rw [if_neg h, if_neg (by omega)]
def mR (p q : List Rat) : Nat → List Rat
 | 0 => []
 | n + 1 => addP (mR p q n) (shP n (bp_ p (coP q n)))
theorem evalP_mR (p q : List Rat) (x : Rat) : ∀ n, n ≤ q.length → evalP (mR p q n) x = evalP p x * evalP (q.take n) x
 | 0, _ => by simp [mR, qb_]
 | n + 1, h => by
  rw [mR, gy_, evalP_mR p q x n (by omega), evalP_sh, fc_, evalP_take q x n (by omega)]
  grind
theorem trim_mR (p q : List Rat) : ∀ n, trimQ (mR p q n) = mR p q n
 | 0 => rfl
 | n + 1 => ek_ _
theorem trim_mulP (p q : List Rat) : trimQ (mulP p q) = mulP p q := by
 unfold mulP
 split
 ·rfl
 ·exact ek_ _
theorem mR_mul (p q : List Rat) : mR p q q.length = mulP p q := by
 rw [← trim_mR, ← trim_mulP]
 refine tj_ fun x => ?_
 rw [evalP_mR p q x _ (Nat.le_refl _), List.take_length, gg_]
theorem mR_len (p q : List Rat) : ∀ n, (mR p q n).length ≤ n + p.length
 | 0 => Nat.zero_le _
 | n + 1 => by
  have h1 := mR_len p q n
  have h2 := hr_ (mR p q n) (shP n (bp_ p (coP q n)))
  have h3 := cg_ p (coP q n)
  rw [jc_] at h2
  rw [mR]
  omega
theorem mR_bd {p q : List Rat} {s t : Nat} (hp : bdL p s) (hq : bdL q t) (hs : 1 ≤ s) (ht : 1 ≤ t) : ∀ n, bdL (mR p q n) (n * (s + t + 1) + 1)
 | 0 => fun _ h => by cases h
 | n + 1 => iu_ fun i => by
  rw [mR, iv_, qj_, Nat.succ_mul]
  have h1 := bd_co' (mR_bd hp hq hs ht n) (by omega) i
  have h2 := bd_co' hq ht n
  have h3 : qs (if i < n then 0 else coP (bp_ p (coP q n)) (i - n)) ≤ s + t := by
   split
   ·have : qs 0 = 1 := by decide
    omega
   ·rw [ex_]
    have := gf_ (coP p (i - n)) (coP q n)
    have := bd_co' hp hs (i - n)
    omega
  have := ln_ (coP (mR p q n) i) (if i < n then 0 else coP (bp_ p (coP q n)) (i - n))
  omega
theorem sv_ {p : List Rat} {a : Rat} {d : Nat} : ∀ n, n ≤ d → mR p (shP d [a]) n = []
 | 0, _ => rfl
 | n + 1, h => by
  rw [mR, sv_ n (by omega)]
  refine trim_nil_iff.2 fun i => ?_
  have h1 : coP (shP d [a]) n = 0 := by rw [qj_, if_pos (by omega)]
  have h2 : coP (tabP (max ([] : List Rat).length (shP n (bp_ p (coP (shP d [a]) n))).length) fun i => coP [] i + coP (shP n (bp_ p (coP (shP d [a]) n))) i) i = coP [] i + coP (shP n (bp_ p (coP (shP d [a]) n))) i := by
   rw [← fv_]; exact iv_ _ _ i
  rw [h2, mv_, qj_, ex_, h1]
  split <;> grind
theorem mR_mono_bd {p : List Rat} {a : Rat} {d s : Nat} (hp : bdL p s) (hs : 1 ≤ s) (n : Nat) (hn : n ≤ d + 1) : bdL (mR p (shP d [a]) n) (s + qs a + 2) := by
 by_cases h : n ≤ d
 ·rw [sv_ n h]; exact fun _ h => by cases h
 ·have : n = d + 1 := by omega
  subst this
  refine iu_ fun i => ?_
  rw [mR, iv_, sv_ d (Nat.le_refl _), mv_, Rat.zero_add, qj_]
  split
  ·have : qs 0 = 1 := by decide
   omega
  ·rw [ex_, qj_, if_neg (by omega), Nat.sub_self, gn_]
   have := gf_ (coP p (i - d)) a
   have := bd_co' hp hs (i - d)
   omega
end Go.Abs
namespace Go.Proofs.YtdhedjbmdnnbkaaGreatDoor
open Go.Abs
set_option maxRecDepth 20000
set_option maxHeartbeats 1000000
theorem fs_rAddP (x y : List RQ) (s t : Nat) (hx : okX x) (hy : okX y) (hs : bdL (vR x) s) (ht : bdL (vR y) t) (hlim : s + t + 64 ≤ 1099511627776) (hxl : x.length ≤ 1000000) (hyl : y.length ≤ 1000000) : FSpec Tryz.prog 43 [.arr (rE x), .arr (rE y)] (.arr (rE (rP (addP (vR x) (vR y))))) := by
 obtain ⟨V, hV⟩ : ∃ V, V = tabP (max (vR x).length (vR y).length) (fun i => coP (vR x) i + coP (vR y) i) := ⟨_, rfl⟩
 have hi0 : FSpec Tryz.prog 51 [i64 0] (.agg (rC (rq 0))) := fs_rInt 0 (by decide)
 have q0 : qs (rq 0).1 ≤ 64 := by decide
 refine FSpec.enter Tryz.func43 rfl (by kernel_rfl) rfl rfl rfl ?_ rfl ?_
 ·exact aa_ (au_ x) (aa_ (au_ y) ab_)
 refine r_z 1 ?_
 refine r_z 1 ?_
 refine AWp.seq ?_
 refine r_z 1 ?_
 have hVl : V.length = max x.length y.length := by rw [hV]; simp
 refine AWp.cutT (fun _ : Unit => oS 5 47 [(0, .arr (rE x)), (1, .arr (rE y))] (rP V)) (fun _ => True) ?_ ?_
 ·refine AWp.block ?_
  refine AWp.loopS (fun j : Nat => oS 5 47 [(6, i64 ((j : Nat) : Int)), (0, .arr (rE x)), (1, .arr (rE y))] (rP (V.take j))) (fun j => V.length - j) (fun j => j ≤ V.length) 0 (Nat.zero_le _) ?_ ?_
  ·show SEnt _ (oS _ _ _ [])
   rw [ju_]
   exact s_e []
  rintro j hj
  have hQl : (rP (V.take j)).length = j := by simp; omega
  by_cases hjx : j < x.length
  ·by_cases hjy : j < y.length
   ·obtain ⟨a, ha, hav⟩ := qu_ (x := x) (i := j) hjx
    have hab := vR_bd hs ha
    have hao := hx a (List.mem_of_getElem? ha)
    have hgx : (rE x)[((j : Nat) : Int).toNat]? = some (rC a) := ht_ ha
    obtain ⟨b, hb, hbv⟩ := qu_ (x := y) (i := j) hjy
    have hbb := vR_bd ht hb
    have hbo := hy b (List.mem_of_getElem? hb)
    have hgy : (rE y)[((j : Nat) : Int).toNat]? = some (rC b) := ht_ hb
    obtain ⟨c, hc⟩ : ∃ c, c = a.1 + b.1 := ⟨_, rfl⟩
    have hco : coP V j = c := by rw [hV, mu_, if_pos (by simp; omega), ← hav, ← hbv, hc]
    have m1 := pp_ (rq 0) a (ez_ _) hao (by omega)
    rw [show (rq 0).1 + a.1 = a.1 from Rat.zero_add _] at m1
    have m2 := pp_ (rq a.1) b (ez_ _) hbo (by show qs a.1 + qs b.1 ≤ _; omega)
    rw [show (rq a.1).1 + b.1 = c by rw [hc]; rfl] at m2
    have htk := take_succ' (V := V) (j := j) (by omega)
    rw [hco] at htk
    have hrp : rP (V.take (j + 1)) = rP (V.take j) ++ [rq c] := by rw [htk]; simp [rP]
    cases hQ : rP (V.take j) with
    | nil =>
     rw [hQ, List.nil_append] at hrp
     simp only [ju_]
     refine AWp.seq ?_
     refine q_z 10 ?_
     refine AWp.cond rfl (fun h => ?_) (fun h => ?_)
     rotate_left
     ·cases h
     refine AWp.skip ?_
     refine AWp.seq ?_
     refine AWp.block ?_
     refine r_c 3 (hi0) ?_
     refine a_z ?_
     refine AWp.seq ?_
     refine q_z 4 ?_
     refine AWp.cond rfl (fun h => ?_) (fun h => ?_)
     rotate_left
     ·cases h
     refine AWp.regD hmix (m := 7) rfl ?_
     refine a_3 ?_
     first | refine AR.op0 (.index_l rfl rfl (by omega) (by omega) te_27.h) rfl rfl ?_ | refine AR.op0 (.index_a rfl rfl (by omega) hgx rfl te_27.h) rfl rfl ?_
     first | refine AR.op0 (.load_l rfl rfl hgx tg_75.h ts_75.h (nle rfl)) rfl rfl ?_ | refine AR.op0 (.load_a rfl hgx tg_75.h ts_75.h (nle rfl)) rfl rfl ?_
     refine c_s (m1) ?_
     refine a_1 ?_
     refine AR.nil ⟨by kernel_rfl, ?_⟩
     refine AWp.seq ?_
     refine q_z 4 ?_
     refine AWp.cond rfl (fun h => ?_) (fun h => ?_)
     rotate_left
     ·cases h
     refine AWp.regD hmix (m := 7) rfl ?_
     refine a_3 ?_
     first | refine AR.op0 (.index_l rfl rfl (by omega) (by omega) te_27.h) rfl rfl ?_ | refine AR.op0 (.index_a rfl rfl (by omega) hgy rfl te_27.h) rfl rfl ?_
     first | refine AR.op0 (.load_l rfl rfl hgy tg_75.h ts_75.h (nle rfl)) rfl rfl ?_ | refine AR.op0 (.load_a rfl hgy tg_75.h ts_75.h (nle rfl)) rfl rfl ?_
     refine c_s (m2) ?_
     refine a_1 ?_
     refine AR.nil ⟨by kernel_rfl, ?_⟩
     refine AWp.reg (m := 5) rfl ?_
     refine a_z ?_
     refine AWp.reg (m := 3) rfl ?_
     refine a_z ?_
     refine ⟨j + 1, by omega, by omega, ?_⟩
     rw [hrp, ec_]
     refine SEnt.to [(1, 5)] rfl rfl rfl au_r (fun hs => au_f) (fun hs => ?_)
     ·repeat' (first | exact CvH.nil | refine CvH.cons rfl rfl rfl rfl ?_ ?_)
      all_goals (first | (exact CvLL.clo hs (cl_ _)) | exact au_e)
    | cons q Q =>
     rw [hQ] at hQl
     rw [hQ, List.cons_append] at hrp
     simp at hQl
     simp only [ec_]
     refine AWp.seq ?_
     refine q_z 10 ?_
     refine AWp.cond rfl (fun h => ?_) (fun h => ?_)
     rotate_left
     ·cases h
     refine AWp.skip ?_
     refine AWp.seq ?_
     refine AWp.block ?_
     refine r_c 3 (hi0) ?_
     refine a_z ?_
     refine AWp.seq ?_
     refine q_z 4 ?_
     refine AWp.cond rfl (fun h => ?_) (fun h => ?_)
     rotate_left
     ·cases h
     refine AWp.regD hmix (m := 7) rfl ?_
     refine a_3 ?_
     first | refine AR.op0 (.index_l rfl rfl (by omega) (by omega) te_27.h) rfl rfl ?_ | refine AR.op0 (.index_a rfl rfl (by omega) hgx rfl te_27.h) rfl rfl ?_
     first | refine AR.op0 (.load_l rfl rfl hgx tg_75.h ts_75.h (nle rfl)) rfl rfl ?_ | refine AR.op0 (.load_a rfl hgx tg_75.h ts_75.h (nle rfl)) rfl rfl ?_
     refine c_s (m1) ?_
     refine a_1 ?_
     refine AR.nil ⟨by kernel_rfl, ?_⟩
     refine AWp.seq ?_
     refine q_z 4 ?_
     refine AWp.cond rfl (fun h => ?_) (fun h => ?_)
     rotate_left
     ·cases h
     refine AWp.regD hmix (m := 7) rfl ?_
     refine a_3 ?_
     first | refine AR.op0 (.index_l rfl rfl (by omega) (by omega) te_27.h) rfl rfl ?_ | refine AR.op0 (.index_a rfl rfl (by omega) hgy rfl te_27.h) rfl rfl ?_
     first | refine AR.op0 (.load_l rfl rfl hgy tg_75.h ts_75.h (nle rfl)) rfl rfl ?_ | refine AR.op0 (.load_a rfl hgy tg_75.h ts_75.h (nle rfl)) rfl rfl ?_
     refine c_s (m2) ?_
     refine a_1 ?_
     refine AR.nil ⟨by kernel_rfl, ?_⟩
     refine AWp.reg (m := 5) rfl ?_
     refine a_z ?_
     refine AWp.reg (m := 3) rfl ?_
     refine a_z ?_
     refine ⟨j + 1, by omega, by omega, ?_⟩
     rw [hrp, ec_]
     have e : rE (q :: Q) ++ [rC (rq c)] = rE (q :: (Q ++ [rq c])) := by simp [rE]
     refine SEnt.to [(1, 5)] rfl rfl rfl ?_ (fun hs => au_f) (fun hs => ?_)
     ·repeat' (first | exact ShrL.nil | refine ShrL.cons rfl rfl rfl rfl (by first | (simp) | rfl | (simp; done) | (simp <;> omega)) ?_)
     ·repeat' (first | exact CvH.nil | refine CvH.cons rfl rfl rfl rfl ?_ ?_)
      all_goals (first | (exact CvLL.cloE hs e (cl_ _)) | exact au_e)
   ·obtain ⟨a, ha, hav⟩ := qu_ (x := x) (i := j) hjx
    have hab := vR_bd hs ha
    have hao := hx a (List.mem_of_getElem? ha)
    have hgx : (rE x)[((j : Nat) : Int).toNat]? = some (rC a) := ht_ ha
    obtain ⟨c, hc⟩ : ∃ c, c = a.1 := ⟨_, rfl⟩
    have hco : coP V j = c := by rw [hV, mu_, if_pos (by simp; omega), ← hav, ho_ (p := vR y) (by simp; omega), Rat.add_zero, hc]
    have m1 := pp_ (rq 0) a (ez_ _) hao (by omega)
    rw [show (rq 0).1 + a.1 = a.1 from Rat.zero_add _] at m1
    rw [← hc] at m1
    have htk := take_succ' (V := V) (j := j) (by omega)
    rw [hco] at htk
    have hrp : rP (V.take (j + 1)) = rP (V.take j) ++ [rq c] := by rw [htk]; simp [rP]
    cases hQ : rP (V.take j) with
    | nil =>
     rw [hQ, List.nil_append] at hrp
     simp only [ju_]
     refine AWp.seq ?_
     refine q_z 10 ?_
     refine AWp.cond rfl (fun h => ?_) (fun h => ?_)
     rotate_left
     ·cases h
     refine AWp.skip ?_
     refine AWp.seq ?_
     refine AWp.block ?_
     refine r_c 3 (hi0) ?_
     refine a_z ?_
     refine AWp.seq ?_
     refine q_z 4 ?_
     refine AWp.cond rfl (fun h => ?_) (fun h => ?_)
     rotate_left
     ·cases h
     refine AWp.regD hmix (m := 7) rfl ?_
     refine a_3 ?_
     first | refine AR.op0 (.index_l rfl rfl (by omega) (by omega) te_27.h) rfl rfl ?_ | refine AR.op0 (.index_a rfl rfl (by omega) hgx rfl te_27.h) rfl rfl ?_
     first | refine AR.op0 (.load_l rfl rfl hgx tg_75.h ts_75.h (nle rfl)) rfl rfl ?_ | refine AR.op0 (.load_a rfl hgx tg_75.h ts_75.h (nle rfl)) rfl rfl ?_
     refine c_s (m1) ?_
     refine a_1 ?_
     refine AR.nil ⟨by kernel_rfl, ?_⟩
     refine AWp.seq ?_
     refine q_z 4 ?_
     refine AWp.cond rfl (fun h => ?_) (fun h => ?_)
     ·cases h
     refine AWp.skip ?_
     refine AWp.reg (m := 5) rfl ?_
     refine a_z ?_
     refine AWp.reg (m := 3) rfl ?_
     refine a_z ?_
     refine ⟨j + 1, by omega, by omega, ?_⟩
     rw [hrp, ec_]
     refine SEnt.to [(1, 5)] rfl rfl rfl au_r (fun hs => au_f) (fun hs => ?_)
     ·repeat' (first | exact CvH.nil | refine CvH.cons rfl rfl rfl rfl ?_ ?_)
      all_goals (first | (exact CvLL.clo hs (cl_ _)) | exact au_e)
    | cons q Q =>
     rw [hQ] at hQl
     rw [hQ, List.cons_append] at hrp
     simp at hQl
     simp only [ec_]
     refine AWp.seq ?_
     refine q_z 10 ?_
     refine AWp.cond rfl (fun h => ?_) (fun h => ?_)
     rotate_left
     ·cases h
     refine AWp.skip ?_
     refine AWp.seq ?_
     refine AWp.block ?_
     refine r_c 3 (hi0) ?_
     refine a_z ?_
     refine AWp.seq ?_
     refine q_z 4 ?_
     refine AWp.cond rfl (fun h => ?_) (fun h => ?_)
     rotate_left
     ·cases h
     refine AWp.regD hmix (m := 7) rfl ?_
     refine a_3 ?_
     first | refine AR.op0 (.index_l rfl rfl (by omega) (by omega) te_27.h) rfl rfl ?_ | refine AR.op0 (.index_a rfl rfl (by omega) hgx rfl te_27.h) rfl rfl ?_
     first | refine AR.op0 (.load_l rfl rfl hgx tg_75.h ts_75.h (nle rfl)) rfl rfl ?_ | refine AR.op0 (.load_a rfl hgx tg_75.h ts_75.h (nle rfl)) rfl rfl ?_
     refine c_s (m1) ?_
     refine a_1 ?_
     refine AR.nil ⟨by kernel_rfl, ?_⟩
     refine AWp.seq ?_
     refine q_z 4 ?_
     refine AWp.cond rfl (fun h => ?_) (fun h => ?_)
     ·cases h
     refine AWp.skip ?_
     refine AWp.reg (m := 5) rfl ?_
     refine a_z ?_
     refine AWp.reg (m := 3) rfl ?_
     refine a_z ?_
     refine ⟨j + 1, by omega, by omega, ?_⟩
     rw [hrp, ec_]
     have e : rE (q :: Q) ++ [rC (rq c)] = rE (q :: (Q ++ [rq c])) := by simp [rE]
     refine SEnt.to [(1, 5)] rfl rfl rfl ?_ (fun hs => au_f) (fun hs => ?_)
     ·repeat' (first | exact ShrL.nil | refine ShrL.cons rfl rfl rfl rfl (by first | (simp) | rfl | (simp; done) | (simp <;> omega)) ?_)
     ·repeat' (first | exact CvH.nil | refine CvH.cons rfl rfl rfl rfl ?_ ?_)
      all_goals (first | (exact CvLL.cloE hs e (cl_ _)) | exact au_e)
  ·by_cases hjy : j < y.length
   ·obtain ⟨b, hb, hbv⟩ := qu_ (x := y) (i := j) hjy
    have hbb := vR_bd ht hb
    have hbo := hy b (List.mem_of_getElem? hb)
    have hgy : (rE y)[((j : Nat) : Int).toNat]? = some (rC b) := ht_ hb
    obtain ⟨c, hc⟩ : ∃ c, c = b.1 := ⟨_, rfl⟩
    have hco : coP V j = c := by rw [hV, mu_, if_pos (by simp; omega), ho_ (p := vR x) (by simp; omega), ← hbv, Rat.zero_add, hc]
    have m2 := pp_ (rq 0) b (ez_ _) hbo (by omega)
    rw [show (rq 0).1 + b.1 = c by rw [hc]; exact Rat.zero_add _] at m2
    have htk := take_succ' (V := V) (j := j) (by omega)
    rw [hco] at htk
    have hrp : rP (V.take (j + 1)) = rP (V.take j) ++ [rq c] := by rw [htk]; simp [rP]
    cases hQ : rP (V.take j) with
    | nil =>
     rw [hQ, List.nil_append] at hrp
     simp only [ju_]
     refine AWp.seq ?_
     refine q_z 10 ?_
     refine AWp.cond rfl (fun h => ?_) (fun h => ?_)
     rotate_left
     ·cases h
     refine AWp.skip ?_
     refine AWp.seq ?_
     refine AWp.block ?_
     refine r_c 3 (hi0) ?_
     refine a_z ?_
     refine AWp.seq ?_
     refine q_z 4 ?_
     refine AWp.cond rfl (fun h => ?_) (fun h => ?_)
     ·cases h
     refine AWp.skip ?_
     refine AWp.seq ?_
     refine q_z 4 ?_
     refine AWp.cond rfl (fun h => ?_) (fun h => ?_)
     rotate_left
     ·cases h
     refine AWp.regD hmix (m := 7) rfl ?_
     refine a_3 ?_
     first | refine AR.op0 (.index_l rfl rfl (by omega) (by omega) te_27.h) rfl rfl ?_ | refine AR.op0 (.index_a rfl rfl (by omega) hgy rfl te_27.h) rfl rfl ?_
     first | refine AR.op0 (.load_l rfl rfl hgy tg_75.h ts_75.h (nle rfl)) rfl rfl ?_ | refine AR.op0 (.load_a rfl hgy tg_75.h ts_75.h (nle rfl)) rfl rfl ?_
     refine c_s (m2) ?_
     refine a_1 ?_
     refine AR.nil ⟨by kernel_rfl, ?_⟩
     refine AWp.reg (m := 5) rfl ?_
     refine a_z ?_
     refine AWp.reg (m := 3) rfl ?_
     refine a_z ?_
     refine ⟨j + 1, by omega, by omega, ?_⟩
     rw [hrp, ec_]
     refine SEnt.to [(1, 5)] rfl rfl rfl au_r (fun hs => au_f) (fun hs => ?_)
     ·repeat' (first | exact CvH.nil | refine CvH.cons rfl rfl rfl rfl ?_ ?_)
      all_goals (first | (exact CvLL.clo hs (cl_ _)) | exact au_e)
    | cons q Q =>
     rw [hQ] at hQl
     rw [hQ, List.cons_append] at hrp
     simp at hQl
     simp only [ec_]
     refine AWp.seq ?_
     refine q_z 10 ?_
     refine AWp.cond rfl (fun h => ?_) (fun h => ?_)
     rotate_left
     ·cases h
     refine AWp.skip ?_
     refine AWp.seq ?_
     refine AWp.block ?_
     refine r_c 3 (hi0) ?_
     refine a_z ?_
     refine AWp.seq ?_
     refine q_z 4 ?_
     refine AWp.cond rfl (fun h => ?_) (fun h => ?_)
     ·cases h
     refine AWp.skip ?_
     refine AWp.seq ?_
     refine q_z 4 ?_
     refine AWp.cond rfl (fun h => ?_) (fun h => ?_)
     rotate_left
     ·cases h
     refine AWp.regD hmix (m := 7) rfl ?_
     refine a_3 ?_
     first | refine AR.op0 (.index_l rfl rfl (by omega) (by omega) te_27.h) rfl rfl ?_ | refine AR.op0 (.index_a rfl rfl (by omega) hgy rfl te_27.h) rfl rfl ?_
     first | refine AR.op0 (.load_l rfl rfl hgy tg_75.h ts_75.h (nle rfl)) rfl rfl ?_ | refine AR.op0 (.load_a rfl hgy tg_75.h ts_75.h (nle rfl)) rfl rfl ?_
     refine c_s (m2) ?_
     refine a_1 ?_
     refine AR.nil ⟨by kernel_rfl, ?_⟩
     refine AWp.reg (m := 5) rfl ?_
     refine a_z ?_
     refine AWp.reg (m := 3) rfl ?_
     refine a_z ?_
     refine ⟨j + 1, by omega, by omega, ?_⟩
     rw [hrp, ec_]
     have e : rE (q :: Q) ++ [rC (rq c)] = rE (q :: (Q ++ [rq c])) := by simp [rE]
     refine SEnt.to [(1, 5)] rfl rfl rfl ?_ (fun hs => au_f) (fun hs => ?_)
     ·repeat' (first | exact ShrL.nil | refine ShrL.cons rfl rfl rfl rfl (by first | (simp) | rfl | (simp; done) | (simp <;> omega)) ?_)
     ·repeat' (first | exact CvH.nil | refine CvH.cons rfl rfl rfl rfl ?_ ?_)
      all_goals (first | (exact CvLL.cloE hs e (cl_ _)) | exact au_e)
   ·have hge : V.take j = V := List.take_of_length_le (by omega)
    rw [hge]
    cases hQ : rP V with
    | nil =>
     simp only [ju_]
     refine AWp.seq ?_
     refine q_z 10 ?_
     refine AWp.cond rfl (fun h => ?_) (fun h => ?_)
     ·cases h
     refine AWp.exit ⟨(), trivial, ?_⟩
     exact s_e []
    | cons q Q =>
     simp only [ec_]
     refine AWp.seq ?_
     refine q_z 10 ?_
     refine AWp.cond rfl (fun h => ?_) (fun h => ?_)
     ·cases h
     refine AWp.exit ⟨(), trivial, ?_⟩
     refine SEnt.to [(1, 5)] rfl rfl rfl au_r (fun hs => au_f) (fun hs => ?_)
     ·repeat' (first | exact CvH.nil | refine CvH.cons rfl rfl rfl rfl ?_ ?_)
      all_goals (first | (exact CvLL.clo hs (cl_ _)) | exact au_e)
 rintro _ _
 have htr := oa_ (rP V) (by simp; omega)
 rw [sg_] at htr
 cases hQ : rP V with
 | nil =>
  rw [hQ] at htr
  simp only [ju_]
  refine r_c 3 (htr) ?_
  refine a_z ?_
  refine AWp.ret ?_
  refine Fin.tmpE rfl ?_ ?_
  ·rw [hV]; rfl
  ·exact au_ _
 | cons q Q =>
  rw [hQ] at htr
  simp only [ec_]
  refine s_r 3 ?_
  refine a_1 ?_
  refine o_1 (.callS1 rfl rfl rfl (.shut rfl (by first | exact nle rfl | (simp; done) | (simp; omega)) (.nil)) rfl ((FSpec.argE htr (by rw [List.drop_zero]; exact List.take_of_length_le (by simp))))) ?_
  refine a_z ?_
  refine AWp.ret ?_
  refine Fin.tmpE rfl ?_ ?_
  ·rw [hV]; rfl
  ·exact au_ _
theorem okX_append {x y : List RQ} (hx : okX x) (hy : okX y) : okX (x ++ y) := fun z hz => (List.mem_append.1 hz).elim (hx z) (hy z)
theorem okX_zeros (n : Nat) : okX (List.replicate n r0) := fun z hz => by rw [List.eq_of_mem_replicate hz]; exact rok_r0
theorem ue_ (x y : List RQ) : vR (x ++ y) = vR x ++ vR y := by simp [vR]
theorem yu_ (n : Nat) : vR (List.replicate n r0) = List.replicate n 0 := by simp [vR, r0]
def zR4 : List AV := [i64 0, .emp, i64 0, .emp]
theorem le_zR4 : LeL zR4 (rC r0) := by
 rw [show rC r0 = [i64 0, .arr [], i64 0, .arr []] from rC_r0]
 exact .cons (.refl _) (.cons .emp (.cons (.refl _) (.cons .emp .nil)))
theorem closed_zR4 : ∀ c ∈ zR4, Closed c := aa_ (ac_ _) (aa_ az_ (aa_ (ac_ _) (aa_ az_ ab_)))
theorem rl_ (L : List RQ) : ∀ n, LeLL (List.replicate n zR4 ++ rE L) (rE (List.replicate n r0 ++ L))
 | 0 => LeLL.refl _
 | n + 1 => .cons le_zR4 (rl_ L n)
theorem wn_ (n : Nat) (L : List RQ) : Closed (.arr (List.replicate n zR4 ++ rE L)) := ao_ fun c hc => (List.mem_append.1 hc).elim (fun h => by rw [List.eq_of_mem_replicate h]; exact closed_zR4) (cl_ L c)
theorem FSpec.zerosR {P : Program} {f n : Nat} {L : List RQ} {a r : AV} (h : FSpec P f [a, .arr (rE (List.replicate n r0 ++ L))] r) (ha : Closed a) : FSpec P f [a, .arr (List.replicate n zR4 ++ rE L)] r :=
 h.weak (.cons (Le.refl _) (.cons (Le.arr (rl_ L n)) .nil)) (aa_ ha (aa_ (wn_ n L) ab_))
theorem zR4_one (n : Nat) : (List.replicate n zR4).all (·.all AV.one) = true := by
 simp only [List.all_replicate]
 cases n <;> rfl
theorem fs_rMulP (x y : List RQ) (s t B : Nat) (hx : okX x) (hy : okX y) (hs : bdL (vR x) s) (ht : bdL (vR y) t) (hs1 : 1 ≤ s) (hB : ∀ n, n ≤ y.length → bdL (mR (vR x) (vR y) n) B) (hlim : s + t + B + 64 ≤ 1099511627776) (hxl : x.length ≤ 100000) (hyl : y.length ≤ 100000) : FSpec Tryz.prog 46 [.arr (rE x), .arr (rE y)] (.arr (rE (rP (mulP (vR x) (vR y))))) := by
 obtain ⟨m, hm⟩ : ∃ m, m = mR (vR x) (vR y) := ⟨_, rfl⟩
 rw [← hm] at hB
 refine FSpec.enter Tryz.func46 rfl (by kernel_rfl) rfl rfl rfl ?_ rfl ?_
 ·exact aa_ (au_ x) (aa_ (au_ y) ab_)
 refine r_z 1 ?_
 refine r_z 1 ?_
 refine AWp.seq ?_
 refine r_z 1 ?_
 refine AWp.cutT (fun _ : Unit => ⟨[(5, .arr (rE (rP (m y.length)))), (0, .arr (rE x)), (1, .arr (rE y))], [], 1, 25⟩) (fun _ => True) ?_ ?_
 ·refine AWp.block ?_
  refine AWp.loopS (fun j : Nat => ⟨[(6, i64 ((j : Nat) : Int)), (5, .arr (rE (rP (m j)))), (0, .arr (rE x)), (1, .arr (rE y))], [], 1, 25⟩) (fun j => y.length - j) (fun j => j ≤ y.length) 0 (Nat.zero_le _) ?_ ?_
  ·rw [hm]
   exact s_e []
  rintro j hj
  by_cases hlt : j < y.length
  ·obtain ⟨b, hb, hbv⟩ := qu_ (x := y) (i := j) hlt
   have hbb := vR_bd ht hb
   have hbo := hy b (List.mem_of_getElem? hb)
   have hgt : (rE y)[((j : Nat) : Int).toNat]? = some (rC b) := ht_ hb
   have h1 := vr_ x b s hx hbo hs (by omega) (by omega)
   have hl1 := mR_len (vR x) (vR y) j
   rw [← hm, gp_] at hl1
   have hl2 := cg_ (vR x) b.1
   rw [gp_] at hl2
   have hz : bdL (vR (List.replicate j r0 ++ rP (bp_ (vR x) b.1))) (s + qs b.1) := by
    rw [ue_, yu_, vR_rP]
    intro q hq
    rcases List.mem_append.1 hq with h | h
    ·rw [List.eq_of_mem_replicate h]
     have : qs 0 = 1 := by decide
     omega
    ·exact se_ hs hs1 q h
   have h2 := fs_rAddP (rP (m j)) (List.replicate j r0 ++ rP (bp_ (vR x) b.1)) B (s + qs b.1) (nd_ _) (okX_append (okX_zeros _) (nd_ _)) (by rw [vR_rP]; exact hB j (by omega)) hz (by omega) (by rw [cy_]; omega) (by rw [List.length_append, List.length_replicate, cy_]; omega)
   have hnx : addP (vR (rP (m j))) (vR (List.replicate j r0 ++ rP (bp_ (vR x) b.1))) = m (j + 1) := by
    rw [vR_rP, ue_, yu_, vR_rP, hm, mR, ← hbv]; rfl
   rw [hnx] at h2
   refine AWp.seq ?_
   refine q_z 4 ?_
   refine AWp.cond rfl (fun h => ?_) (fun h => ?_)
   rotate_left
   ·cases h
   refine AWp.skip ?_
   refine AWp.seq ?_
   refine AWp.block ?_
   have h3 := FSpec.zerosR h2 (au_ _)
   refine AWp.regD hmix (m := 12) rfl ?_
   refine a_6 ?_
   first | refine AR.op0 (.index_l rfl rfl (by omega) (by omega) te_27.h) rfl rfl ?_ | refine AR.op0 (.index_a rfl rfl (by omega) hgt rfl te_27.h) rfl rfl ?_
   first | refine AR.op0 (.load_l rfl rfl hgt tg_75.h ts_75.h (nle rfl)) rfl rfl ?_ | refine AR.op0 (.load_a rfl hgt tg_75.h ts_75.h (nle rfl)) rfl rfl ?_
   refine c_s (h1) ?_
   refine o_2 (.append_l rfl rfl rfl te_27.h rfl rfl rfl rfl rfl (by first | rfl | assumption | (simp; done) | (simp; omega) | omega) (zR4_one _) (gs_ _) rfl (.arr (so_ _)) tz_75.h rfl tb_75.h (by first | rfl | assumption | (simp; done) | (simp; omega) | omega) (by first | (simp [maxLen]; done) | (simp [maxLen]; omega))) ?_
   refine o_1 (.callS1 rfl rfl rfl (.keep (.shut rfl (by first | exact nle rfl | (simp; done) | (simp; omega)) (.nil))) rfl ((FSpec.argE2 h3 (by rw [List.drop_zero]; exact List.take_of_length_le (by simp))))) ?_
   refine a_1 ?_
   refine AR.nil ⟨by kernel_rfl, ?_⟩
   refine AWp.reg (m := 3) rfl ?_
   refine a_z ?_
   refine ⟨j + 1, by omega, hlt, ?_⟩
   exact s_e []
  ·have hge : j = y.length := by omega
   subst hge
   refine AWp.seq ?_
   refine q_z 4 ?_
   refine AWp.cond rfl (fun h => ?_) (fun h => ?_)
   ·cases h
   refine AWp.exit ⟨(), trivial, ?_⟩
   exact s_e []
 rintro _ _
 refine r_z 2 ?_
 refine AWp.ret ?_
 have e : m y.length = mulP (vR x) (vR y) := by rw [hm, ← mR_mul, gp_]
 rw [e]
 refine Fin.tmpE rfl ?_ ?_
 ·rfl
 ·exact au_ _
end Go.Proofs.YtdhedjbmdnnbkaaGreatDoor
namespace Go.Abs
theorem coP_mono (d : List Rat) (a : Rat) (k j : Nat) : coP (mulP d (shP k [a])) j = if j < k then 0 else coP d (j - k) * a := by
 have e : mR d (shP k [a]) (shP k [a]).length = mulP d (shP k [a]) := mR_mul _ _
 rw [← e, show (shP k [a]).length = k + 1 by rw [jc_]; rfl, mR, iv_, sv_ k (Nat.le_refl _), mv_, Rat.zero_add, qj_, ex_, qj_, if_neg (Nat.lt_irrefl k), Nat.sub_self, gn_]
theorem zy_ {v : List Rat} {n : Nat} (h : trimQ v = v) (hn : v.length = n + 1) : coP v n = leadP v := by
 have := dt_ (l := v) (n := n) (by rw [h]; exact hn)
 rw [h, bg_ (by omega)] at this
 exact Option.some.inj this
theorem step_len {v d : List Rat} (hv : trimQ v = v) (hd : trimQ d = d) (hd0 : d ≠ []) (hl : d.length ≤ v.length) : (subP v (mulP d (shP (v.length - d.length) [leadP v / leadP d]))).length < v.length := by
 have hdl := List.length_pos_iff.2 hd0
 obtain ⟨m, hm⟩ : ∃ m, d.length = m + 1 := ⟨d.length - 1, by omega⟩
 obtain ⟨n, hn⟩ : ∃ n, v.length = n + 1 := ⟨v.length - 1, by omega⟩
 have hld : leadP d ≠ 0 := jg_ (by rw [hd]; exact hd0)
 have key : ∀ j, n ≤ j → coP (subP v (mulP d (shP (v.length - d.length) [leadP v / leadP d]))) j = 0 := fun j hj => by
  rw [coP_sub, coP_mono, if_neg (by omega)]
  by_cases h : j = n
  ·subst h
   rw [zy_ hv hn, show j - (v.length - d.length) = m by omega, zy_ hd hm]
   grind
  ·rw [ho_ (p := v) (by omega), ho_ (p := d) (by omega)]
   grind
 have h1 := uj_ key
 have h2 : trimQ (subP v (mulP d (shP (v.length - d.length) [leadP v / leadP d]))) = subP v (mulP d (shP (v.length - d.length) [leadP v / leadP d])) := ek_ _
 rw [h2] at h1
 omega
theorem trim_subP (p q : List Rat) : trimQ (subP p q) = subP p q := ek_ _
theorem step_bd {v d : List Rat} {b t : Nat} (hv : bdL v b) (hd : bdL d t) (hb : 1 ≤ b) (ht : 1 ≤ t) (hd0 : d ≠ []) (k : Nat) : qs (leadP v / leadP d) ≤ b + t ∧ bdL (mulP d (shP k [leadP v / leadP d])) (2 * t + b + 2) ∧ bdL (subP v (mulP d (shP k [leadP v / leadP d]))) (2 * b + 2 * t + 3) := by
 have h1 := lead_qs hv hb
 have h2 := lead_qs hd ht
 have h3 := ih_ (leadP v) (leadP d)
 have h4 : bdL (mulP d (shP k [leadP v / leadP d])) (2 * t + b + 2) := by
  have := mR_mono_bd (a := leadP v / leadP d) (d := k) hd ht (k + 1) (Nat.le_refl _)
  rw [show k + 1 = (shP k [leadP v / leadP d]).length by rw [jc_]; rfl, mR_mul] at this
  exact hq_ this (by omega)
 exact ⟨by omega, h4, hq_ (bdL_subP hv h4 hb (by omega)) (by omega)⟩
theorem bdL_sh {v : List Rat} {b : Nat} (h : bdL v b) (hb : 1 ≤ b) (k : Nat) : bdL (shP k v) b := fun q hq => by
 rcases List.mem_append.1 hq with h' | h'
 ·rw [List.eq_of_mem_replicate h']
  have : qs 0 = 1 := by decide
  omega
 ·exact h q h'
end Go.Abs
namespace Go.Proofs.YtdhedjbmdnnbkaaGreatDoor
open Go.Abs
set_option maxRecDepth 20000
def dSt (d : List Rat) (s : List Rat × List RQ) : List Rat × List RQ :=
 (addP s.1 (shP ((vR s.2).length - d.length) [leadP (vR s.2) / leadP d]), rP (subP (vR s.2) (mulP d (shP ((vR s.2).length - d.length) [leadP (vR s.2) / leadP d]))))
def dRn (d : List Rat) : Nat → List Rat × List RQ → List Rat × List RQ
 | 0, s => s
 | n + 1, s => if d.length ≤ s.2.length then dRn d n (dSt d s) else s
structure DInv (p d : List Rat) (t L : Nat) (s : List Rat × List RQ) : Prop where
 ok : okX s.2
 tr : trimQ (vR s.2) = vR s.2
 bd : ∃ b, 1 ≤ b ∧ bdL (vR s.2) b ∧ bdL s.1 b ∧ (b + 2 * t + 3) * 2 ^ s.2.length ≤ L
 ln : s.2.length ≤ p.length
 lq : s.1.length ≤ p.length
 ev : ∀ x, evalP p x = evalP s.1 x * evalP d x + evalP (vR s.2) x
theorem DInv.step {p d : List Rat} {t L : Nat} {s : List Rat × List RQ} (h : DInv p d t L s) (hd : trimQ d = d) (hd0 : d ≠ []) (hdt : bdL d t) (ht : 1 ≤ t) (hl : d.length ≤ s.2.length) : DInv p d t L (dSt d s) ∧ (dSt d s).2.length < s.2.length := by
 obtain ⟨q, X⟩ := s
 obtain ⟨ok, tr, ⟨b, b1, bx, bq, hb⟩, ln, lq, ev⟩ := h
 simp only at *
 have hdl := List.length_pos_iff.2 hd0
 have hlt := step_len tr hd hd0 (by rw [gp_]; exact hl)
 obtain ⟨s1, s2, s3⟩ := step_bd bx hdt b1 ht hd0 ((vR X).length - d.length)
 obtain ⟨a, ha⟩ : ∃ a, a = leadP (vR X) / leadP d := ⟨_, rfl⟩
 unfold dSt
 simp only
 rw [gp_] at hlt s2 s3 ⊢
 rw [← ha] at hlt s1 s2 s3 ⊢
 refine ⟨⟨nd_ _, ?_, ⟨2 * b + 2 * t + 3, by omega, ?_, ?_, ?_⟩, ?_, ?_, ?_⟩, ?_⟩
 ·rw [vR_rP]; exact trim_subP _ _
 ·rw [vR_rP]; exact s3
 ·have h1 : bdL [a] (b + t) := fun x hx => by rw [List.mem_singleton.1 hx]; exact s1
  exact hq_ (tu_ bq (bdL_sh h1 (by omega) _) b1 (by omega)) (by omega)
 ·simp only [cy_]
  obtain ⟨n, hn⟩ : ∃ n, X.length = n + 1 := ⟨X.length - 1, by omega⟩
  have h1 : 2 ^ (subP (vR X) (mulP d (shP (X.length - d.length) [a]))).length ≤ 2 ^ n := Nat.pow_le_pow_right (by decide) (by omega)
  have h2 := Nat.mul_le_mul_left (2 * b + 2 * t + 3 + 2 * t + 3) h1
  have h3 : (b + 2 * t + 3) * 2 ^ X.length = (2 * b + 2 * t + 3 + 2 * t + 3) * 2 ^ n := by
   rw [hn, Nat.pow_succ, show 2 * b + 2 * t + 3 + 2 * t + 3 = (b + 2 * t + 3) * 2 by omega, Nat.mul_assoc, Nat.mul_comm 2 (2 ^ n)]
  omega
 ·simp only [cy_]; omega
 ·have h1 := hr_ q (shP (X.length - d.length) [a])
  rw [jc_] at h1
  simp at h1 ⊢; omega
 ·intro x
  rw [vR_rP, ma_, gg_, gy_, ev x]
  grind
 ·simp only [cy_]; exact hlt
theorem DInv.run {p d : List Rat} {t L : Nat} (hd : trimQ d = d) (hd0 : d ≠ []) (hdt : bdL d t) (ht : 1 ≤ t) : ∀ n s, DInv p d t L s → s.2.length ≤ n → DInv p d t L (dRn d n s) ∧ (dRn d n s).2.length < d.length
 | 0, s, h, hn => by
  have := List.length_pos_iff.2 hd0
  exact ⟨h, by unfold dRn; omega⟩
 | n + 1, s, h, hn => by
  unfold dRn
  by_cases hl : d.length ≤ s.2.length
  ·rw [if_pos hl]
   obtain ⟨h1, h2⟩ := h.step hd hd0 hdt ht hl
   exact DInv.run hd hd0 hdt ht n _ h1 (by omega)
  ·rw [if_neg hl]
   exact ⟨h, by omega⟩
theorem CvLL.zerosR {r : Ren} {hp hp' : Nat → Option ABlk} (h : Shr r hp hp') (L : List RQ) : ∀ n, CvLL r hp hp' (List.replicate n zR4 ++ rE L) (rE (List.replicate n r0 ++ L))
 | 0 => CvLL.clo h (cl_ L)
 | n + 1 => by
  refine CvLL.cons (ys := rE (List.replicate n r0 ++ L)) ?_ (CvLL.zerosR h L n)
  show CvL r hp hp' zR4 (rC r0)
  rw [rC_r0]
  exact CvL.cons (Cv.clo h (ac_ _)) (CvL.cons (Cv.emp _) (CvL.cons (Cv.clo h (ac_ _)) (CvL.cons (Cv.emp _) CvL.nil)))
end Go.Proofs.YtdhedjbmdnnbkaaGreatDoor
namespace Go.Abs

def lagB (xs : List Rat) (v : Rat) (i : Nat) : Nat → List Rat
 | 0 => ew_ v
 | j + 1 => if j = i then lagB xs v i j else bp_ (mulP (lagB xs v i j) [-coP xs j, 1]) (1 / (coP xs i - coP xs j))
def lagS (xs vs : List Rat) : Nat → List Rat
 | 0 => []
 | i + 1 => addP (lagS xs vs i) (lagB xs (coP vs i) i xs.length)
theorem pg_ (xs : List Rat) (v : Rat) (i m : Nat) (hm : m ≠ i) : ∀ j, m < j → evalP (lagB xs v i j) (coP xs m) = 0
 | 0, h => by omega
 | j + 1, h => by
  rw [lagB]
  by_cases hj : j = i
  ·rw [if_pos hj]
   exact pg_ xs v i m hm j (by omega)
  ·rw [if_neg hj, fc_, gg_, mq_]
   by_cases e : m = j
   ·subst e; grind
   ·rw [pg_ xs v i m hm j (by omega)]; grind
theorem lagB_one (xs : List Rat) (v : Rat) (i : Nat) : ∀ j, (∀ k, k < j → k ≠ i → coP xs i ≠ coP xs k) → evalP (lagB xs v i j) (coP xs i) = v
 | 0, _ => qc_ v _
 | j + 1, h => by
  rw [lagB]
  have ih := lagB_one xs v i j fun k hk => h k (by omega)
  by_cases hj : j = i
  ·rw [if_pos hj, ih]
  ·rw [if_neg hj, fc_, gg_, mq_, ih]
   have := h j (by omega) hj
   have h1 : coP xs i - coP xs j ≠ 0 := fun e => this (by grind)
   rw [Rat.mul_assoc, show (coP xs i - coP xs j) * (1 / (coP xs i - coP xs j)) = 1 by grind, Rat.mul_one]
theorem lagS_at (xs vs : List Rat) (m : Nat) (hm : m < xs.length) (h : ∀ a b, a < xs.length → b < xs.length → a ≠ b → coP xs a ≠ coP xs b) : ∀ i, i ≤ xs.length → evalP (lagS xs vs i) (coP xs m) = if m < i then coP vs m else 0
 | 0, _ => by rw [if_neg (by omega)]; rfl
 | i + 1, hi => by
  rw [lagS, gy_, lagS_at xs vs m hm h i (by omega)]
  by_cases e : m = i
  ·subst e
   rw [lagB_one xs _ m xs.length fun k hk hne => h m k hm hk (Ne.symm hne), if_neg (by omega), if_pos (by omega)]
   grind
  ·rw [pg_ xs _ i m e xs.length hm]
   by_cases h2 : m < i
   ·rw [if_pos h2, if_pos (by omega)]; grind
   ·rw [if_neg h2, if_neg (by omega)]; grind
theorem nv_ (xs : List Rat) (v : Rat) (i : Nat) : ∀ j, (lagB xs v i j).length ≤ if i < j then j else j + 1
 | 0 => by
  rw [if_neg (by omega)]
  exact jl_ v
 | j + 1 => by
  rw [lagB]
  have ih := nv_ xs v i j
  by_cases hj : j = i
  ·rw [if_pos hj, if_pos (by omega)]
   rw [if_neg (by omega)] at ih
   exact ih
  ·rw [if_neg hj]
   have h1 := cg_ (mulP (lagB xs v i j) [-coP xs j, 1]) (1 / (coP xs i - coP xs j))
   have h2 := lo_ (lagB xs v i j) (-coP xs j)
   by_cases h3 : i < j
   ·rw [if_pos h3] at ih
    rw [if_pos (by omega)]; omega
   ·rw [if_neg h3] at ih
    rw [if_neg (by omega)]; omega
theorem nu_ (xs vs : List Rat) : ∀ i, i ≤ xs.length → (lagS xs vs i).length ≤ xs.length
 | 0, _ => Nat.zero_le _
 | i + 1, hi => by
  have h1 := nu_ xs vs i (by omega)
  have h2 := nv_ xs (coP vs i) i xs.length
  rw [if_pos (by omega)] at h2
  have h3 := hr_ (lagS xs vs i) (lagB xs (coP vs i) i xs.length)
  rw [lagS]
  omega
theorem sy_ {xs : List Rat} {v : Rat} (hx : bdL xs 256) (hv : qs v ≤ 256) (i : Nat) : ∀ j, ∃ b, 1 ≤ b ∧ bdL (lagB xs v i j) b ∧ b + 771 ≤ 2 ^ j * 1027
 | 0 => ⟨256, by decide, fun q hq => by rw [List.mem_singleton.1 (ca_ (l := [v]) hq)]; exact hv, by rw [Nat.pow_zero, Nat.one_mul]; exact Nat.le_refl _⟩
 | j + 1 => by
  obtain ⟨b, h1, h2, h3⟩ := sy_ hx hv i j
  rw [lagB, Nat.pow_succ]
  obtain ⟨m, hm⟩ : ∃ m, m = 2 ^ j := ⟨_, rfl⟩
  rw [← hm] at h3 ⊢
  clear hm
  by_cases hj : j = i
  ·rw [if_pos hj]
   exact ⟨b, h1, h2, Nat.le_trans h3 (Nat.mul_le_mul_right 1027 (Nat.le_mul_of_pos_right m (by decide)))⟩
  ·rw [if_neg hj]
   have a1 := bd_co' hx (by decide) i
   have a2 := bd_co' hx (by decide) j
   have a3 := vb_ (coP xs i) (coP xs j)
   have a4 := ih_ 1 (coP xs i - coP xs j)
   have a5 : qs 1 = 1 := by decide
   have m1 := nf_ (c := -coP xs j) (t := 256) h2 h1 (by rw [hu_]; exact a2)
   exact ⟨2 * b + 771, by omega, hq_ (se_ m1 (by omega)) (by omega), by omega⟩
theorem xp_ {xs vs : List Rat} (hx : bdL xs 256) (hv : bdL vs 256) (hl : xs.length ≤ 9) : ∀ i, bdL (lagS xs vs i) (i * 525825 + 1)
 | 0 => fun _ h => by cases h
 | i + 1 => by
  obtain ⟨b, h1, h2, h3⟩ := sy_ (v := coP vs i) hx (bd_co' hv (by decide) i) i xs.length
  have h5 : 2 ^ xs.length ≤ 512 := Nat.le_trans (Nat.pow_le_pow_right (by decide) hl) (by decide)
  obtain ⟨m, hm⟩ : ∃ m, m = 2 ^ xs.length := ⟨_, rfl⟩
  rw [← hm] at h3 h5
  clear hm
  rw [lagS]
  exact hq_ (tu_ (xp_ hx hv hl i) h2 (by omega) h1) (by omega)
theorem ui_ (xs vs : List Rat) : ∀ i, trimQ (lagS xs vs i) = lagS xs vs i
 | 0 => rfl
 | i + 1 => ek_ _
theorem vl_ : ∀ (ps vs out zeros r : List Rat), trimQ out = out → intM ps vs out zeros = some r → trimQ r = r
 | [], _, out, _, r, h, e => by cases e; exact h
 | _ :: _, [], _, _, _, _, e => by cases e
 | a :: ps, v :: vs, out, zeros, r, h, e => by
  rw [intM] at e
  split at e
  ·exact vl_ ps vs _ _ r (ek_ _) e
  ·cases e
theorem to_ {xs : List Rat} (h : xs.Nodup) : ∀ a b, a < xs.length → b < xs.length → a ≠ b → coP xs a ≠ coP xs b := fun a b ha hb hab e => by
 have h1 := bg_ ha
 have h2 := bg_ hb
 have key : ∀ i j, i < j → j < xs.length → xs[i]? ≠ xs[j]? := fun i j hij hj e => by
  rw [List.getElem?_eq_getElem (by omega), List.getElem?_eq_getElem hj] at e
  exact List.pairwise_iff_getElem.1 h i j (by omega) hj hij (Option.some.inj e)
 rcases Nat.lt_or_ge a b with h3 | h3
 ·exact key a b h3 hb (by rw [h1, h2, e])
 ·exact key b a (by omega) ha (by rw [h1, h2, e])
theorem int_lag {xs vs : List Rat} (hnd : xs.Nodup) (hl : xs.length = vs.length) (hx : bdL xs 256) (hv : bdL vs 256) (h9 : xs.length ≤ 9) : intM xs vs [] (ew_ 1) = some (lagS xs vs xs.length) := by
 obtain ⟨r, hr⟩ : ∃ r, intM xs vs [] (ew_ 1) = some r := by
  refine vn_ 256 256 (by decide) xs vs [] (ew_ 1) [] 1 1 hl hx hv (fun x hx => by cases hx) ?_ (by decide) (by decide) (by simp) (jl_ 1) (by simp; omega) (fun x hx => by rw [qc_] at hx; exact absurd hx (by decide)) (by simpa using hnd) ?_
  ·have : ew_ 1 = [1] := by decide
   rw [this]
   exact fun q hq => by rw [List.mem_singleton.1 hq]; decide
  ·have : ∀ n, n ≤ 9 → intB 256 256 n 0 1 1 = true := by decide +kernel
   exact this _ h9
 rw [hr]
 obtain ⟨_, h2, h3⟩ := vm_ xs vs [] (ew_ 1) r [] hr hl (by simp) (by simp) (jl_ 1)
 have ht := vl_ _ _ _ _ _ rfl hr
 have h4 : (trimQ r).length ≤ xs.length := Nat.le_trans (bm_ r) (by simpa using h3)
 have h5 : (trimQ (lagS xs vs xs.length)).length ≤ xs.length := Nat.le_trans (bm_ _) (nu_ xs vs _ (Nat.le_refl _))
 have h6 : trimQ r = trimQ (lagS xs vs xs.length) := yb_ h4 h5 hnd fun x hxm => by
  obtain ⟨i, hi, rfl⟩ := List.getElem_of_mem hxm
  have e1 : coP xs i = xs[i] := by
   have := bg_ hi
   rw [List.getElem?_eq_getElem hi] at this
   exact (Option.some.inj this).symm
  have e2 := h2 i _ _ (List.getElem?_eq_getElem hi) (bg_ (by omega))
  rw [e2, ← e1, lagS_at xs vs i hi (to_ hnd) _ (Nat.le_refl _), if_pos hi]
 rw [ht, ui_] at h6
 rw [h6]
end Go.Abs
namespace Go.Proofs.YtdhedjbmdnnbkaaGreatDoor
open Go.Abs
set_option maxRecDepth 20000
theorem mR_two {p : List Rat} {s t : Nat} {c d : Rat} (hp : bdL p s) (hs : 1 ≤ s) (hq : bdL [c, d] t) (ht : 1 ≤ t) (n : Nat) (hn : n ≤ 2) : bdL (mR p [c, d] n) (2 * (s + t + 1) + 1) :=
 hq_ (mR_bd hp hq hs ht n) (by have := Nat.mul_le_mul_right (s + t + 1) hn; omega)
theorem po_ (xs vs : List Rat) (hl : xs.length = vs.length) (h9 : xs.length ≤ 9) (hx : bdL xs 256) (hv : bdL vs 256) (hne : ∀ a b, a < xs.length → b < xs.length → a ≠ b → coP xs a ≠ coP xs b) : FSpec Tryz.prog 83 [.arr (rE (rP xs)), .arr (rE (rP vs))] (.arr (rE (rP (lagS xs vs xs.length)))) := by
 have hrl : (rP xs).length = xs.length := cy_ xs
 have gx : ∀ j, j < xs.length → (rE (rP xs))[((j : Nat) : Int).toNat]? = some (rC (rq (coP xs j))) := fun j hj => ht_ (show (rP xs)[j]? = some (rq (coP xs j)) by rw [rP, List.getElem?_map, bg_ hj]; rfl)
 have gv : ∀ j, j < xs.length → (rE (rP vs))[((j : Nat) : Int).toNat]? = some (rC (rq (coP vs j))) := fun j hj => ht_ (show (rP vs)[j]? = some (rq (coP vs j)) by rw [rP, List.getElem?_map, bg_ (by omega)]; rfl)
 have hvl : (rP vs).length = xs.length := by rw [cy_, hl]
 have i1 := fs_rInt 1 (by decide)
 refine FSpec.enter Tryz.func83 rfl (by kernel_rfl) rfl rfl rfl ?_ rfl ?_
 ·exact aa_ (au_ _) (aa_ (au_ _) ab_)
 refine r_z 1 ?_
 refine r_z 1 ?_
 refine AWp.seq ?_
 refine r_z 1 ?_
 refine AWp.cutT (fun _ : Unit => ⟨[(5, .arr (rE (rP (lagS xs vs xs.length))))], [], 1, 56⟩) (fun _ => True) ?_ ?_
 ·refine AWp.block ?_
  refine AWp.loopS (fun i : Nat => ⟨[(6, i64 ((i : Nat) : Int)), (5, .arr (rE (rP (lagS xs vs i)))), (0, .arr (rE (rP xs))), (1, .arr (rE (rP vs)))], [], 1, 56⟩) (fun i => xs.length - i) (fun i => i ≤ xs.length) 0 (Nat.zero_le _) ?_ ?_
  ·exact s_e []
  rintro i hi
  by_cases hlt : i < xs.length
  ·have g1 := gx i hlt
   have g2 := gv i hlt
   have hci := bd_co' hx (by decide) i
   have hcv := bd_co' hv (by decide) i
   refine AWp.seq ?_
   refine q_z 4 ?_
   refine AWp.cond rfl (fun h => ?_) (fun h => ?_)
   rotate_left
   ·cases h
   refine AWp.skip ?_
   refine AWp.seq ?_
   refine AWp.block ?_
   refine s_r 6 ?_
   refine a_2 ?_
   first | refine AR.op0 (.index_l rfl rfl (by omega) (by omega) te_26.h) rfl rfl ?_ | refine AR.op0 (.index_a rfl rfl (by omega) g2 rfl te_26.h) rfl rfl ?_
   first | refine AR.op0 (.load_l rfl rfl g2 tg_75.h ts_75.h (nle rfl)) rfl rfl ?_ | refine AR.op0 (.load_a rfl g2 tg_75.h ts_75.h (nle rfl)) rfl rfl ?_
   refine c_s (vs_ (coP vs i)) ?_
   refine a_z ?_
   refine AWp.seq ?_
   refine r_z 1 ?_
   refine AWp.cutT (fun _ : Unit => ⟨[(7, .arr (rE (rP (lagB xs (coP vs i) i xs.length)))), (6, i64 ((i : Nat) : Int)), (5, .arr (rE (rP (lagS xs vs i)))), (0, .arr (rE (rP xs))), (1, .arr (rE (rP vs)))], [], 1, 56⟩) (fun _ => True) ?_ ?_
   ·refine AWp.block ?_
    refine AWp.loopS (fun j : Nat => ⟨[(8, i64 ((j : Nat) : Int)), (7, .arr (rE (rP (lagB xs (coP vs i) i j)))), (6, i64 ((i : Nat) : Int)), (5, .arr (rE (rP (lagS xs vs i)))), (0, .arr (rE (rP xs))), (1, .arr (rE (rP vs)))], [], 1, 56⟩) (fun j => xs.length - j) (fun j => j ≤ xs.length) 0 (Nat.zero_le _) ?_ ?_
    ·exact s_e []
    rintro j hj
    by_cases hjt : j < xs.length
    ·have g3 := gx j hjt
     refine AWp.seq ?_
     refine q_z 4 ?_
     refine AWp.cond rfl (fun h => ?_) (fun h => ?_)
     rotate_left
     ·cases h
     refine AWp.skip ?_
     refine AWp.seq ?_
     refine AWp.block ?_
     by_cases hij : j = i
     ·have e : lagB xs (coP vs i) i (j + 1) = lagB xs (coP vs i) i j := by rw [lagB, if_pos hij]
      refine s_r 3 ?_
      refine a_2 ?_
      refine o_0 (.bin rfl rfl (vF fj_ ((by rw [hij]; exact bne_self_eq_false _)))) ?_
      refine AR.nil ?_
      refine AWp.cond rfl (fun h => ?_) (fun h => ?_)
      ·cases h
      refine AWp.skip ?_
      refine AWp.reg (m := 3) rfl ?_
      refine a_z ?_
      refine ⟨j + 1, by omega, hjt, ?_⟩
      simp only [e]
      exact s_e []
     ·obtain ⟨c, hc⟩ : ∃ c, c = 1 / (coP xs i - coP xs j) := ⟨_, rfl⟩
      obtain ⟨v, hvv⟩ : ∃ v, v = lagB xs (coP vs i) i j := ⟨_, rfl⟩
      have e : lagB xs (coP vs i) i (j + 1) = bp_ (mulP v [-coP xs j, 1]) c := by rw [lagB, if_neg hij, hvv, hc]
      have hcj := bd_co' hx (by decide) j
      have hd : coP xs i - coP xs j ≠ 0 := fun h => hne i j hlt hjt (Ne.symm hij) (by grind)
      have q1 := vb_ (coP xs i) (coP xs j)
      have q2 := ih_ 1 (coP xs i - coP xs j)
      have q3 : qs 1 = 1 := by decide
      have q4 : qs (((1 : Int) : Rat)) = 1 := by decide
      have f1 := fs_rSub (rq (coP xs i)) (rq (coP xs j)) (ez_ _) (ez_ _) (by show qs (coP xs i) + qs (coP xs j) ≤ _; omega)
      have f2 := fs_rDiv (rq ((1 : Int) : Rat)) (rq (coP xs i - coP xs j)) (ez_ _) (ez_ _) hd (by show qs (((1 : Int) : Rat)) + qs (coP xs i - coP xs j) ≤ _; omega)
      rw [show (rq ((1 : Int) : Rat)).1 / (rq (coP xs i - coP xs j)).1 = c by rw [hc]; rfl] at f2
      have f3 := fs_rNeg (rq (coP xs j)) (ez_ _)
      obtain ⟨b, b1, b2, b3⟩ := sy_ (v := coP vs i) hx hcv i j
      rw [← hvv] at b2
      have b4 : b ≤ 1000000 := by
       have h5 : 2 ^ j ≤ 512 := Nat.le_trans (Nat.pow_le_pow_right (by decide) (by omega : j ≤ 9)) (by decide)
       obtain ⟨m, hm⟩ : ∃ m, m = 2 ^ j := ⟨_, rfl⟩
       rw [← hm] at h5 b3
       omega
      have hL : bdL [-coP xs j, 1] 256 := fun q hq => by
       rcases List.mem_cons.1 hq with rfl | hq
       ·rw [hu_]; exact hcj
       ·rw [List.mem_singleton.1 hq]; decide
      have hLv : vR [rq (-coP xs j), rq ((1 : Int) : Rat)] = [-coP xs j, 1] := rfl
      have hvl1 := nv_ xs (coP vs i) i j
      rw [← hvv] at hvl1
      have hvl2 : v.length ≤ 10 := by split at hvl1 <;> omega
      have f4 := fs_rMulP (rP v) [rq (-coP xs j), rq ((1 : Int) : Rat)] b 256 (2 * (b + 256 + 1) + 1) (nd_ _) (fun z hz => by
       rcases List.mem_cons.1 hz with rfl | hz
       ·exact ez_ _
       ·rw [List.mem_singleton.1 hz]; exact ez_ _) (by rw [vR_rP]; exact b2) (by rw [hLv]; exact hL) b1 (by rw [vR_rP, hLv]; exact fun n hn => mR_two b2 b1 hL (by decide) n hn) (by omega) (by rw [cy_]; omega) (by simp)
      rw [vR_rP, hLv] at f4
      have m1 := nf_ (c := -coP xs j) (t := 256) b2 b1 (by rw [hu_]; exact hcj)
      have m2 := lo_ v (-coP xs j)
      have f5 := vr_ (rP (mulP v [-coP xs j, 1])) (rq c) (2 * b + 256 + 1) (nd_ _) (ez_ _) (by rw [vR_rP]; exact m1) (by show 2 * b + 256 + 1 + qs c ≤ _; rw [hc]; omega) (by rw [cy_]; omega)
      rw [vR_rP] at f5
      have f5' : FSpec Tryz.prog 48 [.arr (rE (rP (mulP v [-coP xs j, 1]))), .agg (rC (rq c))] (.arr (rE (rP (bp_ (mulP v [-coP xs j, 1]) c)))) := f5
      refine s_r 3 ?_
      refine a_2 ?_
      refine o_0 (.bin rfl rfl (vT fj_ ((bne_iff_ne.2 (by omega))))) ?_
      refine AR.nil ?_
      refine AWp.cond rfl (fun h => ?_) (fun h => ?_)
      rotate_left
      ·cases h
      rw [← hvv]
      refine AWp.seq ?_
      refine AWp.regD hmix (m := 13) rfl ?_
      refine c_s (i1) ?_
      refine a_2 ?_
      first | refine AR.op0 (.index_l rfl rfl (by omega) (by omega) te_26.h) rfl rfl ?_ | refine AR.op0 (.index_a rfl rfl (by omega) g1 rfl te_26.h) rfl rfl ?_
      first | refine AR.op0 (.load_l rfl rfl g1 tg_75.h ts_75.h (nle rfl)) rfl rfl ?_ | refine AR.op0 (.load_a rfl g1 tg_75.h ts_75.h (nle rfl)) rfl rfl ?_
      refine a_2 ?_
      first | refine AR.op0 (.index_l rfl rfl (by omega) (by omega) te_26.h) rfl rfl ?_ | refine AR.op0 (.index_a rfl rfl (by omega) g3 rfl te_26.h) rfl rfl ?_
      first | refine AR.op0 (.load_l rfl rfl g3 tg_75.h ts_75.h (nle rfl)) rfl rfl ?_ | refine AR.op0 (.load_a rfl g3 tg_75.h ts_75.h (nle rfl)) rfl rfl ?_
      refine c_s (f1) ?_
      refine c_s (f2) ?_
      refine a_2 ?_
      refine AR.nil ⟨by kernel_rfl, ?_⟩
      refine AWp.regD hmix (m := 12) rfl ?_
      refine a_3 ?_
      first | refine AR.op0 (.index_l rfl rfl (by omega) (by omega) te_26.h) rfl rfl ?_ | refine AR.op0 (.index_a rfl rfl (by omega) g3 rfl te_26.h) rfl rfl ?_
      first | refine AR.op0 (.load_l rfl rfl g3 tg_75.h ts_75.h (nle rfl)) rfl rfl ?_ | refine AR.op0 (.load_a rfl g3 tg_75.h ts_75.h (nle rfl)) rfl rfl ?_
      refine c_s (f3) ?_
      refine c_s (i1) ?_
      refine a_1 ?_
      refine o_1 (.callS1 rfl rfl rfl (.keep (.shut rfl (by first | exact nle rfl | (simp; done) | (simp; omega)) (.nil))) rfl ((FSpec.argE2 f4 rfl))) ?_
      refine c_s (f5') ?_
      refine a_1 ?_
      refine AR.nil ⟨by kernel_rfl, ?_⟩
      refine AWp.reg (m := 3) rfl ?_
      refine a_z ?_
      refine ⟨j + 1, by omega, hjt, ?_⟩
      simp only [e]
      exact s_e []
    ·have hge : j = xs.length := by omega
     subst hge
     refine AWp.seq ?_
     refine q_z 4 ?_
     refine AWp.cond rfl (fun h => ?_) (fun h => ?_)
     ·cases h
     refine AWp.exit ⟨(), trivial, ?_⟩
     exact s_e []
   rintro _ _
   obtain ⟨b, b1, b2, b3⟩ := sy_ (v := coP vs i) hx hcv i xs.length
   have b4 : b ≤ 1000000 := by
    have h5 : 2 ^ xs.length ≤ 512 := Nat.le_trans (Nat.pow_le_pow_right (by decide) h9) (by decide)
    obtain ⟨m, hm⟩ : ∃ m, m = 2 ^ xs.length := ⟨_, rfl⟩
    rw [← hm] at h5 b3
    omega
   have o1 := xp_ hx hv h9 i
   have o2 := nu_ xs vs i hi
   have o3 := nv_ xs (coP vs i) i xs.length
   rw [if_pos hlt] at o3
   have fA := fs_rAddP (rP (lagS xs vs i)) (rP (lagB xs (coP vs i) i xs.length)) (i * 525825 + 1) b (nd_ _) (nd_ _) (by rw [vR_rP]; exact o1) (by rw [vR_rP]; exact b2) (by omega) (by rw [cy_]; omega) (by rw [cy_]; omega)
   rw [vR_rP, vR_rP] at fA
   refine AWp.reg (m := 4) rfl ?_
   refine c_s (fA) ?_
   refine a_z ?_
   refine AWp.reg (m := 3) rfl ?_
   refine a_z ?_
   refine ⟨i + 1, by omega, hlt, ?_⟩
   exact s_e []
  ·have hge : i = xs.length := by omega
   subst hge
   refine AWp.seq ?_
   refine q_z 4 ?_
   refine AWp.cond rfl (fun h => ?_) (fun h => ?_)
   ·cases h
   refine AWp.exit ⟨(), trivial, ?_⟩
   exact s_e []
 rintro _ _
 refine r_z 2 ?_
 refine AWp.ret ?_
 refine Fin.tmpE rfl ?_ ?_
 ·rfl
 ·exact au_ _
theorem fs_IntLen (p v : List Rat) (hp : p.length ≤ 1099511627776) (hl : p.length ≠ v.length) : FSpec Tryz.prog 81 [.arr (pE p), .arr (pE v)] (.tup [.arr (pE []), i64 2]) := by
 refine FSpec.enter Tryz.func81 rfl (by kernel_rfl) rfl rfl rfl ?_ rfl ?_
 ·exact aa_ (ad_ p) (aa_ (ad_ v) ab_)
 refine r_z 2 ?_
 refine AWp.seq ?_
 refine AWp.block ?_
 refine s_r 6 ?_
 refine a_4 ?_
 refine o_0 (.bin rfl rfl (vT fj_ ((bne_iff_ne.2 (by omega))))) ?_
 refine a_z ?_
 refine AWp.cond rfl (fun h => ?_) (fun h => ?_)
 rotate_left
 ·cases h
 refine r_z 2 ?_
 refine AWp.ret ?_
 refine Fin.many ⟨_, _, rfl, rfl, ⟨_, _, rfl, rfl, rfl⟩⟩ (nle rfl) ?_
 exact CvL.cons (Cv.emp _) (CvL.cons (Cv.clo am_ (ac_ _)) CvL.nil)
theorem fs_IntMany (p v : List Rat) (hl : p.length = v.length) (h : p.length > 41) : FSpec Tryz.prog 81 [.arr (pE p), .arr (pE v)] (.tup [.arr (pE []), i64 5]) := by
 have e : (pE p).length = (pE v).length := by simp [hl]
 refine FSpec.enter Tryz.func81 rfl (by kernel_rfl) rfl rfl rfl ?_ rfl ?_
 ·exact aa_ (ad_ p) (aa_ (ad_ v) ab_)
 refine r_z 2 ?_
 refine AWp.seq ?_
 refine AWp.block ?_
 refine s_r 6 ?_
 refine a_4 ?_
 refine o_0 (.bin rfl rfl (vF fj_ ((by rw [hl]; exact bne_self_eq_false _)))) ?_
 refine a_z ?_
 refine AWp.cond rfl (fun h => ?_) (fun h => ?_)
 ·cases h
 refine q_z 4 ?_
 refine AWp.cond rfl (fun h => ?_) (fun h => ?_)
 rotate_left
 ·cases h
 refine r_z 2 ?_
 refine AWp.ret ?_
 refine Fin.many ⟨_, _, rfl, rfl, ⟨_, _, rfl, rfl, rfl⟩⟩ (nle rfl) ?_
 exact CvL.cons (Cv.emp _) (CvL.cons (Cv.clo am_ (ac_ _)) CvL.nil)
theorem xz_ (p v : List Rat) (hl : p.length = v.length) (h41 : p.length ≤ 41) (hp : smL p) (htw : ej_ [] p = true) : FSpec Tryz.prog 81 [.arr (pE p), .arr (pE v)] (.tup [.arr (pE []), i64 7]) := by
 have e : (pE p).length = (pE v).length := by simp [hl]
 refine FSpec.enter Tryz.func81 rfl (by kernel_rfl) rfl rfl rfl ?_ rfl ?_
 ·exact aa_ (ad_ p) (aa_ (ad_ v) ab_)
 refine r_z 2 ?_
 refine AWp.cut (fun _ : Unit => ⟨[(0, .arr (pE p)), (1, .arr (pE v))], [], 1, 69⟩) (fun _ => True) ?_ ?_
 ·refine AWp.block ?_
  refine s_r 6 ?_
  refine a_4 ?_
  refine o_0 (.bin rfl rfl (vF fj_ ((by rw [hl]; exact bne_self_eq_false _)))) ?_
  refine a_z ?_
  refine AWp.cond rfl (fun h => ?_) (fun h => ?_)
  ·cases h
  refine q_z 4 ?_
  refine AWp.cond rfl (fun h => ?_) (fun h => ?_)
  ·cases h
  refine AWp.skip ⟨(), trivial, ?_⟩
  exact s_e []
 rintro _ _
 refine AWp.seq ?_
 refine r_z 3 ?_
 refine AWp.cutT (fun _ : Unit => ⟨[(0, .arr (pE p)), (1, .arr (pE v))], [], 1, 69⟩) (fun _ => False) ?_ ?_
 ·refine AWp.block ?_
  refine AWp.loopS (inS p v) (fun i => p.length - i) (fun i => i ≤ p.length ∧ ej_ (p.take i) (p.drop i) = true) 0 ⟨Nat.zero_le _, htw⟩ ?_ ?_
  ·simp only [ro_]
   exact s_e []
  rintro i ⟨hi, ht⟩
  rw [ro_]
  by_cases hlt : i < p.length
  ·have hgt : (pE p)[((i : Nat) : Int).toNat]? = some (qC (coP p i)) := cv_ (bg_ hlt)
   rw [it_ hlt, ej_, Bool.or_eq_true] at ht
   have hco := iq_ (p.take i) 163 [bQ (coP p i)] (fun b => decide (coP p i = b)) (aa_ (as_ _) ab_) (by simp; omega) (fun q hq => ip_ (coP p i) q (qi_ hp i) (hp q (List.mem_of_mem_take hq))) rfl
   refine q_z 1 ?_
   refine AWp.seq ?_
   refine AWp.cond rfl (fun h => ?_) (fun h => ?_)
   rotate_left
   ·cases h
   refine AWp.skip ?_
   refine AWp.seq ?_
   refine AWp.block ?_
   refine s_r 6 ?_
   refine a_1 ?_
   first | refine AR.op0 (.index_l rfl rfl (by omega) (by omega) te_24.h) rfl rfl ?_ | refine AR.op0 (.index_a rfl rfl (by omega) hgt rfl te_24.h) rfl rfl ?_
   first | refine AR.op0 (.load_l rfl rfl hgt tg_37.h ts_37.h (nle rfl)) rfl rfl ?_ | refine AR.op0 (.load_a rfl hgt tg_37.h ts_37.h (nle rfl)) rfl rfl ?_
   refine a_z ?_
   refine AWp.ent (st' := ⟨[(0, .arr (pE p)), (1, .arr (pE v)), (6, i64 i), (7, bQ (coP p i)), (23, .arr (pE p)), (24, i64 p.length), (25, i64 i)], [], 1, 69⟩) ?_ ?_
   ·exact s_e []
   cases hb : (p.take i).any (fun b => decide (coP p i = b)) with
   | true =>
    rw [hb] at hco
    refine s_r 5 ?_
    refine a_2 ?_
    refine o_0 (.sa_h rfl rfl (h := i) rfl (by simp; omega) te_24.h (hh_ _)) ?_
    refine o_0 (.makeFunc rfl rfl) ?_
    refine o_0 (.call rfl rfl rfl ((by rw [kw_]; exact hco))) ?_
    refine AR.nil ?_
    refine AWp.cond rfl (fun h => ?_) (fun h => ?_)
    rotate_left
    ·cases h
    refine r_z 2 ?_
    refine AWp.ret ?_
    refine Fin.many ⟨_, _, rfl, rfl, ⟨_, _, rfl, rfl, rfl⟩⟩ (nle rfl) ?_
    exact CvL.cons (Cv.emp _) (CvL.cons (Cv.clo am_ (ac_ _)) CvL.nil)
   | false =>
    rw [hb] at hco ht
    have ht2 := ht.resolve_left (by decide)
    refine s_r 5 ?_
    refine a_2 ?_
    refine o_0 (.sa_h rfl rfl (h := i) rfl (by simp; omega) te_24.h (hh_ _)) ?_
    refine o_0 (.makeFunc rfl rfl) ?_
    refine o_0 (.call rfl rfl rfl ((by rw [kw_]; exact hco))) ?_
    refine AR.nil ?_
    refine AWp.cond rfl (fun h => ?_) (fun h => ?_)
    ·cases h
    refine AWp.skip ?_
    refine AWp.reg (m := 2) rfl ?_
    refine a_z ?_
    refine ⟨i + 1, by omega, ⟨hlt, by rw [cw_ (bg_ hlt)]; exact ht2⟩, ?_⟩
    simp only [ro_]
    exact s_e []
  ·have hge : i = p.length := by omega
   subst hge
   rw [List.drop_length] at ht
   cases ht
 rintro _ h
 exact h.elim
def v9 : List Rat → AV
 | [] => .emp
 | _ :: Q => .lsl 1 0 (Q.length + 1) none 3
def h9 : List Rat → List (Nat × Option ABlk)
 | [] => []
 | q :: Q => [(1, some ⟨37, 3, pE (q :: Q)⟩)]
theorem cmpQ_eq (a b : Rat) : (cmpQ a b == (0 : Int)) = decide (a = b) := by
 unfold cmpQ
 by_cases h1 : a < b
 ·have h2 : a ≠ b := fun e => by rw [e] at h1; exact absurd h1 Rat.lt_irrefl
  simp [h1, h2]
 ·by_cases h2 : a = b
  ·simp [h1, h2, Rat.lt_irrefl]
  ·simp [h1, h2]
end Go.Proofs.YtdhedjbmdnnbkaaGreatDoor
