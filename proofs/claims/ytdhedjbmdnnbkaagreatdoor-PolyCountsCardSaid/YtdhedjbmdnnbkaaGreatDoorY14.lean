/- Part Y14 of the proof. -/
import Derived.Test.YtdhedjbmdnnbkaaGreatDoorY13
set_option linter.all false
namespace Go.Proofs.YtdhedjbmdnnbkaaGreatDoor
open Go.Abs
set_option maxRecDepth 20000
set_option maxHeartbeats 2000000
abbrev bP (p : List Rat) : AV := .aptr [[.arr (pE p)]] 0 0
abbrev bQ (q : Rat) : AV := .aptr [qC q] 0 0
theorem ba_ (p : List Rat) : Closed (bP p) := aP_ (aa_ (am_ p) ab_)
theorem cA_ (q : Rat) : Closed (bQ q) := aP_ (aY_ q)
theorem fs_Add1 (p q : List Rat) (i : Nat) (hp : smL p) (hq : smL q) : FSpec Tryz.prog 123 [i64 i, bP p, bP q] (.agg (qC (coP p i + coP q i))) := by
 refine f_n Tryz.func123 ?_ ?_
 ·exact aa_ (ad_ _) (aa_ (ba_ p) (aa_ (ba_ q) ab_))
 refine r_z 1 ?_
 refine ac_ (r_d hmix 8 ?_)
 refine c_s (fs_at p i) ?_
 refine c_s (fs_at q i) ?_
 refine c_s (ep_ (coP p i) (coP q i) (sm2 (li_ hp i) (li_ hq i))) ?_
 refine a_1 ?_
 refine aj_ (n_k ?_)
 exact ae_ (c_e (ak_ _))
theorem fs_Add (p q : List Rat) (hp : smL p) (hq : smL q) (hp1 : p.length ≤ 1099511627776) (hq1 : q.length ≤ 1099511627776) : FSpec Tryz.prog 42 [.arr (pE p), .arr (pE q)] (.arr (pE (addP p q))) := by
 refine f_n Tryz.func42 ?_ ?_
 ·exact aa_ (am_ p) (aa_ (am_ q) ab_)
 refine r_z 3 ?_
 refine AWp.ent (st' := ⟨[(2, bP p), (3, bP q)], [], 1, 12⟩) ?_ ?_
 ·exact s_e []
 have hm : (if ((q.length : Nat) : Int) > (p.length : Nat) then ((q.length : Nat) : Int) else (p.length : Nat)) = ((max p.length q.length : Nat) : Int) := by
  rw [Nat.max_def]; split <;> split <;> omega
 have he := l0_ (max p.length q.length) (fun i => coP p i + coP q i) 123 [bP p, bP q] (Nat.max_le.2 ⟨hp1, hq1⟩) (aa_ (ba_ p) (aa_ (ba_ q) ab_)) (fun i _ => fs_Add1 p q i hp hq)
 rw [← hm] at he
 refine r_c 8 (he) ?_
 refine a_z ?_
 exact ae_ (t_e (am_ _))
theorem pK_ (p : List Rat) (k : Rat) (i : Nat) (hp : smL p) (hk : sm k) (hi : i < p.length) : FSpec Tryz.prog 125 [i64 i, bP p, bQ k] (.agg (qC (coP p i * k))) := by
 have hg : (pE p)[((i : Nat) : Int).toNat]? = some (qC (coP p i)) := cj_ (bn_ hi)
 refine f_n Tryz.func125 ?_ ?_
 ·exact aa_ (ad_ _) (aa_ (ba_ p) (aa_ (cA_ k) ab_))
 refine r_z 1 ?_
 refine ac_ (r_d hmix 7 ?_)
 refine a_2 ?_
 refine i_x hg ?_
 refine l_x hg ?_
 refine c_s (cf_ (coP p i) k (sm2 (li_ hp i) hk)) ?_
 refine a_1 ?_
 refine aj_ (n_k ?_)
 exact ae_ (c_e (ak_ _))
theorem eX_ (p : List Rat) (k : Rat) (hp : smL p) (hk : sm k) (hp1 : p.length ≤ 1099511627776) : FSpec Tryz.prog 47 [.arr (pE p), .agg (qC k)] (.arr (pE (aI_ p k))) := by
 have he := l0_ p.length (fun i => coP p i * k) 125 [bP p, bQ k] hp1 (aa_ (ba_ p) (aa_ (cA_ k) ab_)) (fun i hi => pK_ p k i hp hk hi)
 refine f_n Tryz.func47 ?_ ?_
 ·exact aa_ (am_ p) (aa_ (ak_ k) ab_)
 refine r_z 3 ?_
 refine AWp.ent (st' := ⟨[(2, bP p), (3, bQ k)], [], 1, 9⟩) ?_ ?_
 ·exact s_e []
 refine r_c 5 (he) ?_
 refine a_z ?_
 exact ae_ (t_e (am_ _))
theorem dk_ (a b : Rat) (hb : b ≠ 0) (h : qs a + qs b ≤ 549755813888) : FSpec Tryz.prog 105 [.agg (qC a), .agg (qC b)] (.agg (qC (a / b))) := by
 refine f_n Tryz.func105 ?_ ?_
 ·exact aa_ (ak_ a) (aa_ (ak_ b) ab_)
 refine r_z 3 ?_
 refine r_c 9 (fs_div a b hb h) ?_
 refine a_z ?_
 refine r_z 2 ?_
 exact ae_ (c_e (ak_ _))
theorem hK_ (a : Rat) : FSpec Tryz.prog 126 [.agg (qC a)] (.arr (pE (gB_ a))) := by
 refine f_n Tryz.func126 ?_ ?_
 ·exact aa_ (ak_ a) ab_
 refine r_z 2 ?_
 refine s_r 4 ?_
 refine a_2 ?_
 refine o_1 (.callS1 rfl rfl rfl (.shut rfl d_n (.nil)) rfl ((cl_ [a] (by simp)))) ?_
 refine a_z ?_
 exact ae_ (t_e (am_ _))
theorem fs_line (a : Rat) : FSpec Tryz.prog 155 [.agg (qC a)] (.arr (pE [a, 1])) := by
 refine f_n Tryz.func155 ?_ ?_
 ·exact aa_ (ak_ a) ab_
 refine r_z 2 ?_
 refine ac_ (r_d hmix 4 ?_)
 refine c_s (cu_ 1 (by decide)) ?_
 refine a_2 ?_
 refine aj_ (n_k ?_)
 exact ae_ (Fin.tmpS rfl rfl rfl rfl (aW_ [a, 1]))
theorem fs_x : FSpec Tryz.prog 263 [] (.arr (pE [0, 1])) := by
 refine f_n Tryz.func263 ?_ ?_
 ·exact ab_
 refine r_z 1 ?_
 refine r_c 3 ((by have := fs_line 0; rw [qC0] at this; exact this)) ?_
 refine a_z ?_
 exact ae_ (t_e (am_ _))
theorem sm_neg1 {a : Rat} (h : sm a) : sm (a * (-1)) := by
 unfold sm at *
 rw [show a * (-1) = -a by rw [Rat.mul_comm, Rat.neg_mul, Rat.one_mul], ff_]; exact h
theorem qs_inv (b : Rat) (hb : b ≠ 0) : qs (1 / b) ≤ qs b := by
 rw [hX_ 1 b hb]
 have hn : b.num ≠ 0 := fun e => hb (Rat.num_eq_zero.1 e)
 have h1 := bJ_ b
 have h2 := bv_ b
 refine cr_ (by have : 0 < b.num.natAbs := by omega
                show 0 < 1 * b.num.natAbs
                omega) ?_ ?_
 ·show bl ((1 : Int) * sgn (decide (b.num < 0)) b.den).natAbs ≤ qs b
  rw [Int.one_mul, cD_]; exact h2
 ·show bl (1 * b.num.natAbs) ≤ qs b
  rw [Nat.one_mul]; exact h1
theorem nJ_ {q : List Rat} (h : smL q) : smL (aI_ q (-1)) := by
 refine ms_ fun x hx => ?_
 obtain ⟨i, _, rfl⟩ := List.mem_map.1 hx
 exact sm_neg1 (li_ h i)
theorem pJ_ (p q : List Rat) (hp : smL p) (hq : smL q) (hp1 : p.length ≤ 1099511627776) (hq1 : q.length ≤ 1099511627776) : FSpec Tryz.prog 44 [.arr (pE p), .arr (pE q)] (.arr (pE (subP p q))) := by
 have hl := b7_ q (-1)
 refine f_n Tryz.func44 ?_ ?_
 ·exact aa_ (am_ p) (aa_ (am_ q) ab_)
 refine r_z 1 ?_
 refine r_c 6 (cu_ (-1) (by decide)) ?_
 refine c_s (eX_ q (-1) hq (by decide) hq1) ?_
 refine c_s (fs_Add p (aI_ q (-1)) hp (nJ_ hq) hp1 (by omega)) ?_
 refine a_z ?_
 exact ae_ (t_e (am_ _))
theorem jK_ (p : List Rat) (hp : smL p) (hp1 : p.length ≤ 1099511627776) : FSpec Tryz.prog 94 [.arr (pE p)] (.arr (pE (a9_ p))) := by
 have hlead := jC_ hp
 refine f_n Tryz.func94 ?_ ?_
 ·exact aa_ (am_ p) ab_
 refine r_z 1 ?_
 refine ac_ (r_c 3 (br_ p hp1) ?_)
 refine a_z ?_
 refine af_ rfl (fun h => ?_) (fun h => ?_)
 ·have h0 : trimQ p = [] := by
   have h1 : degP p < 0 := by simpa using h
   unfold degP at h1
   exact List.length_eq_zero_iff.1 (by omega)
  refine r_z 1 ?_
  refine ae_ ?_
  unfold a9_
  rw [if_pos h0]
  exact Fin.tmpN rfl
 ·have h0 : trimQ p ≠ [] := by
   intro e
   have h1 : ¬ degP p < 0 := by simpa using h
   unfold degP at h1
   rw [e] at h1
   exact h1 (by decide)
  have hne := bp_ h0
  have hinv := qs_inv (leadP p) hne
  unfold sm at hlead
  have h1 : qs 1 = 1 := by decide
  unfold a9_
  rw [if_neg h0]
  refine ag_ (r_c 7 (cu_ 1 (by decide)) ?_)
  refine c_s (eB_ p hp1) ?_
  refine c_s (dk_ 1 (leadP p) hne (by omega)) ?_
  refine c_s (eX_ p (1 / leadP p) hp (by unfold sm; omega) hp1) ?_
  refine a_z ?_
  exact ae_ (t_e (am_ _))
theorem i7_ (i : Nat) (h : i ≤ 1099511627776) : qs (((i : Nat) : Int) : Rat) ≤ 64 := by
 refine Nat.max_le.2 ⟨?_, ?_⟩
 ·show bl ((i : Int)).natAbs ≤ 64
  rw [Int.natAbs_natCast]
  exact bl_le (by omega)
 ·show bl 1 ≤ 64
  decide
theorem n3_ (p : List Rat) (i : Nat) (hp : smL p) (hi : i + 1 < p.length) (hp1 : p.length ≤ 1099511627776) : FSpec Tryz.prog 102 [i64 i, bP p] (.agg (qC (coP p (i + 1) * ((i + 1 : Nat) : Int)))) := by
 have hg : (pE p)[(((i : Nat) : Int) + 1).toNat]? = some (qC (coP p (i + 1))) := by
  rw [show (((i : Nat) : Int) + 1).toNat = i + 1 by omega]; exact cj_ (bn_ hi)
 have hs := li_ hp (i + 1)
 have hq := i7_ (i + 1) (by omega)
 unfold sm at hs
 have hI := cu_ (((i : Nat) : Int) + 1) (by omega)
 rw [show ((i : Nat) : Int) + 1 = ((i + 1 : Nat) : Int) by omega] at hI
 refine f_n Tryz.func102 ?_ ?_
 ·exact aa_ (ad_ _) (aa_ (ba_ p) ab_)
 refine r_z 1 ?_
 refine ac_ (r_d hmix 10 ?_)
 refine a_3 ?_
 refine i_x hg ?_
 refine l_x hg ?_
 refine c_s (hI) ?_
 refine c_s (cf_ (coP p (i + 1)) ((i + 1 : Nat) : Int) (by omega)) ?_
 refine a_1 ?_
 refine aj_ (n_k ?_)
 exact ae_ (c_e (ak_ _))
theorem hP_ (p : List Rat) (hp : smL p) (hp1 : p.length ≤ 1099511627776) : FSpec Tryz.prog 24 [.arr (pE p)] (.arr (pE (aB_ p))) := by
 have he := l0_ (p.length - 1) (fun i => coP p (i + 1) * ((i + 1 : Nat) : Int)) 102 [bP p] (by omega) (aa_ (ba_ p) ab_) (fun i hi => n3_ p i hp (by omega) hp1)
 have hm : (if (0 : Int) > ((p.length : Nat) : Int) - 1 then (0 : Int) else ((p.length : Nat) : Int) - 1) = ((p.length - 1 : Nat) : Int) := by split <;> omega
 rw [← hm] at he
 refine f_n Tryz.func24 ?_ ?_
 ·exact aa_ (am_ p) ab_
 refine r_z 2 ?_
 refine AWp.ent (st' := ⟨[(1, bP p)], [], 1, 9⟩) ?_ ?_
 ·exact s_e []
 refine r_c 7 (he) ?_
 refine a_z ?_
 exact ae_ (t_e (am_ _))

def mulS (p : List Rat) (q : List Rat) : Nat × List Rat → AState
 | (i, o) => ⟨[(1, .arr (pE q)), (5, .lsl 1 0 o.length (some o.length) 3), (25, .arr (pE p)), (26, i64 p.length), (27, i64 i)], [(1, some ⟨37, 3, pE o⟩)], 2, 61⟩
theorem fn_ (p : List Rat) (q : List Rat) (i : Nat) (o : List Rat) : mulS p q (i, o) = ⟨[(1, .arr (pE q)), (5, .lsl 1 0 o.length (some o.length) 3), (25, .arr (pE p)), (26, i64 p.length), (27, i64 i)], [(1, some ⟨37, 3, pE o⟩)], 2, 61⟩ := rfl
def mulT (p : List Rat) (q : List Rat) (i : Nat) (a : Rat) : Nat × List Rat → AState
 | (k, o) => ⟨[(1, .arr (pE q)), (5, .lsl 1 0 o.length (some o.length) 3), (6, i64 i), (7, .lptr 2 0 0), (25, .arr (pE p)), (26, i64 p.length), (27, i64 i), (35, .arr (pE q)), (36, i64 q.length), (37, i64 k)], [(1, some ⟨37, 3, pE o⟩), (2, some ⟨37, 3, [qC a]⟩)], 3, 61⟩
theorem lN_ (p : List Rat) (q : List Rat) (i : Nat) (a : Rat) (k : Nat) (o : List Rat) : mulT p q i a (k, o) = ⟨[(1, .arr (pE q)), (5, .lsl 1 0 o.length (some o.length) 3), (6, i64 i), (7, .lptr 2 0 0), (25, .arr (pE p)), (26, i64 p.length), (27, i64 i), (35, .arr (pE q)), (36, i64 q.length), (37, i64 k)], [(1, some ⟨37, 3, pE o⟩), (2, some ⟨37, 3, [qC a]⟩)], 3, 61⟩ := rfl
theorem fs_Mul (p q : List Rat) (s t : Nat) (hp : bdL p s) (hq : bdL q t) (hs : 1 ≤ s) (ht : 1 ≤ t) (h : p.length * (s + t + 1) + 1 ≤ 137438953472) (ht2 : t ≤ 137438953472) (hp1 : p.length ≤ 274877906944) (hq1 : q.length ≤ 274877906944) : FSpec Tryz.prog 20 [.arr (pE p), .arr (pE q)] (.arr (pE (mulP p q))) := by
 refine f_n Tryz.func20 ?_ ?_
 ·exact aa_ (am_ p) (aa_ (am_ q) ab_)
 refine r_z 1 ?_
 refine aO_ (fun _ : Unit => ⟨[(0, .arr (pE p)), (1, .arr (pE q))], [], 1, 61⟩) (fun _ => p ≠ [] ∧ q ≠ []) ?_ ?_
 ·by_cases h1 : p = []
  ·subst h1
   refine s_r 8 ?_
   refine a_4 ?_
   refine n_g rfl (by simp) ?_
   refine n_g rfl (by simp) ?_
   refine n_g rfl (by simp) ?_
   refine o_0 (.pickT rfl (by simp) rfl) ?_
   refine aj_ ?_
   refine af_ rfl (fun h => ?_) (fun h => ?_)
   ·refine r_z 1 ?_
    refine ae_ ?_
    unfold mulP
    rw [if_pos (.inl rfl)]
    exact Fin.tmpN rfl
   ·cases h
  ·have hp0 : p.length ≠ 0 := fun e => h1 (List.length_eq_zero_iff.1 e)
   refine s_r 8 ?_
   refine a_4 ?_
   refine y_g rfl (by simp <;> omega) (.move rfl) ?_
   first | refine y_g rfl (by simp <;> omega) (.lenD rfl rfl rfl rfl te_25.h) ?_ | refine y_g rfl (by simp <;> omega) (.lenI rfl rfl rfl rfl te_25.h) ?_ | refine y_g rfl (by simp <;> omega) (.lenP rfl rfl rfl rfl te_25.h) ?_ | refine y_g rfl (by simp <;> omega) (.lenC rfl rfl rfl rfl te_25.h) ?_ | refine y_g rfl (by simp <;> omega) (.lenR rfl rfl rfl rfl te_25.h) ?_ | refine y_g rfl (by simp <;> omega) (.len rfl rfl rfl rfl rfl te_25.h) ?_
   refine y_g rfl (by simp <;> omega) (.bin rfl rfl a2_) ?_
   refine o_0 (.pickF rfl (by simp <;> omega) rfl) ?_
   refine aj_ ?_
   refine af_ rfl (fun h2 => ?_) (fun h2 => ?_)
   ·have hq0 : q = [] := by
     have : q.length = 0 := by simpa using h2
     exact List.length_eq_zero_iff.1 this
    refine r_z 1 ?_
    refine ae_ ?_
    unfold mulP
    rw [if_pos (.inr hq0)]
    exact Fin.tmpN rfl
   ·have hq0 : q ≠ [] := by
     have : ¬ q.length = 0 := by simpa using h2
     exact fun e => this (by rw [e]; rfl)
    refine ag_ ⟨(), ⟨h1, hq0⟩, ?_⟩
    exact s_e []
 rintro _ ⟨hp0, hq0⟩
 have hpl := List.length_pos_iff.2 hp0
 have hql := List.length_pos_iff.2 hq0
 have hN : (p.length : Int) + q.length - 1 = ((p.length + q.length - 1 : Nat) : Int) := by omega
 refine s_r 8 ?_
 refine a_6 ?_
 refine o_1 (.makeSlice (l := p.length + q.length - 1) (c := p.length + q.length - 1) (by rw [← hN]; rfl) (by rw [← hN]; rfl) te_25.h tz_37.h rfl tb_37.h (by first | omega | (simp; done) | (simp; omega)) (by first | omega | (simp; done) | (simp; omega)) (by unfold maxLen; first | omega | (simp; done) | (simp; omega))) ?_
 refine a_z ?_
 refine ac_ (r_z 3 ?_)
 have hbd := fun i => jv_ (cq_ hp hs) (cq_ hq ht) i
 have hbi : ∀ i, i ≤ p.length → i * (s + t + 1) + 1 ≤ 137438953472 := fun i hi => by
  have := Nat.mul_le_mul_right (s + t + 1) hi
  omega
 have hs2 : s ≤ 137438953472 := by
  have := hbi 1 hpl
  omega
 refine au_ (fun _ : Unit => mulS p q (p.length, mulR p q p.length)) (fun _ => True) ?_ ?_
 ·refine ah_ (ao_ (fun i : Nat => mulS p q (i, mulR p q i)) (fun i => p.length - i) (fun i => i ≤ p.length) 0 (Nat.zero_le _) ?_ ?_)
  ·simp only [fn_, mulR]
   refine ax_ [(1, 5)] rfl rfl rfl au_r (fun hs => au_f) (fun hs => ?_)
   ·repeat' (first | exact as_ | refine an_ rfl rfl rfl rfl ?_ ?_)
    all_goals (first | (exact CvLL.zeros hs _) | exact au_e)
  rintro i hi
  simp only [fn_]
  refine r_z 1 ?_
  refine ac_ (af_ rfl (fun h => ?_) (fun h => ?_))
  ·refine ag_ ?_
   have hlt : i < p.length := by simpa using h
   have hgp : (pE p)[((i : Nat) : Int).toNat]? = some (qC (coP p i)) := cj_ (bn_ hlt)
   refine ac_ (ah_ (s_r 6 ?_))
   refine a_1 ?_
   refine i_x hgp ?_
   refine l_x hgp ?_
   refine a_z ?_
   refine ac_ (r_c 3 (cc_ (coP p i)) ?_)
   refine a_z ?_
   refine af_ rfl (fun h1 => ?_) (fun h1 => ?_)
   ·have h0 : coP p i = 0 := by
     have h1 : sgZ (coP p i).num = 0 := by simpa using h1
     exact sgZ_num_eq.1 h1
    have hst : mulR p q (i + 1) = mulR p q i := by rw [mulR, if_pos h0]
    refine al_ (r_m 2 ?_)
    refine a_z ?_
    refine ⟨i + 1, by omega, hlt, ?_⟩
    simp only [fn_, hst]
    exact s_e []
   ·have h0 : coP p i ≠ 0 := by
     intro e
     have h1 : ¬ sgZ (coP p i).num = 0 := by simpa using h1
     exact h1 (sgZ_num_eq.2 e)
    have hst : mulR p q (i + 1) = rowP (mulR p q i) (coP p i) q i q.length := by rw [mulR, if_neg h0]
    refine ag_ (r_z 3 ?_)
    refine AWp.cutB (fun _ : Unit => mulS p q (i, mulR p q (i + 1))) (fun _ => True) ?_ ?_
    ·refine ah_ (ao_ (fun k : Nat => mulT p q i (coP p i) (k, rowP (mulR p q i) (coP p i) q i k)) (fun k => q.length - k) (fun k => k ≤ q.length) 0 (Nat.zero_le _) ?_ ?_)
     ·simp only [lN_, rowP]
      exact s_e [(2, 7)]
     rintro k hk
     simp only [lN_]
     refine r_z 1 ?_
     refine ac_ (af_ rfl (fun h2 => ?_) (fun h2 => ?_))
     ·refine ag_ ?_
      have hlt2 : k < q.length := by simpa using h2
      have hgq : (pE q)[((k : Nat) : Int).toNat]? = some (qC (coP q k)) := cj_ (bn_ hlt2)
      refine ac_ (ah_ (s_r 6 ?_))
      refine a_1 ?_
      refine i_x hgq ?_
      refine l_x hgq ?_
      refine a_z ?_
      have hb1 := hbd i
      have hb2 := hbi (i + 1) hlt
      have hb3 := hbi i hi
      have hcur : qs (coP (rowP (mulR p q i) (coP p i) q i k) (i + k)) ≤ 137438953472 := by
       rw [i5_ _ _ _ _ _ _ (by omega)]; exact Nat.le_trans (hb1 (i + k)) hb3
      have hab := c4_ (coP p i) (coP q k)
      have hqa := cq_ hp hs i
      have hqb := cq_ hq ht k
      have hik : i + k < (rowP (mulR p q i) (coP p i) q i k).length := by simp; omega
      have hgo : (pE (rowP (mulR p q i) (coP p i) q i k))[(0 + (((i : Nat) : Int) + (k : Nat)).toNat)]? = some (qC (coP (rowP (mulR p q i) (coP p i) q i k) (i + k))) := by
       rw [show 0 + (((i : Nat) : Int) + (k : Nat)).toNat = i + k by omega]; exact cj_ (bn_ hik)
      refine r_d hmix 16 ?_
      refine a_8 ?_
      refine a_1 ?_
      first | refine aG_ (.load_l rfl rfl hgo tg_37.h ts_37.h (nle rfl)) rfl rfl ?_ | refine aG_ (.load_a rfl hgo tg_37.h ts_37.h (nle rfl)) rfl rfl ?_
      refine c_s (cf_ (coP p i) (coP q k) (by omega)) ?_
      refine c_s (ep_ (coP (rowP (mulR p q i) (coP p i) q i k) (i + k)) (coP p i * coP q k) (by omega)) ?_
      refine a_1 ?_
      refine o_1n (.store rfl rfl hgo rfl rfl rfl ts_37.h (nle rfl)) ?_
      refine aj_ (n_k ?_)
      refine r_m 2 ?_
      refine a_z ?_
      refine ⟨k + 1, by omega, hlt2, ?_⟩
      have hst2 : (pE (rowP (mulR p q i) (coP p i) q i k)).set (0 + (((i : Nat) : Int) + (k : Nat)).toNat) (qC (coP (rowP (mulR p q i) (coP p i) q i k) (i + k) + coP p i * coP q k)) = pE (rowP (mulR p q i) (coP p i) q i (k + 1)) := by
       rw [show 0 + (((i : Nat) : Int) + (k : Nat)).toNat = i + k by omega, iv_]; rfl
      have hl2 : (rowP (mulR p q i) (coP p i) q i (k + 1)).length = (rowP (mulR p q i) (coP p i) q i k).length := by simp
      simp only [lN_, hl2]
      refine ax_ [] rfl rfl rfl ?_ (fun hs => au_f) (fun hs => ?_)
      ·repeat' (first | exact ShrL.nil | refine ShrL.cons rfl rfl rfl rfl (by first | (simp) | rfl | (simp; done) | (simp <;> omega)) ?_)
      ·repeat' (first | exact as_ | refine an_ rfl rfl rfl rfl ?_ ?_)
       all_goals (first | (exact az_ hs hst2 (aW_ _)) | exact au_e)
     ·have hge : k = q.length := by
       have : ¬ k < q.length := by simpa using h2
       omega
      subst hge
      refine al_ ⟨(), trivial, ?_⟩
      simp only [fn_, hst]
      exact s_e []
    rintro _ _
    simp only [fn_]
    refine r_m 2 ?_
    refine a_z ?_
    refine ⟨i + 1, by omega, hlt, ?_⟩
    exact s_e []
  ·have hge : i = p.length := by
    have : ¬ i < p.length := by simpa using h
    omega
   subst hge
   refine al_ ⟨(), trivial, ?_⟩
   simp only [fn_]
   exact s_e []
 rintro _ _
 simp only [fn_]
 have hfull : List.take (mulR p q p.length).length (List.drop 0 (pE (mulR p q p.length))) = pE (mulR p q p.length) := by
  rw [List.drop_zero, List.take_of_length_le (by simp)]
 have hfin : mulP p q = trimQ (mulR p q p.length) := by
  unfold mulP; rw [if_neg (by rintro (h | h); exact hp0 h; exact hq0 h)]
 rw [hfin]
 refine s_r 3 ?_
 refine a_1 ?_
 refine o_1 (.callS1 rfl rfl rfl (.shut rfl d_n (.nil)) rfl ((by rw [hfull]; exact cl_ (mulR p q p.length) (by simp; omega)))) ?_
 refine a_z ?_
 exact ae_ (t_e (am_ _))
theorem os_Clone (l : List Rat) (h0 : l ≠ []) (hl : l.length ≤ 1099511627776) : OSpec Tryz.prog 150 [.arr (pE l)] 37 3 (pE l) := by
 have hne : pE l ≠ [] := by
  intro e
  exact h0 (List.length_eq_zero_iff.1 (by rw [← o4_, e]; rfl))
 refine OSpec.enter Tryz.func150 rfl (by kernel_rfl) rfl rfl rfl ?_ ?_ rfl ?_
 ·exact aa_ (aw_ (aW_ _)) ab_
 ·exact aW_ l
 refine r_z 1 ?_
 refine ac_ (s_r 2 ?_)
 refine a_1 ?_
 first | refine aG_ (.nilq_v rfl rfl te_25.h) rfl rfl ?_ | refine aG_ (.nilq_arr rfl (hne) rfl te_25.h) rfl rfl ?_
 refine aj_ ?_
 refine cF ?_
 ·refine ag_ (s_r 4 ?_)
  refine a_2 ?_
  refine o_2 (.append_l rfl rfl rfl te_25.h rfl rfl rfl rfl rfl d_o (by first | exact cS_ _ | exact cR_ _ | exact cQ_ _ | exact cT_ _ | exact cL_ _ | rfl | simp) (by first | rfl | exact cS_ _ | exact cR_ _ | exact cQ_ _ | exact cT_ _ | exact cL_ _ | simp) rfl (.arr (f9_ _)) tz_37.h rfl tb_37.h d_o (by first | (simp [maxLen]; done) | (simp [maxLen]; omega))) ?_
  refine a_z ?_
  exact ae_ (FinO.tmp rfl rfl rfl (by simp))
theorem os_Trim (l : List Rat) (h0 : trimQ l ≠ []) (hl : l.length ≤ 1099511627776) : OSpec Tryz.prog 67 [.arr (pE l)] 37 3 (pE (trimQ l)) := by
 refine OSpec.enter Tryz.func67 rfl (by kernel_rfl) rfl rfl rfl ?_ ?_ rfl ?_
 ·exact aa_ (aw_ (aW_ _)) ab_
 ·exact aW_ _
 refine r_z 1 ?_
 refine r_z 3 ?_
 refine aO_ (trS l) (fun n => n ≤ l.length ∧ trimQ l = l.take n) ?_ ?_
 ·refine ah_ (ao_ (trS l) (fun n => n) (fun n => n ≤ l.length ∧ trimQ l = trimQ (l.take n)) l.length ⟨Nat.le_refl _, by rw [List.take_length]⟩ ?_ ?_)
  ·simp only [er_]
   exact s_e []
  rintro n ⟨hn, ht⟩
  rw [er_]
  cases n with
  | zero => exact absurd (ht.trans rfl) h0
  | succ n =>
   obtain ⟨q, hq⟩ : ∃ q, l[n]? = some q := ⟨_, List.getElem?_eq_getElem (by omega)⟩
   have hq' : (pE l)[(((n + 1 : Nat) : Int) - 1).toNat]? = some (qC q) := by
    rw [show (((n + 1 : Nat) : Int) - 1).toNat = n by omega]; exact cj_ hq
   have hs : trimQ (l.take (n + 1)) = if q = 0 then trimQ (l.take n) else l.take (n + 1) := by
    rw [bS_ hq, eN_]
   refine ac_ (s_r 11 ?_)
   refine a_3 ?_
   refine y_g rfl (by simp <;> omega) (.move rfl) ?_
   refine y_g rfl (by simp <;> omega) (.move rfl) ?_
   refine y_g rfl (by simp <;> omega) (.bin rfl rfl (e8_ (by omega))) ?_
   first | refine y_g rfl (by simp <;> omega) (.index_l rfl rfl (by omega) (by omega) te_25.h) ?_ | refine y_g rfl (by simp <;> omega) (.index_a rfl rfl (by omega) hq' rfl te_25.h) ?_
   first | refine y_g rfl (by simp <;> omega) (.load_l rfl rfl hq' tg_37.h ts_37.h (nle rfl)) ?_ | refine y_g rfl (by simp <;> omega) (.load_a rfl hq' tg_37.h ts_37.h (nle rfl)) ?_
   refine y_g rfl (by simp <;> omega) (.call rfl rfl rfl (cc_ q)) ?_
   refine y_g rfl (by simp <;> omega) (.bin rfl rfl a2_) ?_
   refine o_0 (.pickT rfl (by simp <;> omega) rfl) ?_
   refine aj_ ?_
   refine af_ rfl (fun h => ?_) (fun h => ?_)
   ·have h0 : q = 0 := by
     have h1 : sgZ q.num = 0 := by simpa using h
     exact sgZ_num_eq.1 h1
    refine ag_ (ah_ (r_m 3 ?_))
    refine a_z ?_
    refine ⟨n, Nat.lt_succ_self n, ⟨by omega, ?_⟩, ?_⟩
    ·rw [ht, hs, if_pos h0]
    ·simp only [er_]
     exact s_e []
   ·have h0 : q ≠ 0 := by
     intro e
     have h1 : ¬ sgZ q.num = 0 := by simpa using h
     exact h1 (sgZ_num_eq.2 e)
    refine al_ ⟨n + 1, ⟨hn, ?_⟩, ?_⟩
    ·rw [ht, hs, if_neg h0]
    ·simp only [er_]
     exact s_e []
 rintro n ⟨hn, ht⟩
 rw [er_]
 rw [ht] at h0
 have hcl := os_Clone (l.take n) h0 (by simp; omega)
 refine s_r 5 ?_
 refine a_2 ?_
 refine o_0 (.sa_h rfl rfl (h := n) rfl (by simp; omega) te_25.h (f9_ _)) ?_
 refine o_1 (.callO rfl rfl rfl ((by rw [js_]; exact hcl))) ?_
 refine a_z ?_
 refine ae_ ?_
 rw [ht]
 exact FinO.tmp rfl rfl rfl (by simp)
def dvS (q : List Rat) (lead : Rat) : Nat × List Rat × List Rat → AState
 | (c, u, o) => ⟨[(0, .lsl 1 0 o.length none 3), (1, .arr (pE q)), (4, .lsl 2 0 u.length (some u.length) 3), (6, .lptr 3 0 0), (7, i64 ((c : Int) - 1))], [(1, some ⟨37, 3, pE o⟩), (2, some ⟨37, 3, pE u⟩), (3, some ⟨37, 3, [qC lead]⟩)], 4, 82⟩
theorem nh_ (q : List Rat) (lead : Rat) (c : Nat) (u : List Rat) (o : List Rat) : dvS q lead (c, u, o) = ⟨[(0, .lsl 1 0 o.length none 3), (1, .arr (pE q)), (4, .lsl 2 0 u.length (some u.length) 3), (6, .lptr 3 0 0), (7, i64 ((c : Int) - 1))], [(1, some ⟨37, 3, pE o⟩), (2, some ⟨37, 3, pE u⟩), (3, some ⟨37, 3, [qC lead]⟩)], 4, 82⟩ := rfl
def dvT (q : List Rat) (lead : Rat) (n : Nat) (u : List Rat) (k : Rat) : Nat × List Rat → AState
 | (i, o) => ⟨[(0, .lsl 1 0 o.length none 3), (1, .arr (pE q)), (4, .lsl 2 0 u.length (some u.length) 3), (6, .lptr 3 0 0), (7, i64 n), (8, .lptr 4 0 0), (55, .arr (pE q)), (56, i64 q.length), (57, i64 i)], [(1, some ⟨37, 3, pE o⟩), (2, some ⟨37, 3, pE u⟩), (3, some ⟨37, 3, [qC lead]⟩), (4, some ⟨37, 3, [qC k]⟩)], 5, 82⟩
theorem p1_ (q : List Rat) (lead : Rat) (n : Nat) (u : List Rat) (k : Rat) (i : Nat) (o : List Rat) : dvT q lead n u k (i, o) = ⟨[(0, .lsl 1 0 o.length none 3), (1, .arr (pE q)), (4, .lsl 2 0 u.length (some u.length) 3), (6, .lptr 3 0 0), (7, i64 n), (8, .lptr 4 0 0), (55, .arr (pE q)), (56, i64 q.length), (57, i64 i)], [(1, some ⟨37, 3, pE o⟩), (2, some ⟨37, 3, pE u⟩), (3, some ⟨37, 3, [qC lead]⟩), (4, some ⟨37, 3, [qC k]⟩)], 5, 82⟩ := rfl
theorem eA_ (p q : List Rat) (s t : Nat) (hp : bdL p s) (hq : bdL q t) (hs : 1 ≤ s) (ht : 1 ≤ t) (h : 2 ^ ((trimQ p).length + 1 - (trimQ q).length) * (s + 2 * t + 1) ≤ 137438953472) (hq0 : trimQ q ≠ []) (hp1 : p.length ≤ 274877906944) (hq1 : q.length ≤ 274877906944) : FSpec Tryz.prog 92 [.arr (pE p), .arr (pE q)] (.tup [.arr (pE (divP p q).1), .arr (pE (divP p q).2)]) := by
 have hlp := aU_ p
 have hlq := aU_ q
 have hql := List.length_pos_iff.2 hq0
 have hg : (pE (trimQ q))[(((trimQ q).length : Int) - 1).toNat]? = some (qC (leadP q)) := by
  rw [show (((trimQ q).length : Int) - 1).toNat = (trimQ q).length - 1 by omega]; exact cj_ (bm_ (by omega))
 have hne := bp_ hq0
 obtain ⟨m, hm⟩ : ∃ m, m = (trimQ p).length + 1 - (trimQ q).length := ⟨_, rfl⟩
 have hmx : (if (0 : Int) > ((trimQ p).length : Int) - (trimQ q).length + 1 then (0 : Int) else ((trimQ p).length : Int) - (trimQ q).length + 1) = (m : Int) := by split <;> omega
 have hB : divB (trimQ q) (leadP q) 137438953472 m (List.replicate m 0) (trimQ p) := by
  refine ⟨s, t, cq_ (fun x hx => hp x (be_ hx)) hs, cq_ (fun x hx => hq x (be_ hx)) ht, hq _ (be_ (List.mem_of_getElem? (bm_ (n := (trimQ q).length - 1) (by omega)))), ht, fun n => ?_, by rw [hm]; exact h⟩
  have : coP (List.replicate m 0) n = 0 := by
   unfold coP
   rw [List.getD_eq_getElem?_getD, List.getElem?_replicate]
   split <;> rfl
  rw [this]; decide
 have hdv : divP p q = (trimQ (divR (trimQ q) (leadP q) m (List.replicate m 0) (trimQ p)).1, trimQ (divR (trimQ q) (leadP q) m (List.replicate m 0) (trimQ p)).2) := by rw [hm]; rfl
 rw [hdv]
 refine f_n Tryz.func92 ?_ ?_
 ·exact aa_ (am_ p) (aa_ (am_ q) ab_)
 refine r_z 2 ?_
 by_cases hp0 : trimQ p = []
 ·have hm0 : m = 0 := by rw [hm, hp0]; simp; omega
  subst hm0
  rw [hp0] at hmx ⊢
  have htp := cl_ p (by omega)
  rw [hp0] at htp
  refine r_c 6 (htp) ?_
  refine c_s (cl_ q (by omega)) ?_
  refine a_z ?_
  refine s_r 8 ?_
  refine a_4 ?_
  refine i_x hg ?_
  refine l_x hg ?_
  refine a_z ?_
  refine s_r 9 ?_
  refine a_7 ?_
  refine o_1 (.makeSlice (l := 0) (c := 0) (by rw [← hmx]; rfl) (by rw [← hmx]; rfl) te_25.h tz_37.h rfl tb_37.h (by first | omega | (simp; done) | (simp; omega)) (by first | omega | (simp; done) | (simp; omega)) (by unfold maxLen; first | omega | (simp; done) | (simp; omega))) ?_
  refine a_z ?_
  refine ac_ (r_z 6 ?_)
  refine au_ (fun _ : Unit => ⟨[(0, .arr (pE [])), (4, .lsl 2 0 0 (some 0) 3)], [(2, some ⟨37, 3, []⟩)], 3, 82⟩) (fun _ => True) ?_ ?_
  ·refine ah_ (ao_ (fun _ : Unit => ⟨[(0, .arr (pE [])), (4, .lsl 2 0 0 (some 0) 3), (7, i64 (0 - ((trimQ q).length : Int)))], [(2, some ⟨37, 3, []⟩)], 3, 82⟩) (fun _ => 0) (fun _ => True) () trivial ?_ ?_)
   ·refine ax_ [(2, 4)] rfl rfl rfl au_r (fun hs => au_f) (fun hs => ?_)
    ·repeat' (first | exact as_ | refine an_ rfl rfl rfl rfl ?_ ?_)
     all_goals (first | (exact CvLL.nil) | exact au_e)
   rintro _ _
   refine ac_ (r_z 2 ?_)
   refine af_ rfl (fun h1 => ?_) (fun h1 => ?_)
   ·exact absurd h1 (by simp; omega)
   ·refine al_ ⟨(), trivial, ?_⟩
    refine ax_ [] rfl rfl rfl au_r (fun hs => au_f) (fun hs => ?_)
    ·repeat' (first | exact as_ | refine an_ rfl rfl rfl rfl ?_ ?_)
     all_goals (first | (exact CvLL.nil) | exact au_e)
  rintro _ _
  refine s_r 6 ?_
  refine a_1 ?_
  refine o_1 (.callS1 rfl rfl rfl (.shut rfl d_n (.nil)) rfl ((cl_ [] (by simp)))) ?_
  refine c_s (cl_ [] (by simp)) ?_
  refine a_z ?_
  refine ae_ (Fin.many ⟨_, _, rfl, rfl, ⟨_, _, rfl, rfl, rfl⟩⟩ (nle rfl) ?_)
  exact ai_ (ar_ at_ (am_ _)) (ai_ (ar_ at_ (am_ _)) ap_)
 have hpl := List.length_pos_iff.2 hp0
 have hto := os_Trim p hp0 (by omega)
 have hdl := dA_ (trimQ q) (leadP q) m (List.replicate m 0) (trimQ p)
 have hend := l7_ hB
 refine s_r 6 ?_
 refine a_1 ?_
 refine o_1 (.callO rfl rfl rfl (hto)) ?_
 refine c_s (cl_ q (by omega)) ?_
 refine a_z ?_
 refine AWp.ent (st' := ⟨[(0, .lsl 1 0 (trimQ p).length none 3), (1, .arr (pE (trimQ q)))], [(1, some ⟨37, 3, pE (trimQ p)⟩)], 2, 82⟩) ?_ ?_
 ·exact s_e [(1, 0)]
 refine s_r 8 ?_
 refine a_4 ?_
 refine i_x hg ?_
 refine l_x hg ?_
 refine a_z ?_
 refine s_r 9 ?_
 refine a_7 ?_
 refine o_1 (.makeSlice (l := m) (c := m) (by rw [← hmx]; rfl) (by rw [← hmx]; rfl) te_25.h tz_37.h rfl tb_37.h (by first | omega | (simp; done) | (simp; omega)) (by first | omega | (simp; done) | (simp; omega)) (by unfold maxLen; first | omega | (simp; done) | (simp; omega))) ?_
 refine a_z ?_
 refine ac_ (r_z 6 ?_)
 refine au_ (fun x : List Rat × List Rat => ⟨[(0, .lsl 1 0 x.2.length none 3), (4, .lsl 2 0 x.1.length (some x.1.length) 3)], [(1, some ⟨37, 3, pE x.2⟩), (2, some ⟨37, 3, pE x.1⟩)], 3, 82⟩) (fun x => x = divR (trimQ q) (leadP q) m (List.replicate m 0) (trimQ p)) ?_ ?_
 ·refine ah_ ?_
  by_cases hab : (trimQ p).length < (trimQ q).length
  ·have hm0 : m = 0 := by omega
   subst hm0
   refine ao_ (fun _ : Unit => ⟨[(0, .lsl 1 0 (trimQ p).length none 3), (4, .lsl 2 0 0 (some 0) 3), (7, i64 (((trimQ p).length : Int) - ((trimQ q).length : Int)))], [(1, some ⟨37, 3, pE (trimQ p)⟩), (2, some ⟨37, 3, []⟩)], 3, 82⟩) (fun _ => 0) (fun _ => True) () trivial ?_ ?_
   ·refine ax_ [(1, 0), (2, 4)] rfl rfl rfl au_r (fun hs => au_f) (fun hs => ?_)
    ·repeat' (first | exact as_ | refine an_ rfl rfl rfl rfl ?_ ?_)
     all_goals (first | (exact CvLL.nil) | exact au_e)
   rintro _ _
   refine ac_ (r_z 2 ?_)
   refine af_ rfl (fun h1 => ?_) (fun h1 => ?_)
   ·exact absurd h1 (by simp; omega)
   ·refine al_ ⟨([], trimQ p), rfl, ?_⟩
    exact s_f []
  refine ao_ (fun x : Nat × List Rat × List Rat => dvS (trimQ q) (leadP q) x) (fun x => x.1) (fun x => x.1 ≤ m ∧ x.2.1.length = m ∧ x.2.2.length = (trimQ p).length ∧ divB (trimQ q) (leadP q) 137438953472 x.1 x.2.1 x.2.2 ∧ divR (trimQ q) (leadP q) x.1 x.2.1 x.2.2 = divR (trimQ q) (leadP q) m (List.replicate m 0) (trimQ p)) (m, List.replicate m 0, trimQ p) ⟨Nat.le_refl _, by simp, rfl, hB, rfl⟩ ?_ ?_
  ·simp only [nh_]
   have hm1 : ((trimQ p).length : Int) - (trimQ q).length = (m : Int) - 1 := by omega
   rw [hm1]
   refine ax_ [(1, 0), (2, 4), (3, 6)] rfl rfl rfl au_r (fun hs => au_f) (fun hs => ?_)
   ·repeat' (first | exact as_ | refine an_ rfl rfl rfl rfl ?_ ?_)
    all_goals (first | (exact CvLL.zeros hs _) | exact au_e)
  rintro ⟨c, u, o⟩ ⟨hc, hu, ho, hb, hr⟩
  simp only at hc hu ho hb hr
  simp only [nh_]
  cases c with
  | zero =>
   refine ac_ (r_z 2 ?_)
   refine af_ rfl (fun h1 => ?_) (fun h1 => ?_)
   ·exact absurd h1 (by simp)
   ·refine al_ ⟨(u, o), hr, ?_⟩
    exact s_e []
  | succ n =>
   obtain ⟨B, tt, hb1, hb2, hb3, hb4⟩ := nk_ hb
   have hcn : ((n + 1 : Nat) : Int) - 1 = (n : Int) := by omega
   rw [hcn]
   refine ac_ (r_z 2 ?_)
   refine af_ rfl (fun h1 => ?_) (fun h1 => ?_)
   ·refine ag_ ?_
    obtain ⟨k, hk⟩ : ∃ k, k = coP o (n + (trimQ q).length - 1) / leadP q := ⟨_, rfl⟩
    have hst := ld_ hb
    rw [divR] at hr
    rw [← hk] at hst hr
    have hgo : (pE o)[(0 + (((n : Nat) : Int) + ((trimQ q).length : Nat) - 1).toNat)]? = some (qC (coP o (n + (trimQ q).length - 1))) := by
     rw [show 0 + (((n : Nat) : Int) + ((trimQ q).length : Nat) - 1).toNat = n + (trimQ q).length - 1 by omega]; exact cj_ (bn_ (by omega))
    have hov := dk_ (coP o (n + (trimQ q).length - 1)) (leadP q) hne (by have := hb1 (n + (trimQ q).length - 1); omega)
    rw [← hk] at hov
    have hgu : (pE u)[0 + ((n : Nat) : Int).toNat]? = some (qC (coP u n)) := by
     rw [show 0 + ((n : Nat) : Int).toNat = n by omega]; exact cj_ (bn_ (by omega))
    refine ac_ (ah_ (ac_ (r_d hmix 12 ?_)))
    refine a_7 ?_
    first | refine aG_ (.load_l rfl rfl hgo tg_37.h ts_37.h (nle rfl)) rfl rfl ?_ | refine aG_ (.load_a rfl hgo tg_37.h ts_37.h (nle rfl)) rfl rfl ?_
    refine c_s (hov) ?_
    refine a_2 ?_
    refine aj_ (n_k ?_)
    refine s_r 5 ?_
    refine a_4 ?_
    refine o_1n (.store rfl rfl hgu rfl rfl rfl ts_37.h (nle rfl)) ?_
    refine aj_ ?_
    have hsu : (pE u).set (0 + ((n : Nat) : Int).toNat) (qC k) = pE (u.set n k) := by
     rw [show 0 + ((n : Nat) : Int).toNat = n by omega, iv_]
    have hlu : (u.set n k).length = u.length := by simp
    refine ac_ (r_c 3 (cc_ k) ?_)
    refine a_z ?_
    refine af_ rfl (fun h2 => ?_) (fun h2 => ?_)
    ·have h0 : k = 0 := by
      have h2 : sgZ k.num = 0 := by simpa using h2
      exact sgZ_num_eq.1 h2
     rw [if_pos h0] at hst hr
     refine al_ (r_m 3 ?_)
     refine a_z ?_
     refine ⟨(n, u.set n k, o), Nat.lt_succ_self n, ⟨by omega, by simp only; omega, ho, hst, hr⟩, ?_⟩
     simp only [nh_, hlu]
     exact s_f []
    ·have h0 : k ≠ 0 := by
      intro e
      have h2 : ¬ sgZ k.num = 0 := by simpa using h2
      exact h2 (sgZ_num_eq.2 e)
     rw [if_neg h0] at hst hr
     refine ag_ (r_z 3 ?_)
     refine AWp.cutB (fun _ : Unit => ⟨[(0, .lsl 1 0 o.length none 3), (1, .arr (pE (trimQ q))), (4, .lsl 2 0 u.length (some u.length) 3), (6, .lptr 3 0 0), (7, i64 n)], [(1, some ⟨37, 3, pE (rowM o k (trimQ q) n (trimQ q).length)⟩), (2, some ⟨37, 3, pE (u.set n k)⟩), (3, some ⟨37, 3, [qC (leadP q)]⟩)], 4, 82⟩) (fun _ => True) ?_ ?_
     ·refine ah_ (ao_ (fun i : Nat => dvT (trimQ q) (leadP q) n (u.set n k) k (i, rowM o k (trimQ q) n i)) (fun i => (trimQ q).length - i) (fun i => i ≤ (trimQ q).length) 0 (Nat.zero_le _) ?_ ?_)
      ·simp only [p1_, rowM, hlu]
       exact s_f [(4, 8)]
      rintro i hi
      simp only [p1_]
      refine r_z 1 ?_
      refine ac_ (af_ rfl (fun h3 => ?_) (fun h3 => ?_))
      ·refine ag_ ?_
       have hlt2 : i < (trimQ q).length := by simpa using h3
       have hgq : (pE (trimQ q))[((i : Nat) : Int).toNat]? = some (qC (coP (trimQ q) i)) := cj_ (bn_ hlt2)
       have hcur : qs (coP (rowM o k (trimQ q) n i) (n + i)) ≤ B := by
        rw [fC_ _ _ _ _ _ _ (by omega)]; exact hb1 _
       have hkq : qs k ≤ B + tt := by
        have e1 := ek_ (coP o (n + (trimQ q).length - 1)) (leadP q)
        have e2 := hb1 (n + (trimQ q).length - 1)
        rw [hk]; omega
       have hkm := c4_ k (coP (trimQ q) i)
       have hqi := hb2 i
       have hik : n + i < (rowM o k (trimQ q) n i).length := by simp; omega
       have hgr : (pE (rowM o k (trimQ q) n i))[(0 + (((n : Nat) : Int) + (i : Nat)).toNat)]? = some (qC (coP (rowM o k (trimQ q) n i) (n + i))) := by
        rw [show 0 + (((n : Nat) : Int) + (i : Nat)).toNat = n + i by omega]; exact cj_ (bn_ hik)
       refine ac_ (ah_ (s_r 6 ?_))
       refine a_1 ?_
       refine i_x hgq ?_
       refine l_x hgq ?_
       refine a_z ?_
       refine r_d hmix 16 ?_
       refine a_8 ?_
       refine a_1 ?_
       first | refine aG_ (.load_l rfl rfl hgr tg_37.h ts_37.h (nle rfl)) rfl rfl ?_ | refine aG_ (.load_a rfl hgr tg_37.h ts_37.h (nle rfl)) rfl rfl ?_
       refine c_s (cf_ k (coP (trimQ q) i) (by omega)) ?_
       refine c_s (kQ_ (coP (rowM o k (trimQ q) n i) (n + i)) (k * coP (trimQ q) i) (by omega)) ?_
       refine a_1 ?_
       refine o_1n (.store rfl rfl hgr rfl rfl rfl ts_37.h (nle rfl)) ?_
       refine aj_ (n_k ?_)
       refine r_m 2 ?_
       refine a_z ?_
       refine ⟨i + 1, by omega, hlt2, ?_⟩
       have hst2 : (pE (rowM o k (trimQ q) n i)).set (0 + (((n : Nat) : Int) + (i : Nat)).toNat) (qC (coP (rowM o k (trimQ q) n i) (n + i) - k * coP (trimQ q) i)) = pE (rowM o k (trimQ q) n (i + 1)) := by
        rw [show 0 + (((n : Nat) : Int) + (i : Nat)).toNat = n + i by omega, iv_]; rfl
       have hl2 : (rowM o k (trimQ q) n (i + 1)).length = (rowM o k (trimQ q) n i).length := by simp
       simp only [p1_, hl2]
       refine ax_ [] rfl rfl rfl ?_ (fun hs => au_f) (fun hs => ?_)
       ·repeat' (first | exact ShrL.nil | refine ShrL.cons rfl rfl rfl rfl (by first | (simp) | rfl | (simp; done) | (simp <;> omega)) ?_)
       ·repeat' (first | exact as_ | refine an_ rfl rfl rfl rfl ?_ ?_)
        all_goals (first | (exact az_ hs hst2 (aW_ _)) | exact au_e)
      ·have hge : i = (trimQ q).length := by
        have : ¬ i < (trimQ q).length := by simpa using h3
        omega
       subst hge
       refine al_ ⟨(), trivial, ?_⟩
       rw [cV_, hlu]
       exact s_e []
     rintro _ _
     refine r_m 3 ?_
     refine a_z ?_
     refine ⟨(n, u.set n k, rowM o k (trimQ q) n (trimQ q).length), Nat.lt_succ_self n, ⟨by omega, by simp only; omega, by simp only; rw [cV_]; exact ho, hst, hr⟩, ?_⟩
     simp only [nh_, hlu, cV_]
     exact s_e []
   ·exact absurd h1 (by simp)
 rintro ⟨u, o⟩ hx
 rw [← hx] at hdl hend ⊢
 simp only at hdl hend ⊢
 have hlu : u.length ≤ 274877906945 := by rw [hdl.1]; simp; omega
 have hfu : List.take u.length (List.drop 0 (pE u)) = pE u := by rw [List.drop_zero, List.take_of_length_le (by simp)]
 have hfo : List.take o.length (List.drop 0 (pE o)) = pE o := by rw [List.drop_zero, List.take_of_length_le (by simp)]
 refine s_r 6 ?_
 refine a_1 ?_
 refine o_1 (.callS1 rfl rfl rfl (.shut rfl d_n (.nil)) rfl ((by rw [hfu]; exact cl_ u (by omega)))) ?_
 refine a_1 ?_
 refine o_1 (.callS1 rfl rfl rfl (.shut rfl d_n (.nil)) rfl ((by rw [hfo]; exact cl_ o (by rw [hdl.2]; omega)))) ?_
 refine a_z ?_
 refine ae_ (Fin.many ⟨_, _, rfl, rfl, ⟨_, _, rfl, rfl, rfl⟩⟩ (nle rfl) ?_)
 exact ai_ (ar_ at_ (am_ _)) (ai_ (ar_ at_ (am_ _)) ap_)
def raS  : Rat × Rat × Nat → AState
 | (out, a, n) => ⟨[(1, i64 n), (2, .lptr 1 0 0), (4, .lptr 2 0 0), (5, .lptr 3 0 0)], [(1, some ⟨37, 3, [qC a]⟩), (2, some ⟨37, 3, [zC]⟩), (3, some ⟨37, 3, [qC out]⟩)], 4, 21⟩
theorem iq_  (out : Rat) (a : Rat) (n : Nat) : raS  (out, a, n) = ⟨[(1, i64 n), (2, .lptr 1 0 0), (4, .lptr 2 0 0), (5, .lptr 3 0 0)], [(1, some ⟨37, 3, [qC a]⟩), (2, some ⟨37, 3, [zC]⟩), (3, some ⟨37, 3, [qC out]⟩)], 4, 21⟩ := rfl
theorem kR_ (a r : Rat) (n : Nat) (h : raiM 64 1 a n = some r) (hn : n ≤ 1099511627776) : FSpec Tryz.prog 90 [.agg (qC a), i64 n] (.agg (qC r)) := by
 refine f_n Tryz.func90 ?_ ?_
 ·exact aa_ (ak_ a) (aa_ (ad_ _) ab_)
 refine r_z 2 ?_
 refine r_c 3 (cu_ 1 (by decide)) ?_
 refine a_z ?_
 refine aO_ (fun a : Rat => raS (r, a, 0)) (fun _ => True) ?_ ?_
 ·refine ah_ (ao_ (fun x : Nat × Rat × Rat × Nat => raS (x.2.1, x.2.2.1, x.2.2.2)) (fun x => x.1) (fun x => raiM x.1 x.2.1 x.2.2.1 x.2.2.2 = some r ∧ x.2.2.2 ≤ 1099511627776) (64, 1, a, n) ⟨h, hn⟩ ?_ ?_)
  ·simp only [iq_]
   exact s_e [(2, 4), (3, 5)]
  rintro ⟨f, out, a, n⟩ ⟨h, hn⟩
  simp only at h hn
  simp only [iq_]
  cases f with
  | zero => cases h
  | succ f =>
   rw [raiM] at h
   refine ac_ (r_z 2 ?_)
   refine af_ rfl (fun h1 => ?_) (fun h1 => ?_)
   ·have hn0 : n ≠ 0 := by simp at h1; omega
    rw [if_neg hn0] at h
    split at h
    case isFalse => cases h
    case isTrue hs =>
    refine ag_ (ac_ (ah_ (ac_ (r_z 3 ?_))))
    have h2i : (n : Int) / 2 = ((n / 2 : Nat) : Int) := by omega
    refine af_ rfl (fun h2 => ?_) (fun h2 => ?_)
    ·have ho : n % 2 = 1 := by
      have : (n : Int) % 2 = 1 := by simpa using h2
      omega
     rw [if_pos ho] at h
     refine r_m 4 ?_
     refine c_s (cf_ out a hs.1) ?_
     refine a_z ?_
     refine r_m 4 ?_
     refine c_s (cf_ a a hs.2) ?_
     refine a_z ?_
     refine r_m 3 ?_
     refine a_z ?_
     refine ⟨(f, out * a, a * a, n / 2), Nat.lt_succ_self f, ⟨h, by simp only; omega⟩, ?_⟩
     simp only [iq_]
     rw [h2i]
     exact s_e []
    ·have ho : ¬ n % 2 = 1 := by
      have : ¬ (n : Int) % 2 = 1 := by simpa using h2
      omega
     rw [if_neg ho] at h
     refine ag_ (r_m 4 ?_)
     refine c_s (cf_ a a hs.2) ?_
     refine a_z ?_
     refine r_m 3 ?_
     refine a_z ?_
     refine ⟨(f, out, a * a, n / 2), Nat.lt_succ_self f, ⟨h, by simp only; omega⟩, ?_⟩
     simp only [iq_]
     rw [h2i]
     exact s_e []
   ·have hn0 : n = 0 := by simp at h1; omega
    subst hn0
    rw [if_pos rfl] at h
    cases h
    refine al_ ⟨a, trivial, ?_⟩
    simp only [iq_]
    exact s_e []
 rintro b _
 simp only [iq_]
 refine r_z 2 ?_
 exact ae_ (c_e (ak_ _))
def gcS  : List Rat × List Rat → AState
 | (p, q) => ⟨[(0, .arr (pE p)), (1, .arr (pE q))], [], 1, 21⟩
theorem po_  (p : List Rat) (q : List Rat) : gcS  (p, q) = ⟨[(0, .arr (pE p)), (1, .arr (pE q))], [], 1, 21⟩ := rfl
theorem degP_neg {l : List Rat} : degP l < 0 ↔ trimQ l = [] := by
 unfold degP
 constructor
 ·intro h; exact List.length_eq_zero_iff.1 (by omega)
 ·intro h; rw [h]; decide
theorem fs_Gcd (f : Nat) (p q g : List Rat) (h : gcdM f p q = some g) (hp1 : p.length ≤ 274877906944) (hq1 : q.length ≤ 274877906944) : FSpec Tryz.prog 19 [.arr (pE p), .arr (pE q)] (.arr (pE g)) := by
 refine f_n Tryz.func19 ?_ ?_
 ·exact aa_ (am_ p) (aa_ (am_ q) ab_)
 refine r_z 1 ?_
 refine aO_ (fun p : List Rat => ⟨[(0, .arr (pE p))], [], 1, 21⟩) (fun p => smL p ∧ p.length ≤ 274877906944 ∧ g = a9_ p) ?_ ?_
 ·refine ah_ (ao_ (fun x : Nat × List Rat × List Rat => gcS x.2) (fun x => x.1) (fun x => gcdM x.1 x.2.1 x.2.2 = some g ∧ x.2.1.length ≤ 274877906944 ∧ x.2.2.length ≤ 274877906944) (f, p, q) ⟨h, hp1, hq1⟩ ?_ ?_)
  ·simp only [po_]
   exact s_e []
  rintro ⟨f, p, q⟩ ⟨h, hp1, hq1⟩
  simp only at h hp1 hq1
  simp only [po_]
  cases f with
  | zero => cases h
  | succ f =>
   rw [gcdM] at h
   refine ac_ (r_c 3 (br_ q (by omega)) ?_)
   refine a_z ?_
   refine af_ rfl (fun h1 => ?_) (fun h1 => ?_)
   ·have hq0 : trimQ q ≠ [] := by
     intro e
     have e2 := degP_neg.2 e
     simp at h1; omega
    rw [if_neg hq0] at h
    split at h
    case isFalse => cases h
    case isTrue hs =>
    have hl := e1_ (p := p) (q := q)
    have hm := eU_ (divP p q).2
    refine ag_ (ah_ (r_c 8 (eA_ p q (mxL p) (mxL q) (cv_ p) (cv_ q) (cb_ p) (cb_ q) hs.1 hq0 hp1 hq1) ?_))
    refine a_z ?_
    refine r_m 5 ?_
    refine c_s (jK_ (divP p q).2 (l8_ hs hq0).2 (by omega)) ?_
    refine a_z ?_
    refine ⟨(f, q, a9_ (divP p q).2), Nat.lt_succ_self f, ⟨h, hq1, by simp only; omega⟩, ?_⟩
    simp only [po_]
    exact s_e []
   ·have hq0 : trimQ q = [] := by
     refine degP_neg.1 ?_
     simp at h1; omega
    rw [if_pos hq0] at h
    split at h
    case isFalse => cases h
    case isTrue hs =>
    cases h
    refine al_ ⟨p, ⟨hs, hp1, rfl⟩, ?_⟩
    exact s_e []
 rintro p ⟨hs, hp1, rfl⟩
 refine r_c 3 (jK_ p hs (by omega)) ?_
 refine a_z ?_
 exact ae_ (t_e (am_ _))
def reS  : Rat × List Rat × List Rat → AState
 | (out, p, q) => ⟨[(0, .arr (pE p)), (1, .arr (pE q)), (4, .lptr 1 0 0), (5, .lptr 2 0 0)], [(1, some ⟨37, 3, [zC]⟩), (2, some ⟨37, 3, [qC out]⟩)], 3, 81⟩
theorem gu_  (out : Rat) (p : List Rat) (q : List Rat) : reS  (out, p, q) = ⟨[(0, .arr (pE p)), (1, .arr (pE q)), (4, .lptr 1 0 0), (5, .lptr 2 0 0)], [(1, some ⟨37, 3, [zC]⟩), (2, some ⟨37, 3, [qC out]⟩)], 3, 81⟩ := rfl
theorem jV_ (l : List Rat) : degP l ≤ l.length := by
 have := aU_ l
 unfold degP; omega
theorem divP_deg {p q : List Rat} : degP (divP p q).2 ≤ degP p := by
 have h1 := dA_ (trimQ q) (leadP q) ((trimQ p).length + 1 - (trimQ q).length) (List.replicate ((trimQ p).length + 1 - (trimQ q).length) 0) (trimQ p)
 have h4 := aU_ (divR (trimQ q) (leadP q) ((trimQ p).length + 1 - (trimQ q).length) (List.replicate ((trimQ p).length + 1 - (trimQ q).length) 0) (trimQ p)).2
 rw [h1.2] at h4
 unfold degP divP
 simp only [a1_]
 omega
theorem kX_ (f : Nat) (p q : List Rat) (r : Rat) (h : resM f 1 p q = some r) : FSpec Tryz.prog 17 [.arr (pE p), .arr (pE q)] (.agg (qC r)) := by
 refine f_n Tryz.func17 ?_ ?_
 ·exact aa_ (am_ p) (aa_ (am_ q) ab_)
 refine r_z 1 ?_
 refine r_c 3 (cu_ 1 (by decide)) ?_
 refine a_z ?_
 refine ah_ (ao_ (fun x : Nat × Rat × List Rat × List Rat => reS x.2) (fun x => x.1) (fun x => resM x.1 x.2.1 x.2.2.1 x.2.2.2 = some r) (f, 1, p, q) h ?_ ?_)
 ·simp only [gu_]
  exact s_e [(2, 5)]
 rintro ⟨f, out, p, q⟩ h
 simp only at h
 simp only [gu_]
 cases f with
 | zero => cases h
 | succ f =>
  rw [resM] at h
  split at h
  case isFalse => cases h
  case isTrue hl =>
  have hdp := jV_ p
  have hdq := jV_ q
  refine ah_ (r_c 6 (br_ p (by omega)) ?_)
  refine c_s (br_ q (by omega)) ?_
  refine a_z ?_
  refine aO_ (fun _ : Unit => ⟨[(0, .arr (pE p)), (1, .arr (pE q)), (4, .lptr 1 0 0), (5, .lptr 2 0 0), (6, i64 (degP p)), (7, i64 (degP q))], [(1, some ⟨37, 3, [zC]⟩), (2, some ⟨37, 3, [qC out]⟩)], 3, 81⟩) (fun _ => ¬ (degP p < 0 ∨ degP q < 0) ∧ ¬ degP q = 0 ∧ ¬ degP p < degP q) ?_ ?_
  ·refine ah_ ?_
   by_cases hm1 : degP p < 0
   ·rw [if_pos (.inl hm1)] at h
    cases h
    refine s_r 7 ?_
    refine a_3 ?_
    refine n_g rfl (by simp [hm1]) ?_
    refine n_g rfl (by simp [hm1]) ?_
    refine o_0 (.pickT rfl (by simp [hm1]) rfl) ?_
    refine a_z ?_
    refine af_ rfl (fun h1 => ?_) (fun h1 => ?_)
    ·refine r_z 2 ?_
     refine ae_ (Fin.cell rfl rfl rfl tg_37.h ts_37.h (nle rfl) (Cv.agg ?_))
     rw [qC0]
     exact ai_ (Cv.emp _) (ai_ (ar_ at_ (ad_ _)) (ai_ (Cv.emp _) ap_))
    ·cases h1
   by_cases hn1 : degP q < 0
   ·rw [if_pos (.inr hn1)] at h
    cases h
    refine s_r 7 ?_
    refine a_3 ?_
    refine y_g rfl (by simp [hm1]) (.move rfl) ?_
    refine y_g rfl (by simp [hm1]) (.bin rfl rfl bZ_) ?_
    refine o_0 (.pickF rfl (by simp [hm1]) rfl) ?_
    refine a_z ?_
    refine af_ rfl (fun h1 => ?_) (fun h1 => ?_)
    ·refine r_z 2 ?_
     refine ae_ (Fin.cell rfl rfl rfl tg_37.h ts_37.h (nle rfl) (Cv.agg ?_))
     rw [qC0]
     exact ai_ (Cv.emp _) (ai_ (ar_ at_ (ad_ _)) (ai_ (Cv.emp _) ap_))
    ·exact absurd h1 (by simp [hn1])
   have hmn : ¬ (degP p < 0 ∨ degP q < 0) := fun e => e.elim hm1 hn1
   rw [if_neg hmn] at h
   refine s_r 7 ?_
   refine a_3 ?_
   refine y_g rfl (by simp [hm1]) (.move rfl) ?_
   refine y_g rfl (by simp [hm1]) (.bin rfl rfl bZ_) ?_
   refine o_0 (.pickF rfl (by simp [hm1]) rfl) ?_
   refine a_z ?_
   refine af_ rfl (fun h1 => ?_) (fun h1 => ?_)
   ·exact absurd h1 (by simp [hn1])
   refine r_z 3 ?_
   refine af_ rfl (fun h2 => ?_) (fun h2 => ?_)
   ·have hn0 : degP q = 0 := by simpa using h2
    rw [if_pos hn0] at h
    obtain ⟨x, hx, hy⟩ := Option.bind_eq_some_iff.1 h
    unfold mulC at hy
    split at hy
    case isFalse => cases hy
    case isTrue hsz =>
    cases hy
    have hra := kR_ (leadP q) x (degP p).toNat hx (by omega)
    rw [Int.toNat_of_nonneg (by omega)] at hra
    refine ac_ (r_d hmix 7 ?_)
    refine c_s (eB_ q (by omega)) ?_
    refine c_s (hra) ?_
    refine c_s (cf_ out x hsz) ?_
    refine a_1 ?_
    refine aj_ (n_k ?_)
    exact ae_ (c_e (ak_ _))
   have hn0 : ¬ degP q = 0 := by simpa using h2
   rw [if_neg hn0] at h
   refine r_z 4 ?_
   refine af_ rfl (fun h3 => ?_) (fun h3 => ?_)
   ·have hlt : degP p < degP q := by simpa using h3
    rw [if_pos hlt] at h
    refine aO_ (fun o : Rat => reS (o, p, q)) (fun o => o = if degP p % 2 = 1 ∧ degP q % 2 = 1 then -out else out) ?_ ?_
    ·by_cases ho1 : degP p % 2 = 1
     ·refine s_r 8 ?_
      refine a_4 ?_
      refine y_g rfl (by simp [ho1]) (.move rfl) ?_
      refine y_g rfl (by simp [ho1]) (.bin rfl rfl (j5_ (by omega))) ?_
      refine y_g rfl (by simp [ho1]) (.bin rfl rfl a2_) ?_
      refine o_0 (.pickT rfl (by simp [ho1]) rfl) ?_
      refine aj_ ?_
      refine af_ rfl (fun h4 => ?_) (fun h4 => ?_)
      ·have ho2 : degP q % 2 = 1 := by simpa using h4
       refine r_m 3 ?_
       refine c_s (iF_ out) ?_
       refine a_z ?_
       refine ⟨-out, by rw [if_pos ⟨ho1, ho2⟩], ?_⟩
       simp only [gu_]
       exact s_e []
      ·have ho2 : ¬ degP q % 2 = 1 := by simpa using h4
       refine ag_ ⟨out, by rw [if_neg fun e => ho2 e.2], ?_⟩
       simp only [gu_]
       exact s_e []
     ·refine s_r 8 ?_
      refine a_4 ?_
      refine n_g rfl (by simp [ho1]) ?_
      refine n_g rfl (by simp [ho1]) ?_
      refine n_g rfl (by simp [ho1]) ?_
      refine o_0 (.pickF rfl (by simp [ho1]) rfl) ?_
      refine aj_ ?_
      refine cF ?_
      ·refine ag_ ⟨out, by rw [if_neg fun e => ho1 e.1], ?_⟩
       simp only [gu_]
       exact s_e []
    rintro o rfl
    simp only [gu_]
    refine r_z 4 ?_
    refine al_ (⟨(f, _, q, p), Nat.lt_succ_self f, h, ?_⟩)
    simp only [gu_]
    exact s_e []
   ·have hlt : ¬ degP p < degP q := by simpa using h3
    refine ag_ ⟨(), ⟨hmn, hn0, hlt⟩, ?_⟩
    exact s_e []
  rintro _ ⟨hm, hn0, hmn⟩
  rw [if_neg hm, if_neg hn0, if_neg hmn] at h
  split at h
  case isFalse => cases h
  case isTrue hs =>
  have hq0 : trimQ q ≠ [] := fun e => hm (.inr (degP_neg.2 e))
  have hl2 := e1_ (p := p) (q := q)
  have hdr := jV_ (divP p q).2
  refine r_c 8 (eA_ p q (mxL p) (mxL q) (cv_ p) (cv_ q) (cb_ p) (cb_ q) hs.1 hq0 hl.1 hl.2) ?_
  refine a_z ?_
  refine r_c 3 (br_ (divP p q).2 (by omega)) ?_
  refine a_z ?_
  refine ac_ (r_z 2 ?_)
  refine af_ rfl (fun h1 => ?_) (fun h1 => ?_)
  ·have h0 : degP (divP p q).2 < 0 := by simpa using h1
   rw [if_pos h0] at h
   cases h
   refine r_z 2 ?_
   refine ae_ (Fin.cell rfl rfl rfl tg_37.h ts_37.h (nle rfl) (Cv.agg ?_))
   rw [qC0]
   exact ai_ (Cv.emp _) (ai_ (ar_ at_ (ad_ _)) (ai_ (Cv.emp _) ap_))
  have h0 : ¬ degP (divP p q).2 < 0 := by simpa using h1
  rw [if_neg h0] at h
  obtain ⟨x, hx, hy⟩ := Option.bind_eq_some_iff.1 h
  obtain ⟨y, hy1, hy2⟩ := Option.bind_eq_some_iff.1 hy
  unfold mulC at hy1
  split at hy1
  case isFalse => cases hy1
  case isTrue hsz =>
  cases hy1
  have hdl := divP_deg (p := p) (q := q)
  have hra := kR_ (leadP q) x (degP p - degP (divP p q).2).toNat hx (by omega)
  rw [Int.toNat_of_nonneg (by omega)] at hra
  refine ag_ (ac_ (r_d hmix 9 ?_))
  refine c_s (eB_ q (by omega)) ?_
  refine c_s (hra) ?_
  refine c_s (cf_ out x hsz) ?_
  refine a_1 ?_
  refine aj_ (n_k ?_)
  refine aO_ (fun o : Rat => ⟨[(1, .arr (pE q)), (4, .lptr 1 0 0), (5, .lptr 2 0 0), (9, .arr (pE (divP p q).2))], [(1, some ⟨37, 3, [zC]⟩), (2, some ⟨37, 3, [qC o]⟩)], 3, 81⟩) (fun o => o = if (degP p - degP (divP p q).2) % 2 = 1 ∧ degP q % 2 = 1 then -(out * x) else out * x) ?_ ?_
  ·by_cases ho1 : (degP p - degP (divP p q).2) % 2 = 1
   ·refine s_r 10 ?_
    refine a_6 ?_
    refine y_g rfl (by simp [ho1]) (.move rfl) ?_
    refine y_g rfl (by simp [ho1]) (.bin rfl rfl (j5_ (by omega))) ?_
    refine y_g rfl (by simp [ho1]) (.bin rfl rfl a2_) ?_
    refine o_0 (.pickT rfl (by simp [ho1]) rfl) ?_
    refine aj_ ?_
    refine af_ rfl (fun h4 => ?_) (fun h4 => ?_)
    ·have ho2 : degP q % 2 = 1 := by simpa using h4
     refine r_m 3 ?_
     refine c_s (iF_ (out * x)) ?_
     refine a_z ?_
     refine ⟨-(out * x), by rw [if_pos ⟨ho1, ho2⟩], ?_⟩
     exact s_e []
    ·have ho2 : ¬ degP q % 2 = 1 := by simpa using h4
     refine ag_ ⟨out * x, by rw [if_neg fun e => ho2 e.2], ?_⟩
     exact s_e []
   ·refine s_r 10 ?_
    refine a_6 ?_
    refine n_g rfl (by simp [ho1]) ?_
    refine n_g rfl (by simp [ho1]) ?_
    refine n_g rfl (by simp [ho1]) ?_
    refine o_0 (.pickF rfl (by simp [ho1]) rfl) ?_
    refine aj_ ?_
    refine cF ?_
    ·refine ag_ ⟨out * x, by rw [if_neg fun e => ho1 e.1], ?_⟩
     exact s_e []
  rintro o rfl
  refine r_m 2 ?_
  refine a_z ?_
  refine ⟨(f, _, (divP p q).2, q), Nat.lt_succ_self f, hy2, ?_⟩
  simp only [gu_]
  exact s_e []
theorem fN_ (l : List Rat) (hl : l.length ≤ 281474976710656) : GSpec Tryz.prog 257 [bP l] (backP l) := by
 refine GSpec.enter Tryz.func257 rfl (by kernel_rfl) rfl rfl rfl ?_ ?_ rfl ?_
 ·exact aa_ (ba_ l) ab_
 ·intro k xs h
  unfold backP at h
  split at h
  ·cases h; exact aa_ (ad_ _) (aa_ (ak_ _) ab_)
  ·cases h
 intro ll N E
 refine GWp.seq ?_
 refine GWp.lift ?_
 refine r_m 4 ?_
 refine a_z ?_
 refine GWp.block ?_
 refine GWp.loopS (fun m : Nat => ⟨[(0, .v (.func (.yield ll) #[] #[])), (1, bP l), (3, i64 ((m : Int) - 1))], [], 1, 19⟩) (fun m => l.length - m) (fun m => m) (fun m => m ≤ l.length) l.length (Nat.le_refl _) (by simp) ?_ ?_
 ·exact s_e []
 intro m hm
 refine GWp.seq ?_
 refine GWp.seq ?_
 refine GWp.lift ?_
 refine r_m 2 ?_
 refine a_z ?_
 refine GWp.cond rfl (fun h => ?_) (fun h => ?_)
 ·refine GWp.skip ?_
  have hm1 : 1 ≤ m := by have := of_decide_eq_true h; omega
  have hx' : (pE l)[((m : Int) - 1).toNat]? = some (qC (coP l (m - 1))) := by rw [show ((m : Int) - 1).toNat = m - 1 by omega]; exact cj_ (bn_ (by omega))
  refine GWp.seq ?_
  refine GWp.block ?_
  refine GWp.seq ?_
  refine GWp.regY (fr2 := [(0, .v (.func (.yield ll) #[] #[])), (1, bP l), (3, i64 ((m : Int) - 1)), (11, .v (.func (.yield ll) #[] #[])), (12, i64 ((m : Int) - 1)), (16, .agg (qC (coP l (m - 1))))]) (hp2 := []) (nx2 := 1) 6 rfl rfl rfl rfl rfl rfl ?_ rfl rfl rfl ?_ ?_ ?_
  ·refine o_0 (.move rfl) ?_
   refine o_0 (.move rfl) ?_
   first | refine aG_ (.load_l1 rfl rfl rfl tg_25.h rfl) rfl rfl ?_ | refine aG_ (.load_a1 rfl rfl tg_25.h rfl) rfl rfl ?_
   refine o_0 (.move rfl) ?_
   refine i_x hx' ?_
   refine l_x hx' ?_
   refine aj_ ?_
   refine SEntT.to [] rfl rfl rfl au_r (fun hs => au_f) (fun hs => au_h)
  rotate_left 2
  intro go
  refine o_0 (.un rfl kh_) ?_
  refine aj_ ?_
  rotate_left
  ·unfold backP
   rw [if_pos (by omega)]
   have e1 : ((l.length - 1 - (l.length - m) : Nat) : Int) = (m : Int) - 1 := by omega
   have e2 : l.length - 1 - (l.length - m) = m - 1 := by omega
   rw [e1, e2]
   rfl
  ·exact aa_ (ad_ _) (aa_ (ak_ _) ab_)
  cases go with
  | false =>
   refine GWp.cond rfl (fun h => ?_) (fun h => ?_)
   ·exact GWp.ret ⟨.inr rfl, fun h => by cases h⟩
   ·cases h
  | true =>
   refine GWp.cond rfl (fun h => ?_) (fun h => ?_)
   ·cases h
   ·refine GWp.skip ?_
    refine GWp.lift ?_
    refine r_m 3 ?_
    refine a_z ?_
    refine ⟨rfl, m - 1, by omega, by omega, by omega, ?_⟩
    exact s_e []
 ·refine GWp.exit ⟨.inl rfl, fun _ => ?_⟩
  have : m = 0 := by have := of_decide_eq_false h; omega
  subst this
  unfold backP
  rw [if_neg (by omega)]
theorem fR_ (l : List Rat) : FSpec Tryz.prog 211 [.arr (pE l)] (.clos 257 [] [bP l]) := by
 refine f_n Tryz.func211 ?_ ?_
 ·exact aa_ (am_ l) ab_
 refine r_z 2 ?_
 refine r_z 2 ?_
 refine ae_ (⟨.inr rfl, [_], ⟨_, [], rfl, rfl, rfl⟩, ?_⟩)
 exact Cv.clos ap_ (ai_ (Cv.boxp at_ rfl (fun _ _ h => by cases h) rfl (aa_ (am_ l) ab_)) ap_)
def hoS (p : List Rat) (g : Nat) (cap : List AV) (w : Nat → Rat) : Nat → AState
 | k => ⟨[(4, .lptr 1 0 0), (5, .aptr [[.clos g [] cap]] 0 0), (6, .lptr 2 0 0), (10, .clos 257 [] [bP p])], [(1, some ⟨37, 3, [qC (w k)]⟩), (2, some ⟨37, 3, [zC]⟩)], 3, 18⟩
theorem hoS_mk (p : List Rat) (g : Nat) (cap : List AV) (w : Nat → Rat) (k : Nat) : hoS p g cap w k = ⟨[(4, .lptr 1 0 0), (5, .aptr [[.clos g [] cap]] 0 0), (6, .lptr 2 0 0), (10, .clos 257 [] [bP p])], [(1, some ⟨37, 3, [qC (w k)]⟩), (2, some ⟨37, 3, [zC]⟩)], 3, 18⟩ := rfl
theorem nY_ (p : List Rat) (g : Nat) (cap : List AV) (w : Nat → Rat) (hl : p.length ≤ 281474976710656) (hcap : ∀ c ∈ cap, Closed c) (hg : ∀ k, k < p.length → FSpec Tryz.prog g ((.agg (qC (w k)) :: .agg (qC (coP p (p.length - 1 - k))) :: cap).map coe) (.agg (qC (w (k + 1))))) : FSpec Tryz.prog 139 [.arr (pE p), .agg (qC (w 0)), .clos g [] cap] (.agg (qC (w p.length))) := by
 have hb := fR_ p
 have hgs := fN_ p hl
 have hcc : Closed (.clos g [] cap) := aJ_ ab_ hcap
 have hcc2 : Closed (.aptr [[.clos g [] cap]] 0 0) := aP_ (aa_ hcc ab_)
 have hcl2 : Closed (.clos 257 [] [bP p]) := aJ_ ab_ (aa_ (ba_ p) ab_)
 refine f_n Tryz.func139 ?_ ?_
 ·exact aa_ (am_ p) (aa_ (ak_ _) (aa_ hcc ab_))
 refine r_z 3 ?_
 refine AWp.ent (st' := ⟨[(0, .arr (pE p)), (4, .lptr 1 0 0), (5, .aptr [[.clos g [] cap]] 0 0), (6, .lptr 2 0 0)], [(1, some ⟨37, 3, [qC (w 0)]⟩), (2, some ⟨37, 3, [zC]⟩)], 3, 18⟩) ?_ ?_
 ·have := aa_ hcc ab_
  exact s_f [(1, 4), (2, 6)]
 refine ac_ (r_c 2 (hb) ?_)
 refine aj_ ?_
 refine au_ (fun _ : Unit => ⟨[(4, .lptr 1 0 0), (6, .lptr 2 0 0)], [(1, some ⟨37, 3, [qC (w p.length)]⟩), (2, some ⟨37, 3, [zC]⟩)], 3, 18⟩) (fun _ => True) ?_ ?_
 ·refine ah_ (AWp.rangeFunc (α := Nat) (γ := Empty) p.length (hoS p g cap w) (fun k => k) (fun k => k ≤ p.length) (fun e => nomatch e) (fun _ e => nomatch e) 0 rfl hgs rfl rfl ?_ (fun _ => ⟨rfl, rfl⟩) (fun e => nomatch e) (Nat.zero_le _) rfl (fun _ h => h) ?_ ?_ ?_ ?_ (fun _ e => nomatch e))
  ·intro k xs hT
   unfold backP at hT
   split at hT
   ·cases hT; rfl
   ·cases hT
  ·rw [hoS_mk]
   refine SEntT.to [] rfl rfl rfl au_r (fun hs => au_f) (fun hs => au_h)
  ·exact aa_ (ba_ p) ab_
  ·intro l k xs hk hT
   unfold backP at hT
   split at hT
   rotate_left
   ·cases hT
   rename_i hlt
   cases hT
   show AWp _ _ _ _ ⟨[(12, .agg (qC (coP p (p.length - 1 - k)))), (11, i64 (p.length - 1 - k : Nat)), (4, .lptr 1 0 0), (5, .aptr [[.clos g [] cap]] 0 0), (6, .lptr 2 0 0), (10, .clos 257 [] [bP p]), (1004, .lptr 1 0 0), (1005, .aptr [[.clos g [] cap]] 0 0), (1006, .lptr 2 0 0), (1010, .clos 257 [] [bP p])], [(1, some ⟨37, 3, [qC (w k)]⟩), (2, some ⟨37, 3, [zC]⟩)], 3, 18⟩
   refine r_m 2 ?_
   refine a_z ?_
   refine ah_ (r_m 5 ?_)
   refine c_s (hg k hlt) ?_
   refine a_z ?_
   refine ⟨k + 1, ⟨hlt, rfl⟩, ?_⟩
   show SEntT _ ⟨[(1004, .lptr 1 0 0), (1005, .aptr [[.clos g [] cap]] 0 0), (1006, .lptr 2 0 0), (1010, .clos 257 [] [bP p])], [(1, some ⟨37, 3, [qC (w (k + 1))]⟩), (2, some ⟨37, 3, [zC]⟩)], 3, 18⟩
   refine SEntT.to [] rfl rfl rfl au_r (fun hs => au_f) (fun hs => au_h)
  ·intro k hk hT
   unfold backP at hT
   split at hT
   ·cases hT
   refine ⟨(), trivial, ?_⟩
   rw [hoS_mk]
   have h1 : k = p.length := by omega
   subst h1
   exact s_e []
 rintro _ _
 refine r_z 2 ?_
 exact ae_ (c_e (ak_ _))
theorem fs_Eval1 (v c x : Rat) (h1 : qs v + qs x ≤ 549755813888) (h2 : qs (v * x) + qs c ≤ 549755813888) : FSpec Tryz.prog 140 [.agg (qC v), .agg (qC c), bQ x] (.agg (qC (v * x + c))) := by
 refine f_n Tryz.func140 ?_ ?_
 ·exact aa_ (ak_ v) (aa_ (ak_ c) (aa_ (cA_ x) ab_))
 refine r_z 3 ?_
 refine ac_ (r_d hmix 6 ?_)
 refine c_s (cf_ v x h1) ?_
 refine c_s (ep_ (v * x) c h2) ?_
 refine a_1 ?_
 refine aj_ (n_k ?_)
 exact ae_ (c_e (ak_ _))
theorem hO_ (p : List Rat) (x : Rat) (h : em_ p x) : FSpec Tryz.prog 59 [.arr (pE p), .agg (qC x)] (.agg (qC (evalP p x))) := by
 have hw : ∀ k, k < p.length → FSpec Tryz.prog 140 [.agg (qC (evalP (p.drop (p.length - k)) x)), .agg (qC (coP p (p.length - 1 - k))), bQ x] (.agg (qC (evalP (p.drop (p.length - (k + 1))) x))) := fun k hk => by
  have := n4_ h k hk
  rw [k9_ hk]
  exact fs_Eval1 _ _ _ this.1 this.2
 have hh := nY_ p 140 [bQ x] (fun k => evalP (p.drop (p.length - k)) x) (by have := h.2; omega) (aa_ (cA_ x) ab_) hw
 simp only [Nat.sub_zero, Nat.sub_self, List.drop_zero, List.drop_length] at hh
 rw [show evalP [] x = 0 from rfl, qC0] at hh
 refine f_n Tryz.func59 ?_ ?_
 ·exact aa_ (am_ p) (aa_ (ak_ x) ab_)
 refine r_z 2 ?_
 refine AWp.ent (st' := ⟨[(0, .arr (pE p)), (3, bQ x), (4, .lptr 1 0 0)], [(1, some ⟨37, 3, [zC]⟩)], 2, 9⟩) ?_ ?_
 ·exact s_e [(1, 4)]
 refine r_c 5 (hh) ?_
 refine a_z ?_
 exact ae_ (c_e (ak_ _))
def hsS (p : List Rat) (g : Nat) (cap : List AV) (w : Nat → Rat × Rat) : Nat → AState
 | k => ⟨[(4, .lptr 1 0 0), (5, .aptr [[.clos g [] cap]] 0 0), (6, .lptr 2 0 0), (10, .clos 257 [] [bP p])], [(1, some ⟨65, 6, [spC (w k).1 (w k).2]⟩), (2, some ⟨65, 6, [zC ++ zC]⟩)], 3, 18⟩
theorem hsS_mk (p : List Rat) (g : Nat) (cap : List AV) (w : Nat → Rat × Rat) (k : Nat) : hsS p g cap w k = ⟨[(4, .lptr 1 0 0), (5, .aptr [[.clos g [] cap]] 0 0), (6, .lptr 2 0 0), (10, .clos 257 [] [bP p])], [(1, some ⟨65, 6, [spC (w k).1 (w k).2]⟩), (2, some ⟨65, 6, [zC ++ zC]⟩)], 3, 18⟩ := rfl
theorem nX_ (p : List Rat) (g : Nat) (cap : List AV) (w : Nat → Rat × Rat) (hl : p.length ≤ 281474976710656) (hcap : ∀ c ∈ cap, Closed c) (hg : ∀ k, k < p.length → FSpec Tryz.prog g ((.agg (spC (w k).1 (w k).2) :: .agg (qC (coP p (p.length - 1 - k))) :: cap).map coe) (.agg (spC (w (k + 1)).1 (w (k + 1)).2))) : FSpec Tryz.prog 245 [.arr (pE p), .agg (spC (w 0).1 (w 0).2), .clos g [] cap] (.agg (spC (w p.length).1 (w p.length).2)) := by
 have hb := fR_ p
 have hgs := fN_ p hl
 have hcc : Closed (.clos g [] cap) := aJ_ ab_ hcap
 have hcc2 : Closed (.aptr [[.clos g [] cap]] 0 0) := aP_ (aa_ hcc ab_)
 have hcl2 : Closed (.clos 257 [] [bP p]) := aJ_ ab_ (aa_ (ba_ p) ab_)
 refine f_n Tryz.func245 ?_ ?_
 ·exact aa_ (am_ p) (aa_ (aA_ _ _) (aa_ hcc ab_))
 refine r_z 3 ?_
 refine AWp.ent (st' := ⟨[(0, .arr (pE p)), (4, .lptr 1 0 0), (5, .aptr [[.clos g [] cap]] 0 0), (6, .lptr 2 0 0)], [(1, some ⟨65, 6, [spC (w 0).1 (w 0).2]⟩), (2, some ⟨65, 6, [zC ++ zC]⟩)], 3, 18⟩) ?_ ?_
 ·have := aa_ hcc ab_
  exact s_f [(1, 4), (2, 6)]
 refine ac_ (r_c 2 (hb) ?_)
 refine aj_ ?_
 refine au_ (fun _ : Unit => ⟨[(4, .lptr 1 0 0), (6, .lptr 2 0 0)], [(1, some ⟨65, 6, [spC (w p.length).1 (w p.length).2]⟩), (2, some ⟨65, 6, [zC ++ zC]⟩)], 3, 18⟩) (fun _ => True) ?_ ?_
 ·refine ah_ (AWp.rangeFunc (α := Nat) (γ := Empty) p.length (hsS p g cap w) (fun k => k) (fun k => k ≤ p.length) (fun e => nomatch e) (fun _ e => nomatch e) 0 rfl hgs rfl rfl ?_ (fun _ => ⟨rfl, rfl⟩) (fun e => nomatch e) (Nat.zero_le _) rfl (fun _ h => h) ?_ ?_ ?_ ?_ (fun _ e => nomatch e))
  ·intro k xs hT
   unfold backP at hT
   split at hT
   ·cases hT; rfl
   ·cases hT
  ·rw [hsS_mk]
   refine SEntT.to [] rfl rfl rfl au_r (fun hs => au_f) (fun hs => au_h)
  ·exact aa_ (ba_ p) ab_
  ·intro l k xs hk hT
   unfold backP at hT
   split at hT
   rotate_left
   ·cases hT
   rename_i hlt
   cases hT
   show AWp _ _ _ _ ⟨[(12, .agg (qC (coP p (p.length - 1 - k)))), (11, i64 (p.length - 1 - k : Nat)), (4, .lptr 1 0 0), (5, .aptr [[.clos g [] cap]] 0 0), (6, .lptr 2 0 0), (10, .clos 257 [] [bP p]), (1004, .lptr 1 0 0), (1005, .aptr [[.clos g [] cap]] 0 0), (1006, .lptr 2 0 0), (1010, .clos 257 [] [bP p])], [(1, some ⟨65, 6, [spC (w k).1 (w k).2]⟩), (2, some ⟨65, 6, [zC ++ zC]⟩)], 3, 18⟩
   refine r_m 2 ?_
   refine a_z ?_
   refine ah_ (r_m 5 ?_)
   refine c_s (hg k hlt) ?_
   refine a_z ?_
   refine ⟨k + 1, ⟨hlt, rfl⟩, ?_⟩
   show SEntT _ ⟨[(1004, .lptr 1 0 0), (1005, .aptr [[.clos g [] cap]] 0 0), (1006, .lptr 2 0 0), (1010, .clos 257 [] [bP p])], [(1, some ⟨65, 6, [spC (w (k + 1)).1 (w (k + 1)).2]⟩), (2, some ⟨65, 6, [zC ++ zC]⟩)], 3, 18⟩
   refine SEntT.to [] rfl rfl rfl au_r (fun hs => au_f) (fun hs => au_h)
  ·intro k hk hT
   unfold backP at hT
   split at hT
   ·cases hT
   refine ⟨(), trivial, ?_⟩
   rw [hsS_mk]
   have h1 : k = p.length := by omega
   subst h1
   exact s_e []
 rintro _ _
 refine r_z 2 ?_
 exact ae_ (c_e (aA_ _ _))
abbrev bS (s : Sp) : AV := .aptr [spC s.1 s.2] 0 0
theorem fY_ (s : Sp) : Closed (bS s) := aP_ (gm_ _ _)
theorem spMul_sm {a b : Sp} (h : smL (prods a b)) : smS (spMul a b) := ⟨gn_ h, gn_ h⟩
theorem fs_Over1 (v s : Sp) (c : Rat) (hv : smS v) (hs : smS s) (hc : sm c) (hp : smL (prods v s)) : FSpec Tryz.prog 246 [.agg (spC v.1 v.2), .agg (qC c), bS s] (.agg (spC (spAdd (spMul v s) (c, c)).1 (spAdd (spMul v s) (c, c)).2)) := by
 have hm := spMul_sm hp
 refine f_n Tryz.func246 ?_ ?_
 ·exact aa_ (aA_ _ _) (aa_ (ak_ c) (aa_ (fY_ s) ab_))
 refine r_z 3 ?_
 refine ac_ (r_d hmix 7 ?_)
 refine c_s (fs_SMul v.1 v.2 s.1 s.2 hv.1 hv.2 hs.1 hs.2 hp) ?_
 refine c_s (fs_At c) ?_
 refine c_s (fs_SAdd (spMul v s).1 (spMul v s).2 c c hm.1 hm.2 hc hc) ?_
 refine a_1 ?_
 refine aj_ (n_k ?_)
 exact ae_ (c_e (aA_ _ _))
theorem fs_Over (p : List Rat) (s : Sp) (h : mM_ p s) : FSpec Tryz.prog 189 [.arr (pE p), .agg (spC s.1 s.2)] (.agg (spC (overP p s).1 (overP p s).2)) := by
 obtain ⟨hsm, hs, hl, hov⟩ := h
 have htl := aU_ p
 refine f_n Tryz.func189 ?_ ?_
 ·exact aa_ (am_ p) (aa_ (aA_ _ _) ab_)
 refine r_z 2 ?_
 refine AWp.ent (st' := ⟨[(0, .arr (pE p)), (3, bS s), (4, .lptr 1 0 0)], [(1, some ⟨65, 6, [zC ++ zC]⟩)], 2, 30⟩) ?_ ?_
 ·exact s_e [(1, 4)]
 refine r_c 3 (cl_ p (by omega)) ?_
 refine a_z ?_
 refine aO_ (fun _ : Unit => ⟨[(0, .arr (pE (trimQ p))), (3, bS s), (4, .lptr 1 0 0)], [(1, some ⟨65, 6, [zC ++ zC]⟩)], 2, 30⟩) (fun _ => cmpQ s.1 s.2 ≤ 0 ∧ trimQ p ≠ []) ?_ ?_
 ·by_cases hv : cmpQ s.1 s.2 ≤ 0
  ·refine r_c 8 (cy_ s.1 s.2 hs.1 hs.2) ?_
   refine a_2 ?_
   refine y_g rfl (by simp [hv]) (.move rfl) ?_
   first | refine y_g rfl (by simp [hv]) (.lenD rfl rfl rfl rfl te_25.h) ?_ | refine y_g rfl (by simp [hv]) (.lenI rfl rfl rfl rfl te_25.h) ?_ | refine y_g rfl (by simp [hv]) (.lenP rfl rfl rfl rfl te_25.h) ?_ | refine y_g rfl (by simp [hv]) (.lenC rfl rfl rfl rfl te_25.h) ?_ | refine y_g rfl (by simp [hv]) (.lenR rfl rfl rfl rfl te_25.h) ?_ | refine y_g rfl (by simp [hv]) (.len rfl rfl rfl rfl rfl te_25.h) ?_
   refine y_g rfl (by simp [hv]) (.bin rfl rfl a2_) ?_
   refine o_0 (.pickF rfl (by simp [hv]) rfl) ?_
   refine aj_ ?_
   refine af_ rfl (fun h1 => ?_) (fun h1 => ?_)
   ·have h0 : trimQ p = [] := by
     have : (trimQ p).length = 0 := by simpa using h1
     exact List.length_eq_zero_iff.1 this
    have hr : overP p s = (0, 0) := by unfold overP; rw [if_pos (.inr h0)]
    rw [hr]
    refine r_z 2 ?_
    refine ae_ (Fin.cell rfl rfl rfl tg_65.h ts_65.h (nle rfl) (Cv.agg ?_))
    show CvL _ _ _ _ (qC 0 ++ qC 0)
    rw [qC0]
    exact ai_ (Cv.emp _) (ai_ (ar_ at_ (ad_ _)) (ai_ (Cv.emp _) (ai_ (Cv.emp _) (ai_ (ar_ at_ (ad_ _)) (ai_ (Cv.emp _) ap_)))))
   ·have h0 : trimQ p ≠ [] := by
     have : ¬ (trimQ p).length = 0 := by simpa using h1
     exact fun e => this (by rw [e]; rfl)
    refine ag_ ⟨(), ⟨hv, h0⟩, ?_⟩
    exact s_e []
  ·refine r_c 8 (cy_ s.1 s.2 hs.1 hs.2) ?_
   refine a_2 ?_
   refine n_g rfl (by simp [hv]) ?_
   refine n_g rfl (by simp [hv]) ?_
   refine n_g rfl (by simp [hv]) ?_
   refine o_0 (.pickT rfl (by simp [hv]) rfl) ?_
   refine aj_ ?_
   refine af_ rfl (fun h1 => ?_) (fun h1 => ?_)
   ·have hr : overP p s = (0, 0) := by unfold overP; rw [if_pos (.inl hv)]
    rw [hr]
    refine r_z 2 ?_
    refine ae_ (Fin.cell rfl rfl rfl tg_65.h ts_65.h (nle rfl) (Cv.agg ?_))
    show CvL _ _ _ _ (qC 0 ++ qC 0)
    rw [qC0]
    exact ai_ (Cv.emp _) (ai_ (ar_ at_ (ad_ _)) (ai_ (Cv.emp _) (ai_ (Cv.emp _) (ai_ (ar_ at_ (ad_ _)) (ai_ (Cv.emp _) ap_)))))
   ·cases h1
 rintro _ ⟨hv, h0⟩
 have hpl := List.length_pos_iff.2 h0
 have hr : overP p s = ovP (leadP p, leadP p) s ((trimQ p).take ((trimQ p).length - 1)) := by
  unfold overP; rw [if_neg (by rintro (e | e); exact e hv; exact h0 e)]
 obtain ⟨l, hll⟩ : ∃ l, l = (trimQ p).take ((trimQ p).length - 1) := ⟨_, rfl⟩
 rw [← hll] at hov hr
 rw [hr]
 have hlen : l.length = (trimQ p).length - 1 := by rw [hll]; simp
 have hsml : ∀ q ∈ l, sm q := fun q hq => hsm q (be_ (List.mem_of_mem_take (by rw [← hll]; exact hq)))
 have hw : ∀ k, k < l.length → FSpec Tryz.prog 246 [.agg (spC (ovP (leadP p, leadP p) s (l.drop (l.length - k))).1 (ovP (leadP p, leadP p) s (l.drop (l.length - k))).2), .agg (qC (coP l (l.length - 1 - k))), bS s] (.agg (spC (ovP (leadP p, leadP p) s (l.drop (l.length - (k + 1)))).1 (ovP (leadP p, leadP p) s (l.drop (l.length - (k + 1)))).2)) := fun k hk => by
  have h1 := kK_ (l.length - (k + 1)) hov
  rw [k9_ hk] at h1 ⊢
  exact fs_Over1 _ s _ (okOv_sm h1.1) hs h1.2.2.1 h1.2.1
 have hh := nX_ l 246 [bS s] (fun k => ovP (leadP p, leadP p) s (l.drop (l.length - k))) (by omega) (aa_ (fY_ s) ab_) hw
 simp only [Nat.sub_zero, Nat.sub_self, List.drop_zero, List.drop_length] at hh
 have hg : (pE (trimQ p))[(((trimQ p).length : Int) - 1).toNat]? = some (qC (leadP p)) := by
  rw [show (((trimQ p).length : Int) - 1).toNat = (trimQ p).length - 1 by omega]; exact cj_ (bm_ (by omega))
 refine r_z 4 ?_
 refine ac_ (r_d hmix 11 ?_)
 refine a_2 ?_
 refine o_0 (.sa_h rfl rfl (h := (trimQ p).length - 1) (by omega) (by simp) te_25.h (f9_ _)) ?_
 refine a_2 ?_
 refine i_x hg ?_
 refine l_x hg ?_
 refine c_s (fs_At (leadP p)) ?_
 refine o_0 (.makeFunc rfl rfl) ?_
 refine o_0 (.call rfl rfl rfl ((by rw [js_, ← hll]; exact hh))) ?_
 refine o_1n (.store rfl rfl rfl rfl rfl rfl ts_65.h (nle rfl)) ?_
 refine aj_ (n_k ?_)
 exact ae_ (c_e (aA_ _ _))

def coS  : Nat × Nat → AState
 | (a, b) => ⟨[(2, .lptr 1 0 0), (3, .lptr 2 0 0), (4, .lptr 3 0 0)], [(1, some ⟨37, 3, [qC (nQ a)]⟩), (2, some ⟨37, 3, [qC (nQ b)]⟩), (3, some ⟨37, 3, [zC]⟩)], 4, 18⟩
theorem lh_  (a : Nat) (b : Nat) : coS  (a, b) = ⟨[(2, .lptr 1 0 0), (3, .lptr 2 0 0), (4, .lptr 3 0 0)], [(1, some ⟨37, 3, [qC (nQ a)]⟩), (2, some ⟨37, 3, [qC (nQ b)]⟩), (3, some ⟨37, 3, [zC]⟩)], 4, 18⟩ := rfl
theorem iI_ (a b : Nat) (ha : bl a ≤ 68719476736) (hb : bl b ≤ 68719476736) : FSpec Tryz.prog 220 [.agg (qC (nQ a)), .agg (qC (nQ b))] (.agg (qC (nQ (Nat.gcd a b)))) := by
 refine f_n Tryz.func220 ?_ ?_
 ·exact aa_ (ak_ _) (aa_ (ak_ _) ab_)
 refine r_z 3 ?_
 refine aO_ (fun _ : Unit => coS (Nat.gcd a b, 0)) (fun _ => True) ?_ ?_
 ·refine ah_ (ao_ coS (fun x => x.2) (fun x => Nat.gcd x.1 x.2 = Nat.gcd a b ∧ bl x.1 ≤ 68719476736 ∧ bl x.2 ≤ 68719476736) (a, b) ⟨rfl, ha, hb⟩ ?_ ?_)
  ·simp only [lh_]
   exact s_e []
  rintro ⟨u, v⟩ ⟨hg, hu, hv⟩
  simp only at hg hu hv
  rw [lh_]
  refine ac_ (r_c 3 (cc_ (nQ v)) ?_)
  refine a_z ?_
  refine af_ rfl (fun h => ?_) (fun h => ?_)
  ·have hv0 : v ≠ 0 := by
    intro e
    subst e
    exact absurd h (by decide)
   refine ag_ ?_
   have h1 := qs_nQ (n := u) hu (by decide)
   have h2 := qs_nQ (n := v) hv (by decide)
   have hq := ek_ (nQ u) (nQ v)
   have hov := dk_ (nQ u) (nQ v) (fun e => hv0 (nQ_zero.1 e)) (by omega)
   have hfl := gX_ (nQ u / nQ v) (by omega)
   rw [mQ_ u v hv0, lP_ u v hv0] at hfl
   rw [mQ_ u v hv0] at hov
   have h3 := qs_nQ (n := u / v) (k := 68719476736) (Nat.le_trans (cp_ u v) hu) (by decide)
   have hmu := cf_ (nQ v) (nQ (u / v)) (by omega)
   rw [mP_] at hmu
   have hle : v * (u / v) ≤ u := Nat.mul_div_le u v
   have h4 := qs_nQ (n := v * (u / v)) (k := 68719476736) (Nat.le_trans (bG_ hle) hu) (by decide)
   have hsu := kQ_ (nQ u) (nQ (v * (u / v))) (by omega)
   rw [nQ_sub hle, show u - v * (u / v) = u % v by have := Nat.div_add_mod u v; omega] at hsu
   refine ah_ (r_d hmix 11 ?_)
   refine c_s (hov) ?_
   refine c_s (hfl) ?_
   refine c_s (hmu) ?_
   refine c_s (hsu) ?_
   refine a_2 ?_
   refine aj_ (n_k ?_)
   refine ⟨(v, u % v), Nat.mod_lt _ (by omega), ⟨?_, hv, Nat.le_trans (bG_ (Nat.mod_le u v)) hu⟩, ?_⟩
   ·rw [← hg]; show Nat.gcd v (u % v) = Nat.gcd u v
    rw [Nat.gcd_comm v, Nat.gcd_comm u v, ← Nat.gcd_rec]
   ·simp only [lh_]
    exact s_e []
  ·have hv0 : v = 0 := by
    have h1 : sgZ (nQ v).num = 0 := by simpa using h
    exact nQ_zero.1 (sgZ_num_eq.1 h1)
   subst hv0
   rw [Nat.gcd_zero_right] at hg
   refine al_ ⟨(), trivial, ?_⟩
   rw [← hg]
   simp only [lh_]
   exact s_e []
 rintro _ _
 simp only [lh_]
 refine r_z 2 ?_
 exact ae_ (c_e (ak_ _))
def prS (t : List Rat) : Nat × Nat → AState
 | (i, d) => ⟨[(0, .arr (pE t)), (3, .lptr 1 0 0), (4, .lptr 2 0 0), (13, .arr (pE t)), (14, i64 t.length), (15, i64 i)], [(1, some ⟨37, 3, [qC (nQ d)]⟩), (2, some ⟨37, 3, [qC 0]⟩)], 3, 47⟩
theorem o2_ (t : List Rat) (i : Nat) (d : Nat) : prS t (i, d) = ⟨[(0, .arr (pE t)), (3, .lptr 1 0 0), (4, .lptr 2 0 0), (13, .arr (pE t)), (14, i64 t.length), (15, i64 i)], [(1, some ⟨37, 3, [qC (nQ d)]⟩), (2, some ⟨37, 3, [qC 0]⟩)], 3, 47⟩ := rfl
def prT (t : List Rat) (D : Nat) : Nat × Nat → AState
 | (i, n) => ⟨[(0, .arr (pE t)), (3, .lptr 1 0 0), (4, .lptr 2 0 0), (29, .arr (pE t)), (30, i64 t.length), (31, i64 i)], [(1, some ⟨37, 3, [qC (nQ D)]⟩), (2, some ⟨37, 3, [qC (nQ n)]⟩)], 3, 47⟩
theorem o1_ (t : List Rat) (D : Nat) (i : Nat) (n : Nat) : prT t D (i, n) = ⟨[(0, .arr (pE t)), (3, .lptr 1 0 0), (4, .lptr 2 0 0), (29, .arr (pE t)), (30, i64 t.length), (31, i64 i)], [(1, some ⟨37, 3, [qC (nQ D)]⟩), (2, some ⟨37, 3, [qC (nQ n)]⟩)], 3, 47⟩ := rfl
theorem gi_ {l : List Rat} {i : Nat} (h : i < l.length) : l.drop i = coP l i :: l.drop (i + 1) := by
 rw [List.drop_eq_getElem_cons h]
 congr 1
 have := bn_ h
 rw [List.getElem?_eq_getElem h] at this
 exact Option.some.inj this
theorem qr_ (a b : Nat) : bl (Nat.gcd a b) ≤ max (bl a) (bl b) := by
 rcases Nat.eq_zero_or_pos a with h | h
 ·subst h; rw [Nat.gcd_zero_left]; exact Nat.le_max_right _ _
 ·exact Nat.le_trans (bG_ (Nat.gcd_le_left b h)) (Nat.le_max_left _ _)
theorem gy_ (p : List Rat) (h : kJ_ p) (h0 : trimQ p ≠ []) : FSpec Tryz.prog 159 [.arr (pE p)] (.arr (pE (primP p))) := by
 obtain ⟨t, ht⟩ : ∃ t, t = trimQ p := ⟨_, rfl⟩
 obtain ⟨s, hs⟩ : ∃ s, s = mxL p := ⟨_, rfl⟩
 have hs1 : 1 ≤ s := by rw [hs]; exact cb_ p
 have hbt : bdL t s := fun q hq => by rw [hs]; exact cv_ p q (be_ (by rw [← ht]; exact hq))
 have htl : t.length ≤ p.length := by rw [ht]; exact aU_ p
 obtain ⟨hsz, hpl⟩ := h
 rw [← hs] at hsz
 have hts : t.length * s ≤ p.length * s := Nat.mul_le_mul_right _ htl
 rw [Nat.add_mul] at hsz
 obtain ⟨D, hD⟩ : ∃ D, D = denL t 1 := ⟨_, rfl⟩
 have hD0 : D ≠ 0 := by rw [hD]; exact gj_ t (by decide)
 have hDb : bl D ≤ 1 + t.length * s := by rw [hD]; exact ma_ t 1 hbt
 have hDd : ∀ c ∈ t, c.den ∣ D := by rw [hD]; exact (dM_ t 1).2
 obtain ⟨N, hN⟩ : ∃ N, N = numL D t 0 := ⟨_, rfl⟩
 have hlast : leadP p ∈ t := by
  rw [ht]
  obtain ⟨n, hn⟩ : ∃ n, (trimQ p).length = n + 1 := ⟨(trimQ p).length - 1, by have := List.length_pos_iff.2 h0; omega⟩
  exact List.mem_of_getElem? (bm_ hn)
 have hNd := (fF_ D t 0).2 (leadP p) hlast
 rw [← hN] at hNd
 have hi0 := jD_ (hDd _ hlast) hD0 (bp_ h0)
 have hN0 : N ≠ 0 := fun e => hi0 (by rw [e] at hNd; exact Nat.zero_dvd.1 hNd)
 have hNb : bl N ≤ s + bl D := Nat.le_trans (bG_ (Nat.le_of_dvd (by omega) hNd)) (Nat.le_trans (lS_ _ _) (by have := hbt _ hlast; omega))
 have hpr : primP p = aI_ t (nQ D / nQ N) := by unfold primP; rw [← ht, ← hD, ← hN]
 rw [hpr]
 have hgt : ∀ i, i < t.length → (pE t)[((i : Nat) : Int).toNat]? = some (qC (coP t i)) := fun i hi => cj_ (bn_ hi)
 have hmem : ∀ i, i < t.length → coP t i ∈ t := fun i hi => List.mem_of_getElem? (bn_ hi)
 have htr := cl_ p (by omega)
 rw [← ht] at htr
 refine f_n Tryz.func159 ?_ ?_
 ·exact aa_ (am_ p) ab_
 refine r_z 1 ?_
 refine r_c 3 (htr) ?_
 refine a_z ?_
 refine r_c 6 (cu_ 1 (by decide)) ?_
 refine a_z ?_
 refine ac_ (r_z 3 ?_)
 refine au_ (fun _ : Unit => ⟨[(0, .arr (pE t)), (3, .lptr 1 0 0), (4, .lptr 2 0 0)], [(1, some ⟨37, 3, [qC (nQ D)]⟩), (2, some ⟨37, 3, [qC 0]⟩)], 3, 47⟩) (fun _ => True) ?_ ?_
 ·refine ah_ (ao_ (prS t) (fun x => t.length - x.1) (fun x => x.1 ≤ t.length ∧ x.2 ≠ 0 ∧ denL (t.drop x.1) x.2 = D) (0, 1) ⟨Nat.zero_le _, by decide, by rw [hD]; rfl⟩ ?_ ?_)
  ·simp only [o2_]
   rw [qC0]
   exact s_e [(1, 3), (2, 4)]
  rintro ⟨i, d⟩ ⟨hi, hd0, hd⟩
  simp only at hi hd0 hd
  rw [o2_]
  refine r_z 1 ?_
  refine ac_ (af_ rfl (fun h => ?_) (fun h => ?_))
  ·refine ag_ ?_
   have hlt : i < t.length := by simpa using h
   have hc := hbt _ (hmem i hlt)
   have hcd := bv_ (coP t i)
   have hcn := (coP t i).den_nz
   rw [gi_ hlt] at hd
   have hdD : d ∣ D := by rw [← hd]; exact (dM_ _ d).1
   have hdb := bG_ (Nat.le_of_dvd (by omega) hdD)
   have hq1 := qs_nQ (n := d) (k := 34359738368) (by omega) (by decide)
   have hq2 := qs_nQ (n := (coP t i).den) (k := 34359738368) (by omega) (by decide)
   have hmu := cf_ (nQ d) (nQ (coP t i).den) (by omega)
   have hco := iI_ d (coP t i).den (by omega) (by omega)
   have hg0 : Nat.gcd d (coP t i).den ≠ 0 := by have := Nat.gcd_pos_of_pos_left (coP t i).den (Nat.pos_of_ne_zero hd0); omega
   have hgb := qr_ d (coP t i).den
   have hq3 := qs_nQ (n := Nat.gcd d (coP t i).den) (k := 34359738368) (by omega) (by decide)
   have hq4 := c4_ (nQ d) (nQ (coP t i).den)
   rw [mP_] at hq4 hmu
   have hov := dk_ (nQ (d * (coP t i).den)) (nQ (Nat.gcd d (coP t i).den)) (fun e => hg0 (nQ_zero.1 e)) (by omega)
   rw [mQ_ _ _ hg0, kL_ _ _ hg0 (Nat.dvd_mul_right_of_dvd (Nat.gcd_dvd_left _ _) _)] at hov
   refine ac_ (ah_ (s_r 4 ?_))
   first | refine aG_ (.index_l rfl rfl (by omega) (by omega) te_25.h) rfl rfl ?_ | refine aG_ (.index_a rfl rfl (by omega) (hgt i hlt) rfl te_25.h) rfl rfl ?_
   first | refine aG_ (.load_l rfl rfl (hgt i hlt) tg_37.h ts_37.h (nle rfl)) rfl rfl ?_ | refine aG_ (.load_a rfl (hgt i hlt) tg_37.h ts_37.h (nle rfl)) rfl rfl ?_
   refine a_z ?_
   refine r_d hmix 10 ?_
   refine c_s (fs_den (coP t i) (by unfold sm; omega)) ?_
   refine c_s (hmu) ?_
   refine c_s (fs_den (coP t i) (by unfold sm; omega)) ?_
   refine c_s (hco) ?_
   refine c_s (hov) ?_
   refine a_1 ?_
   refine aj_ (n_k ?_)
   refine r_m 2 ?_
   refine a_z ?_
   refine ⟨(i + 1, Nat.lcm d (coP t i).den), by simp only; omega, ⟨hlt, pi_ hd0 hcn, hd⟩, ?_⟩
   simp only [o2_]
   exact s_e []
  ·have hge : i = t.length := by
    have : ¬ i < t.length := by simpa using h
    omega
   subst hge
   rw [List.drop_length] at hd
   refine al_ ⟨(), trivial, ?_⟩
   rw [← hd]
   exact s_e []
 rintro _ _
 refine ac_ (r_z 3 ?_)
 refine au_ (fun _ : Unit => ⟨[(0, .arr (pE t)), (3, .lptr 1 0 0), (4, .lptr 2 0 0)], [(1, some ⟨37, 3, [qC (nQ D)]⟩), (2, some ⟨37, 3, [qC (nQ N)]⟩)], 3, 47⟩) (fun _ => True) ?_ ?_
 ·refine ah_ (ao_ (prT t D) (fun x => t.length - x.1) (fun x => x.1 ≤ t.length ∧ bl x.2 ≤ s + bl D ∧ numL D (t.drop x.1) x.2 = N) (0, 0) ⟨Nat.zero_le _, by rw [qp_]; exact Nat.zero_le _, by rw [hN]; rfl⟩ ?_ ?_)
  ·simp only [o1_]
   exact s_e []
  rintro ⟨i, n⟩ ⟨hi, hnb, hn⟩
  simp only at hi hnb hn
  rw [o1_]
  refine r_z 1 ?_
  refine ac_ (af_ rfl (fun h => ?_) (fun h => ?_))
  ·refine ag_ ?_
   have hlt : i < t.length := by simpa using h
   have hc := hbt _ (hmem i hlt)
   rw [gi_ hlt] at hn
   have hib := lS_ (coP t i) D
   have hgb := qr_ n (intC (coP t i) D)
   have hq1 := qs_nQ (n := D) (k := 34359738368) (by omega) (by decide)
   have hmu := cf_ (coP t i) (nQ D) (by omega)
   have hab := m4_ (coP t i * nQ D)
   rw [fG_ _ _ (hDd _ (hmem i hlt))] at hab
   have hco := iI_ n (intC (coP t i) D) (by omega) (by omega)
   refine ac_ (ah_ (s_r 4 ?_))
   first | refine aG_ (.index_l rfl rfl (by omega) (by omega) te_25.h) rfl rfl ?_ | refine aG_ (.index_a rfl rfl (by omega) (hgt i hlt) rfl te_25.h) rfl rfl ?_
   first | refine aG_ (.load_l rfl rfl (hgt i hlt) tg_37.h ts_37.h (nle rfl)) rfl rfl ?_ | refine aG_ (.load_a rfl (hgt i hlt) tg_37.h ts_37.h (nle rfl)) rfl rfl ?_
   refine a_z ?_
   refine r_d hmix 7 ?_
   refine c_s (hmu) ?_
   refine c_s (hab) ?_
   refine c_s (hco) ?_
   refine a_1 ?_
   refine aj_ (n_k ?_)
   refine r_m 2 ?_
   refine a_z ?_
   refine ⟨(i + 1, Nat.gcd n (intC (coP t i) D)), by simp only; omega, ⟨hlt, by simp only; omega, hn⟩, ?_⟩
   simp only [o1_]
   exact s_e []
  ·have hge : i = t.length := by
    have : ¬ i < t.length := by simpa using h
    omega
   subst hge
   rw [List.drop_length] at hn
   refine al_ ⟨(), trivial, ?_⟩
   rw [← hn]
   exact s_e []
 rintro _ _
 have hq1 := qs_nQ (n := D) (k := 34359738368) (by omega) (by decide)
 have hq2 := qs_nQ (n := N) (k := 34359738368) (by omega) (by decide)
 have hq3 := ek_ (nQ D) (nQ N)
 refine r_c 6 (dk_ (nQ D) (nQ N) (fun e => hN0 (nQ_zero.1 e)) (by omega)) ?_
 refine c_s (eX_ t (nQ D / nQ N) (gD_ hbt (by omega)) (by unfold sm; omega) (by omega)) ?_
 refine a_z ?_
 exact ae_ (t_e (am_ _))
theorem jF_ (f : Nat) (p r : List Rat) (h : sqfM f p = some r) : FSpec Tryz.prog 205 [.arr (pE p)] (.arr (pE r)) := by
 unfold sqfM at h
 split at h
 case isFalse => cases h
 case isTrue hs =>
 obtain ⟨g, hg, hr⟩ := Option.bind_eq_some_iff.1 h
 split at hr
 case isFalse => cases hr
 case isTrue hg2 =>
 cases hr
 have hdl := cX_ p
 have hdv := e1_ (p := p) (q := g)
 refine f_n Tryz.func205 ?_ ?_
 ·exact aa_ (am_ p) ab_
 refine r_z 1 ?_
 refine r_c 11 (hP_ p hs.1 (by omega)) ?_
 refine c_s (fs_Gcd f p (aB_ p) g hg hs.2 (by omega)) ?_
 refine c_s (eA_ p g (mxL p) (mxL g) (cv_ p) (cv_ g) (cb_ p) (cb_ g) hg2.2.1 hg2.1 hs.2 hg2.2.2.2) ?_
 refine a_z ?_
 refine r_c 3 (jK_ (divP p g).1 (l8_ hg2.2 hg2.1).1 (by omega)) ?_
 refine a_z ?_
 exact ae_ (t_e (am_ _))
theorem fP_ (p : List Rat) (hp : p.length ≤ 1099511627776) : FSpec Tryz.prog 151 [.arr (pE p)] (i64 (ce_ p)) := by
 refine f_n Tryz.func151 ?_ ?_
 ·exact aa_ (am_ p) ab_
 refine r_z 1 ?_
 refine ac_ (r_c 3 (br_ p hp) ?_)
 refine a_z ?_
 refine au_ (fun _ : Unit => ⟨[], [], 1, 12⟩) (fun _ => ce_ p = 0) ?_ ?_
 ·refine ah_ (r_z 3 ?_)
  refine af_ rfl (fun h => ?_) (fun h => ?_)
  ·have h1 : degP p < 0 := by simpa using h
   refine r_z 1 ?_
   refine ae_ (aD_ rfl ?_ ?_)
   ·unfold ce_; rw [if_pos h1]; rfl
   ·exact ad_ _
  ·have h1 : ¬ degP p < 0 := by simpa using h
   refine r_z 3 ?_
   refine af_ rfl (fun h2 => ?_) (fun h2 => ?_)
   ·have h3 : 40 < degP p := by simpa using h2
    refine r_z 1 ?_
    refine ae_ (aD_ rfl ?_ ?_)
    ·unfold ce_; rw [if_neg h1, if_pos h3]; rfl
    ·exact ad_ _
   ·have h3 : ¬ 40 < degP p := by simpa using h2
    refine ag_ ⟨(), by unfold ce_; rw [if_neg h1, if_neg h3], ?_⟩
    exact s_e []
 rintro _ hl
 refine r_z 1 ?_
 refine ae_ (aD_ rfl ?_ ?_)
 ·rw [hl]; rfl
 ·exact ad_ _
def boS (t : List Rat) (l : List Rat) : Nat × Rat → AState
 | (i, m) => ⟨[(0, .arr (pE t)), (2, .lptr 1 0 0), (3, .lptr 2 0 0), (13, .arr (pE l)), (14, i64 l.length), (15, i64 i)], [(1, some ⟨37, 3, [zC]⟩), (2, some ⟨37, 3, [qC m]⟩)], 3, 31⟩
theorem qo_ (t : List Rat) (l : List Rat) (i : Nat) (m : Rat) : boS t l (i, m) = ⟨[(0, .arr (pE t)), (2, .lptr 1 0 0), (3, .lptr 2 0 0), (13, .arr (pE l)), (14, i64 l.length), (15, i64 i)], [(1, some ⟨37, 3, [zC]⟩), (2, some ⟨37, 3, [qC m]⟩)], 3, 31⟩ := rfl
theorem m2_ (p : List Rat) (h : ju_ p) (h0 : trimQ p ≠ []) : FSpec Tryz.prog 221 [.arr (pE p)] (.agg (qC (bW_ p))) := by
 obtain ⟨hsz, hpl⟩ := h
 obtain ⟨t, ht⟩ : ∃ t, t = trimQ p := ⟨_, rfl⟩
 have htr := cl_ p (by omega)
 have htl := aU_ p
 rw [← ht] at htr htl
 obtain ⟨l, hl⟩ : ∃ l, l = t.take (t.length - 1) := ⟨_, rfl⟩
 have hll : l.length = t.length - 1 := by rw [hl]; simp
 have hbl : bdL l (mxL p) := fun q hq => cv_ p q (be_ (by rw [← ht]; exact List.mem_of_mem_take (by rw [← hl]; exact hq)))
 have hpos : 0 < t.length := by rw [ht]; exact List.length_pos_iff.2 h0
 have hlead : leadP t = leadP p := by rw [ht, gd_]
 have hlb : qs (leadP p) ≤ mxL p := by
  obtain ⟨n, hn⟩ : ∃ n, (trimQ p).length = n + 1 := ⟨(trimQ p).length - 1, by rw [← ht]; omega⟩
  exact cv_ p _ (be_ (List.mem_of_getElem? (bm_ hn)))
 have hb : bW_ p = boL (leadP p) l 0 + 1 := by unfold bW_; rw [← ht, ← hl]
 rw [hb]
 obtain ⟨B, hB⟩ : ∃ B, B = boL (leadP p) l 0 := ⟨_, rfl⟩
 rw [← hB]
 refine f_n Tryz.func221 ?_ ?_
 ·exact aa_ (am_ p) ab_
 refine r_z 1 ?_
 refine r_c 3 (htr) ?_
 refine a_z ?_
 refine r_z 3 ?_
 refine ac_ (s_r 7 ?_)
 refine a_4 ?_
 refine o_0 (.sa_h rfl rfl (h := t.length - 1) (by omega) (by simp) te_25.h (f9_ _)) ?_
 refine a_z ?_
 refine au_ (fun _ : Unit => ⟨[(2, .lptr 1 0 0), (3, .lptr 2 0 0)], [(1, some ⟨37, 3, [zC]⟩), (2, some ⟨37, 3, [qC B]⟩)], 3, 31⟩) (fun _ => qs B ≤ 2 * mxL p + 1) ?_ ?_
 ·refine ah_ (ao_ (boS t l) (fun x => l.length - x.1) (fun x => x.1 ≤ l.length ∧ qs x.2 ≤ 2 * mxL p + 1 ∧ boL (leadP p) (l.drop x.1) x.2 = B) (0, 0) ⟨Nat.zero_le _, Nat.le_trans (by decide : qs 0 ≤ 1) (Nat.le_add_left 1 _), by rw [hB]; rfl⟩ ?_ ?_)
  ·simp only [qo_]
   rw [qC0]
   have e13 : AV.arr (List.take (t.length - 1) (pE t)) = AV.arr (pE l) := by rw [hl, js_]
   refine ax_ [(1, 2), (2, 3)] rfl rfl rfl ?_ (fun hs => ?_) (fun hs => ?_)
   ·repeat' (first | exact ShrL.nil | refine ShrL.cons rfl rfl rfl rfl (by first | rfl | (simp; done) | (simp [hll] <;> omega)) ?_)
   ·repeat' (first | exact aX_ | refine aL_ rfl ?_ ?_)
    all_goals (first | (exact Cv.loE hs e13 (e13 ▸ am_ l)) | exact au_c | (refine Cv.loE hs ?_ (ad_ _); first | rfl | (simp [i64, u64, u32, bln, hll]; done) | (simp [i64, u64, u32, bln, hll] <;> omega)))
   ·repeat' (first | exact as_ | refine an_ rfl rfl rfl rfl ?_ ?_)
    all_goals (first | exact au_e | (refine az_ hs ?_ (aW_ _); first | (simp [iv_, kF_, hll]; done) | (simp [pE, ofV, hll]; done)) | (refine aF_ ?_; repeat' (first | exact ap_ | refine ai_ ?_ ?_)))
    all_goals (first | (exact Cv.loE hs e13 (e13 ▸ am_ l)) | exact au_c | (refine Cv.loE hs ?_ (ad_ _); first | (simp [i64, u64, u32, bln, hll]; done) | (simp [i64, u64, u32, bln, hll] <;> omega)))
  rintro ⟨i, m⟩ ⟨hi, hm, hbo⟩
  simp only at hi hm hbo
  rw [qo_]
  refine r_z 1 ?_
  refine ac_ (af_ rfl (fun h => ?_) (fun h => ?_))
  ·refine ag_ ?_
   have hlt : i < l.length := by simpa using h
   have hgt : (pE l)[((i : Nat) : Int).toNat]? = some (qC (coP l i)) := cj_ (bn_ hlt)
   have hc : qs (coP l i) ≤ mxL p := hbl _ (List.mem_of_getElem? (bn_ hlt))
   rw [gi_ hlt] at hbo
   have hq := ek_ (coP l i) (leadP p)
   have hle := eB_ t (by omega)
   rw [hlead] at hle
   have hqa := kB_ (coP l i / leadP p)
   have hbm : bdL [m, absQ (coP l i / leadP p)] (2 * mxL p + 1) := by
    intro x hx
    rcases List.mem_cons.1 hx with rfl | hx
    ·exact hm
    ·rw [List.mem_singleton.1 hx]; omega
   have hmx := pQ_ [m, absQ (coP l i / leadP p)] (gD_ hbm (by omega)) (by simp)
   refine ac_ (ah_ (s_r 4 ?_))
   refine i_x hgt ?_
   refine l_x hgt ?_
   refine a_z ?_
   refine r_d hmix 9 ?_
   refine c_s (hle) ?_
   refine c_s (dk_ (coP l i) (leadP p) (bp_ h0) (by omega)) ?_
   refine c_s (m4_ (coP l i / leadP p)) ?_
   refine a_1 ?_
   refine o_1 (.callS1 rfl rfl rfl (.shut rfl d_n (.nil)) rfl (hmx)) ?_
   refine a_1 ?_
   refine aj_ (n_k ?_)
   refine r_m 2 ?_
   refine a_z ?_
   refine ⟨(i + 1, maxL [m, absQ (coP l i / leadP p)]), by simp only; omega, ⟨hlt, lQ_ hbm (Nat.le_add_left 1 _), hbo⟩, ?_⟩
   simp only [qo_]
   exact s_e []
  ·have hge : i = l.length := by
    have : ¬ i < l.length := by simpa using h
    omega
   subst hge
   rw [List.drop_length] at hbo
   have hbo' : m = B := hbo
   subst hbo'
   refine al_ ⟨(), hm, ?_⟩
   exact s_e []
 rintro _ hq
 have h1 : qs 1 = 1 := by decide
 refine ac_ (r_d hmix 4 ?_)
 refine c_s (cu_ 1 (by decide)) ?_
 refine c_s (ep_ B 1 (by omega)) ?_
 refine a_1 ?_
 refine aj_ (n_k ?_)
 exact ae_ (c_e (ak_ _))
def stS  : List Rat × List (List Rat) → AState
 | (next, acc) => ⟨[(3, .lsl 1 0 acc.length none 1), (4, .arr (pE next))], [(1, some ⟨25, 1, cE acc⟩)], 2, 40⟩
theorem oC_  (next : List Rat) (acc : List (List Rat)) : stS  (next, acc) = ⟨[(3, .lsl 1 0 acc.length none 1), (4, .arr (pE next))], [(1, some ⟨25, 1, cE acc⟩)], 2, 40⟩ := rfl
theorem o0_ (p : List Rat) : (primP p).length ≤ p.length :=
 Nat.le_trans (b7_ _ _) (aU_ p)
theorem fs_sturm (f : Nat) (p : List Rat) (r : List (List Rat)) (h : fb_ f p = some r) (hf : f ≤ 1000000) : FSpec Tryz.prog 206 [.arr (pE p)] (.arr (cE r)) := by
 unfold fb_ at h
 split at h
 case isFalse => cases h
 case isTrue hp =>
 have hdl := cX_ p
 have hpl := hp.2.1.2
 refine f_n Tryz.func206 ?_ ?_
 ·exact aa_ (am_ p) ab_
 refine r_z 1 ?_
 refine r_c 4 (gy_ p hp.2.1 hp.2.2) ?_
 refine a_z ?_
 refine ac_ (r_c 3 (hP_ p hp.1 (by omega)) ?_)
 refine a_z ?_
 refine au_ (fun _ : Unit => ⟨[(3, .lsl 1 0 r.length none 1)], [(1, some ⟨25, 1, cE r⟩)], 2, 40⟩) (fun _ => True) ?_ ?_
 ·refine ah_ (ao_ (fun x : Nat × List Rat × List Rat × List (List Rat) => stS x.2.2) (fun x => x.1) (fun x => d4_ f x.1 x.2.1 x.2.2.1 x.2.2.2 = some r ∧ x.2.2.1.length ≤ 274877906944 ∧ x.2.2.2.length + x.1 ≤ 1000001 ∧ 1 ≤ x.2.2.2.length ∧ x.2.2.2[x.2.2.2.length - 1]? = some x.2.1) (f, primP p, aB_ p, [primP p]) ⟨h, by simp only; omega, by simp only [List.length_singleton]; omega, by simp, rfl⟩ ?_ ?_)
  ·simp only [oC_]
   have := cz_ [primP p]
   exact s_f [(1, 3)]
  rintro ⟨k, last, next, acc⟩ ⟨h, hn, hk, ha1, hla⟩
  simp only at h hn hk ha1 hla
  simp only [oC_]
  cases k with
  | zero => cases h
  | succ k =>
   rw [d4_] at h
   refine ac_ (r_c 3 (br_ next (by omega)) ?_)
   refine a_z ?_
   refine af_ rfl (fun h1 => ?_) (fun h1 => ?_)
   ·have h0 : trimQ next ≠ [] := by
     intro e
     have e2 := degP_neg.2 e
     simp at h1; omega
    rw [if_neg h0] at h
    split at h
    case isFalse => cases h
    case isTrue hs =>
    have hpn := o0_ next
    have hdv := e1_ (p := last) (q := primP next)
    have hsl := b7_ (divP last (primP next)).2 (-1)
    have hl2 := hs.2.1.2.1
    have hg1 : (cE (acc ++ [primP next]))[0 + (((acc.length + 1 : Nat) : Int) - 2).toNat]? = some [.arr (pE last)] := by
     rw [show 0 + (((acc.length + 1 : Nat) : Int) - 2).toNat = acc.length - 1 by omega]
     exact nv_ (by rw [List.getElem?_append_left (by omega)]; exact hla)
    have hg2 : (cE (acc ++ [primP next]))[0 + (((acc.length + 1 : Nat) : Int) - 1).toNat]? = some [.arr (pE (primP next))] := by
     rw [show 0 + (((acc.length + 1 : Nat) : Int) - 1).toNat = acc.length by omega]
     exact nv_ (by simp)
    refine ag_ (ah_ (r_c 6 (gy_ next hs.1 h0) ?_))
    refine a_z ?_
    refine AWp.ent (st' := ⟨[(3, .lsl 1 0 (acc.length + 1) none 1)], [(1, some ⟨25, 1, cE (acc ++ [primP next])⟩)], 2, 40⟩) ?_ ?_
    ·have := (mi_ acc (primP next)).symm
     exact s_f [(1, 3)]
    refine ac_ (r_d hmix 18 ?_)
    refine a_5 ?_
    first | refine aG_ (.load_l1 rfl rfl hg1 tg_25.h rfl) rfl rfl ?_ | refine aG_ (.load_a1 rfl hg1 tg_25.h rfl) rfl rfl ?_
    refine a_5 ?_
    first | refine aG_ (.load_l1 rfl rfl hg2 tg_25.h rfl) rfl rfl ?_ | refine aG_ (.load_a1 rfl hg2 tg_25.h rfl) rfl rfl ?_
    refine c_s (eA_ last (primP next) (mxL last) (mxL (primP next)) (cv_ _) (cv_ _) (cb_ _) (cb_ _) hs.2.1.1 hs.2.2 hs.2.1.2.1 hs.2.1.2.2) ?_
    refine a_5 ?_
    refine aj_ (n_k ?_)
    refine r_m 4 ?_
    refine c_s (cu_ (-1) (by decide)) ?_
    refine c_s (eX_ (divP last (primP next)).2 (-1) (l8_ hs.2.1 hs.2.2).2 (by decide) (by omega)) ?_
    refine a_z ?_
    refine ⟨(k, primP next, aI_ (divP last (primP next)).2 (-1), acc ++ [primP next]), Nat.lt_succ_self k, ⟨h, by simp only; omega, by simp only [List.length_append, List.length_singleton]; omega, by simp, by simp⟩, ?_⟩
    have hla : (acc ++ [primP next]).length = acc.length + 1 := by simp
    simp only [oC_, hla]
    exact s_f []
   ·have h0 : trimQ next = [] := by
     refine degP_neg.1 ?_
     simp at h1; omega
    rw [if_pos h0] at h
    cases h
    refine al_ ⟨(), trivial, ?_⟩
    exact s_f []
 rintro _ _
 refine r_z 2 ?_
 exact ae_ (Fin.tmpS rfl rfl rfl (by simp) (cz_ r))
end Go.Proofs.YtdhedjbmdnnbkaaGreatDoor
