/- Part Y11 of the proof. -/
import Derived.Test.YtdhedjbmdnnbkaaGreatDoorY10
import Derived.Lib.UnsafeStr
import Derived.Lib.Builder
import Derived.Shelf.RegionOpenPlain
import Derived.Lib.Strings
import Derived.Lib.Slices
import Derived.Lib.Walk
import Derived.Shelf.Strconv.Itoa3
import Derived.Shelf.Strings.Repeat
set_option linter.all false
namespace Go.Proofs.YtdhedjbmdnnbkaaGreatDoor
open Go.Abs
set_option maxRecDepth 20000
def backT (l : List Nat) (k : Nat) : Option (List AV) := if k < l.length then some [i64 ((l.length - 1 - k : Nat) : Int), u32 (l.getD (l.length - 1 - k) 0)] else none
theorem eb_ (l : List Nat) (hl : l.length ≤ 281474976710656) : GSpec Tryz.prog 269 [.aptr [[.arr (dE l)]] 0 0] (backT l) := by
 have hcl : Closed (.aptr [[.arr (dE l)]] 0 0) := dC_ (fun e he c hc => by simp at he; subst he; simp at hc; subst hc; exact bh_ l)
 refine GSpec.enter Tryz.func269 rfl (by kernel_rfl) rfl rfl rfl ?_ ?_ rfl ?_
 ·exact aa_ hcl ab_
 ·intro k xs h
  unfold backT at h
  split at h
  ·cases h; exact aa_ (ad_ _) (aa_ (ad_ _) ab_)
  ·cases h
 intro ll N E
 refine GWp.seq ?_
 refine GWp.lift ?_
 refine r_m 4 ?_
 refine a_z ?_
 refine GWp.block ?_
 refine GWp.loopS (fun m : Nat => ⟨[(0, .v (.func (.yield ll) #[] #[])), (1, .aptr [[.arr (dE l)]] 0 0), (3, i64 ((m : Int) - 1))], [], 1, 19⟩) (fun m => l.length - m) (fun m => m) (fun m => m ≤ l.length) l.length (Nat.le_refl _) (by simp) ?_ ?_
 ·exact s_e []
 intro m hm
 refine GWp.seq ?_
 refine GWp.seq ?_
 refine GWp.lift ?_
 refine r_m 2 ?_
 refine a_z ?_
 refine GWp.cond rfl (fun h => ?_) (fun h => ?_)
 ·refine GWp.skip ?_
  have hm1 : 1 ≤ m := by have := of_decide_eq_true h; omega
  obtain ⟨x, hx⟩ : ∃ x, l[m - 1]? = some x := ⟨_, List.getElem?_eq_getElem (by omega)⟩
  have hx' : (dE l)[((m : Int) - 1).toNat]? = some [u32 x] := by rw [show ((m : Int) - 1).toNat = m - 1 by omega]; exact bY_ hx
  refine GWp.seq ?_
  refine GWp.block ?_
  refine GWp.seq ?_
  refine GWp.regY (fr2 := [(0, .v (.func (.yield ll) #[] #[])), (1, .aptr [[.arr (dE l)]] 0 0), (3, i64 ((m : Int) - 1)), (11, .v (.func (.yield ll) #[] #[])), (12, i64 ((m : Int) - 1)), (16, u32 x)]) (hp2 := []) (nx2 := 1) 6 rfl rfl rfl rfl rfl rfl ?_ rfl rfl rfl ?_ ?_ ?_
  ·refine o_0 (.move rfl) ?_
   refine o_0 (.move rfl) ?_
   first | refine aG_ (.load_l1 rfl rfl rfl tg_31.h rfl) rfl rfl ?_ | refine aG_ (.load_a1 rfl rfl tg_31.h rfl) rfl rfl ?_
   refine o_0 (.move rfl) ?_
   refine i_x hx' ?_
   refine l_1 hx' ?_
   refine aj_ ?_
   refine SEntT.to [] rfl rfl rfl au_r (fun hs => au_f) (fun hs => au_h)
  rotate_left 2
  intro go
  refine o_0 (.un rfl kh_) ?_
  refine aj_ ?_
  rotate_left
  ·unfold backT
   rw [if_pos (by omega)]
   simp only [List.map_cons, List.map_nil, coe, i64, u32, Option.some.injEq, List.cons.injEq, AV.v.injEq, Value.int.injEq, true_and, and_true]
   refine ⟨by omega, ?_⟩
   rw [show l.length - 1 - (l.length - m) = m - 1 by omega, List.getD_eq_getElem?_getD, hx]; rfl
  ·exact aa_ (ad_ _) (aa_ (ad_ _) ab_)
  cases go with
  | false =>
   refine GWp.cond rfl (fun h => ?_) (fun h => ?_)
   ·exact GWp.ret ⟨.inr rfl, fun h => by cases h⟩
   ·cases h
  | true =>
   refine GWp.cond rfl (fun h => ?_) (fun h => ?_)
   ·cases h
   ·refine GWp.skip ?_
    refine GWp.lift ?_
    refine r_m 3 ?_
    refine a_z ?_
    refine ⟨rfl, m - 1, by omega, by omega, by omega, ?_⟩
    exact s_e []
 ·refine GWp.exit ⟨.inl rfl, fun _ => ?_⟩
  have : m = 0 := by have := of_decide_eq_false h; omega
  subst this
  unfold backT
  rw [if_neg (by omega)]
theorem ef_ (l : List Nat) : FSpec Tryz.prog 233 [.arr (dE l)] (.clos 269 [] [.aptr [[.arr (dE l)]] 0 0]) := by
 refine f_n Tryz.func233 ?_ ?_
 ·exact aa_ (bh_ l) ab_
 refine r_z 2 ?_
 refine r_z 2 ?_
 refine ae_ (⟨.inr rfl, [_], ⟨_, [], rfl, rfl, rfl⟩, ?_⟩)
 exact Cv.clos ap_ (ai_ (Cv.sealp at_ rfl (fun _ _ h => by cases h) (by simp) (aF_ (ai_ (ar_ at_ (bh_ l)) ap_))) ap_)
def wordS (n : Nat) : Nat → AState
 | k => ⟨[(3, .lptr 1 0 0), (8, .clos 269 [] [.aptr [[.arr (dE (digs MB n))]] 0 0])], [(1, some ⟨207, 1, [[u64 (ofD MB ((digs MB n).drop ((digs MB n).length - k)))]]⟩)], 2, 17⟩
theorem mo_ (n : Nat) (k : Nat) : wordS n k = ⟨[(3, .lptr 1 0 0), (8, .clos 269 [] [.aptr [[.arr (dE (digs MB n))]] 0 0])], [(1, some ⟨207, 1, [[u64 (ofD MB ((digs MB n).drop ((digs MB n).length - k)))]]⟩)], 2, 17⟩ := rfl
theorem pq_ (n : Nat) (h : (digs MB n).length ≤ 2) : FSpec Tryz.prog 237 [.agg [mag n]] (u64 n) := by
 have hb := ef_ (digs MB n)
 have hg := eb_ (digs MB n) (by omega)
 have hcl : Closed (.aptr [[.arr (dE (digs MB n))]] 0 0) := dC_ (fun e he c hc => by simp at he; subst he; simp at hc; subst hc; exact bh_ _)
 have hcl2 : Closed (.clos 269 [] [.aptr [[.arr (dE (digs MB n))]] 0 0]) := aJ_ ab_ (aa_ hcl ab_)
 refine f_n Tryz.func237 ?_ ?_
 ·exact aa_ (aq_ (aa_ (aE_ n) ab_)) ab_
 refine r_z 2 ?_
 refine r_z 2 ?_
 refine ac_ (r_c 3 (hb) ?_)
 refine aj_ ?_
 refine au_ (fun _ : Unit => ⟨[(3, .lptr 1 0 0)], [(1, some ⟨207, 1, [[u64 n]]⟩)], 2, 17⟩) (fun _ => True) ?_ ?_
 ·refine ah_ (AWp.rangeFunc (α := Nat) (γ := Empty) (digs MB n).length (wordS n) (fun k => k) (fun k => k ≤ (digs MB n).length) (fun e => nomatch e) (fun _ e => nomatch e) 0 rfl hg rfl rfl ?_ (fun _ => ⟨rfl, rfl⟩) (fun e => nomatch e) (Nat.zero_le _) rfl (fun _ h => h) ?_ ?_ ?_ ?_ (fun _ e => nomatch e))
  ·intro k xs hT
   unfold backT at hT
   split at hT
   ·cases hT; rfl
   ·cases hT
  ·rw [mo_]
   have h0 : AV.v (.int .u64 0) = u64 ((ofD MB ((digs MB n).drop ((digs MB n).length - 0)) : Nat) : Int) := by simp [ofD, u64]
   exact s_t [(1, 3)]
  ·exact aa_ hcl ab_
  ·intro l k xs hk hT
   unfold backT at hT
   split at hT
   rotate_left
   ·cases hT
   rename_i hlt
   cases hT
   obtain ⟨x, hx⟩ : ∃ x, (digs MB n)[(digs MB n).length - 1 - k]? = some x := ⟨_, List.getElem?_eq_getElem (by omega)⟩
   have hx1 : x < 1000000000 := bc_ (by decide) hx
   have hxd : (digs MB n).getD ((digs MB n).length - 1 - k) 0 = x := by rw [List.getD_eq_getElem?_getD, hx]; rfl
   rw [hxd]
   have hv := eS_ MB hx
   rw [show (digs MB n).length - 1 - k + 1 = (digs MB n).length - k by omega] at hv
   have hlt2 : ofD MB ((digs MB n).drop ((digs MB n).length - k)) < 1000000000 := by
    have h1 := c6_ (b := MB) (l := (digs MB n).drop ((digs MB n).length - k)) fun d hd => bK_ (by decide) n d (List.mem_of_mem_drop hd)
    have h2 : ((digs MB n).drop ((digs MB n).length - k)).length ≤ 1 := by simp; omega
    exact Nat.lt_of_lt_of_le h1 (Nat.pow_le_pow_right (by decide) h2)
   show AWp _ _ _ _ ⟨[(10, u32 x), (9, i64 ((digs MB n).length - 1 - k : Nat)), (3, .lptr 1 0 0), (8, .clos 269 [] [.aptr [[.arr (dE (digs MB n))]] 0 0]), (1003, .lptr 1 0 0), (1008, .clos 269 [] [.aptr [[.arr (dE (digs MB n))]] 0 0])], [(1, some ⟨207, 1, [[u64 (ofD MB ((digs MB n).drop ((digs MB n).length - k)))]]⟩)], 2, 17⟩
   refine r_m 1 ?_
   refine a_z ?_
   refine ah_ (r_m 6 ?_)
   refine a_z ?_
   refine ⟨k + 1, ⟨by omega, rfl⟩, ?_⟩
   show SEntT _ ⟨[(1003, .lptr 1 0 0), (1008, .clos 269 [] [.aptr [[.arr (dE (digs MB n))]] 0 0])], [(1, some ⟨207, 1, [[u64 (ofD MB ((digs MB n).drop ((digs MB n).length - (k + 1))))]]⟩)], 2, 17⟩
   have h1 : AV.v (.int .u64 ((ofD MB ((digs MB n).drop ((digs MB n).length - k)) : Nat) * 1000000000 + (x : Int))) = u64 ((ofD MB ((digs MB n).drop ((digs MB n).length - (k + 1))) : Nat) : Int) := by
    rw [show (digs MB n).length - (k + 1) = (digs MB n).length - 1 - k by omega, hv]
    simp [u64]; omega
   exact s_t []
  ·intro k hk hT
   unfold backT at hT
   split at hT
   ·cases hT
   refine ⟨(), trivial, ?_⟩
   rw [mo_]
   have h1 : ofD MB ((digs MB n).drop ((digs MB n).length - k)) = n := by
    rw [show (digs MB n).length - k = 0 by omega, List.drop_zero, aS_ (by decide)]
   rw [h1]
   exact s_e []
 rintro _ _
 refine r_z 2 ?_
 refine ae_ (aD_ rfl rfl (ad_ _))
def me_  : Nat × Nat → AState
 | (p, q) => ⟨[(2, .lptr 1 0 0), (3, .lptr 2 0 0), (4, .lptr 3 0 0)], [(1, some ⟨33, 1, [[mag p]]⟩), (2, some ⟨33, 1, [[mag q]]⟩), (3, some ⟨33, 1, [[.emp]]⟩)], 4, 43⟩
theorem d0_  (p : Nat) (q : Nat) : me_  (p, q) = ⟨[(2, .lptr 1 0 0), (3, .lptr 2 0 0), (4, .lptr 3 0 0)], [(1, some ⟨33, 1, [[mag p]]⟩), (2, some ⟨33, 1, [[mag q]]⟩), (3, some ⟨33, 1, [[.emp]]⟩)], 4, 43⟩ := rfl
def wordsS  : Nat × Nat → AState
 | (x, y) => ⟨[(4, .lptr 3 0 0), (5, u64 x), (6, u64 y)], [(3, some ⟨33, 1, [[.emp]]⟩)], 4, 43⟩
theorem g7_  (x : Nat) (y : Nat) : wordsS  (x, y) = ⟨[(4, .lptr 3 0 0), (5, u64 x), (6, u64 y)], [(3, some ⟨33, 1, [[.emp]]⟩)], 4, 43⟩ := rfl
theorem mX_ (p q : Nat) : Nat.gcd q (p % q) = Nat.gcd p q := by
 rw [Nat.gcd_comm p q, Nat.gcd_rec q p, Nat.gcd_comm]
theorem om_ {n : Nat} (h : (digs MB n).length ≤ 2) : n < 1000000000000000000 := by
 have h1 := c6_ (b := MB) (bK_ (by decide) n)
 rw [aS_ (by decide)] at h1
 exact Nat.lt_of_lt_of_le h1 (Nat.pow_le_pow_right (by decide) h)
theorem pE_ (a b : Nat) (h : bl a + bl b ≤ 4398046511104) : FSpec Tryz.prog 180 [.agg [mag a], .agg [mag b]] (.agg [mag (Nat.gcd a b)]) := by
 refine f_n Tryz.func180 ?_ ?_
 ·exact aa_ (aq_ (aa_ (aE_ a) ab_)) (aa_ (aq_ (aa_ (aE_ b) ab_)) ab_)
 refine r_z 3 ?_
 refine aO_ me_ (fun x => x.1 = Nat.gcd a b) ?_ ?_
 ·refine ah_ (ao_ me_ (fun x => x.2) (fun x => Nat.gcd x.1 x.2 = Nat.gcd a b ∧ bl x.1 + bl x.2 ≤ 4398046511104) (a, b) ⟨rfl, h⟩ ?_ ?_)
  ·rw [d0_]
   exact s_e []
  rintro ⟨p, q⟩ ⟨hg, hb⟩
  simp only at hg hb
  rw [d0_]
  have hz := pp_ (digs MB q)
  refine ac_ (r_c 3 (hz) ?_)
  refine a_z ?_
  refine af_ rfl (fun h0 => ?_) (fun h0 => ?_)
  ·have hq : 0 < q := by
    rcases Nat.eq_zero_or_pos q with e | e
    ·subst e; rw [a8_] at h0; simp at h0
    ·exact e
   refine ag_ (ah_ (aO_ (fun _ : Unit => ⟨[(2, .lptr 1 0 0), (3, .lptr 2 0 0), (4, .lptr 3 0 0)], [(1, some ⟨33, 1, [[mag p]]⟩), (2, some ⟨33, 1, [[mag q]]⟩), (3, some ⟨33, 1, [[.emp]]⟩)], 4, 43⟩) (fun _ => True) ?_ ?_))
   ·by_cases hl : (digs MB p).length ≤ 2
    ·by_cases hl2 : (digs MB q).length ≤ 2
     ·have hwp := om_ hl
      have hwq := om_ hl2
      refine s_r 10 ?_
      refine a_5 ?_
      first | refine y_g rfl (by simp; omega) (.fieldAddr_l rfl tf_33_0.h (by decide)) ?_ | refine y_g rfl (by simp; omega) (.fieldAddr_a rfl tf_33_0.h (by decide)) ?_
      first | refine y_g rfl (by simp; omega) (.load_l1 rfl rfl rfl tg_31.h rfl) ?_ | refine y_g rfl (by simp; omega) (.load_a1 rfl rfl tg_31.h rfl) ?_
      first | refine y_g rfl (by simp; omega) (.lenD rfl rfl rfl rfl te_31.h) ?_ | refine y_g rfl (by simp; omega) (.lenI rfl rfl rfl rfl te_31.h) ?_ | refine y_g rfl (by simp; omega) (.lenP rfl rfl rfl rfl te_31.h) ?_ | refine y_g rfl (by simp; omega) (.lenC rfl rfl rfl rfl te_31.h) ?_ | refine y_g rfl (by simp; omega) (.lenR rfl rfl rfl rfl te_31.h) ?_ | refine y_g rfl (by simp; omega) (.len rfl rfl rfl rfl rfl te_31.h) ?_
      refine y_g rfl (by simp; omega) (.bin rfl rfl dl_) ?_
      refine o_0 (.pickT rfl (by simp; omega) rfl) ?_
      refine aj_ ?_
      refine af_ rfl (fun h1 => ?_) (fun h1 => ?_)
      ·refine ac_ (r_d hmix 6 ?_)
       refine c_s (pq_ p hl) ?_
       refine c_s (pq_ q hl2) ?_
       refine a_2 ?_
       refine aj_ (n_k ?_)
       refine aO_ (fun x : Nat => ⟨[(4, .lptr 3 0 0), (5, u64 x)], [(3, some ⟨33, 1, [[.emp]]⟩)], 4, 43⟩) (fun x => x = Nat.gcd a b) ?_ ?_
       ·refine ah_ (ao_ wordsS (fun x => x.2) (fun x => Nat.gcd x.1 x.2 = Nat.gcd a b ∧ x.1 < 1000000000000000000 ∧ x.2 < 1000000000000000000) (p, q) ⟨hg, hwp, hwq⟩ ?_ ?_)
        ·rw [g7_]
         exact s_e []
        rintro ⟨x, y⟩ ⟨hxy, hx, hy⟩
        simp only at hxy hx hy
        rw [g7_]
        refine ac_ (r_z 2 ?_)
        refine af_ rfl (fun h2 => ?_) (fun h2 => ?_)
        ·have hy0 : 0 < y := by simp at h2; omega
         refine ag_ (ah_ (r_d hmix 6 ?_))
         refine a_6 ?_
         refine aj_ (n_k ?_)
         refine ⟨(y, x % y), Nat.mod_lt _ hy0, ⟨(mX_ x y).trans hxy, hy, Nat.lt_trans (Nat.mod_lt _ hy0) hy⟩, ?_⟩
         rw [g7_]
         exact s_e []
        ·have hy0 : y = 0 := by simp at h2; omega
         subst hy0
         refine al_ ⟨x, by simpa using hxy, ?_⟩
         exact s_e []
       rintro x rfl
       have hx64 : Nat.gcd a b < 18446744073709551616 := by
        rw [← hg]
        have h1 : Nat.gcd p q ≤ q := Nat.gcd_le_right _ hq
        omega
       refine r_c 3 (c2_ _ hx64) ?_
       refine a_z ?_
       exact ae_ (bH_ rfl rfl rfl tg_33.h ts_33.h (nle rfl) rfl (aq_ (aa_ (aE_ _) ab_)))
      ·exact absurd h1 (by simp; omega)
     ·refine s_r 10 ?_
      refine a_5 ?_
      first | refine y_g rfl (by simp; omega) (.fieldAddr_l rfl tf_33_0.h (by decide)) ?_ | refine y_g rfl (by simp; omega) (.fieldAddr_a rfl tf_33_0.h (by decide)) ?_
      first | refine y_g rfl (by simp; omega) (.load_l1 rfl rfl rfl tg_31.h rfl) ?_ | refine y_g rfl (by simp; omega) (.load_a1 rfl rfl tg_31.h rfl) ?_
      first | refine y_g rfl (by simp; omega) (.lenD rfl rfl rfl rfl te_31.h) ?_ | refine y_g rfl (by simp; omega) (.lenI rfl rfl rfl rfl te_31.h) ?_ | refine y_g rfl (by simp; omega) (.lenP rfl rfl rfl rfl te_31.h) ?_ | refine y_g rfl (by simp; omega) (.lenC rfl rfl rfl rfl te_31.h) ?_ | refine y_g rfl (by simp; omega) (.lenR rfl rfl rfl rfl te_31.h) ?_ | refine y_g rfl (by simp; omega) (.len rfl rfl rfl rfl rfl te_31.h) ?_
      refine y_g rfl (by simp; omega) (.bin rfl rfl dl_) ?_
      refine o_0 (.pickT rfl (by simp; omega) rfl) ?_
      refine aj_ ?_
      refine af_ rfl (fun h => ?_) (fun _ => ag_ ⟨(), trivial, ?_⟩)
      ·exact absurd h (by simp; omega)
      ·exact s_e []
    ·refine s_r 10 ?_
     refine a_5 ?_
     refine n_g rfl (by simp; omega) ?_
     refine n_g rfl (by simp; omega) ?_
     refine n_g rfl (by simp; omega) ?_
     refine n_g rfl (by simp; omega) ?_
     refine o_0 (.pickF rfl (by simp; omega) rfl) ?_
     refine aj_ ?_
     refine af_ rfl (fun h => ?_) (fun _ => ag_ ⟨(), trivial, ?_⟩)
     ·cases h
     ·exact s_e []
   rintro _ _
   refine r_c 10 (jJ_ p q hb hq) ?_
   refine a_z ?_
   refine r_d hmix 4 ?_
   refine a_4 ?_
   refine aj_ (n_k ?_)
   refine ⟨(q, p % q), Nat.mod_lt _ hq, ⟨(mX_ p q).trans hg, ?_⟩, ?_⟩
   ·have := bG_ (Nat.mod_le p q)
    simp only; omega
   ·rw [d0_]
    exact s_e []
  ·have hq : q = 0 := by
    rcases Nat.eq_zero_or_pos q with e | e
    ·exact e
    ·have : (digs MB q).length ≠ 0 := fun e' => by
      rw [List.length_eq_zero_iff] at e'
      have := (cC_ (b := MB) (by decide)).1 e'; omega
     simp [this] at h0
   subst hq
   refine al_ ⟨(p, 0), ?_, ?_⟩
   ·simpa using hg
   ·rw [d0_]
    exact s_e []
 rintro ⟨p, q⟩ hp
 simp only at hp
 subst hp
 rw [d0_]
 refine r_z 2 ?_
 refine ae_ (bH_ rfl rfl rfl tg_33.h ts_33.h (nle rfl) rfl (aq_ (aa_ (aE_ _) ab_)))
theorem p5_ (n : Nat) : ((digs MB n).length == 0) = (n == 0) := by
 rw [Bool.eq_iff_iff]
 simp only [beq_iff_eq, List.length_eq_zero_iff]
 exact cC_ (by decide)
theorem ee_ (n : Nat) : FSpec Tryz.prog 173 [.agg [mag n]] (bln (n == 0)) := by
 rw [← p5_]; exact pp_ _
theorem ck_ (b : Bool) (m : Nat) : FSpec Tryz.prog 174 [bln b, .agg [mag m]] (.agg (zI (sgn b m))) := by
 have e : AV.agg (zI (sgn b m)) = .agg [mag m, bln (b && !(m == 0))] := by unfold zI; rw [cD_, sgn_neg]
 rw [e]
 refine f_n Tryz.func174 ?_ ?_
 ·exact aa_ (ad_ _) (aa_ (cP_ m) ab_)
 cases b with
 | true =>
  refine r_z 2 ?_
  refine ac_ (r_d hmix 9 ?_)
  refine a_3 ?_
  first | refine y_g rfl d_t (.load_l rfl rfl rfl tg_33.h ts_33.h (nle rfl)) ?_ | refine y_g rfl d_t (.load_a rfl rfl tg_33.h ts_33.h (nle rfl)) ?_
  refine y_g rfl d_t (.call rfl rfl rfl (ee_ m)) ?_
  refine y_g rfl d_t (.un rfl kh_) ?_
  refine o_0 (.pickT rfl d_t rfl) ?_
  refine a_2 ?_
  refine aj_ (n_k ?_)
  exact ae_ (c_e (aq_ (aa_ (aE_ m) (aa_ (ad_ _) ab_))))
 | false =>
  refine r_z 2 ?_
  refine ac_ (r_d hmix 9 ?_)
  refine a_3 ?_
  refine n_g rfl d_f ?_
  refine n_g rfl d_f ?_
  refine n_g rfl d_f ?_
  refine o_0 (.pickF rfl d_f rfl) ?_
  refine a_2 ?_
  refine aj_ (n_k ?_)
  exact ae_ (c_e (aq_ (aa_ (aE_ m) (aa_ (ad_ _) ab_))))
theorem fs_isign (z : Int) : FSpec Tryz.prog 93 [.agg (zI z)] (i64 (sgZ z)) := by
 refine f_n Tryz.func93 ?_ ?_
 ·exact aa_ (bE_ z) ab_
 refine r_z 2 ?_
 refine aO_ (fun _ : Unit => ⟨[], [], 1, 10⟩) (fun _ => 0 < z) ?_ ?_
 ·refine ah_ (r_c 4 (ee_ z.natAbs) ?_)
  refine a_z ?_
  refine af_ rfl (fun h => ?_) (fun h => ?_)
  ·refine r_z 1 ?_
   refine ae_ (aD_ rfl ?_ (ad_ _))
   have : z = 0 := by simpa using h
   simp [i64, sgZ, this, ofV]
  ·have h0 : z ≠ 0 := by simpa using h
   refine r_z 3 ?_
   refine af_ rfl (fun h1 => ?_) (fun h1 => ?_)
   ·refine r_z 1 ?_
    refine ae_ (aD_ rfl ?_ (ad_ _))
    have : z < 0 := by simpa using h1
    simp [i64, sgZ, this, h0, ofV]
   ·have : ¬ z < 0 := by simpa using h1
    refine ag_ ⟨(), by omega, ?_⟩
    exact s_e []
 rintro _ h1
 refine r_z 1 ?_
 refine ae_ (aD_ rfl ?_ (ad_ _))
 simp only [i64, sgZ]
 rw [if_neg (by omega), if_neg (by omega)]
 rfl
theorem cc_ (q : Rat) : FSpec Tryz.prog 18 [.agg (qC q)] (i64 (sgZ q.num)) := by
 refine f_n Tryz.func18 ?_ ?_
 ·exact aa_ (ak_ q) ab_
 refine r_z 2 ?_
 refine r_c 4 (fs_isign q.num) ?_
 refine a_z ?_
 exact ae_ (t_e (ad_ _))
theorem sgn_mul (a b : Bool) (m n : Nat) : sgn a m * sgn b n = sgn (a != b) (m * n) := by
 cases a <;> cases b <;> simp [sgn, Int.neg_mul, Int.mul_neg]
theorem kv_ (a : Bool) (m n : Nat) : sgn a m + sgn a n = sgn a (m + n) := by
 cases a <;> simp [sgn] <;> omega
theorem nK_ {a b : Bool} (h : a ≠ b) {m n : Nat} (hl : m ≤ n) : sgn a m + sgn b n = sgn b (n - m) := by
 cases a <;> cases b <;> simp [sgn] at h ⊢ <;> omega
theorem nL_ {a b : Bool} (h : a ≠ b) {m n : Nat} (hl : n ≤ m) : sgn a m + sgn b n = sgn a (m - n) := by
 cases a <;> cases b <;> simp [sgn] at h ⊢ <;> omega
theorem lY_ (x y : Int) (h : bl x.natAbs + bl y.natAbs ≤ 17592186044416) : FSpec Tryz.prog 99 [.agg (zI x), .agg (zI y)] (.agg (zI (x * y))) := by
 have e : x * y = sgn (decide (x < 0) != decide (y < 0)) (x.natAbs * y.natAbs) := by
  rw [← sgn_mul, gG_, gG_]
 rw [e]
 refine f_n Tryz.func99 ?_ ?_
 ·exact aa_ (bE_ x) (aa_ (bE_ y) ab_)
 refine r_z 3 ?_
 refine ac_ (r_d hmix 12 ?_)
 refine c_s (c1_ x.natAbs y.natAbs h) ?_
 refine c_s (ck_ (decide (x < 0) != decide (y < 0)) (x.natAbs * y.natAbs)) ?_
 refine a_1 ?_
 refine aj_ (n_k ?_)
 exact ae_ (c_e (bE_ _))
theorem fs_iadd (x y : Int) (h : bl x.natAbs + bl y.natAbs ≤ 17592186044416) : FSpec Tryz.prog 156 [.agg (zI x), .agg (zI y)] (.agg (zI (x + y))) := by
 obtain ⟨a, ha⟩ : ∃ a, a = decide (x < 0) := ⟨_, rfl⟩
 obtain ⟨b, hb⟩ : ∃ b, b = decide (y < 0) := ⟨_, rfl⟩
 have ex : x = sgn a x.natAbs := by rw [ha, gG_]
 have ey : y = sgn b y.natAbs := by rw [hb, gG_]
 refine f_n Tryz.func156 ?_ ?_
 ·exact aa_ (bE_ x) (aa_ (bE_ y) ab_)
 refine r_z 3 ?_
 refine aO_ (fun _ : Unit => ⟨[(2, .lptr 1 0 0), (3, .lptr 2 0 0), (4, .lptr 3 0 0)], [(1, some ⟨35, 2, [zI x]⟩), (2, some ⟨35, 2, [zI y]⟩), (3, some ⟨35, 2, [[.emp, bln false]]⟩)], 4, 42⟩) (fun _ => a ≠ b ∧ y.natAbs ≤ x.natAbs) ?_ ?_
 ·refine ah_ (r_z 6 ?_)
  refine af_ rfl (fun h1 => ?_) (fun h1 => ?_)
  ·have hab : a = b := by rw [ha, hb]; simpa using h1
   have e : x + y = sgn (decide (x < 0)) (x.natAbs + y.natAbs) := by
    conv => lhs; rw [ex, ey, ← hab]
    rw [kv_, ha]
   rw [e]
   refine ac_ (r_d hmix 9 ?_)
   refine c_s (lV_ x.natAbs y.natAbs h) ?_
   refine c_s (ck_ (decide (x < 0)) (x.natAbs + y.natAbs)) ?_
   refine a_1 ?_
   refine aj_ (n_k ?_)
   exact ae_ (c_e (bE_ _))
  ·have hab : a ≠ b := by rw [ha, hb]; simpa using h1
   refine r_c 7 (gg_ x.natAbs y.natAbs h) ?_
   refine a_z ?_
   refine af_ rfl (fun h2 => ?_) (fun h2 => ?_)
   ·have hlt : x.natAbs < y.natAbs := by
     have := of_decide_eq_true h2
     unfold cmpZ at this; split at this
     ·omega
     ·split at this <;> omega
    have e : x + y = sgn (decide (y < 0)) (y.natAbs - x.natAbs) := by
     conv => lhs; rw [ex, ey]
     rw [nK_ hab (Nat.le_of_lt hlt), hb]
    rw [e]
    refine ac_ (r_d hmix 9 ?_)
    refine c_s (lX_ y.natAbs x.natAbs (by omega) (Nat.le_of_lt hlt)) ?_
    refine c_s (ck_ (decide (y < 0)) (y.natAbs - x.natAbs)) ?_
    refine a_1 ?_
    refine aj_ (n_k ?_)
    exact ae_ (c_e (bE_ _))
   ·have hge : y.natAbs ≤ x.natAbs := by
     have := of_decide_eq_false h2
     unfold cmpZ at this; split at this
     ·omega
     ·split at this <;> omega
    refine ag_ ⟨(), ⟨hab, hge⟩, ?_⟩
    exact s_e []
 rintro _ ⟨hab, hge⟩
 have e : x + y = sgn (decide (x < 0)) (x.natAbs - y.natAbs) := by
  conv => lhs; rw [ex, ey]
  rw [nL_ hab hge, ha]
 rw [e]
 refine ac_ (r_d hmix 9 ?_)
 refine c_s (lX_ x.natAbs y.natAbs (by omega) hge) ?_
 refine c_s (ck_ (decide (x < 0)) (x.natAbs - y.natAbs)) ?_
 refine a_1 ?_
 refine aj_ (n_k ?_)
 exact ae_ (c_e (bE_ _))
theorem mZ_ (n : Int) (h : -9223372036854775808 ≤ n ∧ n ≤ 9223372036854775807) : FSpec Tryz.prog 169 [i64 n] (.agg (zI n)) := by
 refine f_n Tryz.func169 ?_ ?_
 ·exact aa_ (ad_ _) ab_
 refine r_z 1 ?_
 refine ac_ (r_z 2 ?_)
 refine af_ rfl (fun h1 => ?_) (fun h1 => ?_)
 ·have hn : n < 0 := of_decide_eq_true h1
  have e : n = sgn true n.natAbs := by simp [sgn]; omega
  have hI : 18446744073709551616 - (n + 18446744073709551616) = ((n.natAbs : Nat) : Int) := by omega
  have hs : FSpec Tryz.prog 177 [.v (.int .u64 (18446744073709551616 - (n + 18446744073709551616)))] (.agg [mag n.natAbs]) := by rw [hI]; exact c2_ _ (by omega)
  refine s_r 6 ?_
  refine a_1 ?_
  refine o_0 (.conv rfl (cU64n (by omega) tu_2.h tu_207.h)) ?_
  refine o_0 (.un rfl (uU64_neg (by omega))) ?_
  refine c_s (hs) ?_
  refine c_s (ck_ true n.natAbs) ?_
  refine a_z ?_
  refine ae_ (bH_ rfl rfl rfl tg_35.h ts_35.h (nle rfl) ?_ ?_)
  ·show _ = AV.agg (zI n)
   conv => rhs; rw [e]
   rfl
  ·exact bE_ _
 ·refine ag_ ?_
  have hn : 0 ≤ n := by have := of_decide_eq_false h1; omega
  have e : n = sgn false n.natAbs := by simp [sgn]; omega
  have hI : n = ((n.natAbs : Nat) : Int) := by omega
  have hs : FSpec Tryz.prog 177 [.v (.int .u64 n)] (.agg [mag n.natAbs]) := by
   have := c2_ n.natAbs (by omega)
   rwa [u64, ← hI] at this
  refine s_r 5 ?_
  refine a_1 ?_
  refine o_0 (.conv rfl (cU64 (by omega) tu_2.h tu_207.h)) ?_
  refine c_s (hs) ?_
  refine c_s (ck_ false n.natAbs) ?_
  refine a_z ?_
  refine ae_ (bH_ rfl rfl rfl tg_35.h ts_35.h (nle rfl) ?_ ?_)
  ·show _ = AV.agg (zI n)
   conv => rhs; rw [e]
   rfl
  ·exact bE_ _
theorem mag_zero : mag 0 = .arr [] := by unfold mag; rw [a8_]; rfl
theorem gQ_ (n : Int) : FSpec Tryz.prog 168 [.agg (zI n)] (.agg (qC n)) := by
 have e : qC (n : Rat) = [mag n.natAbs, bln (decide (n < 0)), mag 0] := rfl
 rw [e]
 refine f_n Tryz.func168 ?_ ?_
 ·exact aa_ (bE_ n) ab_
 refine r_z 2 ?_
 refine r_z 3 ?_
 refine ae_ (Fin.cell rfl rfl rfl tg_37.h ts_37.h (nle rfl) (Cv.agg (ai_ (ar_ at_ (aE_ _)) (ai_ (ar_ at_ (ad_ _)) (ai_ (Cv.emp _ mag_zero) ap_)))))
theorem cu_ (n : Int) (h : -9223372036854775808 ≤ n ∧ n ≤ 9223372036854775807) : FSpec Tryz.prog 85 [i64 n] (.agg (qC n)) := by
 refine f_n Tryz.func85 ?_ ?_
 ·exact aa_ (ad_ _) ab_
 refine r_z 1 ?_
 refine r_c 4 (mZ_ n h) ?_
 refine c_s (gQ_ n) ?_
 refine a_z ?_
 exact ae_ (c_e (ak_ _))
theorem b2_ (q : Rat) (h : qs q ≤ 1099511627776) : FSpec Tryz.prog 96 [.agg (qC q)] (.agg [mag q.den]) := by
 have hp := q.den_pos
 have hd := bv_ q
 have e : q.den = q.den - 1 + 1 := by omega
 have hb1 := bG_ (show q.den - 1 ≤ q.den by omega)
 have h1 : bl 1 = 1 := eq_
 refine f_n Tryz.func96 ?_ ?_
 ·exact aa_ (ak_ q) ab_
 refine r_z 2 ?_
 refine ac_ (r_d hmix 5 ?_)
 refine c_s (c2_ 1 (by decide)) ?_
 refine c_s (lV_ (q.den - 1) 1 (by omega)) ?_
 refine a_1 ?_
 refine aj_ (n_k ?_)
 refine ae_ (bH_ rfl rfl rfl tg_33.h ts_33.h (nle rfl) ?_ ?_)
 ·show AV.agg [mag (q.den - 1 + 1)] = _
  rw [← e]
 ·exact cP_ _
theorem gT_ (n : Int) (d : Nat) (hd : 0 < d) (h : bl n.natAbs + bl d ≤ 2199023255552) : FSpec Tryz.prog 98 [.agg (zI n), .agg [mag d]] (.agg (qC (mkRat n d))) := by
 obtain ⟨g, hg⟩ : ∃ g, g = Nat.gcd n.natAbs d := ⟨_, rfl⟩
 have hgp : 0 < g := by rw [hg]; exact Nat.gcd_pos_of_pos_right _ hd
 have hgd : g ≤ d := by rw [hg]; exact Nat.gcd_le_right _ hd
 have hbg := bG_ hgd
 have hbn := cp_ n.natAbs g
 have hbd := cp_ d g
 have hqd : 0 < d / g := Nat.div_pos hgd hgp
 have hfin : AV.agg (qC (mkRat n d)) = .agg (zI (sgn (decide (n < 0)) (n.natAbs / g)) ++ [mag (d / g - 1)]) := by
  unfold qC
  rw [dU_ hd, (ew_ hd).2, ← hg]
  rfl
 rw [hfin]
 have hc := pE_ n.natAbs d (by omega)
 rw [← hg] at hc
 refine f_n Tryz.func98 ?_ ?_
 ·exact aa_ (bE_ n) (aa_ (cP_ d) ab_)
 refine r_z 3 ?_
 refine ac_ (r_c 6 (hc) ?_)
 refine a_z ?_
 refine r_c 3 (fs_one g) ?_
 refine a_z ?_
 refine au_ (fun _ : Unit => ⟨[(2, .lptr 1 0 0), (3, .lptr 2 0 0), (4, .lptr 3 0 0)], [(1, some ⟨35, 2, [[mag (n.natAbs / g), bln (decide (n < 0))]]⟩), (2, some ⟨33, 1, [[mag (d / g)]]⟩), (3, some ⟨37, 3, [[.emp, bln false, .emp]]⟩)], 4, 36⟩) (fun _ => True) ?_ ?_
 ·refine af_ rfl (fun h1 => ?_) (fun h1 => ?_)
  ·refine r_c 9 (jJ_ n.natAbs g (by omega) hgp) ?_
   refine a_z ?_
   refine r_m 7 ?_
   refine c_s (jJ_ d g (by omega) hgp) ?_
   refine a_z ?_
   refine ⟨(), trivial, ?_⟩
   exact s_e []
  ·have hg1 : g = 1 := by simpa using h1
   subst hg1
   refine ag_ ⟨(), trivial, ?_⟩
   rw [Nat.div_one, Nat.div_one]
   exact s_e []
 rintro _ _
 refine ac_ (r_d hmix 10 ?_)
 refine c_s (ck_ (decide (n < 0)) (n.natAbs / g)) ?_
 refine c_s (c2_ 1 (by decide)) ?_
 refine c_s (lX_ (d / g) 1 (by omega) hqd) ?_
 refine a_2 ?_
 refine aj_ (n_k ?_)
 exact ae_ (c_e (aq_ (aa_ (aE_ _) (aa_ (ad_ _) (aa_ (aE_ _) ab_)))))
end Go.Proofs.YtdhedjbmdnnbkaaGreatDoor
namespace Go.Proofs.YtdhedjbmdnnbkaaGreatDoor
open Go.Abs Go.RowKit
set_option maxRecDepth 20000
theorem oq_ : Tryz.prog.underlying 179 = some (.pointer 182) := by kernel_rfl
theorem ki_ : Tryz.prog.underlying 270 = some .unsafePointer := by kernel_rfl
theorem op_ : (Tryz.prog.info? 182).map (·.size) = some 2 := by kernel_rfl
set_option maxHeartbeats 1000000 in
theorem cs_used (b : Nat) (w : World) (h0 : w.cell? ⟨b, 0, none⟩ = some (.pointer (some ⟨b, 0, none⟩))) :
    Calls Tryz.prog 213 #[.pointer (some ⟨b, 0, none⟩)] w fun e w' => e = .returned (.tuple #[]) ∧ w' = w := by
 obtain ⟨j, hj, _⟩ := Option.map_eq_some_iff.1 op_
 go_enter Tryz.func213, Tryz.ntmps213
 go_wp2
 rw [Lib.run_neq_ptr_same w _ oq_ hj]
 go_wp2
 go_end0
 exact ⟨rfl, rfl⟩
theorem kM_ {n : Nat} (hn : 2 ≤ n) : liesAt Tryz.prog Tryz.prog.depth 182 (n / Tryz.prog.cellsOf 182) 0 182 1 = true := by
 have hc : Tryz.prog.cellsOf 182 = 2 := by kernel_rfl
 rw [hc]
 have hd : Tryz.prog.depth = (2 * (Tryz.prog.types.size + Made.depth) + 1) + 1 := rfl
 rw [hd]
 simp only [liesAt, Bool.or_eq_true]
 left
 rw [hd]
 have : 1 ≤ n / 2 := by omega
 simp [rowAt, sameLayout, this, hc]
set_option maxHeartbeats 1000000 in
theorem cs_fresh (b : Nat) (w : World) (cs : Array Value) (hh : w.heap[b]? = some (.cells cs 182 (0, 0))) (hsz : 2 ≤ cs.size) (hc : cs[0]? = some (.pointer none)) :
    Calls Tryz.prog 213 #[.pointer (some ⟨b, 0, none⟩)] w fun e w' => e = .returned (.tuple #[]) ∧ w' = w.setCell ⟨b, 0, none⟩ (.pointer (some ⟨b, 0, none⟩)) := by
 obtain ⟨j, hj, hjs⟩ := Option.map_eq_some_iff.1 op_
 have h0 : w.cell? ⟨b, 0, none⟩ = some (.pointer none) := by simp [World.cell?, hh, hc]
 have hsh : w.shape? b = some (182, cs.size) := by simp [World.shape?, hh]
 have hfz : w.frozen? ⟨b, 0, none⟩ = false := by simp [World.frozen?, hh]
 go_enter Tryz.func213, Tryz.ntmps213
 go_wp2
 rw [Lib.run_to_unsafe w ⟨b, 0, none⟩ oq_ ki_ hj (by rw [hjs]; decide) hsh (by show 0 < cs.size; omega)]
 simp only [Result.andThen]
 rw [Oper.upon_value]
 go_wp2
 rw [run_callFunc_extern Tryz.func259 (by kernel_rfl) (by kernel_rfl) (by kernel_rfl) (e := Extern.AbiNoEscape.same) (by kernel_rfl)]
 rw [Lib.run_noEscape]
 simp only [Result.andThen]
 rw [Oper.upon_value]
 go_wp2
 rw [Lib.run_from_unsafe w ⟨b, 0, none⟩ ki_ oq_ hj hsh (kM_ hsz)]
 simp only [Result.andThen]
 rw [Oper.upon_value]
 go_wp2
 go_end0
 exact ⟨rfl, rfl⟩
theorem hU_ {P : Go.Program} {f : Nat} {fn : Func} {c : Code} (hf : P.funcs[f]? = some fn) (hb : fn.body = some c) (hname : (fn.name == "runtime.NumGoroutine") = false) (xs : Array Value) (w : World) : (callFunc f xs).run P w = .ok (.enter f xs) w := by
 have hname' : ¬ fn.name = "runtime.NumGoroutine" := by simpa using hname
 simp [callFunc, hf, hname', hb]
theorem gA_ : CSpec Tryz.prog 213 182 :=
 ⟨fun xs w => hU_ Tryz.func213 rfl (by kernel_rfl) xs w, fun b w h0 => cs_used b w h0, fun b w cs hh hsz h0 => cs_fresh b w cs hh hsz h0⟩
theorem mF_ (a b : Value) : Pure (.tup [.v a, .v b]) := by
 rintro M M' β β' w w' y ⟨xs, rfl, x1, x2, e, h1, ⟨x3, x4, e2, h2, h3⟩⟩
 exact ⟨xs, rfl, x1, x2, e, h1, x3, x4, e2, h2, h3⟩
theorem dr_ : Tryz.prog.underlying 9 = some .string := by kernel_rfl
theorem bE_len (q : List UInt8) : lenA (.arr (bE q)) = some q.length := by simp [lenA, bx_]
theorem f2_ (t : List UInt8) : (⟨t.toArray⟩ : ByteArray).size = t.length := by simp [ByteArray.size]
theorem d5_ (t : List UInt8) (h0 : t ≠ []) (hl : t.length ≤ 1099511627776) : BSpec Tryz.prog 145 182 5 none t [tx t] (.tup [i64 t.length, .v .nilIface]) := by
 refine BSpec.intro Tryz.func145 rfl (by kernel_rfl) (aa_ (ad_ _) ab_) (mF_ _ _) (nle rfl) ?_
 show AWp _ _ _ _ ⟨[(0, .lptr 0 0 0), (1, tx t)], [(0, some ⟨182, 2, [bldC 0 1 none]⟩)], 2, 19⟩
 refine r_z 2 ?_
 refine s_r 2 ?_
 refine a_1 ?_
 refine o_1 (.callC rfl rfl rfl rfl rfl (by first | exact .inl rfl | exact .inr rfl) (gA_)) ?_
 refine aj_ ?_
 refine s_r 10 ?_
 refine a_6 ?_
 refine o_1 (.appS_e rfl rfl rfl te_180.h dr_ rfl rfl h0 tz_5.h rfl tb_5.h (by omega)) ?_
 refine a_z ?_
 refine s_r 4 ?_
 refine o_0 (.move rfl) ?_
 refine o_0 (.builtinV (vs := [_]) rfl rfl (fun _ _ _ => rfl)) ?_
 refine o_0 (.assign rfl) ?_
 refine o_0 (.assign rfl) ?_
 refine aj_ ?_
 refine ae_ ⟨.inr rfl, ?_, 12, by decide, rfl, rfl⟩
 refine ⟨[_, _], ⟨_, _, rfl, rfl, ⟨_, _, rfl, rfl, rfl⟩⟩, Cv.tup ?_⟩
 refine ai_ (Cv.loE at_ ?_ (ad_ _)) (ai_ (ar_ at_ (ad_ _)) ap_)
 rw [f2_]; rfl
theorem db_ (q t : List UInt8) (hl : q.length + t.length ≤ 1099511627776) : BSpec Tryz.prog 145 182 5 (some q) (q ++ t) [tx t] (.tup [i64 t.length, .v .nilIface]) := by
 refine BSpec.intro Tryz.func145 rfl (by kernel_rfl) (aa_ (ad_ _) ab_) (mF_ _ _) (nle rfl) ?_
 show AWp _ _ _ _ ⟨[(0, .lptr 0 0 0), (1, tx t)], [(0, some ⟨182, 2, [bldC 0 1 (some q)]⟩), (1, some ⟨5, 1, bE q⟩)], 2, 19⟩
 refine r_z 2 ?_
 refine s_r 2 ?_
 refine a_1 ?_
 refine o_1 (.callC rfl rfl rfl rfl rfl (by first | exact .inl rfl | exact .inr rfl) (gA_)) ?_
 refine aj_ ?_
 refine s_r 10 ?_
 refine a_6 ?_
 refine o_2 (.appS_l rfl rfl rfl te_180.h dr_ rfl rfl rfl rfl tz_5.h rfl tb_5.h (by omega)) ?_
 refine a_z ?_
 refine s_r 4 ?_
 refine o_0 (.move rfl) ?_
 refine o_0 (.builtinV (vs := [_]) rfl rfl (fun _ _ _ => rfl)) ?_
 refine o_0 (.assign rfl) ?_
 refine o_0 (.assign rfl) ?_
 refine aj_ ?_
 refine ae_ ⟨.inr rfl, ?_, 12, by decide, rfl, rfl⟩
 refine ⟨[_, _], ⟨_, _, rfl, rfl, ⟨_, _, rfl, rfl, rfl⟩⟩, Cv.tup ?_⟩
 refine ai_ (Cv.loE at_ ?_ (ad_ _)) (ai_ (ar_ at_ (ad_ _)) ap_)
 rw [f2_]; rfl
theorem jQ_ : FSpec Tryz.prog 144 [.aptr [bldV none] 0 0] (i64 0) := by
 have hc : Closed (.aptr [bldV none] 0 0) := aP_ (aa_ (ad_ _) (aa_ cs_ ab_))
 refine f_n Tryz.func144 ?_ ?_
 ·exact aa_ hc ab_
 refine r_z 1 ?_
 refine r_z 6 ?_
 exact ae_ (t_e (ad_ _))
theorem jP_ (q : List UInt8) : FSpec Tryz.prog 144 [.aptr [bldV (some q)] 0 0] (i64 q.length) := by
 have hc : Closed (.aptr [bldV (some q)] 0 0) := aP_ (aa_ (lo_any 0).closed (aa_ (aw_ (lo_ q)) ab_))
 refine f_n Tryz.func144 ?_ ?_
 ·exact aa_ hc ab_
 refine r_z 1 ?_
 refine s_r 6 ?_
 refine a_4 ?_
 refine o_0 (.len rfl rfl rfl rfl (bE_len q) te_180.h) ?_
 refine a_z ?_
 exact ae_ (t_e (ad_ _))
theorem ub_byte : Tryz.prog.underlying 233 = some (.pointer 5) := by kernel_rfl
theorem ub_cells : Tryz.prog.cellsOf 5 = 1 := by kernel_rfl
theorem oa_ (w : World) (g n : Nat) : But g w (w.drew.freeze ⟨g, 0, none⟩ n) := by
 have hh : ∀ x, x ≠ g → (w.drew.freeze ⟨g, 0, none⟩ n).heap[x]? = w.heap[x]? := by
  intro x hx
  unfold World.freeze
  split
  ·rfl
  ·show (w.heap.modify g _)[x]? = _
   rw [Array.getElem?_modify, if_neg (Ne.symm hx)]
 have hsz : (w.drew.freeze ⟨g, 0, none⟩ n).heap.size = w.heap.size := by
  unfold World.freeze
  split
  ·rfl
  ·show (w.heap.modify g _).size = _
   simp
 refine ⟨?_, ?_, ?_, by omega, fun x _ hx => hh x hx, fun x N hx => ?_⟩
 ·unfold World.freeze; split <;> rfl
 ·unfold World.freeze; split <;> rfl
 ·unfold World.freeze; split <;> rfl
 ·by_cases hxg : x = g
  ·subst hxg
   unfold World.freeze
   split
   ·exact hx
   ·unfold aC_ at hx ⊢
    show (match (w.heap.modify x _)[x]? with | some (.cells cs _ _) => some cs.size | some (.map _ _) => some 0 | _ => none) = some N
    rw [Array.getElem?_modify, if_pos rfl]
    cases ho : w.heap[x]? with
    | none => rw [ho] at hx; cases hx
    | some o =>
     rw [ho] at hx
     cases o <;> simp_all
  ·unfold aC_ at hx ⊢
   rw [hh x hxg]; exact hx
set_option maxHeartbeats 2000000 in
theorem ds_run (b bj cap : Nat) (q : List UInt8) (w : World) (cs ck : Array Value) (h0 : q ≠ []) (hb : w.heap[b]? = some (.cells cs 182 (0, 0))) (hc1 : cs[1]? = some (.slice (some ⟨bj, 0, none⟩) q.length cap)) (hl : q.length ≤ cap) (hm : cap ≤ maxLen) (hne : b ≠ bj) (hj : w.heap[bj]? = some (.cells ck 5 (0, 0))) (hck : cap ≤ ck.size)
    (hq : ∀ (k : Nat) (x : UInt8), q[k]? = some x → ck[k]? = some (Value.int .u8 x.toNat)) : Calls Tryz.prog 148 #[.pointer (some ⟨b, 0, none⟩)] w fun e w' => e = .returned (.string ⟨q.toArray⟩) ∧ But bj w w' := by
 have hl0 : q.length ≠ 0 := by simpa using h0
 have c1 : w.drew.cell? ⟨b, 1, none⟩ = some (.slice (some ⟨bj, 0, none⟩) q.length cap) := by
  have : w.drew.heap[b]? = some (.cells cs 182 (0, 0)) := hb
  simp [World.cell?, this, hc1]
 have hSD : (Builtin.unsafeSliceData_ #[180] 233 #[.slice (some ⟨bj, 0, none⟩) q.length cap]).run Tryz.prog w.drew = .ok (.pointer (some ⟨bj, 0, none⟩)) w.drew :=
  Lib.run_unsafeSliceData_row _ _ _ _ _ _ (by omega)
 have hUS : (Builtin.unsafeString_ #[233, 3] 9 #[.pointer (some ⟨bj, 0, none⟩), .int .i64 q.length]).run Tryz.prog w.drew = .ok (.string ⟨q.toArray⟩) (w.drew.freeze ⟨bj, 0, none⟩ q.length) := by
  refine Lib.run_unsafeString_row w.drew 233 3 9 5 ub_byte ub_cells bj ck.size (by have hg' : w.drew.heap[bj]? = some (.cells ck 5 (0, 0)) := hj; simp [World.shape?, hg']) q h0 (by omega) (by unfold maxLen at hm; omega) ?_
  intro j x hx
  have hg' : w.drew.heap[bj]? = some (.cells ck 5 (0, 0)) := hj
  rw [show (⟨bj, 0, none⟩ : Addr).add j = ⟨bj, 0 + j, none⟩ from eL_ bj 0 j]
  simp [World.cell?, hg', hq j x hx]
 have mixed := hmix
 go_enter Tryz.func148, Tryz.ntmps148
 go_wp2
 go_region_o
 all_goals (go_wp2; go_ret; exact ⟨rfl, oa_ w bj q.length⟩)
theorem hW_ : DSpec Tryz.prog 148 182 5 :=
 ⟨fun xs w => hU_ Tryz.func148 rfl (by kernel_rfl) xs w, fun b bj cap q w cs ck h0 hb hc1 hl hm hne hj hck hq => ds_run b bj cap q w cs ck h0 hb hc1 hl hm hne hj hck hq⟩
end Go.Proofs.YtdhedjbmdnnbkaaGreatDoor
namespace Go.Proofs.YtdhedjbmdnnbkaaGreatDoor
open Go.Abs
set_option maxRecDepth 20000
theorem cf_ (a b : Rat) (h : qs a + qs b ≤ 549755813888) : FSpec Tryz.prog 22 [.agg (qC a), .agg (qC b)] (.agg (qC (a * b))) := by
 have hp := hr_ a b
 have h1 := bJ_ a; have h2 := bv_ a; have h3 := bJ_ b; have h4 := bv_ b
 rw [ev_]
 refine f_n Tryz.func22 ?_ ?_
 ·exact aa_ (ak_ a) (aa_ (ak_ b) ab_)
 refine r_z 3 ?_
 refine ac_ (r_d hmix 12 ?_)
 refine c_s (lY_ a.num b.num (by omega)) ?_
 refine c_s (b2_ a (by omega)) ?_
 refine c_s (b2_ b (by omega)) ?_
 refine c_s (c1_ a.den b.den (by omega)) ?_
 refine c_s (gT_ (a.num * b.num) (a.den * b.den) (e4_ a b) (by omega)) ?_
 refine a_1 ?_
 refine aj_ (n_k ?_)
 exact ae_ (c_e (ak_ _))
theorem ol_ (n : Nat) : zI (n : Int) = [mag n, bln false] := by
 unfold zI; rw [Int.natAbs_natCast]; rfl
theorem m1_ (x : Int) (n : Nat) (h : bl x.natAbs + bl n ≤ 17592186044416) : FSpec Tryz.prog 99 [.agg (zI x), .agg [mag n, bln false]] (.agg (zI (x * n))) := by
 have := lY_ x n (by simpa using h)
 rwa [ol_] at this
theorem ep_ (a b : Rat) (h : qs a + qs b ≤ 549755813888) : FSpec Tryz.prog 73 [.agg (qC a), .agg (qC b)] (.agg (qC (a + b))) := by
 have hp := ic_ a b
 have h1 := bJ_ a; have h2 := bv_ a; have h3 := bJ_ b; have h4 := bv_ b
 have e1 := bk_ (x := a.num) (y := b.den) h1 (by simpa using h4)
 have e2 := bk_ (x := b.num) (y := a.den) h3 (by simpa using h2)
 rw [id_]
 refine f_n Tryz.func73 ?_ ?_
 ·exact aa_ (ak_ a) (aa_ (ak_ b) ab_)
 refine r_z 3 ?_
 refine ac_ (r_d hmix 8 ?_)
 refine c_s (b2_ a (by omega)) ?_
 refine c_s (b2_ b (by omega)) ?_
 refine a_4 ?_
 refine aj_ (n_k ?_)
 refine ac_ (r_d hmix 16 ?_)
 refine c_s (m1_ a.num b.den (by omega)) ?_
 refine c_s (m1_ b.num a.den (by omega)) ?_
 refine c_s (fs_iadd (a.num * b.den) (b.num * a.den) (by omega)) ?_
 refine c_s (c1_ a.den b.den (by omega)) ?_
 refine c_s (gT_ (a.num * b.den + b.num * a.den) (a.den * b.den) (e4_ a b) (by omega)) ?_
 refine a_1 ?_
 refine aj_ (n_k ?_)
 exact ae_ (c_e (ak_ _))
theorem o8_ (a : Rat) : qC (-a) = zI (sgn (!decide (a.num < 0)) a.num.natAbs) ++ [mag (a.den - 1)] := by
 unfold qC
 rw [Rat.neg_num, Rat.neg_den]
 have e : -a.num = sgn (!decide (a.num < 0)) a.num.natAbs := by
  unfold sgn
  by_cases h : a.num < 0
  ·simp [h]; omega
  ·simp [h]; omega
 rw [e]; rfl
theorem iF_ (a : Rat) : FSpec Tryz.prog 91 [.agg (qC a)] (.agg (qC (-a))) := by
 have hc := ak_ (-a)
 rw [o8_] at hc ⊢
 refine f_n Tryz.func91 ?_ ?_
 ·exact aa_ (ak_ a) ab_
 refine r_z 2 ?_
 refine ac_ (r_d hmix 12 ?_)
 refine c_s (ck_ (!decide (a.num < 0)) a.num.natAbs) ?_
 refine a_4 ?_
 refine aj_ (n_k ?_)
 exact ae_ (c_e (hc))
theorem kQ_ (a b : Rat) (h : qs a + qs b ≤ 549755813888) : FSpec Tryz.prog 164 [.agg (qC a), .agg (qC b)] (.agg (qC (a - b))) := by
 have hs := ep_ a (-b) (by rw [ff_]; exact h)
 rw [← Rat.sub_eq_add_neg] at hs
 refine f_n Tryz.func164 ?_ ?_
 ·exact aa_ (ak_ a) (aa_ (ak_ b) ab_)
 refine r_z 3 ?_
 refine ac_ (r_d hmix 5 ?_)
 refine c_s (iF_ b) ?_
 refine c_s (hs) ?_
 refine a_1 ?_
 refine aj_ (n_k ?_)
 exact ae_ (c_e (ak_ _))
theorem fs_qover (a b : Rat) (hb : b ≠ 0) (h : qs a + qs b ≤ 549755813888) : FSpec Tryz.prog 232 [.agg (qC a), .agg (qC b)] (.agg (qC (a / b))) := by
 have hp := lb_ a b
 have h1 := bJ_ a; have h2 := bv_ a; have h3 := bJ_ b; have h4 := bv_ b
 have hn : b.num ≠ 0 := fun h => hb (Rat.num_eq_zero.1 h)
 have hs := cD_ (decide (b.num < 0)) b.den
 rw [hX_ a b hb]
 refine f_n Tryz.func232 ?_ ?_
 ·exact aa_ (ak_ a) (aa_ (ak_ b) ab_)
 refine r_z 3 ?_
 refine ac_ (r_d hmix 17 ?_)
 refine c_s (b2_ b (by omega)) ?_
 refine c_s (ck_ (decide (b.num < 0)) b.den) ?_
 refine c_s (lY_ a.num (sgn (decide (b.num < 0)) b.den) (by rw [hs]; omega)) ?_
 refine c_s (b2_ a (by omega)) ?_
 refine c_s (c1_ a.den b.num.natAbs (by omega)) ?_
 refine c_s (gT_ (a.num * sgn (decide (b.num < 0)) b.den) (a.den * b.num.natAbs) (Nat.mul_pos a.den_pos (by omega)) (by omega)) ?_
 refine a_1 ?_
 refine aj_ (n_k ?_)
 exact ae_ (c_e (ak_ _))
theorem fs_div (a b : Rat) (hb : b ≠ 0) (h : qs a + qs b ≤ 549755813888) : FSpec Tryz.prog 171 [.agg (qC a), .agg (qC b)] (.tup [.agg (qC (a / b)), i64 0]) := by
 have hn : b.num ≠ 0 := fun h => hb (Rat.num_eq_zero.1 h)
 have hsg : sgZ b.num ≠ 0 := by unfold sgZ; rw [if_neg hn]; split <;> decide
 refine f_n Tryz.func171 ?_ ?_
 ·exact aa_ (ak_ a) (aa_ (ak_ b) ab_)
 refine r_z 4 ?_
 refine ac_ (r_c 3 (cc_ b) ?_)
 refine a_z ?_
 refine af_ rfl (fun h => ?_) (fun h => ?_)
 ·exact absurd h (by simpa using hsg)
 ·refine ag_ (r_c 5 (fs_qover a b hb (by assumption)) ?_)
  refine a_z ?_
  refine ae_ (Fin.many ⟨_, _, rfl, ⟨_, _, _, _, _, rfl, rfl, rfl, .inl ⟨tg_37.h, _, ts_37.h, nle rfl, rfl⟩⟩, ⟨_, _, rfl, rfl, rfl⟩⟩ (nle rfl) ?_)
  exact ai_ (ar_ at_ (ak_ _)) (ai_ (ar_ at_ (ad_ _)) ap_)
theorem qc_ (x : Int) (n : Nat) (hn : 0 < n) : (sgZ x = -1 ∧ ∃ p : Nat, 0 < p ∧ x * n = -(p : Int) ∧ x.natAbs * n = p) ∨ (sgZ x = 0 ∧ x * n = 0 ∧ x.natAbs * n = 0) ∨ (sgZ x = 1 ∧ ∃ p : Nat, 0 < p ∧ x * n = p ∧ x.natAbs * n = p) := by
 rcases Int.lt_trichotomy x 0 with hx | hx | hx
 ·refine .inl ⟨by unfold sgZ; rw [if_neg (by omega), if_pos hx], x.natAbs * n, Nat.mul_pos (by omega) hn, ?_, rfl⟩
  rw [Int.natCast_mul, ← Int.neg_mul]; congr 1; omega
 ·subst hx; refine .inr (.inl ⟨rfl, by simp, by simp⟩)
 ·refine .inr (.inr ⟨by unfold sgZ; rw [if_neg (by omega), if_neg (by omega)], x.natAbs * n, Nat.mul_pos (by omega) hn, ?_, rfl⟩)
  rw [Int.natCast_mul]; congr 1; omega
theorem cmp_code (a b : Rat) : cmpQ a b = if sgZ a.num ≠ sgZ b.num ∨ sgZ a.num = 0 then sgZ a.num - sgZ b.num - (sgZ a.num - sgZ b.num).tdiv 2 else sgZ a.num * cmpZ ((a.num.natAbs * b.den : Nat) : Int) ((b.num.natAbs * a.den : Nat) : Int) := by
 rw [cmpQ_eq]
 rcases qc_ a.num b.den b.den_pos with ⟨s1, p, hp, e1, f1⟩ | ⟨s1, e1, f1⟩ | ⟨s1, p, hp, e1, f1⟩ <;> rcases qc_ b.num a.den a.den_pos with ⟨s2, q, hq, e2, f2⟩ | ⟨s2, e2, f2⟩ | ⟨s2, q, hq, e2, f2⟩ <;> rw [s1, s2, e1, e2, f1, f2] <;> unfold cmpZ <;> simp <;> (repeat' split) <;> first | rfl | omega
theorem kV_ (a b : Rat) (ha : sm a) (hb : sm b) : FSpec Tryz.prog 21 [.agg (qC a), .agg (qC b)] (i64 (cmpQ a b)) := by
 have hs := sm2 ha hb
 have h1 := bJ_ a; have h2 := bv_ a; have h3 := bJ_ b; have h4 := bv_ b
 have hc := cmp_code a b
 have hsa : sgZ a.num = -1 ∨ sgZ a.num = 0 ∨ sgZ a.num = 1 := by unfold sgZ; split; simp; split <;> simp
 have hsb : sgZ b.num = -1 ∨ sgZ b.num = 0 ∨ sgZ b.num = 1 := by unfold sgZ; split; simp; split <;> simp
 have hbm1 := dD_ a.num.natAbs b.den
 have hbm2 := dD_ b.num.natAbs a.den
 refine f_n Tryz.func21 ?_ ?_
 ·exact aa_ (ak_ a) (aa_ (ak_ b) ab_)
 refine r_z 3 ?_
 refine ac_ (ac_ (r_d hmix 6 ?_))
 refine c_s (cc_ a) ?_
 refine c_s (cc_ b) ?_
 refine a_2 ?_
 refine aj_ (n_k ?_)
 obtain ⟨x, hx⟩ : ∃ x, x = sgZ a.num := ⟨_, rfl⟩
 obtain ⟨y, hy⟩ : ∃ y, y = sgZ b.num := ⟨_, rfl⟩
 rw [← hx] at hsa hc ⊢
 rw [← hy] at hsb hc ⊢
 have hq : (x - y).tdiv 2 = -1 ∨ (x - y).tdiv 2 = 0 ∨ (x - y).tdiv 2 = 1 := by
  rcases hsa with h | h | h <;> rcases hsb with h' | h' | h' <;> rw [h, h'] <;> decide
 refine au_ (fun _ : Unit => ⟨[(2, .lptr 1 0 0), (3, .lptr 2 0 0)], [(1, some ⟨37, 3, [qC a]⟩), (2, some ⟨37, 3, [qC b]⟩)], 3, 42⟩) (fun _ => x = y ∧ x ≠ 0) ?_ ?_
 ·by_cases he : x = y
  ·refine s_r 7 ?_
   refine a_4 ?_
   refine y_g rfl (by simp [he]) (.move rfl) ?_
   refine y_g rfl (by simp [he]) (.bin rfl rfl a2_) ?_
   refine o_0 (.pickF rfl (by simp [he]) rfl) ?_
   refine aj_ ?_
   refine af_ rfl (fun h => ?_) (fun h => ?_)
   ·have h0 : x = 0 := by simpa using h
    refine s_r 9 ?_
    refine a_6 ?_
    refine o_0 (.bin rfl rfl (h9_ (by decide) (by omega))) ?_
    refine a_z ?_
    refine ae_ (aD_ rfl ?_ (ad_ _))
    rw [hc, if_pos (.inr h0)]; rfl
   ·have h0 : x ≠ 0 := by simpa using h
    refine ag_ ⟨(), ⟨he, h0⟩, ?_⟩
    exact s_e []
  ·refine s_r 7 ?_
   refine a_4 ?_
   refine n_g rfl (by simp [he]) ?_
   refine n_g rfl (by simp [he]) ?_
   refine o_0 (.pickT rfl (by simp [he]) rfl) ?_
   refine aj_ ?_
   refine af_ rfl (fun h => ?_) (fun h => ?_)
   ·refine s_r 9 ?_
    refine a_6 ?_
    refine o_0 (.bin rfl rfl (h9_ (by decide) (by omega))) ?_
    refine a_z ?_
    refine ae_ (aD_ rfl ?_ (ad_ _))
    rw [hc, if_pos (.inl he)]; rfl
   ·cases h
 rintro _ ⟨he, h0⟩
 have hcz : cmpZ ((a.num.natAbs * b.den : Nat) : Int) ((b.num.natAbs * a.den : Nat) : Int) = -1 ∨ cmpZ ((a.num.natAbs * b.den : Nat) : Int) ((b.num.natAbs * a.den : Nat) : Int) = 0 ∨ cmpZ ((a.num.natAbs * b.den : Nat) : Int) ((b.num.natAbs * a.den : Nat) : Int) = 1 := by
  unfold cmpZ; split; simp; split <;> simp
 have hsx := cc_ a
 rw [← hx] at hsx
 have hmul : -9223372036854775808 ≤ x * cmpZ ((a.num.natAbs * b.den : Nat) : Int) ((b.num.natAbs * a.den : Nat) : Int) ∧ x * cmpZ ((a.num.natAbs * b.den : Nat) : Int) ((b.num.natAbs * a.den : Nat) : Int) ≤ 9223372036854775807 := by
  rcases hsa with h | h | h <;> rcases hcz with h' | h' | h' <;> rw [h, h'] <;> decide
 refine ac_ (r_d hmix 17 ?_)
 refine c_s (hsx) ?_
 refine c_s (b2_ b (by omega)) ?_
 refine c_s (c1_ a.num.natAbs b.den (by omega)) ?_
 refine c_s (b2_ a (by omega)) ?_
 refine c_s (c1_ b.num.natAbs a.den (by omega)) ?_
 refine c_s (gg_ (a.num.natAbs * b.den) (b.num.natAbs * a.den) (by omega)) ?_
 refine o_0 (.bin rfl rfl (g6_ hmul)) ?_
 refine a_1 ?_
 refine aj_ (n_k ?_)
 refine ae_ (aD_ rfl ?_ (ad_ _))
 rw [hc, if_neg (by omega)]; rfl
theorem m4_ (a : Rat) : FSpec Tryz.prog 146 [.agg (qC a)] (.agg (qC (absQ a))) := by
 have hc := ak_ (absQ a)
 rw [qC_abs] at hc ⊢
 refine f_n Tryz.func146 ?_ ?_
 ·exact aa_ (ak_ a) ab_
 refine r_z 2 ?_
 refine ac_ (r_d hmix 8 ?_)
 refine c_s (ck_ false a.num.natAbs) ?_
 refine a_4 ?_
 refine aj_ (n_k ?_)
 exact ae_ (c_e (hc))
theorem fs_den (a : Rat) (ha : sm a) : FSpec Tryz.prog 219 [.agg (qC a)] (.agg (qC ((a.den : Int) : Rat))) := by
 have hw := gQ_ (a.den : Int)
 rw [ol_] at hw
 refine f_n Tryz.func219 ?_ ?_
 ·exact aa_ (ak_ a) ab_
 refine r_z 2 ?_
 refine r_c 5 (b2_ a (by unfold sm at ha; omega)) ?_
 refine c_s (hw) ?_
 refine a_z ?_
 exact ae_ (c_e (ak_ _))
theorem p0_ {z q : Int} {d : Nat} (hd : 0 < d) (h1 : q * d ≤ z) (h2 : z < q * d + d) : z / (d : Int) = q := by
 have hdi : (0 : Int) < d := by omega
 have a1 : q ≤ z / (d : Int) := (Int.le_ediv_iff_mul_le hdi).2 h1
 have a2 : z / (d : Int) < q + 1 := (Int.ediv_lt_iff_lt_mul hdi).2 (by rw [Int.add_mul]; omega)
 omega
theorem iK_ (z : Int) (d : Nat) (hd : 0 < d) : z / (d : Int) = sgn (decide (z < 0)) (if (decide (z < 0) && !(z.natAbs % d == 0)) = true then z.natAbs / d + 1 else z.natAbs / d) := by
 have h1 := Nat.div_add_mod z.natAbs d
 have h2 := Nat.mod_lt z.natAbs hd
 generalize hr : z.natAbs % d = r at *
 generalize hq : z.natAbs / d = a at *
 have h3 : ((d * a : Nat) : Int) = (a : Int) * d := by rw [Int.natCast_mul, Int.mul_comm]
 refine p0_ hd ?_ ?_ <;> by_cases hz : z < 0 <;> by_cases h0 : r = 0 <;> simp [sgn, hz, h0, Int.neg_mul, Int.add_mul] <;> omega
theorem pC_ (z : Int) (d : Nat) (hd : 0 < d) (h : bl z.natAbs + bl d ≤ 4398046511104) : FSpec Tryz.prog 262 [.agg (zI z), .agg [mag d]] (.agg (zI (z / d))) := by
 rw [iK_ z d hd]
 have hbq := cp_ z.natAbs d
 have hb1 := ny_ (z.natAbs / d) 1
 have hb2 : bl 1 = 1 := eq_
 obtain ⟨Q, hQ⟩ : ∃ Q, Q = (if (decide (z < 0) && !(z.natAbs % d == 0)) = true then z.natAbs / d + 1 else z.natAbs / d) := ⟨_, rfl⟩
 rw [← hQ]
 refine f_n Tryz.func262 ?_ ?_
 ·exact aa_ (bE_ z) (aa_ (cP_ d) ab_)
 refine r_z 3 ?_
 refine r_c 11 (jJ_ z.natAbs d h hd) ?_
 refine a_z ?_
 refine aO_ (fun _ : Unit => ⟨[(2, .lptr 1 0 0), (4, .lptr 2 0 0), (5, .lptr 3 0 0)], [(1, some ⟨35, 2, [zI z]⟩), (2, some ⟨35, 2, [[.emp, bln false]]⟩), (3, some ⟨33, 1, [[mag Q]]⟩)], 4, 28⟩) (fun _ => True) ?_ ?_
 ·by_cases hz : z < 0
  ·refine s_r 7 ?_
   refine a_3 ?_
   first | refine y_g rfl (by simp [hz]) (.load_l rfl rfl rfl tg_33.h ts_33.h (nle rfl)) ?_ | refine y_g rfl (by simp [hz]) (.load_a rfl rfl tg_33.h ts_33.h (nle rfl)) ?_
   refine y_g rfl (by simp [hz]) (.call rfl rfl rfl (ee_ (z.natAbs % d))) ?_
   refine y_g rfl (by simp [hz]) (.un rfl kh_) ?_
   refine o_0 (.pickT rfl (by simp [hz]) rfl) ?_
   refine aj_ ?_
   refine af_ rfl (fun h1 => ?_) (fun h1 => ?_)
   ·have : Q = z.natAbs / d + 1 := by rw [hQ, if_pos]; simpa [hz] using h1
    rw [this]
    refine r_d hmix 4 ?_
    refine c_s (c2_ 1 (by decide)) ?_
    refine c_s (lV_ (z.natAbs / d) 1 (by omega)) ?_
    refine a_1 ?_
    refine aj_ (n_k ?_)
    refine ⟨(), trivial, ?_⟩
    exact s_e [(2, 4), (3, 5)]
   ·have : Q = z.natAbs / d := by rw [hQ, if_neg]; simpa [hz] using h1
    rw [this]
    refine ag_ ⟨(), trivial, ?_⟩
    exact s_e [(2, 4), (3, 5)]
  ·refine s_r 7 ?_
   refine a_3 ?_
   refine n_g rfl (by simp [hz]) ?_
   refine n_g rfl (by simp [hz]) ?_
   refine n_g rfl (by simp [hz]) ?_
   refine o_0 (.pickF rfl (by simp [hz]) rfl) ?_
   refine aj_ ?_
   have : Q = z.natAbs / d := by rw [hQ, if_neg]; simp [hz]
   rw [this]
   refine af_ rfl (fun h => ?_) (fun h => ag_ ⟨(), trivial, ?_⟩)
   ·cases h
   ·exact s_e [(2, 4), (3, 5)]
 rintro _ _
 refine r_c 5 (ck_ (decide (z < 0)) Q) ?_
 refine a_z ?_
 exact ae_ (c_e (bE_ _))
theorem gX_ (q : Rat) (h : qs q ≤ 1099511627776) : FSpec Tryz.prog 223 [.agg (qC q)] (.agg (qC (q.floor : Rat))) := by
 have h1 := bJ_ q; have h2 := bv_ q
 rw [Rat.floor_def]
 refine f_n Tryz.func223 ?_ ?_
 ·exact aa_ (ak_ q) ab_
 refine r_z 2 ?_
 refine ac_ (r_d hmix 7 ?_)
 refine c_s (b2_ q h) ?_
 refine c_s (pC_ q.num q.den q.den_pos (by omega)) ?_
 refine c_s (gQ_ (q.num / q.den)) ?_
 refine a_1 ?_
 refine aj_ (n_k ?_)
 exact ae_ (c_e (ak_ _))
def ceilQ (q : Rat) : Rat := -((-q).floor : Rat)
theorem pF_ (q : Rat) (h : qs q ≤ 1099511627776) : FSpec Tryz.prog 222 [.agg (qC q)] (.agg (qC (ceilQ q))) := by
 refine f_n Tryz.func222 ?_ ?_
 ·exact aa_ (ak_ q) ab_
 refine r_z 2 ?_
 refine r_c 5 (iF_ q) ?_
 refine c_s (gX_ (-q) (by rw [ff_]; exact h)) ?_
 refine c_s (iF_ ((-q).floor : Rat)) ?_
 refine a_z ?_
 exact ae_ (c_e (ak_ _))
def wi (k : Int) (m : Nat) : Nat := (max 0 (min k m)).toNat
theorem pr_ (k : Int) (m : Nat) : FSpec Tryz.prog 275 [i64 k, i64 m] (i64 (wi k m)) := by
 refine f_n Tryz.func275 ?_ ?_
 ·exact aa_ (ad_ _) (aa_ (ad_ _) ab_)
 refine r_z 1 ?_
 refine r_z 5 ?_
 refine ae_ (aD_ rfl ?_ ?_)
 ·simp only [i64, wi]
  congr 2
  split <;> split <;> omega
 ·exact ad_ _
def powS  : Nat × Nat × Nat → AState
 | (o, x, m) => ⟨[(1, i64 m), (2, .lptr 1 0 0), (4, .lptr 2 0 0), (5, .lptr 3 0 0)], [(1, some ⟨33, 1, [[mag x]]⟩), (2, some ⟨33, 1, [[.emp]]⟩), (3, some ⟨33, 1, [[mag o]]⟩)], 4, 23⟩
theorem fm_  (o : Nat) (x : Nat) (m : Nat) : powS  (o, x, m) = ⟨[(1, i64 m), (2, .lptr 1 0 0), (4, .lptr 2 0 0), (5, .lptr 3 0 0)], [(1, some ⟨33, 1, [[mag x]]⟩), (2, some ⟨33, 1, [[.emp]]⟩), (3, some ⟨33, 1, [[mag o]]⟩)], 4, 23⟩ := rfl
theorem nQ_ (x m : Nat) : x ^ m = (x * x) ^ (m / 2) * (if m % 2 = 1 then x else 1) := by
 rw [← Nat.pow_two, ← Nat.pow_mul]
 have := Nat.div_add_mod m 2
 split
 ·rename_i h; rw [← Nat.pow_succ]; congr 1; omega
 ·rename_i h; rw [Nat.mul_one]; congr 1; omega
theorem pB_ (a n : Nat) (h : bl a * n ≤ 2199023255552) (hn : n ≤ 1000000) : FSpec Tryz.prog 274 [.agg [mag a], i64 n] (.agg [mag (a ^ n)]) := by
 refine f_n Tryz.func274 ?_ ?_
 ·exact aa_ (cP_ a) (aa_ (ad_ _) ab_)
 refine r_z 2 ?_
 refine r_c 3 (c2_ 1 (by decide)) ?_
 refine a_z ?_
 refine aO_ (fun _ : Unit => ⟨[(4, .lptr 2 0 0), (5, .lptr 3 0 0)], [(2, some ⟨33, 1, [[.emp]]⟩), (3, some ⟨33, 1, [[mag (a ^ n)]]⟩)], 4, 23⟩) (fun _ => True) ?_ ?_
 ·refine ah_ (ao_ powS (fun x => x.2.2) (fun x => x.1 * x.2.1 ^ x.2.2 = a ^ n ∧ bl x.1 + bl x.2.1 * x.2.2 ≤ 2199023255553 ∧ x.2.2 ≤ 1000000) (1, a, n) ⟨by simp, by have : bl 1 = 1 := eq_; simp only; omega, hn⟩ ?_ ?_)
  ·rw [fm_]
   exact s_e [(1, 2), (2, 4), (3, 5)]
  rintro ⟨o, x, m⟩ ⟨hv, hb, hm⟩
  simp only at hv hb hm
  rw [fm_]
  refine ac_ (r_z 2 ?_)
  refine af_ rfl (fun h => ?_) (fun h => ?_)
  ·have hm0 : 0 < m := by simpa using h
   have hx1 : bl x * 1 ≤ bl x * m := Nat.mul_le_mul_left _ hm0
   have hph := nQ_ x m
   refine ag_ ?_
   have hq : (m : Int).tdiv 2 = ((m / 2 : Nat) : Int) := by
    rw [Int.tdiv_eq_ediv_of_nonneg (by omega)]; omega
   have hdm := Nat.div_add_mod m 2
   have hml := Nat.mod_lt m (show 0 < 2 by decide)
   have hlt : m / 2 < m := by omega
   have hbx := dD_ x x
   have hbo := dD_ o x
   have hxm : bl x * m = bl x * (2 * (m / 2)) + bl x * (m % 2) := by rw [← Nat.mul_add]; congr 1; omega
   have hx2 : bl (x * x) * (m / 2) ≤ bl x * (2 * (m / 2)) := by
    have := Nat.mul_le_mul_right (m / 2) hbx
    rw [← Nat.two_mul, Nat.mul_comm 2, Nat.mul_assoc] at this; exact this
   have hI : (m : Int) % 2 = ((m % 2 : Nat) : Int) := by omega
   have hI2 : (m : Int) / 2 = ((m / 2 : Nat) : Int) := by omega
   refine ac_ (ah_ (aO_ (fun o' : Nat => powS (o', x, m)) (fun o' => o' = o * (if m % 2 = 1 then x else 1)) ?_ ?_))
   ·refine r_z 3 ?_
    refine af_ rfl (fun h1 => ?_) (fun h1 => ?_)
    ·have hodd : m % 2 = 1 := by simp at h1; omega
     refine r_m 4 ?_
     refine c_s (c1_ o x (by omega)) ?_
     refine a_z ?_
     refine ⟨o * x, by rw [if_pos hodd], ?_⟩
     simp only [fm_]
     exact s_e []
    ·have hev : ¬ m % 2 = 1 := by simp at h1; omega
     refine ag_ ⟨o, by rw [if_neg hev, Nat.mul_one], ?_⟩
     simp only [fm_]
     exact s_e []
   rintro o' ho'
   rw [fm_]
   have hbo' : bl o' ≤ bl o + bl x * (m % 2) := by
    rw [ho']
    split
    ·rename_i h1; rw [h1]; omega
    ·rw [Nat.mul_one]; omega
   have hv' : o' * (x * x) ^ (m / 2) = a ^ n := by
    rw [← hv, hph, ho', Nat.mul_assoc, Nat.mul_comm (if m % 2 = 1 then x else 1)]
   refine r_z 2 ?_
   refine af_ rfl (fun h2 => ?_) (fun h2 => ?_)
   ·refine r_m 4 ?_
    refine c_s (c1_ x x (by omega)) ?_
    refine a_z ?_
    refine r_m 3 ?_
    refine a_z ?_
    refine ⟨(o', x * x, m / 2), hlt, ⟨hv', by simp only; omega, by simp only; omega⟩, ?_⟩
    rw [fm_]
    have := (congrArg (fun z => AV.v (.int .i64 z)) hI2)
    exact s_f []
   ·have hm1 : m / 2 = 0 := by simp at h2; omega
    refine ag_ (r_m 3 ?_)
    refine a_z ?_
    rw [hm1] at hv' hI2
    refine ⟨(o', x, 0), hm0, ⟨by simpa using hv', by simp only; omega, by simp only; omega⟩, ?_⟩
    rw [fm_]
    have := (congrArg (fun z => AV.v (.int .i64 z)) hI2)
    exact s_f []
  ·have hm0 : m = 0 := by simp at h; omega
   subst hm0
   refine al_ ⟨(), trivial, ?_⟩
   have hv' : o = a ^ n := by simpa using hv
   rw [hv']
   exact s_e []
 rintro _ _
 refine r_z 2 ?_
 exact ae_ (c_e (cP_ _))
theorem fs_two (k : Int) : FSpec Tryz.prog 242 [i64 k] (.agg [mag (2 ^ wi k 256)]) := by
 have hw : wi k 256 ≤ 256 := by unfold wi; omega
 have h2 : bl 2 = 2 := by decide
 refine f_n Tryz.func242 ?_ ?_
 ·exact aa_ (ad_ _) ab_
 refine r_z 1 ?_
 refine r_c 5 (c2_ 2 (by decide)) ?_
 refine c_s (pr_ k 256) ?_
 refine c_s (pB_ 2 (wi k 256) (by rw [h2]; omega) (by omega)) ?_
 refine a_z ?_
 exact ae_ (c_e (cP_ _))
theorem qq_ (k : Nat) : bl (2 ^ k) ≤ k + 1 := bl_le (by rw [Nat.pow_succ]; have := Nat.pow_pos (n := k) (show 0 < 2 by decide); omega)
theorem hN_ (k : Int) : FSpec Tryz.prog 186 [i64 k] (.agg (qC (fineQ (wi k 256)))) := by
 have hw : wi k 256 ≤ 256 := by unfold wi; omega
 have hb := qq_ (wi k 256)
 have h1 : bl (1 : Int).natAbs = 1 := eq_
 refine f_n Tryz.func186 ?_ ?_
 ·exact aa_ (ad_ _) ab_
 refine r_z 1 ?_
 refine r_c 5 (mZ_ 1 (by decide)) ?_
 refine c_s (fs_two k) ?_
 refine c_s (gT_ 1 (2 ^ wi k 256) (Nat.pow_pos (by decide)) (by omega)) ?_
 refine a_z ?_
 exact ae_ (c_e (ak_ _))
def twoQ (k : Nat) : Rat := ((2 ^ k : Nat) : Int)
theorem lJ_ (k : Nat) : qs (twoQ k) ≤ k + 1 := by
 have h1 : (twoQ k).num = ((2 ^ k : Nat) : Int) := rfl
 have h2 : (twoQ k).den = 1 := rfl
 unfold qs
 rw [h1, h2, Int.natAbs_natCast, eq_]
 have := qq_ k
 omega
theorem mD_ (k : Nat) : qs (fineQ k) ≤ k + 1 := by
 have h1 : bl (1 : Int).natAbs = 1 := eq_
 exact cr_ (Nat.pow_pos (by decide)) (by omega) (qq_ k)
theorem kT_ (a : Rat) (k : Int) (h : qs a ≤ 549755813000) : FSpec Tryz.prog 249 [.agg (qC a), i64 k] (.agg (qC (a * twoQ (wi k 256)))) := by
 have hw : wi k 256 ≤ 256 := by unfold wi; omega
 have h2 := lJ_ (wi k 256)
 have hwh := gQ_ ((2 ^ wi k 256 : Nat) : Int)
 rw [ol_] at hwh
 refine f_n Tryz.func249 ?_ ?_
 ·exact aa_ (ak_ a) (aa_ (ad_ _) ab_)
 refine r_z 2 ?_
 refine ac_ (r_d hmix 7 ?_)
 refine c_s (fs_two k) ?_
 refine c_s (hwh) ?_
 refine c_s (cf_ a (twoQ (wi k 256)) (by omega)) ?_
 refine a_1 ?_
 refine aj_ (n_k ?_)
 exact ae_ (c_e (ak_ _))
def downQ (a : Rat) (k : Nat) : Rat := ((a * twoQ k).floor : Rat) * fineQ k
def upQ (a : Rat) (k : Nat) : Rat := ceilQ (a * twoQ k) * fineQ k
theorem mC_ (a : Rat) : qs (a.floor : Rat) ≤ qs a + 1 := by
 rw [Rat.floor_def]
 have h1 := bJ_ a
 have e1 : ((a.num / (a.den : Int) : Int) : Rat).num = a.num / a.den := rfl
 have e2 : ((a.num / (a.den : Int) : Int) : Rat).den = 1 := rfl
 have h3 : 1 ≤ bl a.den := bl_pos a.den_pos
 have h4 := bv_ a
 unfold qs at *
 rw [e1, e2, eq_, iK_ _ _ a.den_pos, cD_]
 have h5 := cp_ a.num.natAbs a.den
 have h6 := ny_ (a.num.natAbs / a.den) 1
 have h7 : bl 1 = 1 := eq_
 split <;> omega
theorem qs_ceilQ (a : Rat) : qs (ceilQ a) ≤ qs a + 1 := by
 unfold ceilQ
 rw [ff_]
 have := mC_ (-a)
 rwa [ff_] at this
theorem pR_ (a : Rat) (k : Int) (h : sm a) : FSpec Tryz.prog 191 [.agg (qC a), i64 k] (.agg (qC (downQ a (wi k 256)))) := by
 unfold sm at h
 have hw : wi k 256 ≤ 256 := by unfold wi; omega
 have h2 := lJ_ (wi k 256)
 have h3 := c4_ a (twoQ (wi k 256))
 have h4 := mC_ (a * twoQ (wi k 256))
 have h5 := mD_ (wi k 256)
 refine f_n Tryz.func191 ?_ ?_
 ·exact aa_ (ak_ a) (aa_ (ad_ _) ab_)
 refine r_z 2 ?_
 refine r_c 8 (kT_ a k (by omega)) ?_
 refine c_s (gX_ (a * twoQ (wi k 256)) (by omega)) ?_
 refine c_s (hN_ k) ?_
 refine c_s (cf_ ((a * twoQ (wi k 256)).floor : Rat) (fineQ (wi k 256)) (by omega)) ?_
 refine a_z ?_
 exact ae_ (c_e (ak_ _))
theorem fs_Up (a : Rat) (k : Int) (h : sm a) : FSpec Tryz.prog 202 [.agg (qC a), i64 k] (.agg (qC (upQ a (wi k 256)))) := by
 unfold sm at h
 have hw : wi k 256 ≤ 256 := by unfold wi; omega
 have h2 := lJ_ (wi k 256)
 have h3 := c4_ a (twoQ (wi k 256))
 have h4 := qs_ceilQ (a * twoQ (wi k 256))
 have h5 := mD_ (wi k 256)
 refine f_n Tryz.func202 ?_ ?_
 ·exact aa_ (ak_ a) (aa_ (ad_ _) ab_)
 refine r_z 2 ?_
 refine r_c 8 (kT_ a k (by omega)) ?_
 refine c_s (pF_ (a * twoQ (wi k 256)) (by omega)) ?_
 refine c_s (hN_ k) ?_
 refine c_s (cf_ (ceilQ (a * twoQ (wi k 256))) (fineQ (wi k 256)) (by omega)) ?_
 refine a_z ?_
 exact ae_ (c_e (ak_ _))
def dec2 (n : Nat) : List UInt8 := if n < 10 then [48 + n.toUInt8] else [48 + (n / 10).toUInt8, 48 + (n % 10).toUInt8]
theorem jW_ (s : ByteArray) (l h : Nat) (zl zh : Int) (el : zl = (l : Int)) (eh : zh = (h : Int)) (hlh : l ≤ h) (hh : h ≤ s.size) : ∀ w, (Instr.sliceAt 9 (.string s) (some (.int .i64 zl)) (some (.int .i64 zh)) none).run Tryz.prog w = .ok (.string (s.extract l h)) w := fun w => by
 subst el eh
 have b1 : ∀ (i y : Nat) (c : BoundsCode), i ≤ y → (Instr.sliceBound (.int .i64 (i : Int)) y c).run Tryz.prog w = .ok i w := fun i y c hi => b1_ hi c w
 have hr : (Instr.slice 9 (.string s) (some (.int .i64 (l : Int))) (some (.int .i64 (h : Int))) none).run Tryz.prog w = .ok (.string (s.extract l h)) w := by
  simp [Instr.slice, run_underlying dr_, Instr.sliceBounds, b1 h s.size _ hh, b1 l h _ hlh, Result.andThen]
 unfold Instr.sliceAt
 rw [Sem.run_bind, run_underlying dr_]
 exact hr
def smallsB : ByteArray := ⟨((List.range 100).flatMap fun n => [48 + (n / 10).toUInt8, 48 + (n % 10).toUInt8]).toArray⟩
theorem pt_ (i : Nat) (h : i < 100) : FSpec Tryz.prog 279 [i64 i] (tx (dec2 i)) := by
 refine f_n Tryz.func279 ?_ ?_
 ·exact aa_ (ad_ _) ab_
 refine r_z 1 ?_
 refine ac_ (r_z 2 ?_)
 refine af_ rfl (fun h1 => ?_) (fun h1 => ?_)
 ·have h2 : i < 10 := by simp at h1; omega
  refine s_r 5 ?_
  refine a_3 ?_
  refine o_0 (.slice_v rfl rfl rfl rfl (jW_ _ i (i + 1) _ _ rfl (by omega) (by omega) (by exact Nat.le_trans (m := 10) (by omega) (by decide)))) ?_
  refine a_z ?_
  refine ae_ (aD_ rfl ?_ ?_)
  ·have key : ∀ i, i < 10 → (ByteArray.mk #[48, 49, 50, 51, 52, 53, 54, 55, 56, 57, 97, 98, 99, 100, 101, 102, 103, 104, 105, 106, 107, 108, 109, 110, 111, 112, 113, 114, 115, 116, 117, 118, 119, 120, 121, 122]).extract i (i + 1) = ⟨(dec2 i).toArray⟩ := by decide
   exact congrArg (fun s => AV.v (.string s)) (key i h2)
  ·exact ad_ _
 ·have h2 : 10 ≤ i := by simp at h1; omega
  refine ag_ (s_r 7 ?_)
  refine a_5 ?_
  refine o_0 (.slice_v rfl rfl rfl rfl (jW_ _ (i * 2) (i * 2 + 2) _ _ (by omega) (by omega) (by omega) (by exact Nat.le_trans (m := 200) (by omega) (by decide)))) ?_
  refine a_z ?_
  refine ae_ (aD_ rfl ?_ ?_)
  ·have key : ∀ i, i < 100 → 10 ≤ i → smallsB.extract (i * 2) (i * 2 + 2) = ⟨(dec2 i).toArray⟩ := by decide
   refine congrArg (fun s => AV.v (.string s)) (Eq.trans (congrArg (fun s : ByteArray => s.extract _ _) (?_ : _ = smallsB)) (key i h h2))
   kernel_rfl
  ·exact ad_ _
theorem kY_ (i : Nat) (h : i < 100) : FSpec Tryz.prog 260 [i64 i, i64 10] (tx (dec2 i)) := by
 refine f_n Tryz.func260 ?_ ?_
 ·exact aa_ (ad_ _) (aa_ (ad_ _) ab_)
 refine r_z 1 ?_
 refine ac_ (r_z 2 ?_)
 refine af_ rfl (fun h1 => ?_) (fun h1 => ?_)
 ·refine ac_ (s_r 6 ?_)
  refine a_3 ?_
  refine y_g rfl (by simp) (.move rfl) ?_
  refine y_g rfl (by simp) (.bin rfl rfl bZ_) ?_
  refine o_0 (.pickT rfl (by simp) rfl) ?_
  refine aj_ ?_
  refine af_ rfl (fun h2 => ?_) (fun h2 => ?_)
  ·refine r_c 3 (pt_ i h) ?_
   refine a_z ?_
   exact ae_ (t_e (ad_ _))
  ·exact absurd h2 (by simp; omega)
 ·exact absurd h1 (by simp)
theorem fs_iItoa (i : Nat) (h : i < 100) : FSpec Tryz.prog 214 [i64 i] (tx (dec2 i)) := by
 refine f_n Tryz.func214 ?_ ?_
 ·exact aa_ (ad_ _) ab_
 refine r_z 1 ?_
 refine r_c 3 (kY_ i h) ?_
 refine a_z ?_
 exact ae_ (t_e (ad_ _))
theorem l1_ (i : Nat) (h : i < 100) : FSpec Tryz.prog 147 [i64 i] (tx (dec2 i)) := by
 refine f_n Tryz.func147 ?_ ?_
 ·exact aa_ (ad_ _) ab_
 refine r_z 1 ?_
 refine r_c 3 (fs_iItoa i h) ?_
 refine a_z ?_
 exact ae_ (t_e (ad_ _))
def te0 (m : Nat) : Unit → AState
 | u => ⟨[(1, .lptr 1 0 0), (3, .lptr 2 0 0), (11, .clos 269 [] [.aptr [[.arr (dE [m])]] 0 0])], [(1, some ⟨33, 1, [[.arr (dE [m])]]⟩), (2, some ⟨182, 2, [bldC 2 0 none]⟩)], 4, 31⟩
theorem te0_mk (m : Nat) (u : Unit) : te0 m u = ⟨[(1, .lptr 1 0 0), (3, .lptr 2 0 0), (11, .clos 269 [] [.aptr [[.arr (dE [m])]] 0 0])], [(1, some ⟨33, 1, [[.arr (dE [m])]]⟩), (2, some ⟨182, 2, [bldC 2 0 none]⟩)], 4, 31⟩ := rfl
def te1 (m : Nat) : Unit → AState
 | u => ⟨[(1, .lptr 1 0 0), (3, .lptr 2 0 0), (11, .clos 269 [] [.aptr [[.arr (dE [m])]] 0 0])], [(1, some ⟨33, 1, [[.arr (dE [m])]]⟩), (2, some ⟨182, 2, [bldC 2 3 (some (dec2 m))]⟩), (3, some ⟨5, 1, bE (dec2 m)⟩)], 4, 31⟩
theorem te1_mk (m : Nat) (u : Unit) : te1 m u = ⟨[(1, .lptr 1 0 0), (3, .lptr 2 0 0), (11, .clos 269 [] [.aptr [[.arr (dE [m])]] 0 0])], [(1, some ⟨33, 1, [[.arr (dE [m])]]⟩), (2, some ⟨182, 2, [bldC 2 3 (some (dec2 m))]⟩), (3, some ⟨5, 1, bE (dec2 m)⟩)], 4, 31⟩ := rfl
def teS (m : Nat) : Nat → AState
 | 0 => te0 m ()
 | _ + 1 => te1 m ()
theorem p4_ {m : Nat} (h0 : m ≠ 0) (h : m < 100) : digs MB m = [m] := by
 have hb : MB = 1000000000 := rfl
 rw [ch_ (by decide) (by omega), Nat.mod_eq_of_lt (by omega), Nat.div_eq_of_lt (by omega), a8_]
theorem mc_ (m : Nat) : dec2 m ≠ [] := by unfold dec2; split <;> simp
theorem e5_ (m : Nat) : (dec2 m).length ≤ 2 := by unfold dec2; split <;> simp
theorem m0_ (m : Nat) (h : m < 100) : FSpec Tryz.prog 172 [.agg [mag m]] (tx (dec2 m)) := by
 have hz := ee_ m
 refine f_n Tryz.func172 ?_ ?_
 ·exact aa_ (aq_ (aa_ (aE_ m) ab_)) ab_
 refine r_z 2 ?_
 refine ac_ (r_c 2 (hz) ?_)
 refine aj_ ?_
 refine af_ rfl (fun h1 => ?_) (fun h1 => ?_)
 ·have h2 : m = 0 := by simpa using h1
  subst h2
  refine r_z 1 ?_
  exact ae_ (t_e (ad_ _))
 have h2 : m ≠ 0 := by simpa using h1
 have hm : mag m = .arr (dE [m]) := by unfold mag; rw [p4_ h2 h]
 rw [hm]
 refine ag_ ?_
 have hln : ([m] : List Nat).length = 1 := rfl
 have hcl : Closed (.aptr [[.arr (dE [m])]] 0 0) := dC_ (fun e he c hc => by simp at he; subst he; simp at hc; subst hc; exact bh_ _)
 have hcl2 : Closed (.clos 269 [] [.aptr [[.arr (dE [m])]] 0 0]) := aJ_ ab_ (aa_ hcl ab_)
 refine r_z 1 ?_
 refine ac_ (r_c 3 (ef_ [m]) ?_)
 refine aj_ ?_
 refine au_ (fun _ : Unit => te1 m ()) (fun _ => True) ?_ ?_
 ·refine ah_ (AWp.rangeFunc (α := Nat) (γ := Empty) 1 (teS m) (fun k => k) (fun k => k ≤ 1) (fun e => nomatch e) (fun _ e => nomatch e) 0 rfl (eb_ [m] (by simp)) rfl rfl ?_ (fun k => by cases k <;> exact ⟨rfl, rfl⟩) (fun e => nomatch e) (Nat.zero_le _) rfl (fun _ h => h) ?_ ?_ ?_ ?_ (fun _ e => nomatch e))
  ·intro k xs hT
   unfold backT at hT
   split at hT
   ·cases hT; rfl
   ·cases hT
  ·show SEntT _ (te0 m ())
   rw [te0_mk]
   exact s_t [(1, 1), (2, 3)]
  ·exact aa_ hcl ab_
  ·intro l k xs hk hT
   unfold backT at hT
   split at hT
   rotate_left
   ·cases hT
   rename_i hlt
   have hk0 : k = 0 := by simpa using hlt
   subst hk0
   cases hT
   show AWp _ _ _ _ ⟨setPs (te0 m ()).fr _ _ ++ bT_ (te0 m ()).fr, _, _, _⟩
   show AWp _ _ _ _ ⟨[(13, u32 m), (12, i64 0), (1, .lptr 1 0 0), (3, .lptr 2 0 0), (11, .clos 269 [] [.aptr [[.arr (dE [m])]] 0 0]), (1001, .lptr 1 0 0), (1003, .lptr 2 0 0), (1011, .clos 269 [] [.aptr [[.arr (dE [m])]] 0 0])], [(1, some ⟨33, 1, [[.arr (dE [m])]]⟩), (2, some ⟨182, 2, [bldC 2 0 none]⟩)], 4, 31⟩
   refine r_z 1 ?_
   refine r_m 1 ?_
   refine a_z ?_
   refine ah_ (r_c 4 (l1_ m h) ?_)
   refine a_z ?_
   refine ac_ (r_z 6 ?_)
   refine af_ rfl (fun h3 => ?_) (fun h3 => ?_)
   ·exact absurd h3 (by simp)
   refine ag_ (r_m 2 ?_)
   refine a_1 ?_
   refine o_2 (.callB (s := none) (j := 0) rfl rfl rfl rfl rfl rfl (fun _ h => by cases h) (d5_ (dec2 m) (mc_ m) (by have := e5_ m; omega))) ?_
   refine aj_ ?_
   refine ⟨0 + 1, ⟨by omega, rfl⟩, ?_⟩
   show SEntT _ ⟨[(1001, .lptr 1 0 0), (1003, .lptr 2 0 0), (1011, .clos 269 [] [.aptr [[.arr (dE [m])]] 0 0])], [(1, some ⟨33, 1, [[.arr (dE [m])]]⟩), (2, some ⟨182, 2, [bldC 2 3 (some (dec2 m))]⟩), (3, some ⟨5, 1, bE (dec2 m)⟩)], 4, 31⟩
   refine SEntT.to2 [(3, 100017)] rfl rfl rfl au_r (fun hs => ?_) (fun hs => ?_)
   ·repeat' (first | exact aX_ | refine aL_ rfl ?_ ?_)
    all_goals (first | (exact ar_ hs hcl2) | exact au_c)
   ·repeat' (first | exact as_ | refine an_ rfl rfl rfl rfl ?_ ?_)
    all_goals (first | exact au_e | (refine aF_ ?_; repeat' (first | exact ap_ | refine ai_ ?_ ?_)))
    all_goals (first | (exact ar_ hs hcl2) | exact au_c)
  ·intro k hk hT
   unfold backT at hT
   split at hT
   ·cases hT
   have hk1 : k = 1 := by
    rename_i hn; simp at hn; omega
   subst hk1
   exact ⟨(), trivial, SEnt.refl _⟩
 rintro _ _
 rw [te1_mk]
 have hne := mc_ m
 refine s_r 2 ?_
 refine o_2 (.callD rfl rfl rfl rfl rfl rfl (by decide) (by first | assumption | simp) (hW_)) ?_
 refine a_z ?_
 exact ae_ (t_e (ad_ _))
theorem m8_ (a : Rat) (k : Int) (h : sm a) : FSpec Tryz.prog 128 [.agg (qC a), i64 k] (.agg (spC (downQ a (wi k 256)) (upQ a (wi k 256)))) := by
 refine f_n Tryz.func128 ?_ ?_
 ·exact aa_ (ak_ a) (aa_ (ad_ _) ab_)
 refine r_z 2 ?_
 refine ac_ (r_d hmix 8 ?_)
 refine c_s (pR_ a k h) ?_
 refine c_s (fs_Up a k h) ?_
 refine a_2 ?_
 refine aj_ (n_k ?_)
 exact ae_ (c_e (aA_ _ _))
theorem fs_At (a : Rat) : FSpec Tryz.prog 187 [.agg (qC a)] (.agg (spC a a)) := by
 refine f_n Tryz.func187 ?_ ?_
 ·exact aa_ (ak_ a) ab_
 refine r_z 2 ?_
 refine r_z 4 ?_
 exact ae_ (c_e (aA_ _ _))
theorem cy_ (a b : Rat) (ha : sm a) (hb : sm b) : FSpec Tryz.prog 55 [.agg (spC a b)] (bln (decide (cmpQ a b ≤ 0))) := by
 refine f_n Tryz.func55 ?_ ?_
 ·exact aa_ (aA_ a b) ab_
 refine r_z 2 ?_
 refine r_c 7 (kV_ a b ha hb) ?_
 refine a_z ?_
 exact ae_ (t_e (ad_ _))
theorem fs_SAdd (a b c d : Rat) (ha : sm a) (hb : sm b) (hc : sm c) (hd : sm d) : FSpec Tryz.prog 248 [.agg (spC a b), .agg (spC c d)] (.agg (spC (a + c) (b + d))) := by
 refine f_n Tryz.func248 ?_ ?_
 ·exact aa_ (aA_ a b) (aa_ (aA_ c d) ab_)
 refine r_z 3 ?_
 refine ac_ (r_d hmix 12 ?_)
 refine c_s (ep_ a c (sm2 ha hc)) ?_
 refine c_s (ep_ b d (sm2 hb hd)) ?_
 refine a_2 ?_
 refine aj_ (n_k ?_)
 exact ae_ (c_e (aA_ _ _))
theorem n1_ (a b : Rat) (ha : sm a) (hb : sm b) : FSpec Tryz.prog 244 [.agg (spC a b)] (.agg (qC ((a + b) * fineQ 1))) := by
 have h1 : qs (a + b) ≤ 274877906945 := by have := hk_ a b; unfold sm at ha hb; omega
 have h2 : qs (fineQ 1) ≤ 2 := by decide
 refine f_n Tryz.func244 ?_ ?_
 ·exact aa_ (aA_ a b) ab_
 refine r_z 2 ?_
 refine r_c 8 (ep_ a b (sm2 ha hb)) ?_
 refine c_s (hN_ 1) ?_
 refine c_s (cf_ (a + b) (fineQ 1) (by omega)) ?_
 refine a_z ?_
 exact ae_ (c_e (ak_ _))
theorem pL_ (a b : Rat) (ha : sm a) (hb : sm b) : FSpec Tryz.prog 190 [.agg (spC a b)] (.agg (qC (b - a))) := by
 refine f_n Tryz.func190 ?_ ?_
 ·exact aa_ (aA_ a b) ab_
 refine r_z 2 ?_
 refine r_c 6 (kQ_ b a (sm2 hb ha)) ?_
 refine a_z ?_
 exact ae_ (c_e (ak_ _))
theorem fs_Min1 (c : Int) : FSpec Tryz.prog 255 [i64 c] (bln (decide (c < 0))) := by
 refine f_n Tryz.func255 ?_ ?_
 ·exact aa_ (ad_ _) ab_
 refine r_z 1 ?_
 refine r_z 3 ?_
 exact ae_ (t_e (ad_ _))
theorem fs_Max1 (c : Int) : FSpec Tryz.prog 256 [i64 c] (bln (decide (0 < c))) := by
 refine f_n Tryz.func256 ?_ ?_
 ·exact aa_ (ad_ _) ab_
 refine r_z 1 ?_
 refine r_z 3 ?_
 exact ae_ (t_e (ad_ _))
def mg_ (g : Nat) (l : List Rat) : Nat × List AV → AState
 | (i, o) => ⟨[(0, .clos g [] []), (4, .lptr 1 0 0), (5, .lptr 2 0 0), (8, .arr (pE l)), (9, i64 l.length), (10, i64 i)], [(1, some ⟨37, 3, [zC]⟩), (2, some ⟨37, 3, [o]⟩)], 3, 27⟩
theorem cZ_ (g : Nat) (l : List Rat) (i : Nat) (o : List AV) : mg_ g l (i, o) = ⟨[(0, .clos g [] []), (4, .lptr 1 0 0), (5, .lptr 2 0 0), (8, .arr (pE l)), (9, i64 l.length), (10, i64 i)], [(1, some ⟨37, 3, [zC]⟩), (2, some ⟨37, 3, [o]⟩)], 3, 27⟩ := rfl
theorem kW_ (g : Nat) (bf : Int → Bool) (hg : ∀ c, FSpec Tryz.prog g [i64 c] (bln (bf c))) (l : List Rat) (hl : smL l) (hln : l.length ≤ 1099511627776) : FSpec Tryz.prog 254 [.clos g [] [], .arr (pE l)] (.agg (qC (bR_ bf l))) := by
 refine f_n Tryz.func254 ?_ ?_
 ·exact aa_ (aJ_ ab_ ab_) (aa_ (am_ l) ab_)
 refine r_z 1 ?_
 refine r_z 1 ?_
 refine ac_ (r_z 3 ?_)
 refine au_ (fun _ : Unit => ⟨[(4, .lptr 1 0 0), (5, .lptr 2 0 0)], [(1, some ⟨37, 3, [zC]⟩), (2, some ⟨37, 3, [qC (bR_ bf l)]⟩)], 3, 27⟩) (fun _ => True) ?_ ?_
 ·refine ah_ (ao_ (fun x : Nat × List AV => mg_ g l x) (fun x => l.length - x.1) (fun x => x.1 ≤ l.length ∧ ((x.1 = 0 → x.2 = zC) ∧ (x.1 ≠ 0 → x.2 = qC (bR_ bf (l.take x.1))))) (0, zC) ⟨Nat.zero_le _, fun _ => rfl, fun h => absurd rfl h⟩ ?_ ?_)
  ·simp only [cZ_]
   exact s_e [(1, 4), (2, 5)]
  rintro ⟨i, o⟩ ⟨hi, ho0, ho⟩
  simp only at hi ho0 ho
  simp only [cZ_]
  refine r_z 1 ?_
  refine ac_ (af_ rfl (fun h => ?_) (fun h => ?_))
  ·refine ag_ ?_
   have hlt : i < l.length := by simpa using h
   obtain ⟨q, hq⟩ : ∃ q, l[i]? = some q := ⟨_, List.getElem?_eq_getElem hlt⟩
   have hq' : (pE l)[((i : Nat) : Int).toNat]? = some (qC q) := cj_ hq
   have hsq : sm q := hl q (List.mem_of_getElem? hq)
   have hst : sm (bR_ bf (l.take i)) := gn_ fun q hq => hl q (List.mem_of_mem_take hq)
   have hsn := gC_ bf (l.take i) q
   rw [← bS_ hq] at hsn
   refine ac_ (ah_ (s_r 6 ?_))
   refine a_1 ?_
   refine i_x hq' ?_
   refine l_x hq' ?_
   refine a_z ?_
   refine AWp.cutB (fun _ : Unit => mg_ g l (i, qC (bR_ bf (l.take (i + 1))))) (fun _ => True) ?_ ?_
   ·by_cases h0 : i = 0
    ·subst h0
     have := ho0 rfl
     subst this
     rw [if_pos (.inl (by simp))] at hsn
     refine s_r 9 ?_
     refine a_3 ?_
     refine n_g rfl d_t ?_
     refine n_g rfl d_t ?_
     refine n_g rfl d_t ?_
     refine n_g rfl d_t ?_
     refine n_g rfl d_t ?_
     refine o_0 (.pickT rfl d_t rfl) ?_
     refine aj_ ?_
     refine af_ rfl (fun h => ?_) (fun h => ?_)
     ·refine r_m 2 ?_
      refine a_z ?_
      refine ⟨(), trivial, ?_⟩
      simp only [cZ_]
      rw [hsn]
      exact s_e []
     ·cases h
    ·have ho' : o = qC (bR_ bf (l.take i)) := ho h0
     subst ho'
     have hne : l.take i ≠ [] := fun h => by
      have := congrArg List.length h
      rw [List.length_take, List.length_nil] at this; omega
     refine s_r 9 ?_
     refine a_3 ?_
     refine y_g rfl (by simp; omega) (.move rfl) ?_
     first | refine y_g rfl (by simp; omega) (.load_l rfl rfl rfl tg_37.h ts_37.h (nle rfl)) ?_ | refine y_g rfl (by simp; omega) (.load_a rfl rfl tg_37.h ts_37.h (nle rfl)) ?_
     first | refine y_g rfl (by simp; omega) (.load_l rfl rfl rfl tg_37.h ts_37.h (nle rfl)) ?_ | refine y_g rfl (by simp; omega) (.load_a rfl rfl tg_37.h ts_37.h (nle rfl)) ?_
     refine y_g rfl (by simp; omega) (.call rfl rfl rfl (kV_ q (bR_ bf (l.take i)) hsq hst)) ?_
     refine y_g rfl (by simp; omega) (.call rfl rfl rfl (hg (cmpQ q (bR_ bf (l.take i))))) ?_
     refine o_0 (.pickF rfl (by simp; omega) rfl) ?_
     refine aj_ ?_
     refine af_ rfl (fun h1 => ?_) (fun h1 => ?_)
     ·refine r_m 2 ?_
      refine a_z ?_
      refine ⟨(), trivial, ?_⟩
      simp only [cZ_]
      rw [hsn, if_pos (.inr h1)]
      exact s_e []
     ·refine ag_ ⟨(), trivial, ?_⟩
      simp only [cZ_]
      rw [hsn, if_neg (fun hh => hh.elim hne fun h2 => by rw [h1] at h2; cases h2)]
      exact s_e []
   rintro _ _
   rw [cZ_]
   refine r_m 2 ?_
   refine a_z ?_
   refine ⟨(i + 1, qC (bR_ bf (l.take (i + 1)))), by simp only; omega, ⟨by simp only; omega, fun h => absurd h (by simp), fun _ => rfl⟩, ?_⟩
   simp only [cZ_]
   exact s_e []
  ·have hge : i = l.length := by simp at h; omega
   refine al_ ⟨(), trivial, ?_⟩
   subst hge
   by_cases h0 : l.length = 0
   ·have := ho0 h0
    subst this
    have : bR_ bf l = 0 := by
     rw [List.length_eq_zero_iff] at h0; rw [h0]; rfl
    rw [this, qC0]
    exact s_e []
   ·have := ho h0
    subst this
    rw [List.take_length]
    exact s_e []
 rintro _ _
 refine r_z 2 ?_
 exact ae_ (c_e (ak_ _))
theorem fs_Min (l : List Rat) (hl : smL l) (hln : l.length ≤ 1099511627776) : FSpec Tryz.prog 203 [.arr (pE l)] (.agg (qC (minL l))) := by
 refine f_n Tryz.func203 ?_ ?_
 ·exact aa_ (am_ l) ab_
 refine r_z 1 ?_
 refine r_c 3 (kW_ 255 _ fs_Min1 l hl hln) ?_
 refine a_z ?_
 exact ae_ (c_e (ak_ _))
theorem pQ_ (l : List Rat) (hl : smL l) (hln : l.length ≤ 1099511627776) : FSpec Tryz.prog 204 [.arr (pE l)] (.agg (qC (maxL l))) := by
 refine f_n Tryz.func204 ?_ ?_
 ·exact aa_ (am_ l) ab_
 refine r_z 1 ?_
 refine r_c 3 (kW_ 256 _ fs_Max1 l hl hln) ?_
 refine a_z ?_
 exact ae_ (c_e (ak_ _))
theorem oI_ {a b : Rat} (ha : sm a) (hb : sm b) : smL [a, b] := by
 intro q hq
 simp at hq
 rcases hq with rfl | rfl
 ·exact ha
 ·exact hb
theorem m7_ (a b c d : Rat) (ha : sm a) (hb : sm b) (hc : sm c) (hd : sm d) : FSpec Tryz.prog 129 [.agg (spC a b), .agg (spC c d)] (.agg (spC (minL [a, c]) (maxL [b, d]))) := by
 refine f_n Tryz.func129 ?_ ?_
 ·exact aa_ (aA_ a b) (aa_ (aA_ c d) ab_)
 refine r_z 3 ?_
 refine ac_ (r_d hmix 14 ?_)
 refine a_5 ?_
 refine o_1 (.callS1 rfl rfl rfl (.shut rfl d_n (.nil)) rfl (fs_Min [a, c] (oI_ ha hc) (by simp))) ?_
 refine a_5 ?_
 refine o_1 (.callS1 rfl rfl rfl (.shut rfl d_n (.nil)) rfl (pQ_ [b, d] (oI_ hb hd) (by simp))) ?_
 refine a_2 ?_
 refine aj_ (n_k ?_)
 exact ae_ (c_e (aA_ _ _))
theorem nU_ (l : List Rat) (hl : smL l) (hln : l.length ≤ 1099511627776) : FSpec Tryz.prog 288 [.arr (pE l)] (.agg (spC (minL l) (maxL l))) := by
 refine f_n Tryz.func288 ?_ ?_
 ·exact aa_ (am_ l) ab_
 refine r_z 1 ?_
 refine r_c 6 (fs_Min l hl hln) ?_
 refine c_s (pQ_ l hl hln) ?_
 refine a_z ?_
 exact ae_ (c_e (aA_ _ _))
section
variable {P : Go.Program} {T : Nat} {x y : Operand}
theorem bO_ {l m : List UInt8} (h : l.length + m.length ≤ 9223372036854775807) : ∀ w, (do eqGuard .add T x y (.string ⟨l.toArray⟩) (.string ⟨m.toArray⟩); binOp .add T (.string ⟨l.toArray⟩) (.string ⟨m.toArray⟩) : Sem Value).run P w = .ok (.string ⟨(l ++ m).toArray⟩) w := fun w => by
 have hm : IntKind.i64.max = 9223372036854775807 := by decide
 have e : (⟨l.toArray⟩ : ByteArray) ++ ⟨m.toArray⟩ = ⟨(l ++ m).toArray⟩ := by
  apply ByteArray.ext; simp
 have hn : ¬ ((((⟨l.toArray⟩ : ByteArray).size + (⟨m.toArray⟩ : ByteArray).size : Nat) : Int) > IntKind.i64.max) := by
  rw [f2_, f2_, hm]; omega
 simp only [eqGuard, binOp, Op.stringOp, hn, if_false, e, Sem.run_bind, Sem.run_pure, Result.andThen_ok]
 rfl
theorem j3_ {l m : List UInt8} : ∀ w, (do eqGuard .eql T x y (.string ⟨l.toArray⟩) (.string ⟨m.toArray⟩); binOp .eql T (.string ⟨l.toArray⟩) (.string ⟨m.toArray⟩) : Sem Value).run P w = .ok (.bool (decide (l = m))) w := fun w => by
 rw [j2_]
 congr 2
 have e : ∀ l : List UInt8, (⟨l.toArray⟩ : ByteArray).toList = l := by
  intro l
  have := ByteArray.toList_eq (bs := ⟨l.toArray⟩)
  simpa using this
 rw [e, e]
 rw [Bool.eq_iff_iff]; simp
end
def textQ (q : Rat) : List UInt8 := ((if q.num < 0 then [45] else []) ++ dec2 q.num.natAbs) ++ (if q.den = 1 then [] else 47 :: dec2 q.den)
def okT (q : Rat) : Prop := q.num.natAbs < 100 ∧ q.den < 100
instance (q : Rat) : Decidable (okT q) := inferInstanceAs (Decidable (_ ∧ _))
theorem okT_qs {q : Rat} (h : okT q) : qs q ≤ 1099511627776 := by
 obtain ⟨h1, h2⟩ := h
 have e1 := bl_le (n := q.num.natAbs) (k := 7) (by omega)
 have e2 := bl_le (n := q.den) (k := 7) (by omega)
 unfold qs; omega
theorem textQ_len {q : Rat} : (textQ q).length ≤ 6 ∧ 1 ≤ (textQ q).length := by
 have h1 := e5_ q.num.natAbs
 have h2 := e5_ q.den
 have h3 := List.length_pos_iff.2 (mc_ q.num.natAbs)
 unfold textQ
 split <;> split <;> simp <;> omega
def qtS (q : Rat) : List UInt8 → AState
 | l => ⟨[(1, .aptr [qC q] 0 0), (3, tx l)], [], 2, 24⟩
theorem is_ (q : Rat) (l : List UInt8) : qtS q l = ⟨[(1, .aptr [qC q] 0 0), (3, tx l)], [], 2, 24⟩ := rfl
theorem fQ_ (q : Rat) (h : okT q) : FSpec Tryz.prog 89 [.agg (qC q)] (tx (textQ q)) := by
 have hd1 := e5_ q.num.natAbs
 have hd2 := e5_ q.den
 have hden : 1 ≤ q.den := q.den_pos
 refine f_n Tryz.func89 ?_ ?_
 ·exact aa_ (ak_ q) ab_
 refine r_z 2 ?_
 refine AWp.ent (st' := ⟨[(1, .aptr [qC q] 0 0)], [], 2, 24⟩) ?_ ?_
 ·exact s_e []
 refine r_c 5 (m0_ q.num.natAbs h.1) ?_
 refine a_z ?_
 refine aO_ (qtS q) (fun l => l = (if q.num < 0 then [45] else []) ++ dec2 q.num.natAbs) ?_ ?_
 ·refine r_z 3 ?_
  refine af_ rfl (fun h1 => ?_) (fun h1 => ?_)
  ·have h2 : q.num < 0 := by simpa using h1
   refine r_m 3 ?_
   refine a_1 ?_
   refine o_0 (.bin rfl rfl (bO_ (l := [45]) (by simp; omega))) ?_
   refine a_z ?_
   refine ⟨_, by rw [if_pos h2], ?_⟩
   rw [is_]
   refine ax_ [] rfl rfl rfl au_r (fun hs => ?_) (fun hs => ?_)
   ·repeat' (first | exact aX_ | refine aL_ rfl ?_ ?_)
    all_goals (first | (exact ar_ hs (aP_ (aY_ q))) | exact au_c)
   ·repeat' (first | exact as_ | refine an_ rfl rfl rfl rfl ?_ ?_)
    all_goals (first | exact au_e | (refine aF_ ?_; repeat' (first | exact ap_ | refine ai_ ?_ ?_)))
    all_goals (first | (exact ar_ hs (aP_ (aY_ q))) | exact au_c)
  ·have h2 : ¬ q.num < 0 := by simpa using h1
   refine ag_ ⟨dec2 q.num.natAbs, by rw [if_neg h2]; rfl, ?_⟩
   rw [is_]
   refine ax_ [] rfl rfl rfl au_r (fun hs => ?_) (fun hs => ?_)
   ·repeat' (first | exact aX_ | refine aL_ rfl ?_ ?_)
    all_goals (first | (exact ar_ hs (aP_ (aY_ q))) | exact au_c)
   ·repeat' (first | exact as_ | refine an_ rfl rfl rfl rfl ?_ ?_)
    all_goals (first | exact au_e | (refine aF_ ?_; repeat' (first | exact ap_ | refine ai_ ?_ ?_)))
    all_goals (first | (exact ar_ hs (aP_ (aY_ q))) | exact au_c)
 rintro l hl
 have hll : l.length ≤ 3 := by rw [hl]; split <;> simp <;> omega
 rw [is_]
 refine aO_ (qtS q) (fun l => l = textQ q) ?_ ?_
 ·refine r_c 4 (ee_ (q.den - 1)) ?_
  refine a_z ?_
  refine af_ rfl (fun h1 => ?_) (fun h1 => ?_)
  ·have h2 : ¬ q.den = 1 := by
    intro e; rw [e] at h1; simp at h1
   refine r_m 7 ?_
   refine c_s (b2_ q (okT_qs h)) ?_
   refine c_s (m0_ q.den h.2) ?_
   refine o_0 (.bin rfl rfl (bO_ (l := [47]) (by simp; omega))) ?_
   refine o_0 (.bin rfl rfl (bO_ (by simp; omega))) ?_
   refine a_z ?_
   refine ⟨_, by unfold textQ; rw [if_neg h2, ← hl], ?_⟩
   rw [is_]
   refine ax_ [] rfl rfl rfl au_r (fun hs => ?_) (fun hs => ?_)
   ·repeat' (first | exact aX_ | refine aL_ rfl ?_ ?_)
    all_goals (first | (exact ar_ hs (aP_ (aY_ q))) | exact au_c)
   ·repeat' (first | exact as_ | refine an_ rfl rfl rfl rfl ?_ ?_)
    all_goals (first | exact au_e | (refine aF_ ?_; repeat' (first | exact ap_ | refine ai_ ?_ ?_)))
    all_goals (first | (exact ar_ hs (aP_ (aY_ q))) | exact au_c)
  ·have h2 : q.den = 1 := by
    have h3 : q.den - 1 = 0 := by simpa using h1
    omega
   refine ag_ ⟨l, by unfold textQ; rw [if_pos h2, ← hl, List.append_nil], ?_⟩
   rw [is_]
   refine ax_ [] rfl rfl rfl au_r (fun hs => ?_) (fun hs => ?_)
   ·repeat' (first | exact aX_ | refine aL_ rfl ?_ ?_)
    all_goals (first | (exact ar_ hs (aP_ (aY_ q))) | exact au_c)
   ·repeat' (first | exact as_ | refine an_ rfl rfl rfl rfl ?_ ?_)
    all_goals (first | exact au_e | (refine aF_ ?_; repeat' (first | exact ap_ | refine ai_ ?_ ?_)))
    all_goals (first | (exact ar_ hs (aP_ (aY_ q))) | exact au_c)
 rintro l rfl
 rw [is_]
 refine r_z 2 ?_
 exact ae_ (t_e (ad_ _))
def ox_ (s : Rat × Rat) : List UInt8 := [91] ++ textQ s.1 ++ [32] ++ textQ s.2 ++ [93]
theorem m6_ (s : Rat × Rat) (h1 : okT s.1) (h2 : okT s.2) : FSpec Tryz.prog 88 [.agg (spC s.1 s.2)] (tx (ox_ s)) := by
 have e1 := (textQ_len (q := s.1)).1
 have e2 := (textQ_len (q := s.2)).1
 refine f_n Tryz.func88 ?_ ?_
 ·exact aa_ (aA_ _ _) ab_
 refine r_z 2 ?_
 refine ac_ (r_d hmix 11 ?_)
 refine c_s (fQ_ s.1 h1) ?_
 refine o_0 (.bin rfl rfl (bO_ (l := [91]) (by simp; omega))) ?_
 refine o_0 (.bin rfl rfl (bO_ (m := [32]) (by simp; omega))) ?_
 refine c_s (fQ_ s.2 h2) ?_
 refine o_0 (.bin rfl rfl (bO_ (by simp; omega))) ?_
 refine o_0 (.bin rfl rfl (bO_ (m := [93]) (by simp; omega))) ?_
 refine a_1 ?_
 refine aj_ (n_k ?_)
 exact ae_ (t_e (ad_ _))
end Go.Proofs.YtdhedjbmdnnbkaaGreatDoor
namespace Go.Proofs.YtdhedjbmdnnbkaaGreatDoor
open Go.Shelf
def nR_ : Go.Shelf.Ren := ⟨fun | 171 => 147 | 243 => 214 | 246 => 260 | 283 => 279 | 284 => 280 | 285 => 281 | 286 => 282 | 129 => 290 | 317 => 289 | 318 => 291 | 319 => 292 | 320 => 293 | 337 => 295 | 338 => 296 | n => n, fun | 3 => 3 | 9 => 9 | 2 => 2 | 4 => 4 | 171 => 285 | 0 => 0 | 53 => 207 | 37 => 180 | 5 => 5 | 173 => 288 | 212 => 298 | 51 => 206 | 20 => 20 | 213 => 299 | 46 => 276 | 232 => 303 | 233 => 304 | n => n, fun | 17 => 0 | 18 => 2 | 19 => 3 | n => n⟩
theorem lay171 : Go.Proofs.LaysM.n171 Tryz.prog nR_ := {
 mixed := by kernel_rfl,
 f129 := Tryz.func290.trans (congrArg some (by kernel_rfl)),
 f171 := Tryz.func147.trans (congrArg some (by kernel_rfl)),
 f243 := Tryz.func214.trans (congrArg some (by kernel_rfl)),
 f246 := Tryz.func260.trans (congrArg some (by kernel_rfl)),
 f283 := Tryz.func279.trans (congrArg some (by kernel_rfl)),
 f284 := Tryz.func280.trans (congrArg some (by kernel_rfl)),
 f285 := Tryz.func281.trans (congrArg some (by kernel_rfl)),
 f286 := Tryz.func282.trans (congrArg some (by kernel_rfl)),
 f317 := Tryz.func289.trans (congrArg some (by kernel_rfl)),
 f318 := Tryz.func291.trans (congrArg some (by kernel_rfl)),
 f319 := Tryz.func292.trans (congrArg some (by kernel_rfl)),
 f320 := Tryz.func293.trans (congrArg some (by kernel_rfl)),
 f337 := Tryz.func295.trans (congrArg some (by kernel_rfl)),
 f338 := Tryz.func296.trans (congrArg some (by kernel_rfl)),
 t0 := Tryz.underlying0,
 a0 := Tryz.isAgg0,
 z0 := Tryz.sizeOf0,
 v0 := Tryz.zeroValue0,
 t2 := Tryz.underlying2,
 a2 := Tryz.isAgg2,
 z2 := Tryz.sizeOf2,
 v2 := Tryz.zeroValue2,
 t3 := Tryz.underlying3,
 a3 := Tryz.isAgg3,
 z3 := Tryz.sizeOf3,
 v3 := Tryz.zeroValue3,
 t4 := Tryz.underlying4,
 a4 := Tryz.isAgg4,
 z4 := Tryz.sizeOf4,
 v4 := Tryz.zeroValue4,
 t5 := Tryz.underlying5,
 a5 := Tryz.isAgg5,
 z5 := Tryz.sizeOf5,
 v5 := Tryz.zeroValue5,
 t9 := Tryz.underlying9,
 a9 := Tryz.isAgg9,
 z9 := Tryz.sizeOf9,
 v9 := Tryz.zeroValue9,
 t20 := Tryz.underlying20,
 a20 := Tryz.isAgg20,
 z20 := Tryz.sizeOf20,
 v20 := Tryz.zeroValue20,
 t37 := Tryz.underlying180,
 a37 := Tryz.isAgg180,
 z37 := Tryz.sizeOf180,
 v37 := Tryz.zeroValue180,
 t46 := Tryz.underlying276,
 a46 := Tryz.isAgg276,
 z46 := Tryz.sizeOf276,
 v46 := Tryz.zeroValue276,
 t51 := Tryz.underlying206,
 a51 := Tryz.isAgg206,
 z51 := Tryz.sizeOf206,
 v51 := Tryz.zeroValue206,
 t53 := Tryz.underlying207,
 a53 := Tryz.isAgg207,
 z53 := Tryz.sizeOf207,
 v53 := Tryz.zeroValue207,
 t171 := Tryz.underlying285,
 a171 := Tryz.isAgg285,
 z171 := Tryz.sizeOf285,
 v171 := Tryz.zeroValue285,
 t173 := Tryz.underlying288,
 a173 := Tryz.isAgg288,
 z173 := Tryz.sizeOf288,
 v173 := Tryz.zeroValue288,
 t212 := Tryz.underlying298,
 a212 := Tryz.isAgg298,
 z212 := Tryz.sizeOf298,
 v212 := Tryz.zeroValue298,
 t213 := Tryz.underlying299,
 a213 := Tryz.isAgg299,
 z213 := Tryz.sizeOf299,
 t232 := Tryz.underlying303,
 a232 := Tryz.isAgg303,
 z232 := Tryz.sizeOf303,
 v232 := Tryz.zeroValue303,
 t233 := Tryz.underlying304,
 a233 := Tryz.isAgg304,
 z233 := Tryz.sizeOf304,
 v233 := Tryz.zeroValue304,
 g17 := by kernel_rfl,
 g18 := by kernel_rfl,
 g19 := by kernel_rfl,
 i0 := by kernel_rfl,
 i2 := by kernel_rfl,
 i3 := by kernel_rfl,
 i4 := by kernel_rfl,
 i5 := by kernel_rfl,
 i9 := by kernel_rfl,
 i20 := by kernel_rfl,
 i37 := by kernel_rfl,
 i46 := by kernel_rfl,
 i51 := by kernel_rfl,
 i53 := by kernel_rfl,
 i171 := by kernel_rfl,
 i173 := by kernel_rfl,
 i212 := by kernel_rfl,
 i232 := by kernel_rfl,
 i233 := by kernel_rfl,
 m17 := by kernel_rfl,
 m18 := by kernel_rfl,
 m19 := by kernel_rfl }
def iB_ : Go.Shelf.Ren := ⟨fun | 105 => 234 | 212 => 270 | 99 => 271 | 165 => 272 | 166 => 145 | 170 => 144 | 169 => 148 | 263 => 283 | 264 => 284 | 206 => 285 | 240 => 213 | 241 => 286 | 276 => 259 | 277 => 294 | n => n, fun | 9 => 9 | 3 => 3 | 4 => 4 | 20 => 20 | 0 => 0 | 46 => 276 | 109 => 277 | 5 => 5 | 72 => 182 | 76 => 185 | 51 => 206 | 146 => 290 | 53 => 207 | 148 => 292 | 70 => 179 | 37 => 180 | 75 => 184 | 127 => 233 | 164 => 270 | 80 => 108 | n => n, fun | n => n⟩
theorem lay105 : Go.Proofs.Lays.n105 Tryz.prog iB_ := {
 mixed := by kernel_rfl,
 f99 := Tryz.func271.trans (congrArg some (by kernel_rfl)),
 f105 := Tryz.func234.trans (congrArg some (by kernel_rfl)),
 f165 := Tryz.func272.trans (congrArg some (by kernel_rfl)),
 f166 := Tryz.func145.trans (congrArg some (by kernel_rfl)),
 f169 := Tryz.func148.trans (congrArg some (by kernel_rfl)),
 f170 := Tryz.func144.trans (congrArg some (by kernel_rfl)),
 f206 := Tryz.func285.trans (congrArg some (by kernel_rfl)),
 f212 := Tryz.func270.trans (congrArg some (by kernel_rfl)),
 f240 := Tryz.func213.trans (congrArg some (by kernel_rfl)),
 f241 := Tryz.func286.trans (congrArg some (by kernel_rfl)),
 f263 := Tryz.func283.trans (congrArg some (by kernel_rfl)),
 f264 := Tryz.func284.trans (congrArg some (by kernel_rfl)),
 f276 := Tryz.func259.trans (congrArg some (by kernel_rfl)),
 f277 := Tryz.func294.trans (congrArg some (by kernel_rfl)),
 t0 := Tryz.underlying0,
 a0 := Tryz.isAgg0,
 z0 := Tryz.sizeOf0,
 v0 := Tryz.zeroValue0,
 t3 := Tryz.underlying3,
 a3 := Tryz.isAgg3,
 z3 := Tryz.sizeOf3,
 v3 := Tryz.zeroValue3,
 t4 := Tryz.underlying4,
 a4 := Tryz.isAgg4,
 z4 := Tryz.sizeOf4,
 v4 := Tryz.zeroValue4,
 t5 := Tryz.underlying5,
 a5 := Tryz.isAgg5,
 z5 := Tryz.sizeOf5,
 v5 := Tryz.zeroValue5,
 t9 := Tryz.underlying9,
 a9 := Tryz.isAgg9,
 z9 := Tryz.sizeOf9,
 v9 := Tryz.zeroValue9,
 t20 := Tryz.underlying20,
 a20 := Tryz.isAgg20,
 z20 := Tryz.sizeOf20,
 v20 := Tryz.zeroValue20,
 t37 := Tryz.underlying180,
 a37 := Tryz.isAgg180,
 z37 := Tryz.sizeOf180,
 v37 := Tryz.zeroValue180,
 t46 := Tryz.underlying276,
 a46 := Tryz.isAgg276,
 z46 := Tryz.sizeOf276,
 v46 := Tryz.zeroValue276,
 t51 := Tryz.underlying206,
 a51 := Tryz.isAgg206,
 z51 := Tryz.sizeOf206,
 v51 := Tryz.zeroValue206,
 t53 := Tryz.underlying207,
 a53 := Tryz.isAgg207,
 z53 := Tryz.sizeOf207,
 v53 := Tryz.zeroValue207,
 t70 := Tryz.underlying179,
 a70 := Tryz.isAgg179,
 z70 := Tryz.sizeOf179,
 v70 := Tryz.zeroValue179,
 t72 := Tryz.underlying182,
 a72 := Tryz.isAgg182,
 z72 := Tryz.sizeOf182,
 v72 := Tryz.zeroValue182,
 t75 := Tryz.underlying184,
 a75 := Tryz.isAgg184,
 z75 := Tryz.sizeOf184,
 v75 := Tryz.zeroValue184,
 t76 := Tryz.underlying185,
 a76 := Tryz.isAgg185,
 z76 := Tryz.sizeOf185,
 v76 := Tryz.zeroValue185,
 t109 := Tryz.underlying277,
 a109 := Tryz.isAgg277,
 z109 := Tryz.sizeOf277,
 v109 := Tryz.zeroValue277,
 t127 := Tryz.underlying233,
 a127 := Tryz.isAgg233,
 z127 := Tryz.sizeOf233,
 v127 := Tryz.zeroValue233,
 t146 := Tryz.underlying290,
 a146 := Tryz.isAgg290,
 z146 := Tryz.sizeOf290,
 v146 := Tryz.zeroValue290,
 t148 := Tryz.underlying292,
 a148 := Tryz.isAgg292,
 z148 := Tryz.sizeOf292,
 v148 := Tryz.zeroValue292,
 t164 := Tryz.underlying270,
 a164 := Tryz.isAgg270,
 z164 := Tryz.sizeOf270,
 v164 := Tryz.zeroValue270 }
theorem ext105 : Builder.Extra Tryz.prog iB_ := {
 sizeBuilder := by kernel_rfl,
 liesBuilder := by kernel_rfl,
 t5 := Tryz.underlying5,
 a5 := Tryz.isAgg5,
 z5 := Tryz.sizeOf5,
 v5 := Tryz.zeroValue5,
 infoByte := by kernel_rfl,
 cellsByte := by kernel_rfl,
 sizeByte := by kernel_rfl,
 neB5 := by decide }
end Go.Proofs.YtdhedjbmdnnbkaaGreatDoor
