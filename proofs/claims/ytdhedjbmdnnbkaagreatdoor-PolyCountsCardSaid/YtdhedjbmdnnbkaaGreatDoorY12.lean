/- Part Y12 of the proof. -/
import Derived.Test.YtdhedjbmdnnbkaaGreatDoorY11
set_option linter.all false
namespace Go.Proofs.YtdhedjbmdnnbkaaGreatDoor
open Go.Abs Go.RowKit
theorem tab_glob : (Tryz.prog).globalNamed "internal/strconv.uint64pow10" = some GT := by kernel_rfl
theorem tab_is {w : World} (h : TabW w) : Lib.TabIs Tryz.prog w "internal/strconv.uint64pow10" .u64 Lib.pow10Tab := by
 obtain ⟨t, z, h⟩ := h
 unfold Lib.TabIs World.var?
 rw [tab_glob]
 show (match w.heap[GT]? with | some (.cells cs _ _) => some cs | _ => none) = _
 rw [h]; rfl
theorem oc_ (w : World) (k : Nat) (os : Array Obj) : Below w.heap.size w (Sort.grow (w.drewN k) os) :=
 ⟨rfl, rfl, rfl, by show w.heap.size ≤ (w.heap ++ os).size; simp, fun i hi => by show (w.heap ++ os)[i]? = _; rw [Array.getElem?_append_left hi]⟩
theorem fs_ItoaA (n : Nat) (h : n ≤ 9223372036854775807) : FSpec Tryz.prog 147 [i64 n] (tx (Lib.decDigits n)) := by
 refine ⟨aa_ (ad_ _) ab_, (l1_ 0 (by decide)).enters, fun M w vals hM hargs => ?_⟩
 obtain ⟨x, xs, rfl, hx, hxs⟩ := hargs
 have hx' : x = .int .i64 n := hx
 have hxs' : xs = [] := hxs
 subst hx'; subst hxs'
 have hc := Any.strconv_Itoa lay171 (n : Int) (by omega) (by omega) w (tab_is hM.tab)
 refine Calls.mono hc fun e w' ⟨he, k, os, hw⟩ => ⟨_, he, ?_, ?_⟩
 ·show Value.string _ = Value.string _
  unfold Lib.itoa
  rw [if_neg (by omega), Int.toNat_natCast]
 ·rw [hw]; exact oc_ w k os
theorem n2_ (z : UInt8) (n : Nat) (h : n ≤ 100) : FSpec Tryz.prog 234 [tx [z], i64 n] (tx (List.replicate n z)) := by
 have en : ∀ (xs : Array Value) (w : World), (callFunc 234 xs).run Tryz.prog w = .ok (.enter 234 xs) w := fun xs w => hU_ Tryz.func234 (c := (Tryz.f234).body.get rfl) (by kernel_rfl) rfl xs w
 refine ⟨aa_ (ad_ _) (aa_ (ad_ _) ab_), en, fun M w vals hM hargs => ?_⟩
 obtain ⟨x, xs, rfl, hx, y, ys, rfl, hy, hxs⟩ := hargs
 have hx' : x = .string ⟨[z].toArray⟩ := hx
 have hy' : y = .int .i64 n := hy
 have hxs' : ys = [] := hxs
 subst hx'; subst hy'; subst hxs'
 have hc := Any.strings_Repeat lay105 ext105 ⟨[z].toArray⟩ n w (by omega) (by simp [ByteArray.size]; omega)
 refine Calls.mono hc fun e w' ⟨he, hb⟩ => ⟨_, he, ?_, hb⟩
 show Value.string _ = Value.string _
 congr 2
 have : ∀ k, Lib.repeatL [z] k = List.replicate k z := fun k => by
  induction k with
  | zero => rfl
  | succ k ih => rw [Lib.repeatL, ih, List.replicate_succ]; rfl
 exact congrArg List.toArray (this n)
end Go.Proofs.YtdhedjbmdnnbkaaGreatDoor
namespace Go.Proofs.YtdhedjbmdnnbkaaGreatDoor
open Go.Abs
set_option maxRecDepth 20000
def pad9 (n : Nat) : List UInt8 := List.replicate (9 - (Lib.decDigits n).length) 48 ++ Lib.decDigits n
def txD : List Nat → List UInt8
 | [] => []
 | x :: xs => Lib.decDigits x ++ xs.flatMap pad9
def mtx (m : Nat) : List UInt8 := if m = 0 then [48] else txD (digs MB m).reverse
theorem mq_ {l : List Nat} (h : l ≠ []) (x : Nat) : txD (l ++ [x]) = txD l ++ pad9 x := by
 cases l with
 | nil => exact absurd rfl h
 | cons a l => simp [txD]
theorem lM_ : ∀ k n, n < 10 ^ (k + 1) → Lib.nDigits n ≤ k + 1
 | 0, n, h => by rw [Lib.nDigits_small (by simpa using h)]; omega
 | k + 1, n, h => by
  by_cases h1 : n < 10
  ·rw [Lib.nDigits_small h1]; omega
  ·rw [Lib.nDigits_big h1]
   have : n / 10 < 10 ^ (k + 1) := by rw [Nat.pow_succ] at h; omega
   have := lM_ k (n / 10) this
   omega
theorem mb_ {n : Nat} (h : n < 1000000000) : (Lib.decDigits n).length ≤ 9 := by
 rw [Lib.decDigits_length]; exact lM_ 8 n h
theorem dec_ne (n : Nat) : Lib.decDigits n ≠ [] := by
 intro e
 have h1 := Lib.decDigits_length n
 rw [e] at h1
 have := Lib.nDigits_pos n
 simp at h1; omega
theorem pad9_len {n : Nat} (h : n < 1000000000) : (pad9 n).length = 9 := by
 have := mb_ h
 simp [pad9]; omega
theorem txD_ne {l : List Nat} (h : l ≠ []) : txD l ≠ [] := by
 cases l with
 | nil => exact absurd rfl h
 | cons a l => intro e; exact dec_ne a (List.append_eq_nil_iff.1 e).1
theorem or_ {l : List Nat} (h : ∀ x ∈ l, x < 1000000000) : (txD l).length ≤ 9 * l.length := by
 cases l with
 | nil => simp [txD]
 | cons a l =>
  have h1 := mb_ (h a (List.mem_cons_self ..))
  have h2 : ∀ l : List Nat, (∀ x ∈ l, x < 1000000000) → (l.flatMap pad9).length = 9 * l.length := by
   intro l
   induction l with
   | nil => intro _; rfl
   | cons b l ih =>
    intro h
    rw [List.flatMap_cons, List.length_append, pad9_len (h b (List.mem_cons_self ..)), ih fun x hx => h x (List.mem_cons_of_mem _ hx), List.length_cons]
    omega
  have h3 := h2 l fun x hx => h x (List.mem_cons_of_mem _ hx)
  simp only [txD, List.length_append, List.length_cons]
  omega
def tf0 (L : List Nat) : Unit → AState
 | u => ⟨[(1, .lptr 1 0 0), (3, .lptr 2 0 0), (11, .clos 269 [] [.aptr [[.arr (dE L)]] 0 0])], [(1, some ⟨33, 1, [[.arr (dE L)]]⟩), (2, some ⟨182, 2, [bldC 2 0 none]⟩)], 4, 31⟩
theorem tf0_mk (L : List Nat) (u : Unit) : tf0 L u = ⟨[(1, .lptr 1 0 0), (3, .lptr 2 0 0), (11, .clos 269 [] [.aptr [[.arr (dE L)]] 0 0])], [(1, some ⟨33, 1, [[.arr (dE L)]]⟩), (2, some ⟨182, 2, [bldC 2 0 none]⟩)], 4, 31⟩ := rfl
def tf1 (L : List Nat) : List UInt8 → AState
 | q => ⟨[(1, .lptr 1 0 0), (3, .lptr 2 0 0), (11, .clos 269 [] [.aptr [[.arr (dE L)]] 0 0])], [(1, some ⟨33, 1, [[.arr (dE L)]]⟩), (2, some ⟨182, 2, [bldC 2 3 (some q)]⟩), (3, some ⟨5, 1, bE q⟩)], 4, 31⟩
theorem tf1_mk (L : List Nat) (q : List UInt8) : tf1 L q = ⟨[(1, .lptr 1 0 0), (3, .lptr 2 0 0), (11, .clos 269 [] [.aptr [[.arr (dE L)]] 0 0])], [(1, some ⟨33, 1, [[.arr (dE L)]]⟩), (2, some ⟨182, 2, [bldC 2 3 (some q)]⟩), (3, some ⟨5, 1, bE q⟩)], 4, 31⟩ := rfl
def tfS (L : List Nat) : Nat → AState
 | 0 => tf0 L ()
 | k + 1 => tf1 L (txD (L.reverse.take (k + 1)))
theorem kU_ (m : Nat) (h : bl m ≤ 68719476736) : FSpec Tryz.prog 172 [.agg [mag m]] (tx (mtx m)) := by
 have hz := ee_ m
 refine f_n Tryz.func172 ?_ ?_
 ·exact aa_ (aq_ (aa_ (aE_ m) ab_)) ab_
 refine r_z 2 ?_
 refine ac_ (r_c 2 (hz) ?_)
 refine aj_ ?_
 refine af_ rfl (fun h1 => ?_) (fun h1 => ?_)
 ·have h2 : m = 0 := by simpa using h1
  subst h2
  refine r_z 1 ?_
  exact ae_ (t_e (ad_ _))
 have h2 : m ≠ 0 := by simpa using h1
 obtain ⟨L, hL⟩ : ∃ L, L = digs MB m := ⟨_, rfl⟩
 have hm : mag m = .arr (dE L) := by unfold mag; rw [hL]
 have hLl : L.length ≤ 68719476736 := by
  rw [hL]; exact Nat.le_trans (aR_ (b := MB) (by decide) m) h
 have hLb : ∀ x ∈ L, x < 1000000000 := by rw [hL]; exact bK_ (b := MB) (by decide) m
 have hLn : L ≠ [] := by rw [hL]; exact fun e => h2 ((cC_ (b := MB) (by decide)).1 e)
 have hn1 := List.length_pos_iff.2 hLn
 rw [show mtx m = txD L.reverse by unfold mtx; rw [if_neg h2, hL]]
 clear hz
 rw [hm]
 refine ag_ ?_
 have hcl : Closed (.aptr [[.arr (dE L)]] 0 0) := dC_ (fun e he c hc => by simp at he; subst he; simp at hc; subst hc; exact bh_ _)
 have hcl2 : Closed (.clos 269 [] [.aptr [[.arr (dE L)]] 0 0]) := aJ_ ab_ (aa_ hcl ab_)
 have hdl : (dE L).length = L.length := fW_ L
 refine r_z 1 ?_
 refine ac_ (r_c 3 (ef_ L) ?_)
 refine aj_ ?_
 refine au_ (fun _ : Unit => tf1 L (txD L.reverse)) (fun _ => True) ?_ ?_
 ·refine ah_ (AWp.rangeFunc (α := Nat) (γ := Empty) L.length (tfS L) (fun k => k) (fun k => k ≤ L.length) (fun e => nomatch e) (fun _ e => nomatch e) 0 rfl (eb_ L (by omega)) rfl rfl ?_ (fun k => by cases k <;> exact ⟨rfl, rfl⟩) (fun e => nomatch e) (Nat.zero_le _) rfl (fun _ h => h) ?_ ?_ ?_ ?_ (fun _ e => nomatch e))
  ·intro k xs hT
   unfold backT at hT
   split at hT
   ·cases hT; rfl
   ·cases hT
  ·show SEntT _ (tf0 L ())
   rw [tf0_mk]
   exact s_t [(1, 1), (2, 3)]
  ·exact aa_ hcl ab_
  ·intro l k xs hk hT
   unfold backT at hT
   split at hT
   rotate_left
   ·cases hT
   rename_i hlt
   cases hT
   obtain ⟨x, hx⟩ : ∃ x, x = L.getD (L.length - 1 - k) 0 := ⟨_, rfl⟩
   have hgx : L[L.length - 1 - k]? = some x := by
    rw [hx, List.getD_eq_getElem?_getD, List.getElem?_eq_getElem (by omega)]; rfl
   have hxb : x < 1000000000 := hLb x (List.mem_of_getElem? hgx)
   have htk : L.reverse.take (k + 1) = L.reverse.take k ++ [x] := by
    rw [List.take_add_one, List.getElem?_reverse (by omega), hgx]; rfl
   have hit := fs_ItoaA x (by omega)
   have hdl9 := mb_ hxb
   rw [← hx]
   cases k with
   | zero =>
    show AWp _ _ _ _ ⟨setPs (tf0 L ()).fr _ _ ++ bT_ (tf0 L ()).fr, _, _, _⟩
    show AWp _ _ _ _ ⟨[(13, u32 x), (12, i64 ((L.length - 1 - 0 : Nat) : Int)), (1, .lptr 1 0 0), (3, .lptr 2 0 0), (11, .clos 269 [] [.aptr [[.arr (dE L)]] 0 0]), (1001, .lptr 1 0 0), (1003, .lptr 2 0 0), (1011, .clos 269 [] [.aptr [[.arr (dE L)]] 0 0])], [(1, some ⟨33, 1, [[.arr (dE L)]]⟩), (2, some ⟨182, 2, [bldC 2 0 none]⟩)], 4, 31⟩
    refine r_z 1 ?_
    refine r_m 1 ?_
    refine a_z ?_
    refine ah_ (r_c 4 (hit) ?_)
    refine a_z ?_
    refine ac_ (r_z 6 ?_)
    refine af_ rfl (fun h3 => ?_) (fun h3 => ?_)
    ·exact absurd h3 (by simp; omega)
    refine ag_ (r_m 2 ?_)
    refine a_1 ?_
    refine o_2 (.callB (s := none) (j := 0) rfl rfl rfl rfl rfl rfl (fun _ h => by cases h) (d5_ (Lib.decDigits x) (dec_ne x) (by omega))) ?_
    refine aj_ ?_
    refine ⟨0 + 1, ⟨by omega, rfl⟩, ?_⟩
    have e : txD (L.reverse.take (0 + 1)) = Lib.decDigits x := by rw [htk]; simp [txD]
    show SEntT _ ⟨bT_ (tf1 L (txD (L.reverse.take (0 + 1)))).fr, (tf1 L (txD (L.reverse.take (0 + 1)))).hp, _, _⟩
    rw [e]
    show SEntT _ ⟨[(1001, .lptr 1 0 0), (1003, .lptr 2 0 0), (1011, .clos 269 [] [.aptr [[.arr (dE L)]] 0 0])], [(1, some ⟨33, 1, [[.arr (dE L)]]⟩), (2, some ⟨182, 2, [bldC 2 3 (some (Lib.decDigits x))]⟩), (3, some ⟨5, 1, bE (Lib.decDigits x)⟩)], 4, 31⟩
    refine SEntT.to2 [(3, 100017)] rfl rfl rfl au_r (fun hs => ?_) (fun hs => ?_)
    ·repeat' (first | exact aX_ | refine aL_ rfl ?_ ?_)
     all_goals (first | (exact ar_ hs hcl2) | exact au_c)
    ·repeat' (first | exact as_ | refine an_ rfl rfl rfl rfl ?_ ?_)
     all_goals (first | exact au_e | (refine aF_ ?_; repeat' (first | exact ap_ | refine ai_ ?_ ?_)))
     all_goals (first | (exact ar_ hs hcl2) | exact au_c)
   | succ k =>
    obtain ⟨q, hq⟩ : ∃ q, q = txD (L.reverse.take (k + 1)) := ⟨_, rfl⟩
    have hrn : L.reverse.take (k + 1) ≠ [] := by
     intro e
     have := congrArg List.length e
     rw [List.length_take, List.length_reverse] at this
     simp only [List.length_nil] at this; omega
    have hql : q.length ≤ 9 * L.length := by
     have h3 := or_ (l := L.reverse.take (k + 1)) (fun y hy => hLb y (List.mem_reverse.1 (List.mem_of_mem_take hy)))
     have h4 : (L.reverse.take (k + 1)).length ≤ L.length := by simp; omega
     rw [hq]; omega
    show AWp _ _ _ _ ⟨setPs (tf1 L (txD (L.reverse.take (k + 1)))).fr _ _ ++ bT_ (tf1 L (txD (L.reverse.take (k + 1)))).fr, (tf1 L (txD (L.reverse.take (k + 1)))).hp, 4, _⟩
    rw [← hq]
    show AWp _ _ _ _ ⟨[(13, u32 x), (12, i64 ((L.length - 1 - (k + 1) : Nat) : Int)), (1, .lptr 1 0 0), (3, .lptr 2 0 0), (11, .clos 269 [] [.aptr [[.arr (dE L)]] 0 0]), (1001, .lptr 1 0 0), (1003, .lptr 2 0 0), (1011, .clos 269 [] [.aptr [[.arr (dE L)]] 0 0])], [(1, some ⟨33, 1, [[.arr (dE L)]]⟩), (2, some ⟨182, 2, [bldC 2 3 (some q)]⟩), (3, some ⟨5, 1, bE q⟩)], 4, 31⟩
    refine r_z 1 ?_
    refine r_m 1 ?_
    refine a_z ?_
    refine ah_ (r_c 4 (hit) ?_)
    refine a_z ?_
    refine ac_ (r_z 6 ?_)
    refine af_ rfl (fun h3 => ?_) (fun h3 => ?_)
    rotate_left
    ·exact absurd (of_decide_eq_false h3) (by omega)
    have e9 : ((9 : Int) - ((⟨(Lib.decDigits x).toArray⟩ : ByteArray).size : Int)) = ((9 - (Lib.decDigits x).length : Nat) : Int) := by rw [f2_]; omega
    have hrep : FSpec Tryz.prog 234 [tx [48], .v (.int .i64 ((9 : Int) - ((⟨(Lib.decDigits x).toArray⟩ : ByteArray).size : Int)))] (tx (List.replicate (9 - (Lib.decDigits x).length) 48)) := by
     rw [e9]; exact n2_ 48 (9 - (Lib.decDigits x).length) (by omega)
    refine r_m 5 ?_
    refine o_0 (.move rfl) ?_
    refine o_0 (.builtinV (vs := [_]) rfl rfl (fun _ _ _ => rfl)) ?_
    refine o_0 (.bin rfl rfl (e8_ (by rw [f2_]; omega))) ?_
    refine c_s (hrep) ?_
    refine o_3 (.callB (s := some _) rfl rfl rfl rfl rfl rfl (fun _ h => by cases h; exact ⟨rfl, by decide⟩) (db_ q (List.replicate (9 - (Lib.decDigits x).length) 48) (by simp; omega))) ?_
    refine aj_ ?_
    refine r_m 2 ?_
    refine a_1 ?_
    refine o_3 (.callB (s := some _) rfl rfl rfl rfl rfl rfl (fun _ h => by cases h; exact ⟨rfl, by decide⟩) (db_ (q ++ List.replicate (9 - (Lib.decDigits x).length) 48) (Lib.decDigits x) (by simp; omega))) ?_
    refine aj_ ?_
    refine ⟨k + 1 + 1, ⟨by omega, rfl⟩, ?_⟩
    have e : txD (L.reverse.take (k + 1 + 1)) = q ++ List.replicate (9 - (Lib.decDigits x).length) 48 ++ Lib.decDigits x := by
     rw [htk, mq_ hrn, ← hq, List.append_assoc]; rfl
    show SEntT _ ⟨bT_ (tf1 L (txD (L.reverse.take (k + 1 + 1)))).fr, (tf1 L (txD (L.reverse.take (k + 1 + 1)))).hp, _, _⟩
    rw [e]
    show SEntT _ ⟨[(1001, .lptr 1 0 0), (1003, .lptr 2 0 0), (1011, .clos 269 [] [.aptr [[.arr (dE L)]] 0 0])], [(1, some ⟨33, 1, [[.arr (dE L)]]⟩), (2, some ⟨182, 2, [bldC 2 3 (some (q ++ List.replicate (9 - (Lib.decDigits x).length) 48 ++ Lib.decDigits x))]⟩), (3, some ⟨5, 1, bE (q ++ List.replicate (9 - (Lib.decDigits x).length) 48 ++ Lib.decDigits x)⟩)], 4, 31⟩
    refine SEntT.to2 [(3, 100022)] rfl rfl rfl au_r (fun hs => ?_) (fun hs => ?_)
    ·repeat' (first | exact aX_ | refine aL_ rfl ?_ ?_)
     all_goals (first | (exact ar_ hs hcl2) | exact au_c)
    ·repeat' (first | exact as_ | refine an_ rfl rfl rfl rfl ?_ ?_)
     all_goals (first | exact au_e | (refine aF_ ?_; repeat' (first | exact ap_ | refine ai_ ?_ ?_)))
     all_goals (first | (exact ar_ hs hcl2) | exact au_c)
  ·intro k hk hT
   unfold backT at hT
   split at hT
   ·cases hT
   have hk1 : k = L.length := by
    rename_i hn; omega
   subst hk1
   obtain ⟨j, hj⟩ : ∃ j, L.length = j + 1 := ⟨L.length - 1, by omega⟩
   refine ⟨(), trivial, ?_⟩
   show SEnt (tfS L L.length) _
   rw [hj]
   show SEnt (tf1 L (txD (L.reverse.take (j + 1)))) _
   rw [← hj, List.take_of_length_le (by simp)]
   exact SEnt.refl _
 rintro _ _
 rw [tf1_mk]
 have hne : txD L.reverse ≠ [] := txD_ne (by simpa using hLn)
 refine s_r 2 ?_
 refine o_2 (.callD rfl rfl rfl rfl rfl rfl (by decide) (by first | assumption | simp) (hW_)) ?_
 refine a_z ?_
 exact ae_ (t_e (ad_ _))
theorem pa_ (m : Nat) : (mtx m).length ≤ 9 * bl m + 1 := by
 unfold mtx
 split
 ·simp
 ·have h1 := or_ (l := (digs MB m).reverse) fun x hx => bK_ (b := MB) (by decide) m x (List.mem_reverse.1 hx)
  have h2 := aR_ (b := MB) (by decide) m
  rw [List.length_reverse] at h1
  omega
def qtx (q : Rat) : List UInt8 := ((if q.num < 0 then [45] else []) ++ mtx q.num.natAbs) ++ (if q.den = 1 then [] else 47 :: mtx q.den)
def quS (q : Rat) : List UInt8 → AState
 | l => ⟨[(1, .aptr [qC q] 0 0), (3, tx l)], [], 2, 24⟩
theorem ir_ (q : Rat) (l : List UInt8) : quS q l = ⟨[(1, .aptr [qC q] 0 0), (3, tx l)], [], 2, 24⟩ := rfl
theorem pO_ (q : Rat) (h : qs q ≤ 68719476736) : FSpec Tryz.prog 89 [.agg (qC q)] (tx (qtx q)) := by
 have hd1 := pa_ q.num.natAbs
 have hd2 := pa_ q.den
 have hden : 1 ≤ q.den := q.den_pos
 have hq1 := bJ_ q
 have hq2 := bv_ q
 refine f_n Tryz.func89 ?_ ?_
 ·exact aa_ (ak_ q) ab_
 refine r_z 2 ?_
 refine AWp.ent (st' := ⟨[(1, .aptr [qC q] 0 0)], [], 2, 24⟩) ?_ ?_
 ·exact s_e []
 refine r_c 5 (kU_ q.num.natAbs (Nat.le_trans (bJ_ q) h)) ?_
 refine a_z ?_
 refine aO_ (quS q) (fun l => l = (if q.num < 0 then [45] else []) ++ mtx q.num.natAbs) ?_ ?_
 ·refine r_z 3 ?_
  refine af_ rfl (fun h1 => ?_) (fun h1 => ?_)
  ·have h2 : q.num < 0 := by simpa using h1
   refine r_m 3 ?_
   refine a_1 ?_
   refine o_0 (.bin rfl rfl (bO_ (l := [45]) (by simp; omega))) ?_
   refine a_z ?_
   refine ⟨_, by rw [if_pos h2], ?_⟩
   rw [ir_]
   refine ax_ [] rfl rfl rfl au_r (fun hs => ?_) (fun hs => ?_)
   ·repeat' (first | exact aX_ | refine aL_ rfl ?_ ?_)
    all_goals (first | (exact ar_ hs (aP_ (aY_ q))) | exact au_c)
   ·repeat' (first | exact as_ | refine an_ rfl rfl rfl rfl ?_ ?_)
    all_goals (first | exact au_e | (refine aF_ ?_; repeat' (first | exact ap_ | refine ai_ ?_ ?_)))
    all_goals (first | (exact ar_ hs (aP_ (aY_ q))) | exact au_c)
  ·have h2 : ¬ q.num < 0 := by simpa using h1
   refine ag_ ⟨mtx q.num.natAbs, by rw [if_neg h2]; rfl, ?_⟩
   rw [ir_]
   refine ax_ [] rfl rfl rfl au_r (fun hs => ?_) (fun hs => ?_)
   ·repeat' (first | exact aX_ | refine aL_ rfl ?_ ?_)
    all_goals (first | (exact ar_ hs (aP_ (aY_ q))) | exact au_c)
   ·repeat' (first | exact as_ | refine an_ rfl rfl rfl rfl ?_ ?_)
    all_goals (first | exact au_e | (refine aF_ ?_; repeat' (first | exact ap_ | refine ai_ ?_ ?_)))
    all_goals (first | (exact ar_ hs (aP_ (aY_ q))) | exact au_c)
 rintro l hl
 have hll : l.length ≤ 618475290626 := by rw [hl]; split <;> simp <;> omega
 rw [ir_]
 refine aO_ (quS q) (fun l => l = qtx q) ?_ ?_
 ·refine r_c 4 (ee_ (q.den - 1)) ?_
  refine a_z ?_
  refine af_ rfl (fun h1 => ?_) (fun h1 => ?_)
  ·have h2 : ¬ q.den = 1 := by
    intro e; rw [e] at h1; simp at h1
   refine r_m 7 ?_
   refine c_s (b2_ q (by omega)) ?_
   refine c_s (kU_ q.den (Nat.le_trans (bv_ q) h)) ?_
   refine o_0 (.bin rfl rfl (bO_ (l := [47]) (by simp; omega))) ?_
   refine o_0 (.bin rfl rfl (bO_ (by simp; omega))) ?_
   refine a_z ?_
   refine ⟨_, by unfold qtx; rw [if_neg h2, ← hl], ?_⟩
   rw [ir_]
   refine ax_ [] rfl rfl rfl au_r (fun hs => ?_) (fun hs => ?_)
   ·repeat' (first | exact aX_ | refine aL_ rfl ?_ ?_)
    all_goals (first | (exact ar_ hs (aP_ (aY_ q))) | exact au_c)
   ·repeat' (first | exact as_ | refine an_ rfl rfl rfl rfl ?_ ?_)
    all_goals (first | exact au_e | (refine aF_ ?_; repeat' (first | exact ap_ | refine ai_ ?_ ?_)))
    all_goals (first | (exact ar_ hs (aP_ (aY_ q))) | exact au_c)
  ·have h2 : q.den = 1 := by
    have h3 : q.den - 1 = 0 := by simpa using h1
    omega
   refine ag_ ⟨l, by unfold qtx; rw [if_pos h2, ← hl, List.append_nil], ?_⟩
   rw [ir_]
   refine ax_ [] rfl rfl rfl au_r (fun hs => ?_) (fun hs => ?_)
   ·repeat' (first | exact aX_ | refine aL_ rfl ?_ ?_)
    all_goals (first | (exact ar_ hs (aP_ (aY_ q))) | exact au_c)
   ·repeat' (first | exact as_ | refine an_ rfl rfl rfl rfl ?_ ?_)
    all_goals (first | exact au_e | (refine aF_ ?_; repeat' (first | exact ap_ | refine ai_ ?_ ?_)))
    all_goals (first | (exact ar_ hs (aP_ (aY_ q))) | exact au_c)
 rintro l rfl
 rw [ir_]
 refine r_z 2 ?_
 exact ae_ (t_e (ad_ _))
def oA_  : List Nat → AState
 | l => ⟨[(0, .arr (iE l))], [], 1, 15⟩
theorem dQ_  (l : List Nat) : oA_  l = ⟨[(0, .arr (iE l))], [], 1, 15⟩ := rfl
theorem dJ_ (l : List Nat) (hl : l.length ≤ 281474976710656) : FSpec Tryz.prog 253 [.arr (iE l)] (.arr (iE (dd_ l))) := by
 refine f_n Tryz.func253 ?_ ?_
 ·exact aa_ (a4_ l) ab_
 refine r_z 1 ?_
 refine aO_ oA_ (fun m => m = dd_ l) ?_ ?_
 ·refine ah_ (ao_ oA_ (fun m => m.length) (fun m => m.length ≤ 281474976710656 ∧ dd_ m = dd_ l) l ⟨hl, rfl⟩ ?_ ?_)
  ·simp only [dQ_]
   exact s_e []
  rintro m ⟨hm, he⟩
  rw [dQ_]
  cases m with
  | nil =>
   refine ac_ (s_r 9 ?_)
   refine a_4 ?_
   refine n_g rfl d_f ?_
   refine n_g rfl d_f ?_
   refine n_g rfl d_f ?_
   refine n_g rfl d_f ?_
   refine o_0 (.pickF rfl d_f rfl) ?_
   refine aj_ ?_
   refine cF ?_
   ·refine al_ ⟨[], by simpa [dd_] using he, ?_⟩
    simp only [dQ_]
    exact s_e []
  | cons d m =>
   have hd : (iE (d :: m))[(0 : Int).toNat]? = some [i64 d] := rfl
   refine ac_ (s_r 9 ?_)
   refine a_4 ?_
   refine y_g rfl (by simp) (.move rfl) ?_
   first | refine y_g rfl (by simp) (.index_l rfl rfl (by omega) (by omega) te_71.h) ?_ | refine y_g rfl (by simp) (.index_a rfl rfl (by omega) hd rfl te_71.h) ?_
   first | refine y_g rfl (by simp) (.load_l1 rfl rfl hd tg_3.h rfl) ?_ | refine y_g rfl (by simp) (.load_a1 rfl hd tg_3.h rfl) ?_
   refine y_g rfl (by simp) (.bin rfl rfl a2_) ?_
   refine o_0 (.pickT rfl (by simp) rfl) ?_
   refine aj_ ?_
   refine af_ rfl (fun h => ?_) (fun h => ?_)
   ·have h0 : d = 0 := by simpa using h
    refine ag_ ?_
    subst h0
    refine ah_ (r_m 3 ?_)
    refine a_1 ?_
    refine o_0 (.sa_l rfl rfl rfl (by simp) te_71.h (fo_ _)) ?_
    refine a_z ?_
    refine ⟨m, by simp, ⟨by simp at hm; omega, by simpa [dd_] using he⟩, ?_⟩
    simp only [dQ_]
    exact s_e []
   ·have h0 : d ≠ 0 := by simpa using h
    refine al_ ⟨d :: m, by rw [← he]; simp [dd_, h0], ?_⟩
    simp only [dQ_]
    exact s_e []
 rintro m rfl
 rw [dQ_]
 refine r_z 2 ?_
 exact ae_ (t_e (a4_ _))
theorem ez_ (s : Int) (l : List Nat) (z : Int) (hl : l.length ≤ 281474976710656) (hd : ∀ d ∈ l, d < UB) (hz : hv l = z.natAbs) (hs : z ≠ 0 → s = sgZ z) : FSpec Tryz.prog 201 [i64 s, .arr (iE l)] (.agg (zZ z)) := by
 refine f_n Tryz.func201 ?_ ?_
 ·exact aa_ (ad_ _) (aa_ (a4_ l) ab_)
 refine r_z 1 ?_
 refine r_c 3 (dJ_ l hl) ?_
 refine a_z ?_
 refine ac_ (r_z 3 ?_)
 refine af_ rfl (fun h => ?_) (fun h => ?_)
 ·have h0 : dd_ l = [] := by
   have : (dd_ l).length = 0 := by simpa using h
   exact List.length_eq_zero_iff.1 this
  have hz0 : z = 0 := by have := (ij_ hd).1 h0; omega
  subst hz0
  refine r_z 2 ?_
  refine ae_ (Fin.cell rfl rfl rfl tg_73.h ts_73.h (nle rfl) ?_)
  rw [oj_]
  exact Cv.agg (ai_ (ar_ at_ (ad_ _)) (ai_ (Cv.emp _) ap_))
 ·have h0 : dd_ l ≠ [] := fun e => by rw [e] at h; simp at h
  have hz0 : z ≠ 0 := by
   intro e
   subst e
   exact h0 ((ij_ hd).2 hz)
  refine ag_ (r_z 4 ?_)
  refine ae_ (bH_ rfl rfl rfl tg_73.h ts_73.h (nle rfl) ?_ ?_)
  ·show AV.agg [i64 s, .arr (iE (dd_ l))] = _
   unfold zZ
   rw [hs hz0, cJ_ hd, hz]
  ·exact aN_ _
theorem zZ_neg (z : Int) : zZ (-z) = [i64 (-sgZ z), .arr (iE (zd z.natAbs))] := by
 unfold zZ
 rw [Int.natAbs_neg]
 congr 2
 unfold sgZ
 split <;> split <;> (try split) <;> (try split) <;> omega
theorem bi_ (z : Int) : sgZ z = -1 ∧ z < 0 ∨ sgZ z = 0 ∧ z = 0 ∨ sgZ z = 1 ∧ 0 < z := by
 unfold sgZ; split
 ·right; left; exact ⟨rfl, by assumption⟩
 ·split
  ·left; exact ⟨rfl, by assumption⟩
  ·right; right; exact ⟨rfl, by omega⟩
theorem jM_ (z : Int) : FSpec Tryz.prog 195 [.agg (zZ z)] (.agg (zZ (-z))) := by
 have hs := bi_ z
 have hc := aN_ (-z)
 rw [zZ_neg] at hc ⊢
 refine f_n Tryz.func195 ?_ ?_
 ·exact aa_ (aN_ z) ab_
 refine r_z 2 ?_
 refine r_z 7 ?_
 exact ae_ (c_e (hc))
theorem zZ_abs (z : Int) : zZ (z.natAbs : Int) = [i64 (sgZ z * sgZ z), .arr (iE (zd z.natAbs))] := by
 unfold zZ
 rw [Int.natAbs_natCast]
 congr 2
 rcases bi_ z with ⟨h, h'⟩ | ⟨h, h'⟩ | ⟨h, h'⟩ <;> rcases bi_ (z.natAbs : Int) with ⟨g, g'⟩ | ⟨g, g'⟩ | ⟨g, g'⟩ <;> rw [h, g] <;> omega
theorem fs_ZAbs (z : Int) : FSpec Tryz.prog 215 [.agg (zZ z)] (.agg (zZ (z.natAbs : Int))) := by
 have hs := bi_ z
 have hm : -9223372036854775808 ≤ sgZ z * sgZ z ∧ sgZ z * sgZ z ≤ 9223372036854775807 := by rcases hs with ⟨h, _⟩ | ⟨h, _⟩ | ⟨h, _⟩ <;> rw [h] <;> decide
 have hc := aN_ (z.natAbs : Int)
 rw [zZ_abs] at hc ⊢
 refine f_n Tryz.func215 ?_ ?_
 ·exact aa_ (aN_ z) ab_
 refine r_z 2 ?_
 refine s_r 9 ?_
 refine a_4 ?_
 refine o_0 (.bin rfl rfl (g6_ hm)) ?_
 refine a_z ?_
 exact ae_ (c_e (hc))
theorem jL_ (l : List Nat) (i : Nat) (hl : l.length ≤ 281474976710656) : FSpec Tryz.prog 278 [.arr (iE l), i64 i] (i64 (l.reverse[i]?.getD 0 : Nat)) := by
 refine f_n Tryz.func278 ?_ ?_
 ·exact aa_ (a4_ l) (aa_ (ad_ _) ab_)
 refine r_z 1 ?_
 refine ac_ (r_z 4 ?_)
 refine af_ rfl (fun h => ?_) (fun h => ?_)
 ·have hi : l.length ≤ i := by simpa using h
  refine r_z 1 ?_
  refine ae_ (aD_ rfl ?_ (ad_ _))
  rw [List.getElem?_eq_none (by simpa using hi)]
  rfl
 ·have hi : i < l.length := by simp at h; omega
  refine ag_ ?_
  obtain ⟨d, hd⟩ : ∃ d, l[l.length - 1 - i]? = some d := ⟨_, List.getElem?_eq_getElem (by omega)⟩
  have hd' : (iE l)[((l.length : Int) - 1 - i).toNat]? = some [i64 d] := by rw [show ((l.length : Int) - 1 - i).toNat = l.length - 1 - i by omega]; exact fg_ hd
  refine s_r 9 ?_
  refine a_6 ?_
  refine i_x hd' ?_
  refine l_1 hd' ?_
  refine a_z ?_
  refine ae_ (aD_ rfl ?_ (ad_ _))
  rw [List.getElem?_reverse hi, hd]
  rfl
theorem nW_ (a b : List Nat) : FSpec Tryz.prog 277 [.arr (iE a), .arr (iE b)] (i64 (max a.length b.length : Nat)) := by
 refine f_n Tryz.func277 ?_ ?_
 ·exact aa_ (a4_ a) (aa_ (a4_ b) ab_)
 refine r_z 1 ?_
 refine ac_ (r_z 5 ?_)
 refine af_ rfl (fun h => ?_) (fun h => ?_)
 ·refine r_z 3 ?_
  refine ae_ (aD_ rfl ?_ (ad_ _))
  have : b.length < a.length := by simpa using h
  simp [i64]; omega
 ·refine ag_ (r_z 3 ?_)
  refine ae_ (aD_ rfl ?_ (ad_ _))
  have : ¬ b.length < a.length := by simpa using h
  simp [i64]; omega
def qw_ (a : Nat) (b : Nat) : Nat → AState
 | i => ⟨[(0, .arr (iE (zd a))), (1, .arr (iE (zd b))), (5, i64 i)], [], 1, 40⟩
theorem eK_ (a : Nat) (b : Nat) (i : Nat) : qw_ a b i = ⟨[(0, .arr (iE (zd a))), (1, .arr (iE (zd b))), (5, i64 i)], [], 1, 40⟩ := rfl
theorem mn_ {n i d : Nat} (h : (digs UB n)[i]? = some d) : (zd n)[(digs UB n).length - 1 - i]? = some d := by
 have hi : i < (digs UB n).length := (List.getElem?_eq_some_iff.1 h).1
 unfold zd
 rw [List.getElem?_reverse (by omega), show (digs UB n).length - 1 - ((digs UB n).length - 1 - i) = i by omega]; exact h
theorem m3_ (a b : Nat) (ha : (zd a).length ≤ 281474976710656) (hb : (zd b).length ≤ 281474976710656) : FSpec Tryz.prog 251 [.arr (iE (zd a)), .arr (iE (zd b))] (i64 (cmpZ a b)) := by
 have hza := bd_ a
 have hzb := bd_ b
 refine f_n Tryz.func251 ?_ ?_
 ·exact aa_ (a4_ _) (aa_ (a4_ _) ab_)
 refine r_z 1 ?_
 refine ac_ (r_z 5 ?_)
 refine af_ rfl (fun h => ?_) (fun h => ?_)
 ·have hne : (zd a).length ≠ (zd b).length := by simp at h; omega
  refine ac_ (r_z 5 ?_)
  refine af_ rfl (fun h1 => ?_) (fun h1 => ?_)
  ·refine r_z 1 ?_
   refine ae_ (aD_ rfl ?_ (ad_ _))
   have hl : (zd a).length < (zd b).length := by simpa using h1
   rw [fr_]
   ·rfl
   ·have := dV_ (b := UB) (by decide) (show (digs UB a).length < (digs UB b).length by omega); omega
  ·refine ag_ (r_z 1 ?_)
   refine ae_ (aD_ rfl ?_ (ad_ _))
   have hl : (zd b).length < (zd a).length := by simp at h1; omega
   rw [gl_]
   ·rfl
   ·have := dV_ (b := UB) (by decide) (show (digs UB b).length < (digs UB a).length by omega); omega
 have heq : (digs UB a).length = (digs UB b).length := by simp at h; omega
 refine ag_ (ac_ (r_z 1 ?_))
 refine au_ (qw_ a b) (fun _ => a = b) ?_ ?_
 ·refine ah_ (ao_ (qw_ a b) (fun i => (digs UB a).length - i) (fun i => i ≤ (digs UB a).length ∧ (digs UB a).drop ((digs UB a).length - i) = (digs UB b).drop ((digs UB a).length - i)) 0 ⟨Nat.zero_le _, by rw [Nat.sub_zero, List.drop_length, heq, List.drop_length]⟩ ?_ ?_)
  ·simp only [eK_]
   exact s_e []
  rintro i ⟨hi, hd⟩
  rw [eK_]
  refine ac_ (r_z 4 ?_)
  refine af_ rfl (fun h => ?_) (fun h => ?_)
  ·have hlt : i < (digs UB a).length := by simp at h; omega
   obtain ⟨k, hk⟩ : ∃ k, k = (digs UB a).length - 1 - i := ⟨_, rfl⟩
   have hk1 : (digs UB a).length - i = k + 1 := by omega
   rw [hk1] at hd
   obtain ⟨x, hx⟩ : ∃ x, (digs UB a)[k]? = some x := ⟨_, List.getElem?_eq_getElem (by omega)⟩
   obtain ⟨y, hy⟩ : ∃ y, (digs UB b)[k]? = some y := ⟨_, List.getElem?_eq_getElem (by omega)⟩
   have hx' : (iE (zd a))[((i : Nat) : Int).toNat]? = some [i64 x] := by
    have := mn_ hx
    rw [show (digs UB a).length - 1 - k = i by omega] at this
    exact fg_ this
   have hy' : (iE (zd b))[((i : Nat) : Int).toNat]? = some [i64 y] := by
    have := mn_ hy
    rw [show (digs UB b).length - 1 - k = i by omega] at this
    exact fg_ this
   refine ag_ (ac_ (ah_ (ac_ (ac_ (r_d hmix 9 ?_)))))
   refine a_2 ?_
   refine i_x hx' ?_
   refine l_1 hx' ?_
   refine a_2 ?_
   refine i_x hy' ?_
   refine l_1 hy' ?_
   refine a_1 ?_
   refine aj_ (n_k ?_)
   refine af_ rfl (fun h1 => ?_) (fun h1 => ?_)
   ·refine r_z 1 ?_
    refine ae_ (aD_ rfl ?_ (ad_ _))
    have hxy : x < y := by simpa using h1
    have := fH_ (fun d hd => bK_ (by decide) a d hd) hx hy hd hxy
    rw [aS_ (by decide), aS_ (by decide)] at this
    rw [fr_ (by omega)]; rfl
   refine ag_ (ac_ (r_d hmix 9 ?_))
   refine a_2 ?_
   refine i_x hx' ?_
   refine l_1 hx' ?_
   refine a_2 ?_
   refine i_x hy' ?_
   refine l_1 hy' ?_
   refine a_1 ?_
   refine aj_ (n_k ?_)
   refine af_ rfl (fun h2 => ?_) (fun h2 => ?_)
   ·refine r_z 1 ?_
    refine ae_ (aD_ rfl ?_ (ad_ _))
    have hxy : y < x := by simpa using h2
    have := fH_ (fun d hd => bK_ (by decide) b d hd) hy hx hd.symm hxy
    rw [aS_ (by decide), aS_ (by decide)] at this
    rw [gl_ (by omega)]; rfl
   have hxy : x = y := by simp at h1 h2; omega
   subst hxy
   refine ag_ (r_m 3 ?_)
   refine a_z ?_
   refine ⟨i + 1, by omega, ⟨by omega, ?_⟩, ?_⟩
   ·rw [show (digs UB a).length - (i + 1) = k by omega, cN_ hx, cN_ hy, hd]
   ·simp only [eK_]
    exact s_e []
  ·have hge : i = (digs UB a).length := by simp at h; omega
   refine al_ ⟨i, ?_, ?_⟩
   ·subst hge
    rw [Nat.sub_self, List.drop_zero, List.drop_zero] at hd
    rw [← aS_ (b := UB) (by decide) a, ← aS_ (b := UB) (by decide) b, hd]
   ·simp only [eK_]
    exact s_e []
 rintro i rfl
 rw [eK_]
 refine r_z 1 ?_
 refine ae_ (aD_ rfl ?_ (ad_ _))
 rw [qd_ rfl]; rfl
def bothS (a : Nat) (b : Nat) (k : Int) (N : Nat) : List Nat × Int → AState
 | (s, c) => ⟨[(0, .arr (iE (zd a))), (1, .arr (iE (zd b))), (2, i64 k), (7, i64 N), (8, .lsl 1 0 N (some N) 1), (9, i64 c), (10, i64 s.length)], [(1, some ⟨3, 1, iE (List.replicate (N - s.length) 0 ++ s.reverse)⟩)], 2, 51⟩
theorem j0_ (a : Nat) (b : Nat) (k : Int) (N : Nat) (s : List Nat) (c : Int) : bothS a b k N (s, c) = ⟨[(0, .arr (iE (zd a))), (1, .arr (iE (zd b))), (2, i64 k), (7, i64 N), (8, .lsl 1 0 N (some N) 1), (9, i64 c), (10, i64 s.length)], [(1, some ⟨3, 1, iE (List.replicate (N - s.length) 0 ++ s.reverse)⟩)], 2, 51⟩ := rfl
def bothT (a : Nat) (b : Nat) (k : Int) (N : Nat) (s : List Nat) : Int × Int → AState
 | (x, c) => ⟨[(0, .arr (iE (zd a))), (1, .arr (iE (zd b))), (2, i64 k), (7, i64 N), (8, .lsl 1 0 N (some N) 1), (9, i64 c), (10, i64 s.length), (11, i64 x)], [(1, some ⟨3, 1, iE (List.replicate (N - s.length) 0 ++ s.reverse)⟩)], 2, 51⟩
theorem e7_ (a : Nat) (b : Nat) (k : Int) (N : Nat) (s : List Nat) (x : Int) (c : Int) : bothT a b k N s (x, c) = ⟨[(0, .arr (iE (zd a))), (1, .arr (iE (zd b))), (2, i64 k), (7, i64 N), (8, .lsl 1 0 N (some N) 1), (9, i64 c), (10, i64 s.length), (11, i64 x)], [(1, some ⟨3, 1, iE (List.replicate (N - s.length) 0 ++ s.reverse)⟩)], 2, 51⟩ := rfl
theorem hM_ (a b : Nat) (k : Int) (r : Nat) (hk : k = 1 ∨ k = -1) (hr : (r : Int) = a + k * b) (ha : (zd a).length ≤ 17592186044416) (hb : (zd b).length ≤ 17592186044416) : FSpec Tryz.prog 250 [.arr (iE (zd a)), .arr (iE (zd b)), i64 k] (.arr (iE (zd r))) := by
 have hza := bd_ a
 have hzb := bd_ b
 obtain ⟨N, hN⟩ : ∃ N, N = max (zd a).length (zd b).length + 1 := ⟨_, rfl⟩
 refine f_n Tryz.func250 ?_ ?_
 ·exact aa_ (a4_ _) (aa_ (a4_ _) (aa_ (ad_ _) ab_))
 refine r_z 1 ?_
 refine r_c 5 (nW_ (zd a) (zd b)) ?_
 refine a_z ?_
 have hNI : ((max (zd a).length (zd b).length : Nat) : Int) + 1 = (N : Int) := by omega
 refine s_r 3 ?_
 refine a_1 ?_
 refine o_1 (.makeSlice (congrArg (fun z => some (AV.v (.int .i64 z))) hNI) (congrArg (fun z => some (AV.v (.int .i64 z))) hNI) te_71.h tz_3.h rfl tb_3.h (by first | omega | (simp; done) | (simp; omega)) (by first | omega | (simp; done) | (simp; omega)) (by unfold maxLen; first | omega | (simp; done) | (simp; omega))) ?_
 refine a_z ?_
 refine r_z 1 ?_
 refine ac_ (r_z 1 ?_)
 have hdl := b9_ (b := UB) (by decide) (n := r) (k := N) (by
  have h1 := c6_ (b := UB) (bK_ (by decide) a)
  have h2 := c6_ (b := UB) (bK_ (by decide) b)
  rw [aS_ (by decide)] at h1 h2
  have h3 : UB ^ (digs UB a).length ≤ UB ^ (N - 1) := Nat.pow_le_pow_right (by decide) (by omega)
  have h4 : UB ^ (digs UB b).length ≤ UB ^ (N - 1) := Nat.pow_le_pow_right (by decide) (by omega)
  have h5 : UB ^ N = UB ^ (N - 1) * UB := by rw [← Nat.pow_succ]; congr 1; omega
  rw [h5]
  show r < UB ^ (N - 1) * 32768
  rcases hk with rfl | rfl <;> omega)
 have hrN : r < UB ^ N := by
  have h1 := c6_ (b := UB) (bK_ (by decide) r)
  rw [aS_ (by decide)] at h1
  exact Nat.lt_of_lt_of_le h1 (Nat.pow_le_pow_right (by decide) hdl)
 refine au_ (fun s : List Nat => ⟨[(8, .lsl 1 0 N (some N) 1)], [(1, some ⟨3, 1, iE s.reverse⟩)], 2, 51⟩) (fun s => s.length = N ∧ (∀ d ∈ s, d < UB) ∧ ofD UB s = r) ?_ ?_
 ·refine ah_ (ao_ (bothS a b k N) (fun x => N - x.1.length) (fun x => x.1.length ≤ N ∧ (∀ d ∈ x.1, d < UB) ∧ (x.2 = -1 ∨ x.2 = 0 ∨ x.2 = 1) ∧ ((ofD UB x.1 : Nat) : Int) + ((UB ^ x.1.length : Nat) : Int) * x.2 = (ofD UB ((digs UB a).take x.1.length) : Nat) + k * (ofD UB ((digs UB b).take x.1.length) : Nat)) ([], 0) ⟨by simp, by simp, by simp, by simp [ofD]⟩ ?_ ?_)
  ·simp only [j0_]
   exact s_e [(1, 8)]
  rintro ⟨s, c⟩ ⟨hs, hd, hc, hval⟩
  simp only at hs hd hc hval
  simp only [j0_]
  refine ac_ (r_z 3 ?_)
  refine af_ rfl (fun h => ?_) (fun h => ?_)
  ·have hlt : s.length < N := by simpa using h
   refine ag_ ?_
   obtain ⟨x, hx⟩ : ∃ x, x = (digs UB a)[s.length]?.getD 0 := ⟨_, rfl⟩
   obtain ⟨y, hy⟩ : ∃ y, y = (digs UB b)[s.length]?.getD 0 := ⟨_, rfl⟩
   have hx1 : x < 32768 := by
    rw [hx]; cases hh : (digs UB a)[s.length]? with
    | none => decide
    | some d => exact bc_ (by decide) hh
   have hy1 : y < 32768 := by
    rw [hy]; cases hh : (digs UB b)[s.length]? with
    | none => decide
    | some d => exact bc_ (by decide) hh
   have hda := jL_ (zd a) s.length (by omega)
   have hdb := jL_ (zd b) s.length (by omega)
   unfold zd at hda hdb
   rw [List.reverse_reverse, ← hx] at hda
   rw [List.reverse_reverse, ← hy] at hdb
   have hky : -32768 < k * y ∧ k * y < 32768 := by rcases hk with rfl | rfl <;> omega
   obtain ⟨X, hX⟩ : ∃ X : Int, X = x + k * y + c := ⟨_, rfl⟩
   have hXr : -32768 ≤ X ∧ X ≤ 65536 := by omega
   refine ac_ (ah_ (r_c 12 (hda) ?_))
   refine c_s (hdb) ?_
   refine a_z ?_
   refine r_z 1 ?_
   refine aO_ (bothT a b k N s) (fun v => v.1 = (if X < 0 then X + 32768 else X) ∧ v.2 = (if X < 0 then -1 else 0)) ?_ ?_
   ·refine r_z 2 ?_
    refine af_ rfl (fun h1 => ?_) (fun h1 => ?_)
    ·have hX0 : X < 0 := by rw [hX]; simpa using h1
     refine r_z 3 ?_
     refine r_m 1 ?_
     refine a_z ?_
     refine ⟨(X + 32768, -1), ⟨by rw [if_pos hX0], by rw [if_pos hX0]⟩, ?_⟩
     simp only [e7_]
     refine ax_ [] rfl rfl rfl ?_ (fun hs => ?_) (fun hs => ?_)
     ·repeat' (first | exact ShrL.nil | refine ShrL.cons rfl rfl rfl rfl (by first | rfl | (simp; done) | (simp [hX] <;> omega)) ?_)
     ·repeat' (first | exact aX_ | refine aL_ rfl ?_ ?_)
      all_goals (first | exact au_c | (refine Cv.loE hs ?_ (ad_ _); first | rfl | (simp [i64, u64, u32, bln, hX]; done) | (simp [i64, u64, u32, bln, hX] <;> omega)))
     ·repeat' (first | exact as_ | refine an_ rfl rfl rfl rfl ?_ ?_)
      all_goals (first | exact au_e | (refine az_ hs ?_ (bw_ _); first | (simp [gx_, ey_, c8_, hX]; done) | (simp [iE, i64, ofV, hX]; done)) | (refine aF_ ?_; repeat' (first | exact ap_ | refine ai_ ?_ ?_)))
      all_goals (first | exact au_c | (refine Cv.loE hs ?_ (ad_ _); first | (simp [i64, u64, u32, bln, hX]; done) | (simp [i64, u64, u32, bln, hX] <;> omega)))
    ·have hX0 : ¬ X < 0 := by rw [hX]; simpa using h1
     refine ag_ ⟨(X, 0), ⟨by rw [if_neg hX0], by rw [if_neg hX0]⟩, ?_⟩
     simp only [e7_]
     refine ax_ [] rfl rfl rfl ?_ (fun hs => ?_) (fun hs => ?_)
     ·repeat' (first | exact ShrL.nil | refine ShrL.cons rfl rfl rfl rfl (by first | rfl | (simp; done) | (simp [hX] <;> omega)) ?_)
     ·repeat' (first | exact aX_ | refine aL_ rfl ?_ ?_)
      all_goals (first | exact au_c | (refine Cv.loE hs ?_ (ad_ _); first | rfl | (simp [i64, u64, u32, bln, hX]; done) | (simp [i64, u64, u32, bln, hX] <;> omega)))
     ·repeat' (first | exact as_ | refine an_ rfl rfl rfl rfl ?_ ?_)
      all_goals (first | exact au_e | (refine az_ hs ?_ (bw_ _); first | (simp [gx_, ey_, c8_, hX]; done) | (simp [iE, i64, ofV, hX]; done)) | (refine aF_ ?_; repeat' (first | exact ap_ | refine ai_ ?_ ?_)))
      all_goals (first | exact au_c | (refine Cv.loE hs ?_ (ad_ _); first | (simp [i64, u64, u32, bln, hX]; done) | (simp [i64, u64, u32, bln, hX] <;> omega)))
   rintro ⟨X1, c1⟩ ⟨hX1, hc1⟩
   simp only at hX1 hc1
   rw [e7_]
   refine aO_ (bothT a b k N s) (fun v => v.1 = X % 32768 ∧ v.2 = X / 32768) ?_ ?_
   ·refine r_z 2 ?_
    refine af_ rfl (fun h1 => ?_) (fun h1 => ?_)
    ·have h2 : 32768 ≤ X1 := by simpa using h1
     have hX1r : X1 ≤ 65536 := by rw [hX1]; split <;> omega
     refine r_z 3 ?_
     refine r_m 1 ?_
     refine a_z ?_
     have hX0 : ¬ X < 0 := by intro h0; rw [if_pos h0] at hX1; omega
     rw [if_neg hX0] at hX1
     refine ⟨(X1 - 32768, 1), ⟨by simp only; omega, by simp only; omega⟩, ?_⟩
     simp only [e7_]
     exact s_e []
    ·have h2 : X1 < 32768 := by simp at h1; omega
     refine ag_ ⟨(X1, c1), ⟨by rw [hX1] at h2 ⊢; simp only; split <;> rename_i h3 <;> simp only [h3, if_true, if_false] at h2 <;> omega, by rw [hX1] at h2; rw [hc1]; simp only; split <;> rename_i h3 <;> simp only [h3, if_true, if_false] at h2 <;> omega⟩, ?_⟩
     simp only [e7_]
     exact s_e []
   rintro ⟨X2, c2⟩ ⟨hX2, hc2⟩
   simp only at hX2 hc2
   rw [e7_]
   obtain ⟨d, hdX⟩ : ∃ d : Nat, X2 = d := ⟨X2.toNat, by omega⟩
   have hd1 : d < 32768 := by omega
   subst hdX
   have hlen : (List.replicate (N - s.length) 0 ++ s.reverse).length = N := by simp; omega
   have hrep : List.replicate (N - s.length) 0 = List.replicate (N - (s.length + 1)) 0 ++ [0] := by
    rw [show N - s.length = (N - (s.length + 1)) + 1 by omega, List.replicate_succ']
   have hget : (iE (List.replicate (N - s.length) 0 ++ s.reverse))[0 + ((N : Int) - 1 - s.length).toNat]? = some [i64 0] := by
    rw [show 0 + ((N : Int) - 1 - s.length).toNat = N - (s.length + 1) by omega]
    refine fg_ ?_
    rw [hrep, List.append_assoc]
    exact hF_ _ _ _ _ (by simp)
   have hset : (iE (List.replicate (N - s.length) 0 ++ s.reverse)).set (0 + ((N : Int) - 1 - s.length).toNat) [i64 d] = iE (List.replicate (N - (s ++ [d]).length) 0 ++ (s ++ [d]).reverse) := by
    rw [show 0 + ((N : Int) - 1 - s.length).toNat = N - (s.length + 1) by omega, gx_, hrep, List.append_assoc]
    simp only [List.singleton_append, List.length_append, List.length_cons, List.length_nil, List.reverse_append, List.reverse_cons, List.reverse_nil, List.nil_append]
    rw [ha_ _ _ _ _ _ (by simp)]
    simp
   refine r_m 8 ?_
   refine a_7 ?_
   refine o_1n (.store rfl rfl hget rfl rfl rfl ts_3.h (nle rfl)) ?_
   refine aj_ ?_
   refine r_m 3 ?_
   refine a_z ?_
   refine ⟨(s ++ [d], c2), by simp; omega, ⟨by simp; omega, ?_, by simp only; omega, ?_⟩, ?_⟩
   ·intro e he
    rcases List.mem_append.1 he with he | he
    ·exact hd e he
    ·simp at he; subst he; exact hd1
   ·simp only [List.length_append, List.length_cons, List.length_nil, Nat.zero_add]
    rw [di_, b8_, b8_, ← hx, ← hy, Nat.pow_succ]
    obtain ⟨B, hB⟩ : ∃ B, B = UB ^ s.length := ⟨_, rfl⟩
    rw [← hB] at hval ⊢
    have hXX : X = 32768 * c2 + d := by omega
    have hBX : (B : Int) * X = B * x + k * (B * y) + B * c := by
     rw [hX, Int.mul_add, Int.mul_add, Int.mul_left_comm]
    rw [hXX, Int.mul_add] at hBX
    have e1 : ((B * 32768 : Nat) : Int) * c2 = B * (32768 * c2) := by rw [Int.natCast_mul, Int.mul_assoc]; rfl
    have e2 : k * ((ofD UB ((digs UB b).take s.length) + B * y : Nat) : Int) = k * (ofD UB ((digs UB b).take s.length) : Nat) + k * (B * y) := by
     rw [Int.natCast_add, Int.mul_add, Int.natCast_mul]
    show ((ofD UB s + B * d : Nat) : Int) + ((B * 32768 : Nat) : Int) * c2 = _
    rw [e1, e2, Int.natCast_add, Int.natCast_add, Int.natCast_mul, Int.natCast_mul]
    omega
   ·simp only [j0_]
    refine ax_ [] rfl rfl rfl ?_ (fun hs => au_f) (fun hs => ?_)
    ·repeat' (first | exact ShrL.nil | refine ShrL.cons rfl rfl rfl rfl (by first | (exact congrArg List.length hset) | rfl | (simp; done) | (simp <;> omega)) ?_)
    ·repeat' (first | exact as_ | refine an_ rfl rfl rfl rfl ?_ ?_)
     all_goals (first | (exact az_ hs hset (bw_ _)) | exact au_e)
  ·have hge : s.length = N := by simp at h; omega
   refine al_ ⟨s, ⟨hge, hd, ?_⟩, ?_⟩
   ·rw [hge, List.take_of_length_le (by omega), List.take_of_length_le (by omega), aS_ (by decide), aS_ (by decide), ← hr] at hval
    have hsl := c6_ hd
    rw [hge] at hsl
    obtain ⟨B, hB⟩ : ∃ B, B = UB ^ N := ⟨_, rfl⟩
    rw [← hB] at hval hsl hrN
    rcases hc with rfl | rfl | rfl <;> omega
   ·have e : iE (List.replicate (N - s.length) 0 ++ s.reverse) = iE s.reverse := by rw [hge]; simp
    refine ax_ [] rfl rfl rfl ?_ (fun hs => au_f) (fun hs => ?_)
    ·repeat' (first | exact ShrL.nil | refine ShrL.cons rfl rfl rfl rfl (by first | (exact congrArg List.length e) | rfl | (simp; done) | (simp <;> omega)) ?_)
    ·repeat' (first | exact as_ | refine an_ rfl rfl rfl rfl ?_ ?_)
     all_goals (first | (exact az_ hs e (bw_ _)) | exact au_e)
 rintro s ⟨hs, hd, hval⟩
 have hd' : ∀ d ∈ s.reverse, d < UB := fun d h => hd d (List.mem_reverse.1 h)
 have hst := dJ_ s.reverse (by simp; omega)
 rw [cJ_ hd', show hv s.reverse = r by unfold hv; rw [List.reverse_reverse]; assumption] at hst
 have hfull : ((iE s.reverse).drop 0).take N = iE s.reverse := by rw [List.drop_zero, List.take_of_length_le (by simp; omega)]
 refine s_r 3 ?_
 refine a_1 ?_
 refine o_1 (.callS1 rfl rfl rfl (.shut rfl d_n (.nil)) rfl ((by rw [hfull]; exact hst))) ?_
 refine a_z ?_
 exact ae_ (t_e (a4_ _))
def zl (z : Int) : Prop := bl z.natAbs ≤ 8796093022208
theorem mm_ {z : Int} (h : zl z) : (zd z.natAbs).length ≤ 17592186044416 := by
 have := aR_ (b := UB) (by decide) z.natAbs
 rw [bd_]; unfold zl at h; omega
theorem kw_ {x y : Int} (h : sgZ x = sgZ y) (hx : x ≠ 0) : (x + y).natAbs = x.natAbs + y.natAbs ∧ (x + y ≠ 0 → sgZ x = sgZ (x + y)) := by
 rcases bi_ x with ⟨a, b⟩ | ⟨a, b⟩ | ⟨a, b⟩ <;> rcases bi_ y with ⟨c, d⟩ | ⟨c, d⟩ | ⟨c, d⟩ <;> rcases bi_ (x + y) with ⟨e, f⟩ | ⟨e, f⟩ | ⟨e, f⟩ <;> rw [a, c] at h <;> rw [a, e] <;> first | omega | (constructor <;> omega)
theorem il_ {x y : Int} (h : sgZ x ≠ sgZ y) (hx : x ≠ 0) (hy : y ≠ 0) (hg : y.natAbs ≤ x.natAbs) : (x + y).natAbs = x.natAbs - y.natAbs ∧ (x + y ≠ 0 → sgZ x = sgZ (x + y)) := by
 rcases bi_ x with ⟨a, b⟩ | ⟨a, b⟩ | ⟨a, b⟩ <;> rcases bi_ y with ⟨c, d⟩ | ⟨c, d⟩ | ⟨c, d⟩ <;> rcases bi_ (x + y) with ⟨e, f⟩ | ⟨e, f⟩ | ⟨e, f⟩ <;> rw [a, c] at h <;> rw [a, e] <;> first | omega | (constructor <;> omega)
theorem pI_ (x y : Int) (hx : zl x) (hy : zl y) : FSpec Tryz.prog 197 [.agg (zZ x), .agg (zZ y)] (.agg (zZ (x + y))) := by
 have hlx := mm_ hx
 have hly := mm_ hy
 have bound : ∀ r : Nat, r ≤ x.natAbs + y.natAbs → (zd r).length ≤ 281474976710656 := by
  intro r hr
  have h1 := aR_ (b := UB) (by decide) r
  have h2 := bG_ hr
  have h3 := ny_ x.natAbs y.natAbs
  unfold zl at hx hy
  rw [bd_]; omega
 refine f_n Tryz.func197 ?_ ?_
 ·exact aa_ (aN_ x) (aa_ (aN_ y) ab_)
 refine r_z 3 ?_
 refine ac_ (r_z 3 ?_)
 refine af_ rfl (fun h => ?_) (fun h => ?_)
 ·have h0 : x = 0 := by
   have : sgZ x = 0 := by simpa using h
   rcases bi_ x with ⟨a, b⟩ | ⟨a, b⟩ | ⟨a, b⟩ <;> omega
  refine r_z 2 ?_
  refine ae_ (bH_ rfl rfl rfl tg_73.h ts_73.h (nle rfl) ?_ ?_)
  ·rw [h0, Int.zero_add]; rfl
  ·exact aN_ _
 have hx0 : x ≠ 0 := by rintro rfl; simp [sgZ] at h
 refine ag_ (ac_ (r_z 3 ?_))
 refine af_ rfl (fun h1 => ?_) (fun h1 => ?_)
 ·have h0 : y = 0 := by
   have : sgZ y = 0 := by simpa using h1
   rcases bi_ y with ⟨a, b⟩ | ⟨a, b⟩ | ⟨a, b⟩ <;> omega
  refine r_z 2 ?_
  refine ae_ (bH_ rfl rfl rfl tg_73.h ts_73.h (nle rfl) ?_ ?_)
  ·rw [h0, Int.add_zero]; rfl
  ·exact aN_ _
 have hy0 : y ≠ 0 := by rintro rfl; simp [sgZ] at h1
 refine ag_ (ac_ (r_z 5 ?_))
 refine af_ rfl (fun h2 => ?_) (fun h2 => ?_)
 ·have hs : sgZ x = sgZ y := by simpa using h2
  obtain ⟨e1, e2⟩ := kw_ hs hx0
  refine ac_ (r_d hmix 9 ?_)
  refine c_s (hM_ x.natAbs y.natAbs 1 (x.natAbs + y.natAbs) (.inl rfl) (by omega) hlx hly) ?_
  refine c_s (ez_ (sgZ x) (zd (x.natAbs + y.natAbs)) (x + y) (bound _ (Nat.le_refl _)) (zd_lt _) (by rw [hv_zd, e1]) e2) ?_
  refine a_1 ?_
  refine aj_ (n_k ?_)
  exact ae_ (c_e (aN_ _))
 have hs : sgZ x ≠ sgZ y := by simpa using h2
 refine ag_ (ac_ (r_c 6 (m3_ x.natAbs y.natAbs (by omega) (by omega)) ?_))
 refine a_z ?_
 refine af_ rfl (fun h3 => ?_) (fun h3 => ?_)
 ·have hge : y.natAbs ≤ x.natAbs := by
   have := of_decide_eq_true h3
   unfold cmpZ at this; split at this
   ·omega
   ·omega
  obtain ⟨e1, e2⟩ := il_ hs hx0 hy0 hge
  refine ac_ (r_d hmix 9 ?_)
  refine c_s (hM_ x.natAbs y.natAbs (-1) (x.natAbs - y.natAbs) (.inr rfl) (by omega) hlx hly) ?_
  refine c_s (ez_ (sgZ x) (zd (x.natAbs - y.natAbs)) (x + y) (bound _ (by omega)) (zd_lt _) (by rw [hv_zd, e1]) e2) ?_
  refine a_1 ?_
  refine aj_ (n_k ?_)
  exact ae_ (c_e (aN_ _))
 ·have hlt : x.natAbs ≤ y.natAbs := by
   have := of_decide_eq_false h3
   unfold cmpZ at this; split at this
   ·omega
   ·split at this <;> omega
  obtain ⟨e1, e2⟩ := il_ (fun h => hs h.symm) hy0 hx0 hlt
  rw [Int.add_comm] at e1 e2
  refine ag_ (ac_ (r_d hmix 9 ?_))
  refine c_s (hM_ y.natAbs x.natAbs (-1) (y.natAbs - x.natAbs) (.inr rfl) (by omega) hly hlx) ?_
  refine c_s (ez_ (sgZ y) (zd (y.natAbs - x.natAbs)) (x + y) (bound _ (by omega)) (zd_lt _) (by rw [hv_zd, e1]) e2) ?_
  refine a_1 ?_
  refine aj_ (n_k ?_)
  exact ae_ (c_e (aN_ _))
theorem zl_neg {z : Int} (h : zl z) : zl (-z) := by unfold zl at *; rwa [Int.natAbs_neg]
theorem fs_ZSub (x y : Int) (hx : zl x) (hy : zl y) : FSpec Tryz.prog 229 [.agg (zZ x), .agg (zZ y)] (.agg (zZ (x - y))) := by
 have hs := pI_ x (-y) hx (zl_neg hy)
 rw [← Int.sub_eq_add_neg] at hs
 refine f_n Tryz.func229 ?_ ?_
 ·exact aa_ (aN_ x) (aa_ (aN_ y) ab_)
 refine r_z 3 ?_
 refine ac_ (r_d hmix 5 ?_)
 refine c_s (jM_ y) ?_
 refine c_s (hs) ?_
 refine a_1 ?_
 refine aj_ (n_k ?_)
 exact ae_ (c_e (aN_ _))
theorem fs_ZCmp (x y : Int) (hx : zl x) (hy : zl y) : FSpec Tryz.prog 165 [.agg (zZ x), .agg (zZ y)] (i64 (cmpZ x y)) := by
 have e : cmpZ x y = sgZ (x - y) := by
  unfold cmpZ sgZ
  split <;> split <;> (try split) <;> (try split) <;> omega
 rw [e]
 refine f_n Tryz.func165 ?_ ?_
 ·exact aa_ (aN_ x) (aa_ (aN_ y) ab_)
 refine r_z 3 ?_
 refine r_c 5 (fs_ZSub x y hx hy) ?_
 refine a_z ?_
 exact ae_ (t_e (ad_ _))
def oJ_ (l : List Nat) : Nat → AState
 | i => ⟨[(0, .arr (iE l)), (3, i64 (hv (l.take i))), (4, i64 i)], [], 1, 19⟩
theorem fA_ (l : List Nat) (i : Nat) : oJ_ l i = ⟨[(0, .arr (iE l)), (3, i64 (hv (l.take i))), (4, i64 i)], [], 1, 19⟩ := rfl
theorem nS_ {l : List Nat} (hd : ∀ d ∈ l, d < UB) (hl : l.length ≤ 4) (i : Nat) : hv (l.take i) < 1152921504606846976 := by
 have h1 := hv_lt (l := l.take i) fun d h => hd d (List.mem_of_mem_take h)
 have h2 : (l.take i).length ≤ 4 := by rw [List.length_take]; omega
 exact Nat.lt_of_lt_of_le h1 (Nat.pow_le_pow_right (by decide) h2)
theorem jG_ (l : List Nat) (hl : l.length ≤ 4) (hd : ∀ d ∈ l, d < UB) : FSpec Tryz.prog 258 [.arr (iE l)] (i64 (hv l)) := by
 refine f_n Tryz.func258 ?_ ?_
 ·exact aa_ (a4_ l) ab_
 refine r_z 1 ?_
 refine r_z 1 ?_
 refine ac_ (r_z 1 ?_)
 refine au_ (oJ_ l) (fun i => i = l.length) ?_ ?_
 ·refine ah_ (ao_ (oJ_ l) (fun i => l.length - i) (fun i => i ≤ l.length) 0 (Nat.zero_le _) ?_ ?_)
  ·simp only [fA_]
   exact s_e []
  intro i hi
  rw [fA_]
  refine ac_ (r_z 4 ?_)
  refine af_ rfl (fun h => ?_) (fun h => ?_)
  ·have hlt : i < l.length := by simpa using h
   obtain ⟨d, hdi⟩ : ∃ d, l[i]? = some d := ⟨_, List.getElem?_eq_getElem hlt⟩
   have hd1 := hd d (List.mem_of_getElem? hdi)
   have hdi' : (iE l)[((i : Nat) : Int).toNat]? = some [i64 d] := fg_ hdi
   have hsn := hC_ (l.take i) d
   rw [← bS_ hdi] at hsn
   have hb := nS_ hd hl (i + 1)
   obtain ⟨V, hV⟩ : ∃ V, V = hv (l.take i) := ⟨_, rfl⟩
   rw [← hV] at hsn ⊢
   have hsn' : hv (l.take (i + 1)) = V * 32768 + d := hsn
   refine ag_ (ac_ (ah_ (r_m 8 ?_)))
   refine a_4 ?_
   refine i_x hdi' ?_
   refine l_1 hdi' ?_
   refine a_z ?_
   refine r_m 3 ?_
   refine a_z ?_
   refine ⟨i + 1, by omega, hlt, ?_⟩
   simp only [fA_]
   refine ax_ [] rfl rfl rfl ?_ (fun hs => ?_) (fun hs => ?_)
   ·repeat' (first | exact ShrL.nil | refine ShrL.cons rfl rfl rfl rfl (by first | rfl | (simp; done) | (simp [hsn'] <;> omega)) ?_)
   ·repeat' (first | exact aX_ | refine aL_ rfl ?_ ?_)
    all_goals (first | exact au_c | (refine Cv.loE hs ?_ (ad_ _); first | rfl | (simp [i64, u64, u32, bln, hsn']; done) | (simp [i64, u64, u32, bln, hsn'] <;> omega)))
   ·repeat' (first | exact as_ | refine an_ rfl rfl rfl rfl ?_ ?_)
    all_goals (first | exact au_e | (refine az_ hs ?_ (bw_ _); first | (simp [gx_, ey_, c8_, hsn']; done) | (simp [iE, i64, ofV, hsn']; done)) | (refine aF_ ?_; repeat' (first | exact ap_ | refine ai_ ?_ ?_)))
    all_goals (first | exact au_c | (refine Cv.loE hs ?_ (ad_ _); first | (simp [i64, u64, u32, bln, hsn']; done) | (simp [i64, u64, u32, bln, hsn'] <;> omega)))
  ·have hge : i = l.length := by simp at h; omega
   refine al_ ⟨i, hge, ?_⟩
   exact s_e []
 rintro i rfl
 rw [fA_, List.take_length]
 refine r_z 2 ?_
 refine ae_ (aD_ rfl rfl (ad_ _))
def zintS (s : Int) : Int × List Nat → AState
 | (n, l) => ⟨[(0, i64 n), (2, .lptr 1 0 0), (3, i64 s), (4, .arr (iE l))], [(1, some ⟨73, 2, [[i64 0, .emp]]⟩)], 2, 25⟩
theorem fv_ (s : Int) (n : Int) (l : List Nat) : zintS s (n, l) = ⟨[(0, i64 n), (2, .lptr 1 0 0), (3, i64 s), (4, .arr (iE l))], [(1, some ⟨73, 2, [[i64 0, .emp]]⟩)], 2, 25⟩ := rfl
theorem dP_ (n : Int) (h : -9223372036854775808 ≤ n ∧ n ≤ 9223372036854775807) : FSpec Tryz.prog 127 [i64 n] (.agg (zZ n)) := by
 obtain ⟨s, hs⟩ : ∃ s : Int, s = if n < 0 then -1 else 1 := ⟨_, rfl⟩
 have hsz : n ≠ 0 → s = sgZ n := by
  intro h0; rw [hs]; unfold sgZ; rw [if_neg h0]
 refine f_n Tryz.func127 ?_ ?_
 ·exact aa_ (ad_ _) ab_
 refine r_z 1 ?_
 refine r_z 1 ?_
 refine aO_ (fun _ : Unit => ⟨[(0, i64 n), (2, .lptr 1 0 0), (3, i64 s)], [(1, some ⟨73, 2, [[i64 0, .emp]]⟩)], 2, 25⟩) (fun _ => True) ?_ ?_
 ·refine r_z 2 ?_
  refine af_ rfl (fun h1 => ?_) (fun h1 => ?_)
  ·have hn : n < 0 := by simpa using h1
   rw [hs, if_pos hn]
   refine r_m 1 ?_
   refine a_z ?_
   refine ⟨(), trivial, ?_⟩
   exact s_e []
  ·have hn : ¬ n < 0 := by simpa using h1
   rw [hs, if_neg hn]
   refine ag_ ⟨(), trivial, ?_⟩
   exact s_e []
 rintro _ _
 refine r_z 1 ?_
 refine aO_ (fun l : List Nat => zintS s (0, l)) (fun l => l.length ≤ 10 ∧ (∀ d ∈ l, d < UB) ∧ hv l = n.natAbs) ?_ ?_
 ·refine ah_ (ao_ (zintS s) (fun x => x.1.natAbs) (fun x => (-9223372036854775808 ≤ x.1 ∧ x.1 ≤ 9223372036854775807) ∧ (∀ d ∈ x.2, d < UB) ∧ n.natAbs = hv x.2 + UB ^ x.2.length * x.1.natAbs ∧ x.2.length ≤ 5) (n, []) ⟨h, by simp, by simp [kP_], by simp⟩ ?_ ?_)
  ·simp only [fv_]
   exact s_e [(1, 2)]
  rintro ⟨m, l⟩ ⟨hm, hd, hval, hl6⟩
  simp only at hm hd hval hl6
  rw [fv_]
  refine ac_ (r_z 2 ?_)
  refine af_ rfl (fun h => ?_) (fun h => ?_)
  ·have hm0 : m ≠ 0 := by simpa using h
   have hl : l.length ≤ 4 := by
    refine Nat.le_of_not_lt fun h5 => ?_
    have h6 : UB ^ 5 ≤ UB ^ l.length := Nat.pow_le_pow_right (by decide) h5
    have h7 : UB ^ l.length * 1 ≤ UB ^ l.length * m.natAbs := Nat.mul_le_mul_left _ (by omega)
    have h8 : UB ^ 5 = 37778931862957161709568 := by decide
    omega
   obtain ⟨d, hdm⟩ : ∃ d, d = m.natAbs % 32768 := ⟨_, rfl⟩
   have hd1 : d < 32768 := by omega
   have hr : (m.tmod 32768).natAbs = d := by rw [Int.natAbs_tmod, hdm]; rfl
   have hq : (m.tdiv 32768).natAbs = m.natAbs / 32768 := by rw [Int.natAbs_tdiv]; rfl
   have hlq : m.natAbs / 32768 < m.natAbs := Nat.div_lt_self (by omega) (by decide)
   have hdm2 := Nat.div_add_mod m.natAbs 32768
   refine ag_ (ah_ (s_r 3 ?_))
   refine a_1 ?_
   refine o_0 (.bin rfl rfl (qu_ (by decide))) ?_
   refine a_z ?_
   refine aO_ (fun _ : Unit => ⟨[(0, i64 m), (2, .lptr 1 0 0), (3, i64 s), (4, .arr (iE l)), (5, i64 d)], [(1, some ⟨73, 2, [[i64 0, .emp]]⟩)], 2, 25⟩) (fun _ => True) ?_ ?_
   ·refine r_z 2 ?_
    refine af_ rfl (fun h1 => ?_) (fun h1 => ?_)
    ·have hneg : m.tmod 32768 < 0 := by simpa using h1
     refine r_m 3 ?_
     refine a_z ?_
     have e : -m.tmod 32768 = d := by omega
     refine ⟨(), trivial, ?_⟩
     have := (congrArg (fun z => AV.v (.int .i64 z)) e)
     exact s_f []
    ·have hneg : ¬ m.tmod 32768 < 0 := by simpa using h1
     have e : m.tmod 32768 = d := by omega
     refine ag_ ⟨(), trivial, ?_⟩
     have := (congrArg (fun z => AV.v (.int .i64 z)) e)
     exact s_f []
   rintro _ _
   refine s_r 5 ?_
   refine a_3 ?_
   refine o_2 (.append_l rfl rfl rfl te_71.h rfl rfl rfl rfl rfl d_o (by first | exact cS_ _ | exact cR_ _ | exact cQ_ _ | exact cT_ _ | exact cL_ _ | rfl | simp) (by first | rfl | exact cS_ _ | exact cR_ _ | exact cQ_ _ | exact cT_ _ | exact cL_ _ | simp) rfl (.arr (fo_ _)) tz_3.h rfl tb_3.h d_o (by first | (simp [maxLen]; done) | (simp [maxLen]; omega))) ?_
   refine a_z ?_
   refine r_m 3 ?_
   refine a_1 ?_
   refine o_0 (.bin rfl rfl (h9_ (by decide) (by omega))) ?_
   refine a_z ?_
   refine ⟨(m.tdiv 32768, d :: l), by simp only; omega, ⟨by simp only; omega, ?_, ?_, by simp; omega⟩, ?_⟩
   ·intro e he
    rcases List.mem_cons.1 he with rfl | he
    ·exact hd1
    ·exact hd e he
   ·simp only [hD_, List.length_cons]
    rw [hval, hq, Nat.pow_succ, Nat.mul_assoc, Nat.add_assoc, ← Nat.mul_add]
    congr 2
    show m.natAbs = d + 32768 * (m.natAbs / 32768)
    omega
   ·simp only [fv_]
    have e : [[i64 d]] ++ iE l = iE (d :: l) := rfl
    refine ax_ [] rfl rfl rfl au_r (fun hs => ?_) (fun hs => ?_)
    ·repeat' (first | exact aX_ | refine aL_ rfl ?_ ?_)
     all_goals (first | (exact Cv.sealE hs rfl (cd_ rfl) e (by simp; omega) (bw_ _)) | exact au_c)
    ·repeat' (first | exact as_ | refine an_ rfl rfl rfl rfl ?_ ?_)
     all_goals (first | exact au_e | (refine aF_ ?_; repeat' (first | exact ap_ | refine ai_ ?_ ?_)))
     all_goals (first | (exact Cv.sealE hs rfl (cd_ rfl) e (by simp; omega) (bw_ _)) | exact au_c)
  ·have hm0 : m = 0 := by simpa using h
   subst hm0
   refine al_ ⟨l, ⟨by omega, hd, by simpa using hval.symm⟩, ?_⟩
   simp only [fv_]
   exact s_e []
 rintro l ⟨hl, hd, hval⟩
 rw [fv_]
 refine r_c 4 (ez_ s l n (by omega) hd hval hsz) ?_
 refine a_z ?_
 exact ae_ (c_e (aN_ _))
theorem oX_ {o : List Nat} {j d : Nat} (h : o[j]? = some d) : o.reverse[o.length - 1 - j]? = some d := by
 have hj : j < o.length := (List.getElem?_eq_some_iff.1 h).1
 rw [List.getElem?_reverse (by omega), show o.length - 1 - (o.length - 1 - j) = j by omega]; exact h
theorem oW_ {o : List Nat} {j v : Nat} (hj : j < o.length) : o.reverse.set (o.length - 1 - j) v = (o.set j v).reverse := by
 apply List.ext_getElem?
 intro i
 by_cases hi : i < o.length
 ·rw [List.getElem?_reverse (by simpa using hi), List.getElem?_set, List.getElem?_set, List.length_reverse, List.length_set]
  by_cases h : o.length - 1 - j = i
  ·rw [if_pos h, if_pos (by omega), if_pos (by omega), if_pos (by omega)]
  ·rw [if_neg h, if_neg (by omega), List.getElem?_reverse hi]
 ·rw [List.getElem?_eq_none (by simpa using hi), List.getElem?_eq_none (by simpa using hi)]
def zmS (x : Int) (y : Int) : List Nat × Nat → AState
 | (o, i) => ⟨[(2, .lptr 1 0 0), (3, .lptr 2 0 0), (4, .lptr 3 0 0), (5, .lsl 4 0 ((zd x.natAbs).length + (zd y.natAbs).length) (some ((zd x.natAbs).length + (zd y.natAbs).length)) 1), (6, i64 (((zd x.natAbs).length : Int) - 1 - i))],
  [(1, some ⟨73, 2, [zZ x]⟩), (2, some ⟨73, 2, [zZ y]⟩), (3, some ⟨73, 2, [[i64 0, .emp]]⟩), (4, some ⟨3, 1, iE o.reverse⟩)], 5, 76⟩
theorem kd_ (x : Int) (y : Int) (o : List Nat) (i : Nat) : zmS x y (o, i) = ⟨[(2, .lptr 1 0 0), (3, .lptr 2 0 0), (4, .lptr 3 0 0), (5, .lsl 4 0 ((zd x.natAbs).length + (zd y.natAbs).length) (some ((zd x.natAbs).length + (zd y.natAbs).length)) 1), (6, i64 (((zd x.natAbs).length : Int) - 1 - i))],
   [(1, some ⟨73, 2, [zZ x]⟩), (2, some ⟨73, 2, [zZ y]⟩), (3, some ⟨73, 2, [[i64 0, .emp]]⟩), (4, some ⟨3, 1, iE o.reverse⟩)], 5, 76⟩ := rfl
def zmT (x : Int) (y : Int) (i : Nat) : List Nat × Nat × Nat → AState
 | (o, k, c) => ⟨[(2, .lptr 1 0 0), (3, .lptr 2 0 0), (4, .lptr 3 0 0), (5, .lsl 4 0 ((zd x.natAbs).length + (zd y.natAbs).length) (some ((zd x.natAbs).length + (zd y.natAbs).length)) 1), (6, i64 (((zd x.natAbs).length : Int) - 1 - i)), (7, i64 c), (8, i64 (((zd y.natAbs).length : Int) - 1 - k))],
  [(1, some ⟨73, 2, [zZ x]⟩), (2, some ⟨73, 2, [zZ y]⟩), (3, some ⟨73, 2, [[i64 0, .emp]]⟩), (4, some ⟨3, 1, iE o.reverse⟩)], 5, 76⟩
theorem kc_ (x : Int) (y : Int) (i : Nat) (o : List Nat) (k : Nat) (c : Nat) : zmT x y i (o, k, c) = ⟨[(2, .lptr 1 0 0), (3, .lptr 2 0 0), (4, .lptr 3 0 0), (5, .lsl 4 0 ((zd x.natAbs).length + (zd y.natAbs).length) (some ((zd x.natAbs).length + (zd y.natAbs).length)) 1), (6, i64 (((zd x.natAbs).length : Int) - 1 - i)), (7, i64 c), (8, i64 (((zd y.natAbs).length : Int) - 1 - k))],
   [(1, some ⟨73, 2, [zZ x]⟩), (2, some ⟨73, 2, [zZ y]⟩), (3, some ⟨73, 2, [[i64 0, .emp]]⟩), (4, some ⟨3, 1, iE o.reverse⟩)], 5, 76⟩ := rfl
structure ZmI (a b : Nat) (x : List Nat × Nat) : Prop where
 len : x.1.length = (digs UB a).length + (digs UB b).length
 le : x.2 ≤ (digs UB a).length
 dig : ∀ d ∈ x.1, d < UB
 val : ofD UB x.1 = ofD UB ((digs UB a).take x.2) * b
 zer : ∀ j, x.2 + (digs UB b).length ≤ j → j < x.1.length → x.1[j]? = some 0
structure ZmJ (a b i v : Nat) (x : List Nat × Nat × Nat) : Prop where
 len : x.1.length = (digs UB a).length + (digs UB b).length
 le : x.2.1 ≤ (digs UB b).length
 dig : ∀ d ∈ x.1, d < UB
 car : x.2.2 < UB
 val : ofD UB x.1 + UB ^ (i + x.2.1) * x.2.2 = ofD UB ((digs UB a).take i) * b + UB ^ i * v * ofD UB ((digs UB b).take x.2.1)
 zer : ∀ j, i + (digs UB b).length ≤ j → j < x.1.length → x.1[j]? = some 0
theorem sgZ_mul (x y : Int) : sgZ (x * y) = sgZ x * sgZ y := by
 rcases bi_ x with ⟨a, b⟩ | ⟨a, b⟩ | ⟨a, b⟩ <;> rcases bi_ y with ⟨c, d⟩ | ⟨c, d⟩ | ⟨c, d⟩ <;> rw [a, c] <;> rcases bi_ (x * y) with ⟨e, f⟩ | ⟨e, f⟩ | ⟨e, f⟩ <;> rw [e] <;> first | rfl | (exfalso; subst_vars; simp at f; done) | (exfalso; have := Int.mul_pos_of_neg_of_neg b d; omega) | (exfalso; have := Int.mul_neg_of_neg_of_pos b d; omega) | (exfalso; have := Int.mul_neg_of_pos_of_neg b d; omega) | (exfalso; have := Int.mul_pos b d; omega)
theorem dy_ (x y : Int) (hx : zl x) (hy : zl y) : FSpec Tryz.prog 166 [.agg (zZ x), .agg (zZ y)] (.agg (zZ (x * y))) := by
 have hlx := mm_ hx
 have hly := mm_ hy
 have hzx := bd_ x.natAbs
 have hzy := bd_ y.natAbs
 obtain ⟨a, ha⟩ : ∃ a, a = x.natAbs := ⟨_, rfl⟩
 obtain ⟨b, hb⟩ : ∃ b, b = y.natAbs := ⟨_, rfl⟩
 have va := aS_ (b := UB) (by decide) a
 have vb := aS_ (b := UB) (by decide) b
 have hss : -9223372036854775808 ≤ sgZ x * sgZ y ∧ sgZ x * sgZ y ≤ 9223372036854775807 := by
  rcases bi_ x with ⟨h, _⟩ | ⟨h, _⟩ | ⟨h, _⟩ <;> rcases bi_ y with ⟨h', _⟩ | ⟨h', _⟩ | ⟨h', _⟩ <;> rw [h, h'] <;> decide
 refine f_n Tryz.func166 ?_ ?_
 ·exact aa_ (aN_ x) (aa_ (aN_ y) ab_)
 subst ha hb
 refine r_z 3 ?_
 refine r_z 9 ?_
 refine ac_ (r_z 5 ?_)
 refine au_ (zmS x y) (fun v => ZmI x.natAbs y.natAbs v ∧ v.2 = (digs UB x.natAbs).length) ?_ ?_
 ·refine ah_ (ao_ (zmS x y) (fun v => (digs UB x.natAbs).length - v.2) (ZmI x.natAbs y.natAbs) (List.replicate ((digs UB x.natAbs).length + (digs UB y.natAbs).length) 0, 0) ⟨by simp, by simp, ?_, by simp [hn_, ofD], ?_⟩ ?_ ?_)
  ·intro d hd; simp at hd; rw [hd.2]; decide
  ·intro j _ hj; simp at hj; simp [hj]
  ·simp only [kd_]
   refine ax_ [(1, 2), (2, 3), (3, 4), (4, 5)] rfl rfl rfl ?_ (fun hs => ?_) (fun hs => ?_)
   ·repeat' (first | exact ShrL.nil | refine ShrL.cons rfl rfl rfl rfl (by first | rfl | (simp; done) | (simp [hzx, hzy] <;> omega)) ?_)
   ·repeat' (first | exact aX_ | refine aL_ rfl ?_ ?_)
    all_goals (first | exact au_c | (refine Cv.loE hs ?_ (ad_ _); first | rfl | (simp [i64, u64, u32, bln, hzx, hzy]; done) | (simp [i64, u64, u32, bln, hzx, hzy] <;> omega)))
   ·repeat' (first | exact as_ | refine an_ rfl rfl rfl rfl ?_ ?_)
    all_goals (first | exact au_e | (refine az_ hs ?_ (bw_ _); first | (simp [gx_, ey_, c8_, hzx, hzy]; done) | (simp [iE, i64, ofV, hzx, hzy]; done)) | (refine aF_ ?_; repeat' (first | exact ap_ | refine ai_ ?_ ?_)))
    all_goals (first | exact au_c | (refine Cv.loE hs ?_ (ad_ _); first | (simp [i64, u64, u32, bln, hzx, hzy]; done) | (simp [i64, u64, u32, bln, hzx, hzy] <;> omega)))
  rintro ⟨o, i⟩ ⟨hlen, hle, hdig, hval, hzer⟩
  simp only at hlen hle hdig hval hzer
  rw [kd_]
  refine ac_ (r_z 2 ?_)
  refine af_ rfl (fun h => ?_) (fun h => ?_)
  ·have hlt : i < (digs UB x.natAbs).length := by have := of_decide_eq_true h; omega
   obtain ⟨u, hu⟩ : ∃ u, (digs UB x.natAbs)[i]? = some u := ⟨_, List.getElem?_eq_getElem hlt⟩
   have hu1 : u < 32768 := bc_ (by decide) hu
   have hu' : (iE (zd x.natAbs))[(((zd x.natAbs).length : Int) - 1 - i).toNat]? = some [i64 u] := by
    rw [show (((zd x.natAbs).length : Int) - 1 - i).toNat = (digs UB x.natAbs).length - 1 - i by omega]; exact fg_ (mn_ hu)
   refine ag_ (ac_ (ah_ (r_z 1 ?_)))
   refine ac_ (r_z 5 ?_)
   refine au_ (zmT x y i) (fun v => ZmJ x.natAbs y.natAbs i u v ∧ v.2.1 = (digs UB y.natAbs).length) ?_ ?_
   ·refine ah_ (ao_ (zmT x y i) (fun v => (digs UB y.natAbs).length - v.2.1) (ZmJ x.natAbs y.natAbs i u) (o, 0, 0) ⟨hlen, by simp, hdig, (show 0 < UB by decide), by simp [hval, ofD], hzer⟩ ?_ ?_)
    ·simp only [kc_]
     exact s_e []
    rintro ⟨q, k, c⟩ ⟨jlen, jle, jdig, jcar, jval, jzer⟩
    simp only at jlen jle jdig jcar jval jzer
    rw [kc_]
    refine ac_ (r_z 2 ?_)
    refine af_ rfl (fun h => ?_) (fun h => ?_)
    ·have hltk : k < (digs UB y.natAbs).length := by have := of_decide_eq_true h; omega
     obtain ⟨v, hv⟩ : ∃ v, (digs UB y.natAbs)[k]? = some v := ⟨_, List.getElem?_eq_getElem hltk⟩
     have hv1 : v < 32768 := bc_ (by decide) hv
     have hv' : (iE (zd y.natAbs))[(((zd y.natAbs).length : Int) - 1 - k).toNat]? = some [i64 v] := by
      rw [show (((zd y.natAbs).length : Int) - 1 - k).toNat = (digs UB y.natAbs).length - 1 - k by omega]; exact fg_ (mn_ hv)
     obtain ⟨d, hd⟩ : ∃ d, q[i + k]? = some d := ⟨_, List.getElem?_eq_getElem (by omega)⟩
     have hd1 : d < 32768 := jdig d (List.mem_of_getElem? hd)
     have hc1 : c < 32768 := jcar
     have hidx : (((zd x.natAbs).length : Int) - 1 - i + (((zd y.natAbs).length : Int) - 1 - k) + 1).toNat = q.length - 1 - (i + k) := by omega
     have hg : (iE q.reverse)[0 + (((zd x.natAbs).length : Int) - 1 - i + (((zd y.natAbs).length : Int) - 1 - k) + 1).toNat]? = some [i64 d] := by rw [hidx, Nat.zero_add]; exact fg_ (oX_ hd)
     have hset : ∀ w : Nat, (iE q.reverse).set (0 + (((zd x.natAbs).length : Int) - 1 - i + (((zd y.natAbs).length : Int) - 1 - k) + 1).toNat) [i64 w] = iE (q.set (i + k) w).reverse := by intro w; rw [hidx, Nat.zero_add, gx_, oW_ (by omega)]
     have hxy0 : u * v ≤ 32767 * 32767 := Nat.mul_le_mul (by omega) (by omega)
     have hxyi : (u : Int) * v = ((u * v : Nat) : Int) := by push_cast; rfl
     refine ag_ ?_
     have hxyn : 0 ≤ (u : Int) * v := Int.mul_nonneg (by omega) (by omega)
     refine ac_ (ah_ (ac_ (r_d hmix 22 ?_)))
     refine a_5 ?_
     first | refine aG_ (.index_l rfl rfl (by omega) (by omega) te_71.h) rfl rfl ?_ | refine aG_ (.index_a rfl rfl (by omega) hg rfl te_71.h) rfl rfl ?_
     first | refine aG_ (.load_l1 rfl rfl hg tg_3.h rfl) rfl rfl ?_ | refine aG_ (.load_a1 rfl hg tg_3.h rfl) rfl rfl ?_
     refine a_3 ?_
     refine i_x hu' ?_
     refine l_1 hu' ?_
     refine a_3 ?_
     refine i_x hv' ?_
     refine l_1 hv' ?_
     refine a_5 ?_
     refine aj_ (n_k ?_)
     refine s_r 9 ?_
     refine a_8 ?_
     refine o_1n (.store rfl rfl hg rfl rfl rfl ts_3.h (nle rfl)) ?_
     refine aj_ ?_
     refine r_m 3 ?_
     refine a_z ?_
     refine r_m 3 ?_
     refine a_z ?_
     have hm : ((d : Int) + (u : Int) * v + c) % 32768 = (((d + u * v + c) % 32768 : Nat) : Int) := by rw [hxyi]; omega
     have hq : ((d : Int) + (u : Int) * v + c) / 32768 = (((d + u * v + c) / 32768 : Nat) : Int) := by rw [hxyi]; omega
     refine ⟨(q.set (i + k) ((d + u * v + c) % 32768), k + 1, (d + u * v + c) / 32768), by simp; omega, ⟨by simp [jlen], by simp; omega, jx_ jdig (Nat.mod_lt _ (by decide)), ?_, ?_, ?_⟩, ?_⟩
     ·show _ < 32768; simp only; omega
     ·simp only
      have e1 := ho_ UB ((d + u * v + c) % 32768) hd
      have e2 := Nat.mod_add_div (d + u * v + c) 32768
      have e3 : UB ^ (i + k) * ((d + u * v + c) % 32768) + UB ^ (i + (k + 1)) * ((d + u * v + c) / 32768) = UB ^ (i + k) * d + UB ^ (i + k) * (u * v) + UB ^ (i + k) * c := by
       rw [← Nat.add_assoc i k 1, Nat.pow_succ, Nat.mul_assoc, ← Nat.mul_add, show UB * ((d + u * v + c) / 32768) = 32768 * ((d + u * v + c) / 32768) from rfl, e2, Nat.mul_add, Nat.mul_add]
      have e4 : UB ^ i * u * ofD UB ((digs UB y.natAbs).take (k + 1)) = UB ^ i * u * ofD UB ((digs UB y.natAbs).take k) + UB ^ (i + k) * (u * v) := by
       rw [bg_ _ hv, Nat.mul_add]
       congr 1
       rw [Nat.pow_add]
       simp only [Nat.mul_assoc, Nat.mul_left_comm, Nat.mul_comm]
      rw [e4]
      omega
     ·intro j hj hj2
      rw [List.getElem?_set_ne (by omega)]
      exact jzer j hj (by simpa using hj2)
     ·simp only [kc_]
      have hset2 := hset ((d + u * v + c) % 32768)
      rw [← hm] at hset2
      refine ax_ [] rfl rfl rfl ?_ (fun hs => ?_) (fun hs => ?_)
      ·repeat' (first | exact ShrL.nil | refine ShrL.cons rfl rfl rfl rfl (by first | (exact congrArg List.length hset2) | rfl | (simp; done) | (simp <;> omega)) ?_)
      ·repeat' (first | exact aX_ | refine aL_ rfl ?_ ?_)
       all_goals (first | (exact Cv.loE hs (congrArg (fun z => AV.v (.int .i64 z)) hq) (ad_ _)) | exact au_c)
      ·repeat' (first | exact as_ | refine an_ rfl rfl rfl rfl ?_ ?_)
       all_goals (first | (exact az_ hs hset2 (bw_ _)) | exact au_e | (refine aF_ ?_; repeat' (first | exact ap_ | refine ai_ ?_ ?_)))
       all_goals (first | (exact Cv.loE hs (congrArg (fun z => AV.v (.int .i64 z)) hq) (ad_ _)) | exact au_c)
    ·have hk : k = (digs UB y.natAbs).length := by have := of_decide_eq_false h; omega
     refine al_ ⟨(q, k, c), ⟨⟨jlen, jle, jdig, jcar, jval, jzer⟩, hk⟩, ?_⟩
     simp only [kc_]
     exact s_e []
   rintro ⟨q, k, c⟩ ⟨⟨jlen, jle, jdig, jcar, jval, jzer⟩, hk⟩
   simp only at jlen jle jdig jcar jval jzer hk
   subst hk
   have hc1 : c < 32768 := jcar
   have hz := jzer (i + (digs UB y.natAbs).length) (Nat.le_refl _) (by omega)
   have hidx : (((zd x.natAbs).length : Int) - 1 - i).toNat = q.length - 1 - (i + (digs UB y.natAbs).length) := by omega
   have hg : (iE q.reverse)[0 + (((zd x.natAbs).length : Int) - 1 - i).toNat]? = some [i64 0] := by rw [hidx, Nat.zero_add]; exact fg_ (oX_ hz)
   have hset : (iE q.reverse).set (0 + (((zd x.natAbs).length : Int) - 1 - i).toNat) [i64 c] = iE (q.set (i + (digs UB y.natAbs).length) c).reverse := by rw [hidx, Nat.zero_add, gx_, oW_ (by omega)]
   rw [List.take_length, vb] at jval
   rw [kc_]
   refine r_m 5 ?_
   refine a_4 ?_
   refine o_1n (.store rfl rfl hg rfl rfl rfl ts_3.h (nle rfl)) ?_
   refine aj_ ?_
   refine r_m 3 ?_
   refine a_z ?_
   refine ⟨(q.set (i + (digs UB y.natAbs).length) c, i + 1), by simp; omega, ⟨by simp [jlen], by simp; omega, jx_ jdig jcar, ?_, ?_⟩, ?_⟩
   ·simp only
    have e1 := ho_ UB c hz
    rw [bg_ _ hu, Nat.add_mul, ← jval]
    omega
   ·intro j hj hj2
    rw [List.getElem?_set_ne (by simp only at hj; omega)]
    exact jzer j (by simp only at hj; omega) (by simpa using hj2)
   ·simp only [kd_]
    refine ax_ [] rfl rfl rfl ?_ (fun hs => au_f) (fun hs => ?_)
    ·repeat' (first | exact ShrL.nil | refine ShrL.cons rfl rfl rfl rfl (by first | (exact congrArg List.length hset) | rfl | (simp; done) | (simp <;> omega)) ?_)
    ·repeat' (first | exact as_ | refine an_ rfl rfl rfl rfl ?_ ?_)
     all_goals (first | (refine az_ hs hset (bw_ _)) | exact au_e)
  ·have hi : i = (digs UB x.natAbs).length := by have := of_decide_eq_false h; omega
   refine al_ ⟨(o, i), ⟨⟨hlen, hle, hdig, hval, hzer⟩, hi⟩, ?_⟩
   simp only [kd_]
   exact s_e []
 rintro ⟨o, i⟩ ⟨⟨hlen, hle, hdig, hval, hzer⟩, hi⟩
 simp only at hlen hle hdig hval hzer hi
 subst hi
 rw [List.take_length, va] at hval
 rw [kd_]
 have hol : o.length = (zd x.natAbs).length + (zd y.natAbs).length := by omega
 have hw := ez_ (sgZ x * sgZ y) o.reverse (x * y) (by simp; omega) (fun d h => hdig d (List.mem_reverse.1 h)) (by unfold hv; rw [List.reverse_reverse, hval, Int.natAbs_mul]) (fun _ => (sgZ_mul x y).symm)
 have hfull : ((iE o.reverse).drop 0).take ((zd x.natAbs).length + (zd y.natAbs).length) = iE o.reverse := by rw [List.drop_zero, List.take_of_length_le (by simp; omega)]
 refine s_r 8 ?_
 refine a_4 ?_
 refine o_0 (.bin rfl rfl (g6_ hss)) ?_
 refine a_1 ?_
 refine o_1 (.callS1 rfl rfl rfl (.keep (.shut rfl d_n (.nil))) rfl ((by rw [hfull]; exact hw))) ?_
 refine a_z ?_
 exact ae_ (c_e (aN_ _))
theorem p6_ {b : Nat} (hb : 1 < b) : ∀ (j n : Nat), (digs b n)[j]?.getD 0 = n / b ^ j % b := by
 intro j
 induction j with
 | zero =>
  intro n
  rcases Nat.eq_zero_or_pos n with rfl | hn
  ·rw [a8_]; simp
  ·rw [ch_ hb hn]; simp
 | succ j ih =>
  intro n
  rcases Nat.eq_zero_or_pos n with rfl | hn
  ·rw [a8_]; simp
  ·rw [ch_ hb hn, List.getElem?_cons_succ, ih, Nat.div_div_eq_div_mul, Nat.pow_succ, Nat.mul_comm b]
def pV_ (n : Nat) (long : Nat) (k : Nat) : Nat → AState
 | i => ⟨[(0, .arr (iE (zd n))), (1, i64 long), (2, i64 k), (7, i64 (n / UB ^ (long - i) : Nat)), (8, i64 i)], [], 1, 24⟩
theorem eC_ (n : Nat) (long : Nat) (k : Nat) (i : Nat) : pV_ n long k i = ⟨[(0, .arr (iE (zd n))), (1, i64 long), (2, i64 k), (7, i64 (n / UB ^ (long - i) : Nat)), (8, i64 i)], [], 1, 24⟩ := rfl
theorem gW_ (n long k : Nat) (hk : k ≤ 4) (hkl : k ≤ long) (hn : n < UB ^ long) (hl : (zd n).length ≤ 281474976710656) (hlo : long ≤ 281474976710656) : FSpec Tryz.prog 287 [.arr (iE (zd n)), i64 long, i64 k] (i64 (n / UB ^ (long - k) : Nat)) := by
 have bound : ∀ i, i ≤ k → n / UB ^ (long - i) < 1152921504606846976 := by
  intro i hi
  have h1 : n / UB ^ (long - i) < UB ^ i := by
   rw [Nat.div_lt_iff_lt_mul (Nat.pow_pos (by decide)), ← Nat.pow_add, show i + (long - i) = long by omega]; exact hn
  exact Nat.lt_of_lt_of_le h1 (Nat.pow_le_pow_right (n := 32768) (j := 4) (by decide) (by omega))
 refine f_n Tryz.func287 ?_ ?_
 ·exact aa_ (a4_ _) (aa_ (ad_ _) (aa_ (ad_ _) ab_))
 refine r_z 1 ?_
 refine r_z 1 ?_
 refine ac_ (r_z 1 ?_)
 refine au_ (pV_ n long k) (fun i => i = k) ?_ ?_
 ·refine ah_ (ao_ (pV_ n long k) (fun i => k - i) (fun i => i ≤ k) 0 (Nat.zero_le _) ?_ ?_)
  ·simp only [eC_]
   have e : AV.v (.int .i64 0) = i64 (n / UB ^ (long - 0) : Nat) := by rw [Nat.sub_zero, Nat.div_eq_of_lt hn]; rfl
   exact s_f []
  intro i hi
  rw [eC_]
  refine ac_ (r_z 3 ?_)
  refine af_ rfl (fun h => ?_) (fun h => ?_)
  ·have hlt : i < k := by simpa using h
   have hd := jL_ (zd n) (long - 1 - i) hl
   unfold zd at hd
   rw [List.reverse_reverse, p6_ (by decide), show ((long - 1 - i : Nat) : Int) = (long : Int) - 1 - i by omega] at hd
   have e1 := Nat.div_add_mod (n / UB ^ (long - 1 - i)) UB
   rw [Nat.div_div_eq_div_mul, ← Nat.pow_succ, show (long - 1 - i).succ = long - i by omega] at e1
   have hb := bound (i + 1) hlt
   rw [show long - (i + 1) = long - 1 - i by omega] at hb
   have hlt2 : n / UB ^ (long - 1 - i) % UB < 32768 := Nat.mod_lt _ (by decide)
   obtain ⟨V, hV⟩ : ∃ V, V = n / UB ^ (long - i) := ⟨_, rfl⟩
   obtain ⟨D, hD⟩ : ∃ D, D = n / UB ^ (long - 1 - i) % UB := ⟨_, rfl⟩
   have hVb : V < 1152921504606846976 := by rw [hV]; exact bound i hi
   rw [← hV, ← hD] at e1
   rw [← hD] at hd hlt2
   rw [← hV]
   have e3 : 32768 * V + D = n / UB ^ (long - 1 - i) := e1
   have e2 : (V : Int) * 32768 + D = ((n / UB ^ (long - (i + 1)) : Nat) : Int) := by
    rw [show long - (i + 1) = long - 1 - i by omega, ← e3]; omega
   have hbb : V * 32768 + D < 1152921504606846976 := by omega
   refine ag_ (ac_ (ah_ (r_m 10 ?_)))
   refine c_s (hd) ?_
   refine a_z ?_
   refine r_m 3 ?_
   refine a_z ?_
   refine ⟨i + 1, by omega, hlt, ?_⟩
   simp only [eC_]
   have := (congrArg (fun z => AV.v (.int .i64 z)) e2)
   exact s_f []
  ·have hge : i = k := by simp at h; omega
   refine al_ ⟨i, hge, ?_⟩
   simp only [eC_]
   exact s_e []
 rintro i rfl
 rw [eC_]
 refine r_z 2 ?_
 refine ae_ (aD_ rfl rfl (ad_ _))
def ku_ (D : Nat) : Nat × Nat → AState
 | (R, k) => ⟨[(0, .arr (iE (zd R))), (1, .arr (iE (zd D))), (6, i64 k)], [], 1, 57⟩
theorem b0_ (D : Nat) (R : Nat) (k : Nat) : ku_ D (R, k) = ⟨[(0, .arr (iE (zd R))), (1, .arr (iE (zd D))), (6, i64 k)], [], 1, 57⟩ := rfl
theorem est_le {R D e : Nat} (he : 0 < e) : R / e / (D / e + 1) * D ≤ R := by
 have h1 : R / e / (D / e + 1) * (D / e + 1) ≤ R / e := Nat.div_mul_le_self _ _
 have h2 : R / e * e ≤ R := Nat.div_mul_le_self _ _
 have h3 : D < (D / e + 1) * e := by
  have := Nat.lt_mul_div_succ D he
  rw [Nat.mul_comm]; exact this
 have h4 : R / e / (D / e + 1) * D ≤ R / e / (D / e + 1) * ((D / e + 1) * e) := Nat.mul_le_mul_left _ (Nat.le_of_lt h3)
 have h5 : R / e / (D / e + 1) * ((D / e + 1) * e) ≤ R / e * e := by
  rw [← Nat.mul_assoc]; exact Nat.mul_le_mul_right _ h1
 omega
theorem zZ_pos {D : Nat} (h : 0 < D) : zZ (D : Int) = [i64 1, .arr (iE (zd D))] := by
 unfold zZ sgZ
 rw [if_neg (by omega), if_neg (by omega), Int.natAbs_natCast]
theorem fs_share (R D : Nat) (hD : 0 < D) (hR : R < UB * D) (hb : bl D ≤ 4398046511104) : FSpec Tryz.prog 273 [.arr (iE (zd R)), .arr (iE (zd D))] (.tup [i64 (R / D : Nat), .arr (iE (zd (R % D)))]) := by
 have hzR := bd_ R
 have hzD := bd_ D
 have hlD := aR_ (b := UB) (by decide) D
 have hlR := aR_ (b := UB) (by decide) R
 have hbR : bl R ≤ bl D + 16 := by
  have h1 := bG_ (Nat.le_of_lt hR)
  have h2 := dD_ UB D
  have h3 : bl UB = 16 := by decide
  omega
 obtain ⟨n, hn⟩ : ∃ n, n = (zd D).length := ⟨_, rfl⟩
 have hn1 : 1 ≤ n := by
  have : zd D ≠ [] := fun h => by have := zd_eq_nil.1 h; omega
  have := List.length_pos_iff.2 this; omega
 have hDn : D < UB ^ n := by
  have := hv_lt (zd_lt D)
  rwa [hv_zd, ← hn] at this
 have hRn : R < UB ^ (n + 1) := by
  rw [Nat.pow_succ, Nat.mul_comm]
  exact Nat.lt_of_lt_of_le hR (Nat.mul_le_mul_left _ (Nat.le_of_lt hDn))
 have hRk : ∀ k, k * D ≤ R → k < UB := by
  intro k hk
  refine Nat.lt_of_not_le fun h => ?_
  have := Nat.mul_le_mul_right D h
  omega
 refine f_n Tryz.func273 ?_ ?_
 ·exact aa_ (a4_ _) (aa_ (a4_ _) ab_)
 refine r_z 2 ?_
 refine r_z 1 ?_
 refine r_z 3 ?_
 refine aO_ (fun k : Nat => ku_ D (R, k)) (fun k => k * D ≤ R) ?_ ?_
 ·refine r_z 4 ?_
  refine af_ rfl (fun h => ?_) (fun h => ?_)
  ·have hge : (zd D).length ≤ (zd R).length := by simpa using h
   refine r_z 2 ?_
   refine af_ rfl (fun h1 => ?_) (fun h1 => ?_)
   ·have h3 : n ≤ 3 := by rw [hn]; have := of_decide_eq_true h1; omega
    have f1 := gW_ R (n + 1) (n + 1) (by omega) (Nat.le_refl _) hRn (by omega) (by omega)
    have f2 := gW_ D n n (by omega) (Nat.le_refl _) hDn (by omega) (by omega)
    rw [Nat.sub_self, Nat.pow_zero, Nat.div_one] at f1 f2
    rw [hn] at f1 f2
    have hq : (R : Int) / D = (R / D : Nat) := (Int.natCast_ediv _ _).symm
    have hR60 : R < 1152921504606846976 := Nat.lt_of_lt_of_le hRn (Nat.pow_le_pow_right (n := 32768) (j := 4) (by decide) (by omega))
    refine r_m 12 ?_
    refine c_s (f1) ?_
    refine c_s (f2) ?_
    refine a_z ?_
    refine ⟨R / D, Nat.div_mul_le_self _ _, ?_⟩
    simp only [b0_]
    have := (congrArg (fun z => AV.v (.int .i64 z)) hq)
    exact s_f []
   ·have h3 : 3 < n := by rw [hn]; have := of_decide_eq_false h1; omega
    have f1 := gW_ R (n + 1) 4 (by omega) (by omega) hRn (by omega) (by omega)
    have f2 := gW_ D n 3 (by omega) (by omega) hDn (by omega) (by omega)
    rw [show n + 1 - 4 = n - 3 by omega] at f1
    obtain ⟨e, he⟩ : ∃ e, e = UB ^ (n - 3) := ⟨_, rfl⟩
    have hep : 0 < e := by rw [he]; exact Nat.pow_pos (by decide)
    rw [← he] at f1 f2
    have hR4 : R / e < 1152921504606846976 := by
     rw [Nat.div_lt_iff_lt_mul hep, he]
     have h4 : UB ^ 4 = 1152921504606846976 := by decide
     have : UB ^ (n + 1) = 1152921504606846976 * UB ^ (n - 3) := by
      rw [show n + 1 = 4 + (n - 3) by omega, Nat.pow_add, h4]
     omega
    have hD3 : D / e < 35184372088832 := by
     rw [Nat.div_lt_iff_lt_mul hep, he]
     have h4 : UB ^ 3 = 35184372088832 := by decide
     have : UB ^ n = 35184372088832 * UB ^ (n - 3) := by
      rw [← h4, ← Nat.pow_add]; congr 1; omega
     omega
    rw [hn] at f1 f2
    have hq : ((R / e : Nat) : Int) / (((D / e : Nat) : Int) + 1) = (R / e / (D / e + 1) : Nat) := by
     rw [show (((D / e : Nat) : Int) + 1) = ((D / e + 1 : Nat) : Int) by omega]; exact (Int.natCast_ediv _ _).symm
    have hle := est_le (R := R) (D := D) hep
    obtain ⟨A, hA⟩ : ∃ A, A = R / e := ⟨_, rfl⟩
    obtain ⟨B, hB⟩ : ∃ B, B = D / e := ⟨_, rfl⟩
    rw [← hA] at f1 hR4 hq hle
    rw [← hB] at f2 hD3 hq hle
    refine r_m 10 ?_
    refine c_s (f1) ?_
    refine c_s (f2) ?_
    refine a_z ?_
    refine ⟨A / (B + 1), hle, ?_⟩
    simp only [b0_]
    have := (congrArg (fun z => AV.v (.int .i64 z)) hq)
    exact s_f []
  ·refine ag_ ⟨0, by simp, ?_⟩
   simp only [b0_]
   exact s_e []
 rintro k hk
 have hkU := hRk k hk
 have hkU' : k < 32768 := hkU
 rw [b0_]
 refine aO_ (fun _ : Unit => ku_ D (R - k * D, k)) (fun _ => True) ?_ ?_
 ·refine r_z 2 ?_
  refine af_ rfl (fun h1 => ?_) (fun h1 => ?_)
  ·have hzk : zl (k : Int) := by
    unfold zl; rw [Int.natAbs_natCast]
    have := bl_le (n := k) (k := 15) (by omega); omega
   have hzD : zl (D : Int) := by unfold zl; rw [Int.natAbs_natCast]; omega
   have hm := dy_ (k : Int) (D : Int) hzk hzD
   rw [zZ_pos hD] at hm
   have hkD : ((k : Int) * (D : Int)).natAbs = k * D := by rw [← Int.natCast_mul, Int.natAbs_natCast]
   have hbk : bl (k * D) ≤ bl D + 16 := by
    have := bG_ hk; omega
   have hlk := aR_ (b := UB) (by decide) (k * D)
   have hbo := hM_ R (k * D) (-1) (R - k * D) (.inr rfl) (by omega) (by omega) (by rw [bd_]; omega)
   rw [← hkD] at hbo
   rw [hkD] at hbo
   refine r_m 9 ?_
   refine c_s (dP_ k (by omega)) ?_
   refine c_s (hm) ?_
   first | refine aG_ (.field rfl tf_73_1.h tga_73_1.h (nle rfl)) rfl rfl ?_ | refine aG_ (.field1 rfl tf_73_1.h tga_73_1.h rfl) rfl rfl ?_
   refine o_0 (.call rfl rfl rfl ((by rw [hkD]; exact hbo))) ?_
   refine o_0 (.assign rfl) ?_
   refine aj_ ?_
   refine ⟨(), trivial, ?_⟩
   simp only [b0_]
   exact s_e []
  ·have hk0 : k = 0 := by simp at h1; omega
   subst hk0
   refine ag_ ⟨(), trivial, ?_⟩
   simp only [b0_, Nat.zero_mul, Nat.sub_zero]
   exact s_e []
 rintro _ _
 rw [b0_]
 refine aO_ (ku_ D) (fun v => v.1 = R % D ∧ v.2 = R / D) ?_ ?_
 ·refine ah_ (ao_ (ku_ D) (fun v => v.1) (fun v => v.1 + v.2 * D = R ∧ v.1 ≤ R) (R - k * D, k) ⟨by simp only; omega, by simp only; omega⟩ ?_ ?_)
  ·simp only [b0_]
   exact s_e []
  rintro ⟨R', k'⟩ ⟨hv, hle⟩
  simp only at hv hle
  have hbR' : bl R' ≤ bl D + 16 := by have := bG_ hle; omega
  have hlR' := aR_ (b := UB) (by decide) R'
  have hzR' := bd_ R'
  have hk' := hRk k' (by omega)
  have hk'' : k' < 32768 := hk'
  rw [b0_]
  refine ac_ (r_c 4 (m3_ R' D (by omega) (by omega)) ?_)
  refine a_z ?_
  refine af_ rfl (fun h => ?_) (fun h => ?_)
  ·have hge : D ≤ R' := by
    have := of_decide_eq_true h
    unfold cmpZ at this; split at this <;> omega
   refine ag_ (ah_ (r_c 4 (hM_ R' D (-1) (R' - D) (.inr rfl) (by omega) (by omega) (by omega)) ?_))
   refine a_z ?_
   refine r_m 3 ?_
   refine a_z ?_
   refine ⟨(R' - D, k' + 1), by simp only; omega, ⟨by simp only; rw [Nat.add_mul]; omega, by simp only; omega⟩, ?_⟩
   simp only [b0_]
   exact s_e []
  ·have hlt : R' < D := by
    have := of_decide_eq_false h
    unfold cmpZ at this; split at this
    ·omega
    ·split at this <;> omega
   refine al_ ⟨(R', k'), ⟨?_, ?_⟩, ?_⟩
   ·simp only; rw [← hv, Nat.add_mul_mod_self_right, Nat.mod_eq_of_lt hlt]
   ·simp only; rw [← hv, Nat.add_mul_div_right _ _ hD, Nat.div_eq_of_lt hlt, Nat.zero_add]
   ·simp only [b0_]
    exact s_e []
 rintro ⟨R', k'⟩ ⟨h1, h2⟩
 simp only at h1 h2
 subst h1 h2
 rw [b0_]
 refine r_z 4 ?_
 refine ae_ (Fin.many ⟨_, _, rfl, rfl, ⟨_, _, rfl, rfl, rfl⟩⟩ (nle rfl) ?_)
 exact ai_ (ar_ at_ (ad_ _)) (ai_ (ar_ at_ (a4_ _)) ap_)
end Go.Proofs.YtdhedjbmdnnbkaaGreatDoor
