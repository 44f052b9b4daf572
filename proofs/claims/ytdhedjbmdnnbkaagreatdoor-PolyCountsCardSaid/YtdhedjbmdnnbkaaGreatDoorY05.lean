/- Part Y05 of the proof. -/
import Derived.Test.YtdhedjbmdnnbkaaGreatDoorY04
set_option linter.all false
namespace Go.Abs
open Go.RowKit
def bT_ (fr : Fr) : Fr := fr.map fun p => (p.1 + GH, p.2)
def loFr (fr : Fr) : Bool := fr.all fun p => Nat.ble p.1 999
def setPs : Fr → List Nat → List AV → Fr
 | fr, p :: ps, a :: as => setPs ((p, a) :: fr) ps as
 | fr, _, _ => fr
theorem gb_ : ∀ (fr : Fr) (t : Nat), look (bT_ fr) (t + GH) = look fr t
 | [], _ => rfl
 | (k, x) :: fr, t => by
  show look ((k + GH, x) :: bT_ fr) _ = _
  rw [bD_, bD_]
  unfold upd
  by_cases h : t = k
  ·rw [if_pos h, if_pos (by omega)]
  ·rw [if_neg h, if_neg (by omega)]; exact gb_ fr t
theorem fI_ : ∀ (fr : Fr) (t : Nat) (x : AV), look (bT_ fr) t = some x → GH ≤ t
 | [], _, _, h => by cases h
 | (k, y) :: fr, t, x, h => by
  have h' : look ((k + GH, y) :: bT_ fr) t = some x := h
  rw [bD_] at h'
  unfold upd at h'
  split at h'
  ·omega
  ·exact fI_ fr t x h'
theorem ht_ {α : Type} : ∀ (l m : List (Nat × α)) (t : Nat), look (l ++ m) t = (look l t).or (look m t)
 | [], _, _ => rfl
 | (k, x) :: l, m, t => by
  rw [List.cons_append, bD_, bD_]
  unfold upd
  split
  ·rfl
  ·exact ht_ l m t
theorem fL_ : ∀ {fr : Fr} {t : Nat} {x : AV}, loFr fr = true → look fr t = some x → Nat.ble t 999 = true
 | [], _, _, _, h => by cases h
 | (k, y) :: fr, t, x, hl, h => by
  simp only [loFr, List.all_cons, Bool.and_eq_true] at hl
  rw [bD_] at h
  unfold upd at h
  split at h
  ·rename_i e; rw [e]; exact hl.1
  ·exact fL_ (fr := fr) hl.2 h
theorem mx_ {M : Nat → Prop} {β : Nat → Option (Nat × Nat)} {w : World} {n : Nat} : ∀ {ps : List Nat} {as : List AV} {vals : List Value} {fr : Fr} {tmps : Array Value}, tmps.size = n → (∀ p ∈ ps, p < n) → RVs M β w as vals → (∀ t x, look fr t = some x → RV M β w x (tmps.getD t undef)) →
    ((ps.zip vals).foldl (fun t (p, v) => t.setIfInBounds p v) tmps).size = n ∧ ∀ t x, look (setPs fr ps as) t = some x → RV M β w x (((ps.zip vals).foldl (fun t (p, v) => t.setIfInBounds p v) tmps).getD t undef)
 | [], as, vals, fr, tmps, hn, _, _, h => by cases as <;> simpa [setPs, hn] using h
 | p :: ps, [], vals, fr, tmps, hn, _, hv, h => by cases (hv : vals = []); simpa [setPs, hn] using h
 | p :: ps, a :: as, _, fr, tmps, hn, hp, ⟨y, ys, e, h1, h2⟩, h => by
  subst e
  simp only [setPs, List.zip_cons_cons, List.foldl_cons]
  refine mx_ (by simpa using hn) (fun q hq => hp q (List.mem_cons_of_mem _ hq)) h2 fun t x hx => ?_
  rw [bD_] at hx
  unfold upd at hx
  have hpn := hp p (List.mem_cons_self ..)
  rw [Array.getD_eq_getD_getElem?, Array.getElem?_setIfInBounds]
  split at hx
  ·rename_i e; subst e; cases hx; rw [if_pos rfl, if_pos (by omega)]; exact h1
  ·rename_i e; rw [if_neg (fun h => e h.symm), ← Array.getD_eq_getD_getElem?]; exact h t x hx
theorem my_ : ∀ {ps : List Nat} {as : List AV} {fr : Fr} {t : Nat} {x : AV}, loFr fr = true → (∀ p ∈ ps, p < GH) → look (setPs fr ps as) t = some x → t < GH
 | [], as, fr, t, x, hl, _, h => by
  have h' : look fr t = some x := by cases as <;> exact h
  have := Nat.le_of_ble_eq_true (fL_ hl h')
  exact Nat.lt_of_le_of_lt this (by decide)
 | p :: ps, [], fr, t, x, hl, _, h => by
  have := Nat.le_of_ble_eq_true (fL_ hl (show look fr t = some x from h))
  exact Nat.lt_of_le_of_lt this (by decide)
 | p :: ps, a :: as, fr, t, x, hl, hp, h => by
  refine my_ (fr := (p, a) :: fr) (ps := ps) (as := as) ?_ (fun q hq => hp q (List.mem_cons_of_mem _ hq)) h
  simp only [loFr, List.all_cons, Bool.and_eq_true]
  refine ⟨Nat.ble_eq_true_of_le ?_, hl⟩
  exact Nat.le_of_lt_succ (hp p (List.mem_cons_self ..))
def eo_ : Exit → Option Code
 | .ret => some .ret
 | .exit id => some (.exit id)
 | .goto t => some (.goto t)
 | _ => none
section
variable {P : Program}
def jbase (w0 : Base) (l D : Nat) (G : Nat → Prop) (W : World) (h : TabW W) : Base := ⟨W, fun b => b < W.heap.size ∧ (w0.K b ∨ G b ∨ b = l ∨ b = D), fun _ h => h.1, w0.pin, w0.gh, ⟨h.lt, .inl w0.kt⟩, h⟩
structure Wait (M0 : Nat → Prop) (w0 : Base) (a : Act) (w : World) (M G : Nat → Prop) (st : AState) (W : World) : Prop where
 kept : w0.Kept W
 two : w.heap.size + 2 ≤ W.heap.size
 mark : W.heap[w.heap.size]? = some (.deferred (some []))
 glt : ∀ b, G b → w.heap.size + 2 ≤ b ∧ b < W.heap.size
 defs : ∃ Ds : List Nat, a.defers = Ds.map pe_ ∧ Ds.Nodup ∧ ∀ D ∈ Ds, D < w.heap.size ∧ W.heap[D]? = some (.deferred (some [])) ∧ ¬ w0.K D
 rel : ∃ β, Mem (fun b => M0 b ∨ G b) (jbase w0 (w.heap.size + 1) w.heap.size G W kept.tab) β (lookB st.hp) W ∧ (∀ t x, look st.fr t = some x → RV (MM (fun b => M0 b ∨ G b) β (lookB st.hp)) β W x (slot w0 a t)) ∧
  (∀ i, st.nx ≤ i → β i = none ∧ i ≠ 0) ∧ (∀ i x, β i = some x → (lookB st.hp i).isSome = true) ∧ ∀ b, M b ↔ (M0 b ∨ b = w.heap.size + 1 ∨ b = w.heap.size ∨ ∃ i s, β i = some (b, s))
variable {M0 : Nat → Prop} {w0 : Base} {a : Act} {w W W' : World} {M G G' : Nat → Prop} {st : AState}
theorem Wait.step (hm0 : ∀ b, M0 b → b < w.heap.size) (hK : ∀ b, w0.K b → b < w.heap.size) (h : Wait M0 w0 a w M G st W) (hs : GStep G G' W W') : Wait M0 w0 a w M G' st W' := by
 obtain ⟨kept, two, mark, glt, ⟨Ds, d1, d2, d3⟩, β, mem, hf, hfree, ht, hM⟩ := h
 have nG : ∀ b, b < w.heap.size + 2 → ¬ G b := fun b hb hG => by have := (glt b hG).1; omega
 have same : ∀ b, b < w.heap.size + 2 → W'.heap[b]? = W.heap[b]? := fun b hb => hs.block b (by omega) (nG b hb)
 have numG : ∀ i b s, β i = some (b, s) → ¬ G b := fun i b s hi hG => (mem.rng i b s hi).1 ⟨(glt b hG).2, .inr (.inl hG)⟩
 have hG' : ∀ b, G' b → (G b ∨ W.heap.size ≤ b) ∧ b < W'.heap.size := hs.own
 have st1 : StabC (MM (fun b => M0 b ∨ G b) β (lookB st.hp)) (MM (fun b => M0 b ∨ G' b) β (lookB st.hp)) β β W W' := by
  refine ⟨fun b N hb hn => hs.block b (bf_ hb) fun hG => hn (.inl (.inr hG)), fun b N hb hm => ?_, fun _ _ h => h, hs.sizes⟩
  rcases hm with (hm | hm) | hm
  ·exact .inl (.inl hm)
  ·rcases (hG' b hm).1 with h | h
   ·exact .inl (.inr h)
   ·have := bf_ hb; omega
  ·exact .inr hm
 refine ⟨⟨hs.os.trans kept.os, hs.tape.trans kept.tape, hs.output.trans kept.output, Nat.le_trans kept.size hs.size, fun b hb => (same b (by have := hK b hb; omega)).trans (kept.block b hb), fun b n hb => hs.sizes b n (kept.sizes b n hb)⟩, Nat.le_trans two hs.size, (same _ (by omega)).trans mark,
  fun b hb => ⟨by rcases (hG' b hb).1 with h | h; exact (glt b h).1; omega, (hG' b hb).2⟩, ⟨Ds, d1, d2, fun D hD => ⟨(d3 D hD).1, (same D (by have := (d3 D hD).1; omega)).trans (d3 D hD).2.1, (d3 D hD).2.2⟩⟩, β, ⟨⟨rfl, rfl, rfl, Nat.le_refl _, fun _ _ => rfl, fun _ _ h => h⟩, fun b hb => ?_, fun i b s hi => ?_, mem.pin, fun i B hi => ?_, mem.inj⟩, fun t x hx => st1.all (hf t x hx), hfree, ht, hM⟩
 ·refine ⟨?_, fun e => ?_⟩
  rotate_left
  ·subst e
   have hgk := hK GT w0.kt
   rcases hb with hb | hb
   ·exact (mem.m0 GT (.inl hb)).2 rfl
   ·rcases (hG' GT hb).1 with h | h
    ·have := (glt GT h).1; omega
    ·omega
  rcases hb with hb | hb
  ·have := (mem.m0 b (.inl hb)).1
   refine ⟨Nat.lt_of_lt_of_le this.1 hs.size, ?_⟩
   rcases this.2 with h | h | h | h
   ·exact .inl h
   ·exact absurd h (nG b (by have := hm0 b hb; omega))
   ·have := hm0 b hb; omega
   ·have := hm0 b hb; omega
  ·exact ⟨(hG' b hb).2, .inr (.inl hb)⟩
 ·have hr := mem.rng i b s hi
  refine ⟨fun hk => hr.1 ⟨hr.2, ?_⟩, Nat.lt_of_lt_of_le hr.2 hs.size⟩
  rcases hk.2 with h | h | h | h
  ·exact .inl h
  ·rcases (hG' b h).1 with h | h
   ·exact .inr (.inl h)
   ·have := hr.2; omega
  ·exact .inr (.inr (.inl h))
  ·exact .inr (.inr (.inr h))
 ·obtain ⟨b, r1, r2⟩ := mem.blk i B hi
  exact ⟨b, r1, r2.stab st1 (hs.block b (mem.rng i b _ r1).2 (numG i b _ r1))⟩
theorem Wait.tabs (hK : ∀ b, w0.K b → b < w.heap.size) (h : Wait M0 w0 a w M G st W) : TabW W ∧ ¬ M GT ∧ ¬ G GT := by
 obtain ⟨kept, two, mark, glt, _, β, mem, hf, hfree, ht, hM⟩ := h
 have hgk := hK GT w0.kt
 refine ⟨kept.tab, fun hm => ?_, fun hg => by have := (glt GT hg).1; omega⟩
 rcases (hM GT).1 hm with h | h | h | ⟨i, s, h⟩
 ·exact (mem.m0 GT (.inl h)).2 rfl
 ·omega
 ·omega
 ·exact mem.gtn i s h
theorem Wait.disj (hm0 : ∀ b, M0 b → b < w.heap.size) (h : Wait M0 w0 a w M G st W) : ∀ b, M b → b < W.heap.size ∧ ¬ G b := by
 obtain ⟨kept, two, mark, glt, _, β, mem, hf, hfree, ht, hM⟩ := h
 intro b hb
 have nG : ∀ b, b < w.heap.size + 2 → ¬ G b := fun b hb hG => by have := (glt b hG).1; omega
 rcases (hM b).1 hb with h | rfl | rfl | ⟨i, s, hi⟩
 ·have := hm0 b h; exact ⟨by omega, nG b (by omega)⟩
 ·exact ⟨by omega, nG _ (by omega)⟩
 ·exact ⟨by omega, nG _ (by omega)⟩
 ·have hr := mem.rng i b s hi
  exact ⟨hr.2, fun hG => hr.1 ⟨hr.2, .inr (.inl hG)⟩⟩
theorem oZ_ {W : World} {l : Nat} {o o' : Obj} (h : W.heap[l]? = some o) (ho : aC_ W l = none) :
    (W.putObj l o').os = W.os ∧ (W.putObj l o').tape = W.tape ∧ (W.putObj l o').output = W.output ∧ (W.putObj l o').heap.size = W.heap.size ∧ (W.putObj l o').heap[l]? = some o' ∧ (∀ b, b ≠ l → (W.putObj l o').heap[b]? = W.heap[b]?) ∧ ∀ b n, aC_ W b = some n → aC_ (W.putObj l o') b = some n := by
 have hlt : l < W.heap.size := (Array.getElem?_eq_some_iff.1 h).1
 refine ⟨rfl, rfl, rfl, by simp [World.putObj], World.putObj_heap_same hlt, fun b hb => World.putObj_heap_other hb, fun b n hb => ?_⟩
 have hne : b ≠ l := fun e => by subst e; rw [ho] at hb; cases hb
 exact (bz_ (World.putObj_heap_other hne)).trans hb
variable {α γ : Type} {ps : Array Tmp} {assign body : Code}
def mA_ (S : α → AState) (Nx : α → Prop) (X : γ → AState) (PX : Exit → γ → Prop) (n : Nat) : Exit → AState → Prop
 | .normal, s => ∃ a', Nx a' ∧ SEntT s ⟨bT_ (S a').fr, (S a').hp, (S a').nx, n⟩
 | e, s => (eo_ e).isSome = true ∧ ∃ c, PX e c ∧ SEntT s ⟨bT_ (X c).fr, (X c).hp, (X c).nx, n⟩
theorem nN_ {S : α → AState} {Nx : α → Prop} {X : γ → AState} {PX : Exit → γ → Prop} {n : Nat} {e : Exit} {s : AState} (h : mA_ S Nx X PX n e s) : (e = .normal ∧ ∃ a', Nx a' ∧ SEntT s ⟨bT_ (S a').fr, (S a').hp, (S a').nx, n⟩) ∨ (∃ j, eo_ e = some j) ∧ ∃ c, PX e c ∧ SEntT s ⟨bT_ (X c).fr, (X c).hp, (X c).nx, n⟩ := by
 cases e with
 | normal => exact .inl ⟨rfl, h⟩
 | ret => exact .inr ⟨⟨_, rfl⟩, h.2⟩
 | exit id => exact .inr ⟨⟨_, rfl⟩, h.2⟩
 | goto t => exact .inr ⟨⟨_, rfl⟩, h.2⟩
 | panic ch => exact absurd h.1 (by simp [eo_])
 | outgrown => exact absurd h.1 (by simp [eo_])
def rgh (w0 : Base) (a : Act) (t : Nat) : Value := slot w0 a (t - GH)
theorem rgh_add (w0 : Base) (a : Act) (t : Nat) : rgh w0 a (t + GH) = slot w0 a t := by unfold rgh; rw [Nat.add_sub_cancel]
theorem ik_ {w0 w1 : Base} {a a3 : Act} {t : Nat} (h : w1.gh = rgh w0 a) (h3 : a3.tmps.size ≤ GH) : slot w1 a3 (t + GH) = slot w0 a t := by
 have h1 : GH ≤ t + GH := Nat.le_add_left _ _
 rw [slot_hi h1 (Nat.le_trans h3 h1), h, rgh_add]
def rbase (w0 : Base) (a : Act) (W0 : World) (β : Nat → Option (Nat × Nat)) (W : World) (h : W0.heap.size ≤ W.heap.size) (hk : (GT < W0.heap.size ∧ ∀ i s, β i ≠ some (GT, s)) ∧ TabW W) : Base := ⟨W, fun b => b < W0.heap.size ∧ ∀ i s, β i ≠ some (b, s), fun _ hb => Nat.lt_of_lt_of_le hb.1 h, w0.pin, rgh w0 a, hk.1, hk.2⟩
theorem gJ_ (w0 : Base) (a : Act) (W0 : World) (β : Nat → Option (Nat × Nat)) (W : World) (h : W0.heap.size ≤ W.heap.size) (hk : (GT < W0.heap.size ∧ ∀ i s, β i ≠ some (GT, s)) ∧ TabW W) : (rbase w0 a W0 β W h hk).gh = rgh w0 a := by simp only [rbase]
theorem Mem.turn {Mm : Nat → Prop} {b0 b1 : Base} {β : Nat → Option (Nat × Nat)} {hp : Nat → Option ABlk} {W W' : World} {l : Nat} {o o' : Obj} (h : Mem Mm b0 β hp W) (hl : W.heap[l]? = some o) (ho : aC_ W l = none) (hW' : W' = W.putObj l o') (hlm : ¬ Mm l)
    (hw1 : b1.w = W') (hm : ∀ b, Mm b → b1.K b) (hr : ∀ i b s, β i = some (b, s) → ¬ b1.K b) (hp0 : b1.pin = b0.pin) : Mem Mm b1 β hp W' ∧ StabC (MM Mm β hp) (MM Mm β hp) β β W W' := by
 let bx : Base := ⟨W, fun b => b0.K b ∧ b ≠ l, fun b hb => Nat.lt_of_lt_of_le (b0.lt b hb.1) h.below.size, b0.pin, b0.gh, ⟨b0.kt, fun e => h.tab.sz (e ▸ ho)⟩, h.tab⟩
 have h1 : Mem Mm bx β hp W := h.rebase bx rfl (fun b hb => ⟨(h.m0 b hb).1, fun e => hlm (e ▸ hb)⟩) (fun i b s hi hk => (h.rng i b s hi).1 hk.1) h.pin
 obtain ⟨h2, st⟩ := h1.shut (o' := o') hl ho (fun hk => hk.2 rfl)
 rw [← hW'] at h2 st
 exact ⟨h2.rebase b1 hw1 hm hr (fun h0 => (h2.pin h0).trans hp0.symm), st⟩
theorem Wait.back (hm0 : ∀ b, M0 b → b < w.heap.size) (hK : ∀ b, w0.K b → b < w.heap.size) (h : Wait M0 w0 a w M G st W) {n : Nat} (hng : n ≤ GH) {l : Nat} (hl : l = w.heap.size + 1)
    {β : Nat → Option (Nat × Nat)} (hk : TabW W) (mem : Mem (fun b => M0 b ∨ G b) (jbase w0 (w.heap.size + 1) w.heap.size G W hk) β (lookB st.hp) W) (ht : ∀ i x, β i = some x → (lookB st.hp i).isSome = true) (hM : ∀ b, M b ↔ (M0 b ∨ b = w.heap.size + 1 ∨ b = w.heap.size ∨ ∃ i s, β i = some (b, s)))
    {W2 W3 W4 : World} (h02 : W.heap.size ≤ W2.heap.size) (hkeep : ∀ b, b < W.heap.size → (∀ i s, β i ≠ some (b, s)) → b ≠ l → W2.heap[b]? = W.heap[b]?) (hso : W2.os = W.os ∧ W2.tape = W.tape ∧ W2.output = W.output) (hsz : ∀ b n, aC_ W b = some n → aC_ W2 b = some n)
    {a3 : Act} {st' : AState} (hk2 : (GT < W.heap.size ∧ ∀ i s, β i ≠ some (GT, s)) ∧ TabW W2) (hr : TRel (fun b => M0 b ∨ G b) (rbase w0 a W β W2 h02 hk2) ⟨bT_ st'.fr, st'.hp, st'.nx, n⟩ a3 W3) {o o' : Obj} (hl3 : W3.heap[l]? = some o) (ho : aC_ W3 l = none) (h4 : W4 = W3.putObj l o') :
    ∃ M', Wait M0 w0 a w M' G st' W4 ∧ GStep M M' W W4 := by
 obtain ⟨kept, two, mark, glt, ⟨Ds, d1, d2, d3⟩, _⟩ := h
 obtain ⟨β3, mem3, s1, hf3, hfree3, _, ht3⟩ := hr
 obtain ⟨p1, p2, p3, p4, p5, p6, p7⟩ := oZ_ (o' := o') hl3 ho
 rw [← h4] at p1 p2 p3 p4 p5 p6 p7
 have hb3 := mem3.below
 have hlW : l < W.heap.size := by omega
 have numl : ∀ i s, β i ≠ some (l, s) := fun i s hi => (mem.rng i l s hi).1 ⟨hlW, .inr (.inr (.inl hl))⟩
 have numw0 : ∀ b, w0.K b → ∀ i s, β i ≠ some (b, s) := fun b hb i s hi => (mem.rng i b s hi).1 ⟨(mem.rng i b s hi).2, .inl hb⟩
 have numG : ∀ b, G b → ∀ i s, β i ≠ some (b, s) := fun b hb i s hi => (mem.rng i b s hi).1 ⟨(mem.rng i b s hi).2, .inr (.inl hb)⟩
 have numD : ∀ i s, β i ≠ some (w.heap.size, s) := fun i s hi => (mem.rng i _ s hi).1 ⟨(mem.rng i _ s hi).2, .inr (.inr (.inr rfl))⟩
 -- whatever is not the loop's own lies as it lay
 have same : ∀ b, b < W.heap.size → (∀ i s, β i ≠ some (b, s)) → b ≠ l → W4.heap[b]? = W.heap[b]? := fun b hb hn hbl =>
  (p6 b hbl).trans ((hb3.block b ⟨hb, hn⟩).trans (hkeep b hb hn hbl))
 have tab4 : TabW W4 := hk.congr (same GT hk2.1.1 hk2.1.2 (fun e => by have := hK GT w0.kt; omega))
 have hsize : W.heap.size ≤ W4.heap.size := by rw [p4]; exact Nat.le_trans h02 hb3.size
 have hsizes : ∀ b n, aC_ W b = some n → aC_ W4 b = some n := fun b n hb => p7 b n (hb3.sizes b n (hsz b n hb))
 have hos : W4.os = W.os := p1.trans (hb3.os.trans hso.1)
 have htape : W4.tape = W.tape := p2.trans (hb3.tape.trans hso.2.1)
 have hout : W4.output = W.output := p3.trans (hb3.output.trans hso.2.2)
 have num3 : ∀ i b s, β3 i = some (b, s) → (W.heap.size ≤ b ∨ ∃ i s, β i = some (b, s)) ∧ b < W3.heap.size := fun i b s hi => by
  have hr := mem3.rng i b s hi
  refine ⟨?_, hr.2⟩
  by_cases hb : b < W.heap.size
  ·right
   by_cases hx : ∃ i s, β i = some (b, s)
   ·exact hx
   ·exact absurd ⟨hb, fun i s hi => hx ⟨i, s, hi⟩⟩ hr.1
  ·left; omega
 have num3K : ∀ i b s, β3 i = some (b, s) → ¬ (jbase w0 (w.heap.size + 1) w.heap.size G W4 tab4).K b := by
  rintro i b s hi ⟨_, hk⟩
  rcases (num3 i b s hi).1 with h1 | ⟨i', s', h1⟩
  ·rcases hk with hk | hk | hk | hk
   ·have := hK b hk; omega
   ·have := (glt b hk).2; omega
   ·omega
   ·omega
  ·rcases hk with hk | hk | hk | hk
   ·exact numw0 b hk i' s' h1
   ·exact numG b hk i' s' h1
   ·subst hk; exact numl i' s' (by rw [hl]; exact h1)
   ·subst hk; exact numD i' s' h1
 obtain ⟨mem4, st4⟩ := mem3.turn (o' := o') (b1 := jbase w0 (w.heap.size + 1) w.heap.size G W4 tab4) hl3 ho h4 (fun hm => by
  rcases hm with hm | hm
  ·have := hm0 l hm; omega
  ·have := (glt l hm).1; omega) rfl (fun b hb => by
  rcases hb with hb | hb
  ·have := hm0 b hb
   refine ⟨by omega, ?_⟩
   rcases (mem.m0 b (.inl hb)).1.2 with h | h
   ·exact .inl h
   ·exact .inr h
  ·exact ⟨Nat.lt_of_lt_of_le (glt b hb).2 hsize, .inr (.inl hb)⟩) num3K rfl
 refine ⟨fun b => M0 b ∨ b = w.heap.size + 1 ∨ b = w.heap.size ∨ ∃ i s, β3 i = some (b, s), ⟨⟨hos.trans kept.os, htape.trans kept.tape, hout.trans kept.output, Nat.le_trans kept.size hsize, fun b hb => ?_, fun b n hb => hsizes b n (kept.sizes b n hb)⟩, Nat.le_trans two hsize, ?_, fun b hb => ⟨(glt b hb).1, Nat.lt_of_lt_of_le (glt b hb).2 hsize⟩,
  ⟨Ds, d1, d2, fun D hD => ⟨(d3 D hD).1, ?_, (d3 D hD).2.2⟩⟩, β3, mem4, fun t x hx => ?_, hfree3, ht3, fun b => Iff.rfl⟩, ⟨hos, htape, hout, hsize, fun b hb hn => ?_, hsizes, fun b hb => ?_⟩⟩
 ·have h1 := hK b hb
  exact (same b (by omega) (numw0 b hb) (by omega)).trans (kept.block b hb)
 ·exact (same _ (by omega) numD (by omega)).trans mark
 ·have h1 := d3 D hD
  refine (same D (by omega) (fun i s hi => ?_) (by omega)).trans h1.2.1
  obtain ⟨B, hB⟩ := Option.isSome_iff_exists.1 (ht i _ hi)
  obtain ⟨b', r1, r2⟩ := mem.blk i B hB
  rw [hi] at r1; cases r1
  obtain ⟨N, hN⟩ := r2.size
  simp [aC_, h1.2.1] at hN
 ·have := hf3 (t + GH) x (by rw [gb_]; exact hx)
  have e := ik_ (w0 := w0) (w1 := rbase w0 a W β W2 h02 hk2) (a := a) (a3 := a3) (t := t) (gJ_ ..) (Nat.le_trans (Nat.le_of_eq s1) hng)
  rw [e] at this
  exact st4.all this
 ·refine same b hb (fun i s hi => hn ((hM b).2 (.inr (.inr (.inr ⟨i, s, hi⟩))))) (fun e => hn ((hM b).2 (.inr (.inl (by omega)))))
 ·rcases hb with hb | hb | hb | ⟨i, s, hi⟩
  ·have := hm0 b hb; exact ⟨.inl ((hM b).2 (.inl hb)), by omega⟩
  ·exact ⟨.inl ((hM b).2 (.inr (.inl hb))), by omega⟩
  ·exact ⟨.inl ((hM b).2 (.inr (.inr (.inl hb)))), by omega⟩
  ·obtain ⟨h1, h2⟩ := num3 i b s hi
   refine ⟨?_, by rw [p4]; exact h2⟩
   rcases h1 with h1 | ⟨i', s', h1⟩
   ·exact .inr h1
   ·exact .inl ((hM b).2 (.inr (.inr (.inr ⟨i', s', h1⟩))))
theorem Wait.round (hm0 : ∀ b, M0 b → b < w.heap.size) (hK : ∀ b, w0.K b → b < w.heap.size) (h : Wait M0 w0 a w M G st W) {n : Nat} (hn : a.tmps.size = n) (hng : n ≤ GH) {l : Nat} (hl : l = w.heap.size + 1) {rec : Loop} (hrec : W.heap[l]? = some (.loop rec)) (hready : rec.state = .ready)
    (hlo : loFr st.fr = true) {as : List AV} {vals : List Value} (hv : RVs (fun b => M b ∨ G b) (fun _ => none) W as vals) (hps : ∀ p ∈ ps.toList, p < n) (fn : FuncId)
    {S : α → AState} {Nx : α → Prop} {X : γ → AState} {PX : Exit → γ → Prop}
    (hround : AWp (some l) P assign (thenA (AWp (some l) P body (mA_ S Nx X PX n)) (fun _ _ => False)) ⟨setPs st.fr ps.toList as ++ bT_ st.fr, st.hp, st.nx, n⟩)
    {R : Ending → World → Prop}
    (hN : ∀ a' M' W4, Nx a' → Wait M0 w0 a w M' G (S a') W4 → GStep M M' W W4 → W4.heap[l]? = some (.loop { rec with state := .ready, pending := none }) → R (.returned (.bool true)) W4)
    (hX : ∀ e j c M' W4, eo_ e = some j → PX e c → Wait M0 w0 a w M' G (X c) W4 → GStep M M' W W4 → W4.heap[l]? = some (.loop { rec with state := .done, pending := some j }) → R (.returned (.bool false)) W4) :
    RoundIn (FR none) 0 P l fn ((ps.zip vals.toArray).foldl (fun t (p, v) => t.setIfInBounds p v) a.tmps) assign body W R := by
 have hw := h
 obtain ⟨kept, two, mark, glt, defs, β, mem, hf, hfree, ht, hM⟩ := hw
 have hlW : l < W.heap.size := by omega
 have numl : ∀ i s, β i ≠ some (l, s) := fun i s hi => (mem.rng i l s hi).1 ⟨hlW, .inr (.inr (.inl hl))⟩
 have slo : aC_ W l = none := by simp [aC_, hrec]
 -- the frame of the round
 have hz : (ps.zip vals.toArray).foldl (fun t (p, v) => t.setIfInBounds p v) a.tmps = (ps.toList.zip vals).foldl (fun t (p, v) => t.setIfInBounds p v) a.tmps := by
  rw [← Array.foldl_toList, Array.toList_zip]
 have hwide : RVs (MM (fun b => M0 b ∨ G b) β (lookB st.hp)) β W as vals := StabC.vs (M := fun b => M b ∨ G b) (β := fun _ => none) (w := W) (w' := W) ⟨fun _ _ _ _ => rfl, fun b N hb hm => by
  rcases hm with (hm | hm) | ⟨i, B, s, _, hm⟩
  ·exact .inl ((hM b).2 (.inl hm))
  ·exact .inr hm
  ·exact .inl ((hM b).2 (.inr (.inr (.inr ⟨i, s, hm⟩)))), (fun _ _ h => by cases h), fun _ _ h => h⟩ hv
 obtain ⟨z1, z2⟩ := mx_ (ps := ps.toList) (fr := st.fr) (tmps := a.tmps) hn hps hwide (fun t x hx => by
  have := hf t x hx
  rwa [lD_ (fL_ hlo hx)] at this)
 rw [← hz] at z1 z2
 have hk0 : (GT < W.heap.size ∧ ∀ i s, β i ≠ some (GT, s)) ∧ TabW W := ⟨⟨mem.tab.lt, mem.gtn⟩, mem.tab⟩
 have hrel : ARel (fun b => M0 b ∨ G b) (rbase w0 a W β W (Nat.le_refl _) hk0) ⟨setPs st.fr ps.toList as ++ bT_ st.fr, st.hp, st.nx, n⟩ { tmps := (ps.zip vals.toArray).foldl (fun t (p, v) => t.setIfInBounds p v) a.tmps, defers := [] } W := by
  refine ⟨β, mem.rebase (rbase w0 a W β W (Nat.le_refl _) hk0) rfl (fun b hb => ⟨(mem.m0 b hb).1.1, fun i s hi => (mem.rng i b s hi).1 (mem.m0 b hb).1⟩) (fun i b s hi hk => hk.2 i s hi) mem.pin, z1, fun t x hx => ?_, hfree, ⟨[], rfl, List.nodup_nil, by simp⟩⟩
  rw [ht_] at hx
  by_cases hgt : GH ≤ t
  ·have hne : look (setPs st.fr ps.toList as) t = none := by
    cases hq : look (setPs st.fr ps.toList as) t with
    | none => rfl
    | some y => exact absurd (my_ hlo (fun p hp => Nat.lt_of_lt_of_le (hps p hp) hng) hq) (by omega)
   rw [hne, Option.none_or] at hx
   obtain ⟨t', rfl⟩ : ∃ t', t = t' + GH := ⟨t - GH, by omega⟩
   rw [gb_] at hx
   have e := ik_ (w0 := w0) (w1 := rbase w0 a W β W (Nat.le_refl _) hk0) (a := a) (a3 := { tmps := (ps.zip vals.toArray).foldl (fun t (p, v) => t.setIfInBounds p v) a.tmps, defers := [] }) (t := t') (gJ_ ..) (Nat.le_trans (Nat.le_of_eq z1) hng)
   rw [e]; exact hf t' x hx
  ·have hlt : t < GH := by omega
   have hx2 : look (setPs st.fr ps.toList as) t = some x := by
    cases hq : look (setPs st.fr ps.toList as) t with
    | some y => rw [hq, Option.some_or] at hx; exact hx
    | none =>
     rw [hq, Option.none_or] at hx
     exact absurd (fI_ _ _ _ hx) hgt
   have e : slot (rbase w0 a W β W (Nat.le_refl _) hk0) { tmps := (ps.zip vals.toArray).foldl (fun t (p, v) => t.setIfInBounds p v) a.tmps, defers := [] } t = ((ps.zip vals.toArray).foldl (fun t (p, v) => t.setIfInBounds p v) a.tmps).getD t undef := if_pos (.inl hlt)
   rw [e]; exact z2 t x hx2
 refine roundIn_of_wpIn trivial ?_
 refine wpIn_mono (hround _ _ _ _ hrel) ?_
 rintro e a1 W1 ⟨s1, r1, q1⟩
 cases e with
 | normal =>
  obtain ⟨β1, mem1, t1, f1, fr1, de1⟩ := r1
  have hl1 : W1.heap[l]? = some (.loop rec) := (mem1.below.block l ⟨hlW, numl⟩).trans hrec
  have slo1 : aC_ W1 l = none := by simp [aC_, hl1]
  refine ⟨_, run_beginRound hl1 hready, ?_⟩
  have h12 : W.heap.size ≤ (W1.putObj l (.loop { rec with state := .busy })).heap.size := by
   have := mem1.below.size
   have h2 : (rbase w0 a W β W (Nat.le_refl _) hk0).w.heap.size = W.heap.size := rfl
   simp only [World.putObj]; simp; omega
  obtain ⟨p1, p2, p3, p4, p5, p6, p7⟩ := oZ_ (o' := .loop { rec with state := .busy }) hl1 slo1
  have hk2 : (GT < W.heap.size ∧ ∀ i s, β i ≠ some (GT, s)) ∧ TabW (W1.putObj l (.loop { rec with state := .busy })) := ⟨hk0.1, mem1.tab.congr (p6 GT fun e => mem1.tab.sz (e ▸ slo1))⟩
  obtain ⟨mem2, st2⟩ := mem1.turn (o' := .loop { rec with state := .busy }) (b1 := rbase w0 a W β _ h12 hk2) hl1 slo1 rfl (fun hm => by
   rcases hm with hm | hm
   ·have := hm0 l hm; omega
   ·have := (glt l hm).1; omega) rfl (fun b hb => (mem1.m0 b hb).1) (fun i b s hi => (mem1.rng i b s hi).1) rfl
  have hrel2 : ARel (fun b => M0 b ∨ G b) (rbase w0 a W β _ h12 hk2) s1 a1 (W1.putObj l (.loop { rec with state := .busy })) := by
   refine ⟨β1, mem2, t1, fun t x hx => ?_, fr1, ?_⟩
   ·have e : slot (rbase w0 a W β _ h12 hk2) a1 t = slot (rbase w0 a W β W (Nat.le_refl _) hk0) a1 t := by
     unfold slot; rw [gJ_, gJ_]
    rw [e]; exact st2.all (f1 t x hx)
   ·obtain ⟨Ds, u1, u2, u3⟩ := de1
    refine ⟨Ds, u1, u2, fun D hD => ⟨?_, (u3 D hD).2⟩⟩
    have hne : D ≠ l := fun e => by have := (u3 D hD).1; rw [e, hl1] at this; cases this
    rw [p6 D hne]; exact (u3 D hD).1
  refine wpIn_mono (q1 _ _ _ _ hrel2) ?_
  rintro e a3 W3 ⟨s3, r3, q3⟩
  have b3 : (rbase w0 a W β _ h12 hk2).Kept W3 := by obtain ⟨_, m3, _⟩ := r3; exact m3.below
  have hl3 : W3.heap[l]? = some (.loop { rec with state := .busy }) := (b3.block l ⟨hlW, numl⟩).trans p5
  have slo3 : aC_ W3 l = none := by simp [aC_, hl3]
  have b1 := mem1.below
  have hkeep : ∀ b, b < W.heap.size → (∀ i s, β i ≠ some (b, s)) → b ≠ l → (W1.putObj l (.loop { rec with state := .busy })).heap[b]? = W.heap[b]? := fun b hb hn hne => (p6 b hne).trans (b1.block b ⟨hb, hn⟩)
  rcases nN_ q3 with ⟨rfl, a', hNx, hent⟩ | ⟨⟨j, hj⟩, c, hPX, hent⟩
  ·obtain ⟨M', hw4, hg4⟩ := h.back hm0 hK hng hl kept.tab mem ht hM h12 hkeep ⟨p1.trans b1.os, p2.trans b1.tape, p3.trans b1.output⟩ (fun b n hb => p7 b n (b1.sizes b n hb)) hk2 (hent _ _ _ _ r3) hl3 slo3 (o' := .loop { rec with state := .ready, pending := none }) rfl
   exact ⟨_, _, run_endRound none hl3, hN a' M' _ hNx hw4 hg4 (World.putObj_heap_same (Array.getElem?_eq_some_iff.1 hl3).1)⟩
  ·obtain ⟨M', hw4, hg4⟩ := h.back hm0 hK hng hl kept.tab mem ht hM h12 hkeep ⟨p1.trans b1.os, p2.trans b1.tape, p3.trans b1.output⟩ (fun b n hb => p7 b n (b1.sizes b n hb)) hk2 (hent _ _ _ _ r3) hl3 slo3 (o' := .loop { rec with state := .done, pending := some j }) rfl
   have hfin := hX e j c M' _ hj hPX hw4 hg4 (World.putObj_heap_same (Array.getElem?_eq_some_iff.1 hl3).1)
   have hend : (Instr.endRound l (some j)).run P W3 = .ok (.bool false) (W3.putObj l (.loop { rec with state := .done, pending := some j })) := run_endRound (r := { rec with state := .busy }) (some j) hl3
   cases e with
   | ret => simp only [eo_, Option.some.injEq] at hj; subst hj; exact ⟨_, _, hend, hfin⟩
   | exit id => simp only [eo_, Option.some.injEq] at hj; subst hj; exact ⟨_, _, hend, hfin⟩
   | goto t => simp only [eo_, Option.some.injEq] at hj; subst hj; exact ⟨_, _, hend, hfin⟩
   | normal => cases hj
   | panic ch => cases hj
   | outgrown => cases hj
 | ret => exact q1.elim
 | exit id => exact q1.elim
 | goto t => exact q1.elim
 | panic ch => exact q1.elim
 | outgrown => exact q1.elim
theorem Wait.begin (hlt : ∀ b, w0.K b → b < w.heap.size) (hm0 : ∀ b, M0 b → w0.K b) {β : Nat → Option (Nat × Nat)} (mem : Mem M0 w0 β (lookB st.hp) w) (hf : ∀ t x, look st.fr t = some x → RV (MM M0 β (lookB st.hp)) β w x (slot w0 a t)) (hfree : ∀ i, st.nx ≤ i → β i = none ∧ i ≠ 0) (hdef : DefOK a.defers w0 w) (ht : ∀ i x, β i = some x → (lookB st.hp i).isSome = true) (rec : Loop) :
    Wait M0 w0 a w (fun b => M0 b ∨ b = w.heap.size + 1 ∨ b = w.heap.size ∨ ∃ i s, β i = some (b, s)) (fun _ => False) st ((w.alloc (.deferred (some []))).alloc (.loop rec)) ∧ ((w.alloc (.deferred (some []))).alloc (.loop rec)).heap[w.heap.size + 1]? = some (.loop rec) := by
 obtain ⟨Ds, d1, d2, d3⟩ := hdef
 have hbel : Below w.heap.size w ((w.alloc (.deferred (some []))).alloc (.loop rec)) := ((Below.refl _ w).alloc (Nat.le_refl _) _).alloc (by simp) _
 obtain ⟨m1, s1⟩ := mem.ext hbel
 have hD : ((w.alloc (.deferred (some []))).alloc (.loop rec)).heap[w.heap.size]? = some (.deferred (some [])) := (Below.heap_alloc _ _ _ (by simp)).trans (World.alloc_heap_new w _)
 have hL : ((w.alloc (.deferred (some []))).alloc (.loop rec)).heap[w.heap.size + 1]? = some (.loop rec) := by
  have := World.alloc_heap_new (w.alloc (.deferred (some []))) (.loop rec); rwa [World.size_alloc] at this
 refine ⟨⟨m1.below, by simp, hD, fun b hb => hb.elim, ⟨Ds, d1, d2, fun D hD => ?_⟩, β, ?_, fun t x hx => ?_, hfree, ht, fun b => Iff.rfl⟩, hL⟩
 ·have h1 := d3 D hD
  have h2 : D < w.heap.size := (Array.getElem?_eq_some_iff.1 h1.1).1
  exact ⟨h2, (hbel.block D h2).trans h1.1, h1.2⟩
 ·have e : (fun b => M0 b ∨ False) = M0 := by funext b; simp
  show Mem (fun b => M0 b ∨ False) _ β _ _
  rw [e]
  refine m1.rebase (jbase w0 (w.heap.size + 1) w.heap.size (fun _ => False) _ m1.tab) rfl (fun b hb => ⟨by have := hlt b (hm0 b hb); simp; omega, .inl (hm0 b hb)⟩) (fun i b s hi hk => ?_) m1.pin
  have hr := mem.rng i b s hi
  rcases hk.2 with h | h | h | h
  ·exact hr.1 h
  ·exact h
  ·have := hr.2; omega
  ·have := hr.2; omega
 ·have e : (fun b => M0 b ∨ False) = M0 := by funext b; simp
  show RV (MM (fun b => M0 b ∨ False) _ _) _ _ _ _
  rw [e]; exact s1.all (hf t x hx)
theorem Wait.over (hlt : ∀ b, w0.K b → b < w.heap.size) (hm0 : ∀ b, M0 b → w0.K b) (h : Wait M0 w0 a w M G st W) {n : Nat} (hn : a.tmps.size = n) (hsn : st.n = n) {rec rec' : Loop} (hrec : W.heap[w.heap.size + 1]? = some (.loop rec)) :
    ARel M0 w0 st { a with defers := { target := .collected w.heap.size, args := #[] } :: a.defers } (W.putObj (w.heap.size + 1) (.loop rec')) := by
 obtain ⟨kept, two, mark, glt, ⟨Ds, d1, d2, d3⟩, β, mem, hf, hfree, ht, hM⟩ := h
 have slo : aC_ W (w.heap.size + 1) = none := by simp [aC_, hrec]
 obtain ⟨p1, p2, p3, p4, p5, p6, p7⟩ := oZ_ (o' := .loop rec') hrec slo
 have numK : ∀ i b s, β i = some (b, s) → ¬ w0.K b ∧ b ≠ w.heap.size + 1 ∧ b < W.heap.size := fun i b s hi => by
  have hr := mem.rng i b s hi
  exact ⟨fun hk => hr.1 ⟨hr.2, .inl hk⟩, fun e => hr.1 ⟨hr.2, .inr (.inr (.inl e))⟩, hr.2⟩
 have st1 : StabC (MM (fun b => M0 b ∨ G b) β (lookB st.hp)) (MM M0 β (lookB st.hp)) β β W (W.putObj (w.heap.size + 1) (.loop rec')) :=
  ⟨fun b N hb _ => p6 b (fun e => by subst e; rw [slo] at hb; cases hb), fun b N _ hm => hm.imp .inl id, fun _ _ h => h, p7⟩
 refine ⟨β, ⟨⟨p1.trans kept.os, p2.trans kept.tape, p3.trans kept.output, Nat.le_trans kept.size (Nat.le_of_eq p4.symm), fun b hb => (p6 b (by have := hlt b hb; omega)).trans (kept.block b hb), fun b n hb => p7 b n (kept.sizes b n hb)⟩, (fun b hb => ⟨hm0 b hb, (mem.m0 b (.inl hb)).2⟩), fun i b s hi => ⟨(numK i b s hi).1, by rw [p4]; exact (numK i b s hi).2.2⟩, mem.pin, fun i B hi => ?_, mem.inj⟩, hn.trans hsn.symm, fun t x hx => ?_, hfree, ⟨w.heap.size :: Ds, ?_, List.nodup_cons.2 ⟨fun hD => by have := (d3 _ hD).1; omega, d2⟩, fun D hD => ?_⟩⟩
 ·obtain ⟨b, r1, r2⟩ := mem.blk i B hi
  exact ⟨b, r1, r2.stab st1 (p6 b (numK i b _ r1).2.1)⟩
 ·exact st1.all (hf t x hx)
 ·show _ :: a.defers = _; rw [d1]; rfl
 ·rcases List.mem_cons.1 hD with rfl | hD
  ·exact ⟨(p6 _ (by omega)).trans mark, fun hk => by have := hlt _ hk; omega⟩
  ·have h1 := d3 D hD
   exact ⟨(p6 D (by omega)).trans h1.2.1, h1.2.2⟩
theorem AWp.rangeFuncB {Q : Exit → AState → Prop} {f : Operand} {fr : Fr} {hp : Hp} {nx n g : Nat} {cap : List AV} {T : Nat → Option (List AV)} (N : Nat) (S : α → AState) (kk : α → Nat) (Inv : α → Prop) (X : γ → AState) (PX : Exit → γ → Prop) (a0 : α)
    (hf : evF (look (S a0).fr) f = some (.clos g [] cap)) (hs : GSpecB P g (cap.map coe) T N) (hps : ps.toList.all (Nat.blt · n) = true) (hng : Nat.ble n 1000 = true) (hT : ∀ k as, T k = some as → as.length = ps.size)
    (hSn : ∀ a, (S a).n = n ∧ loFr (S a).fr = true) (hXn : ∀ c, (X c).n = n) (hi : Inv a0) (hk0 : kk a0 = 0) (hb : ∀ a, Inv a → kk a ≤ N)
    (h0 : SEntT ⟨fr, hp, nx, n⟩ (S a0)) (hcap : (∀ x ∈ cap.map coe, Closed x))
    (hround : ∀ l a as, Inv a → T (kk a) = some as → AWp (some l) P assign (thenA (AWp (some l) P body (mA_ S (fun a' => Inv a' ∧ kk a' = kk a + 1) X PX n)) (fun _ _ => False)) ⟨setPs (S a).fr ps.toList as ++ bT_ (S a).fr, (S a).hp, (S a).nx, n⟩)
    (hdone : ∀ a, Inv a → T (kk a) = none → Q .normal (S a)) (hstop : ∀ e c, PX e c → Q e (X c)) : AWp none P (.rangeFunc f ps assign body) Q ⟨fr, hp, nx, n⟩ := by
 intro M0 w0 a w hr
 have hm0 : ∀ b, M0 b → w0.K b := by obtain ⟨_, m, _⟩ := hr; exact fun b hb => (m.m0 b hb).1
 have hlt : ∀ b, w0.K b → b < w.heap.size := by obtain ⟨_, m, _⟩ := hr; exact fun b hb => Nat.lt_of_lt_of_le (w0.lt b hb) m.below.size
 have hm0' : ∀ b, M0 b → b < w.heap.size := fun b hb => hlt b (hm0 b hb)
 have hn : a.tmps.size = n := by obtain ⟨_, _, h1, _⟩ := hr; exact h1
 have hng' : n ≤ GH := Nat.le_of_ble_eq_true hng
 have hps' : ∀ p ∈ ps.toList, p < n := fun p hp => Nat.le_of_ble_eq_true (List.all_eq_true.1 hps p hp)
 obtain ⟨β, mem, _, hfr, hfree, hdef, ht⟩ := h0 M0 w0 a w hr
 obtain ⟨xs, ys, hfe, hr1, hr2⟩ := fT_ hfr f _ hf
 have hxs : xs = #[] := by have : xs.toList = [] := hr1; simpa using this
 subst hxs
 refine wpIn_rangeFunc ?_
 intro fn _
 obtain ⟨rec0, hrec0⟩ : ∃ r : Loop, r = { state := .ready, pending := none, fn, tmps := a.tmps, params := ps, assign, body, defers := w.heap.size } := ⟨_, rfl⟩
 obtain ⟨hw1, hl1⟩ := Wait.begin hlt hm0 mem hfr hfree hdef ht rec0
 obtain ⟨W1, hW1⟩ : ∃ W1, W1 = (w.alloc (.deferred (some []))).alloc (.loop rec0) := ⟨_, rfl⟩
 rw [← hW1] at hw1 hl1
 have hcapv : RVs (fun b => M0 b ∨ b = w.heap.size + 1 ∨ b = w.heap.size ∨ ∃ i s, β i = some (b, s)) (fun _ => none) W1 (cap.map coe) ys.toList := by
  have hbel : Below w.heap.size w W1 := by rw [hW1]; exact ((Below.refl _ w).alloc (Nat.le_refl _) _).alloc (by simp) _
  have h1 := (mem.ext hbel).2.vs (fk_ hr2)
  refine kx_ (fun b N hb hm => ?_) (cU_ hcap h1)
  rcases hm with hm | rfl | rfl | ⟨i, s, hm⟩
  ·exact .inl hm
  ·simp [aC_, hl1] at hb
  ·simp [aC_, hw1.mark] at hb
  ·obtain ⟨B, hB⟩ := Option.isSome_iff_exists.1 (ht i _ hm)
   exact .inr ⟨i, B, s, hB, hm⟩
 let E : GEnv P (w.heap.size + 1) T N := {
  J := fun k go M G W =>
   (go = true ∧ ∃ x, Inv x ∧ kk x = k ∧ W.heap[w.heap.size + 1]? = some (.loop rec0) ∧ Wait M0 w0 a w M G (S x) W) ∨
   (go = false ∧ ∃ e j c, eo_ e = some j ∧ PX e c ∧ W.heap[w.heap.size + 1]? = some (.loop { rec0 with state := .done, pending := some j }) ∧ Wait M0 w0 a w M G (X c) W)
  ok := by
   have keep : ∀ {M G G' : Nat → Prop} {W W' : World} {st : AState}, Wait M0 w0 a w M G st W → GStep G G' W W' → W'.heap[w.heap.size + 1]? = W.heap[w.heap.size + 1]? := fun h hs => hs.block _ (by have := h.two; omega) (fun hG => by have := (h.glt _ hG).1; omega)
   rintro k go M G G' W W' (⟨h1, x, h2, h3, h4, h5⟩ | ⟨h1, e, j, c, h2, h3, h4, h5⟩) hs
   ·exact .inl ⟨h1, x, h2, h3, (keep h5 hs).trans h4, h5.step hm0' hlt hs⟩
   ·exact .inr ⟨h1, e, j, c, h2, h3, (keep h5 hs).trans h4, h5.step hm0' hlt hs⟩
  bound := by
   rintro k M G W (⟨_, x, h2, rfl, _⟩ | ⟨h1, _⟩)
   ·exact hb x h2
   ·cases h1
  disj := by
   rintro k go M G W (⟨_, x, _, _, _, h5⟩ | ⟨_, e, j, c, _, _, _, h5⟩)
   ·exact h5.disj hm0'
   ·exact h5.disj hm0'
  tabs := by
   rintro k go M G W (⟨_, x, _, _, _, h5⟩ | ⟨_, e, j, c, _, _, _, h5⟩)
   ·exact h5.tabs hlt
   ·exact h5.tabs hlt
  yok := by
   rintro k M G W as vals (⟨_, x, h2, rfl, h4, h5⟩ | ⟨h1, _⟩) hTk hv hG
   ·have hlen : vals.length = ps.size := hv.length.trans (hT _ _ hTk)
    have hy := run_yield (P := P) (args := vals.toArray) h4 (by rw [hrec0]; simpa using hlen)
    refine ⟨_, _, _, _, hy, ?_⟩
    have e1 : rec0.tmps = a.tmps := by rw [hrec0]
    have e2 : rec0.params = ps := by rw [hrec0]
    have e3 : rec0.assign = assign := by rw [hrec0]
    have e4 : rec0.body = body := by rw [hrec0]
    rw [e1, e2, e3, e4]
    refine h5.round hm0' hlt hn hng' rfl h4 (by rw [hrec0]) (hSn x).2 hv hps' _ (hround _ x as h2 hTk) (fun x' M' W4 hx' hw4 hg4 hl4 => ?_) (fun e j c M' W4 hj hPX hw4 hg4 hl4 => ?_)
    ·refine ⟨true, M', rfl, .inl ⟨rfl, x', hx'.1, hx'.2, ?_, hw4⟩, hg4⟩
     rw [hl4, hrec0]
    ·exact ⟨false, M', rfl, .inr ⟨rfl, e, j, c, hj, hPX, by rw [hl4, e1, e2, e3, e4], hw4⟩, hg4⟩
   ·cases h1 }
 refine ⟨w.heap.size + 1, [{ target := .collected w.heap.size, args := #[] }], W1, { target := .fn (.func g) ys, args := #[.func (.yield (w.heap.size + 1)) #[] #[]] }, W1, g, #[.func (.yield (w.heap.size + 1)) #[] #[]] ++ ys, W1, by rw [hW1, hrec0]; exact run_enterLoop_outer _ _ _ _ _, ?_, fun _ _ => trivial, ?_, fun h => by simp [FR] at h, ?_⟩
 ·simp only [resolve, hfe, Deferred.ofValue, Sem.run_pure]
  simp
  rfl
 ·simp only [invoke, hs.enters]
 ·have hc := hs.calls (w.heap.size + 1) N (Nat.le_refl N) E _ W1 ys.toList (.inl ⟨rfl, a0, hi, hk0, hl1, hw1⟩) hcapv
  rw [Array.toArray_toList] at hc
  refine hc.mono ?_
  rintro e W2 ⟨⟨v, rfl⟩, k, go, M', G', hJ, hTk⟩
  rcases hJ with ⟨rfl, x, h2, rfl, h4, h5⟩ | ⟨rfl, e, j, c, h2, h3, h4, h5⟩
  ·refine ⟨none, _, by have := run_endLoop (P := P) h4 (by rw [hrec0]; simp); rw [this]; rw [hrec0], S x, h5.over hlt hm0 hn (hSn x).1 h4, hdone x h2 (hTk rfl)⟩
  ·refine ⟨some j, _, run_endLoop (P := P) h4 (by simp), ?_⟩
   have har := h5.over hlt hm0 hn (hXn c) (rec' := { ({ rec0 with state := .done, pending := some j } : Loop) with state := .exhausted }) h4
   have hq := hstop e c h3
   cases e with
   | ret => simp only [eo_, Option.some.injEq] at h2; subst h2; exact wpIn_ret ⟨_, har, hq⟩
   | exit id => simp only [eo_, Option.some.injEq] at h2; subst h2; exact wpIn_exit ⟨_, har, hq⟩
   | goto t => simp only [eo_, Option.some.injEq] at h2; subst h2; exact wpIn_goto ⟨_, har, hq⟩
   | normal => cases h2
   | panic ch => cases h2
   | outgrown => cases h2
theorem AWp.rangeFunc {Q : Exit → AState → Prop} {f : Operand} {fr : Fr} {hp : Hp} {nx n g : Nat} {cap : List AV} {T : Nat → Option (List AV)} (N : Nat) (S : α → AState) (kk : α → Nat) (Inv : α → Prop) (X : γ → AState) (PX : Exit → γ → Prop) (a0 : α)
    (hf : evF (look (S a0).fr) f = some (.clos g [] cap)) (hs : GSpec P g (cap.map coe) T) (hps : ps.toList.all (Nat.blt · n) = true) (hng : Nat.ble n 1000 = true) (hT : ∀ k as, T k = some as → as.length = ps.size)
    (hSn : ∀ a, (S a).n = n ∧ loFr (S a).fr = true) (hXn : ∀ c, (X c).n = n) (hi : Inv a0) (hk0 : kk a0 = 0) (hb : ∀ a, Inv a → kk a ≤ N)
    (h0 : SEntT ⟨fr, hp, nx, n⟩ (S a0)) (hcap : (∀ x ∈ cap.map coe, Closed x))
    (hround : ∀ l a as, Inv a → T (kk a) = some as → AWp (some l) P assign (thenA (AWp (some l) P body (mA_ S (fun a' => Inv a' ∧ kk a' = kk a + 1) X PX n)) (fun _ _ => False)) ⟨setPs (S a).fr ps.toList as ++ bT_ (S a).fr, (S a).hp, (S a).nx, n⟩)
    (hdone : ∀ a, Inv a → T (kk a) = none → Q .normal (S a)) (hstop : ∀ e c, PX e c → Q e (X c)) : AWp none P (.rangeFunc f ps assign body) Q ⟨fr, hp, nx, n⟩ :=
 AWp.rangeFuncB N S kk Inv X PX a0 hf (hs N) hps hng hT hSn hXn hi hk0 hb h0 hcap hround hdone hstop
end
theorem GSpecB.enter {P : Program} {f : Nat} {fn : Func} {c : Code} {cap : List AV} {T : Nat → Option (List AV)} {K : Nat} (hf : P.funcs[f]? = some fn) (hb : fn.body = some c) (hname : (fn.name == "runtime.NumGoroutine") = false) (hrs : fn.results.toList = []) {m : Nat} (hm : fn.ntmps = m) (hn : Nat.ble (cap.length + 1) m = true)
    (hcl : ∀ a ∈ cap, Closed a) (hclT : ∀ k as, T k = some as → ∀ a ∈ as, Closed a) {fr : Fr} (hfr : argFr 1 cap = fr)
    (h : ∀ l N (_ : N ≤ K) (E : GEnv P l T N), GWp E c (fun e k go _ => (e = .normal ∨ e = .ret) ∧ (go = true → T k = none)) 0 true ⟨(0, .v (.func (.yield l) #[] #[])) :: fr, [], 1, m⟩) : GSpecB P f cap T K := by
 subst hfr; exact GSpecB.intro hf hb hname hrs hm hn hcl hclT h
theorem GSpec.enter {P : Program} {f : Nat} {fn : Func} {c : Code} {cap : List AV} {T : Nat → Option (List AV)} (hf : P.funcs[f]? = some fn) (hb : fn.body = some c) (hname : (fn.name == "runtime.NumGoroutine") = false) (hrs : fn.results.toList = []) {m : Nat} (hm : fn.ntmps = m) (hn : Nat.ble (cap.length + 1) m = true)
    (hcl : ∀ a ∈ cap, Closed a) (hclT : ∀ k as, T k = some as → ∀ a ∈ as, Closed a) {fr : Fr} (hfr : argFr 1 cap = fr)
    (h : ∀ l N (E : GEnv P l T N), GWp E c (fun e k go _ => (e = .normal ∨ e = .ret) ∧ (go = true → T k = none)) 0 true ⟨(0, .v (.func (.yield l) #[] #[])) :: fr, [], 1, m⟩) : GSpec P f cap T := fun K => by
 subst hfr; exact GSpecB.intro hf hb hname hrs hm hn hcl hclT (fun l N _ E => h l N E)
section
variable {P : Program} {T : Nat} {x y : Operand} {a b : Int}
theorem h9_ (hb : b ≠ 0) (h : -9223372036854775808 ≤ a.tdiv b ∧ a.tdiv b ≤ 9223372036854775807) : ∀ w, (do eqGuard .quo T x y (.int .i64 a) (.int .i64 b); binOp .quo T (.int .i64 a) (.int .i64 b) : Sem Value).run P w = .ok (.int .i64 (a.tdiv b)) w := fun w => by
 rw [g2_ hb, IntWalk.i64_in _ h]
theorem qu_ (hb : b ≠ 0) : ∀ w, (do eqGuard .rem T x y (.int .i64 a) (.int .i64 b); binOp .rem T (.int .i64 a) (.int .i64 b) : Sem Value).run P w = .ok (.int .i64 (a.tmod b)) w := fun w => by
 rw [fZ_ hb]
end
theorem AEval.callS2 {P : Program} {id : Nat} {ev : Operand → Option AV} {hp : Nat → Option ABlk} {c : Call} {callee : Operand} {f : Nat} {fst cap as as' as2 : List AV} {ids : List Nat} {r : AV} (h1 : c.callee = .value callee) (h2 : ev callee = some (.clos f fst cap)) (h3 : evs ev c.args.toList = some as) (h4 : SealArgs hp (fst ++ as ++ cap) as2 ids) (he : as2 = as') (h5 : FSpec P f as' r) :
    AEval P id ev hp (.call c) ⟨r, ids.map fun i => (i, none)⟩ ids := by subst he; exact .callS h1 h2 h3 h4 h5
theorem AEval.callS1 {P : Program} {id : Nat} {ev : Operand → Option AV} {hp : Nat → Option ABlk} {c : Call} {callee : Operand} {f i : Nat} {fst cap as as' as2 : List AV} {r : AV} (h1 : c.callee = .value callee) (h2 : ev callee = some (.clos f fst cap)) (h3 : evs ev c.args.toList = some as) (h4 : SealArgs hp (fst ++ as ++ cap) as2 [i]) (he : as2 = as') (h5 : FSpec P f as' r) :
    AEval P id ev hp (.call c) ⟨r, [(i, none)]⟩ [i] := .callS2 h1 h2 h3 h4 he h5
theorem FSpec.argE {P : Program} {f : Nat} {X Y : List (List AV)} {r : AV} (h : FSpec P f [.arr Y] r) (e : X = Y) : FSpec P f [.arr X] r := e ▸ h
theorem FSpec.argE2 {P : Program} {f : Nat} {X Y : List (List AV)} {a r : AV} (h : FSpec P f [a, .arr Y] r) (e : X = Y) : FSpec P f [a, .arr X] r := e ▸ h
theorem AWp.cutB {ρ : Option Nat} {P : Program} {Q Q' : Exit → AState → Prop} {st : AState} {x y : Code} {id : Nat} {α : Type} (S : α → AState) (Post : α → Prop) (h : AWp ρ P x (cutA S Post (nx_ id (thenA (AWp ρ P y Q) Q'))) st) (h2 : ∀ a, Post a → AWp ρ P y Q (S a)) : AWp ρ P x (nx_ id (thenA (AWp ρ P y Q) Q')) st :=
 AWp.mono h fun e s hs => by
  cases e with
  | normal => obtain ⟨a, h3, h4⟩ := hs; exact AWp.ent h4 (h2 a h3)
  | _ => exact hs
theorem aP_ {cs : List AV} {i o : Nat} (h : ∀ c ∈ cs, Closed c) : Closed (.aptr [cs] i o) :=
 dC_ fun e he c hc => by rw [List.mem_singleton.1 he] at hc; exact h c hc
theorem Cv.boxp {r : Ren} {hp hp' : Nat → Option ABlk} {id o : Nat} {B : ABlk} {cs : List AV} (h : Shr r hp hp') (hi : cellF hp id = some B) (hd : Dead r hp' id) (e : B.es = [cs]) (hc : ∀ c ∈ cs, Closed c) : Cv r hp hp' (.lptr id 0 o) (.aptr [cs] 0 o) := by
 refine Cv.sealp h hi hd (by rw [e]; exact Nat.zero_lt_one) ?_
 rw [e]
 exact bl_ h fun e he c hc' => by rw [List.mem_singleton.1 he] at hc'; exact hc c hc'
theorem FSpec.nil1 {P : Program} {f : Nat} {r : AV} (h : ∀ a c, FSpec P f [.v (.slice a 0 c)] r) : FSpec P f [.arr []] r := by
 refine ⟨fun a ha => ?_, (h none 0).enters, fun M w vals hM hargs => ?_⟩
 ·rw [List.mem_singleton.1 ha]; exact aw_ fun e he => by cases he
 ·obtain ⟨x, xs, e, ⟨a, c, hx, _⟩, hr⟩ := hargs
  exact (h a c).calls M w vals hM ⟨x, xs, e, hx, hr⟩
section
variable {P : Program} {T : Nat} {d : Nat × Nat} {x y : Operand}
theorem oo_ (h : elOf P T = some d) : ∃ e, P.underlying T = some (.slice e) := by
 unfold elOf at h
 split at h
 ·exact ⟨_, by assumption⟩
 ·cases h
theorem nilE {a : Option Addr} {n c : Nat} (h : elOf P T = some d) (w : World) : (do eqGuard .eql T x y (.slice a n c) (.slice none 0 0); binOp .eql T (.slice a n c) (.slice none 0 0) : Sem Value).run P w = .ok (.bool a.isNone) w := by
 obtain ⟨e, hu⟩ := oo_ h
 have : (Op.equal T (.slice a n c) (.slice none 0 0)).run P w = .ok a.isNone w := by
  unfold Op.equal
  rw [show Op.maxDepth = (Op.maxDepth - 1) + 1 from rfl]
  cases a <;> simp [Op.equalIn, run_underlying hu]
 simp [eqGuard, binOp, this]
theorem AEval.nilq_arr {id : Nat} {ev : Operand → Option AV} {hp : Nat → Option ABlk} {x y : Operand} {yt : Nat} {es : List (List AV)} (hx : ev x = some (.arr es)) (hn : es ≠ []) (hy : y = .const (.slice none 0 0)) (h : elOf P T = some d) :
    AEval P id ev hp (.binOp .eql T x y yt) ⟨.v (.bool false), []⟩ [] :=
 .bin_c hx hy fun M β w' xv hr w => by
  obtain ⟨a, c, rfl, _, _, h3⟩ := hr
  obtain ⟨b, off, s, rfl, _⟩ := h3.resolve_left hn
  exact nilE h w
theorem AEval.nilq_v {id : Nat} {ev : Operand → Option AV} {hp : Nat → Option ABlk} {x y : Operand} {yt n c : Nat} {a : Option Addr} (hx : ev x = some (.v (.slice a n c))) (hy : y = .const (.slice none 0 0)) (h : elOf P T = some d) :
    AEval P id ev hp (.binOp .eql T x y yt) ⟨.v (.bool a.isNone), []⟩ [] :=
 .bin_c hx hy fun M β w' xv hr w => by
  cases (hr : xv = _)
  exact nilE h w
end
section
variable {P : Program} {fr : Fr} {hp : Hp} {nx n : Nat} {r : AV}
theorem Fin.tmpN {t : Nat} (h : look fr t = some .emp) : Fin P [.tmp t] (.arr []) .ret ⟨fr, hp, nx, n⟩ := Fin.tmp h (Cv.emp _)
theorem Fin.tmpS {t id k sz : Nat} {cap : Option Nat} {B : ABlk} {es : List (List AV)} (h : look fr t = some (.lsl id 0 k cap sz)) (hb : cellF (lookB hp) id = some B) (e : B.es = es) (hn : k = es.length) (hc : ∀ e ∈ es, ∀ c ∈ e, Closed c) : Fin P [.tmp t] (.arr es) .ret ⟨fr, hp, nx, n⟩ :=
 Fin.tmp h (Cv.sealE at_ hb (fun _ _ h => by cases h) e hn hc)
theorem Fin.tmpP {t id o : Nat} {B : ABlk} {cs : List AV} (h : look fr t = some (.lptr id 0 o)) (hb : cellF (lookB hp) id = some B) (e : B.es = [cs]) (hc : ∀ c ∈ cs, Closed c) : Fin P [.tmp t] (.aptr [cs] 0 o) .ret ⟨fr, hp, nx, n⟩ :=
 Fin.tmp h (Cv.boxp at_ hb (fun _ _ h => by cases h) e hc)
end
theorem Cv.slN {r : Ren} {hp hp' : Nat → Option ABlk} {id id' i n sz : Nat} {cap : Option Nat} (hi : Nat.blt id' r.n = true) (hs : r.s id' = id) (hl : (hp' id').isSome = true) : Cv r hp hp' (.lsl id i n cap sz) (.lsl id' i n none sz) := by
 rintro M0 w0 β w y _ ⟨b, c, hb, e, h1, h2, h3, h4⟩
 exact ⟨b, c, by rw [Ren.app_of (Nat.le_of_ble_eq_true hi) hl, hs]; exact hb, e, h1, h2, (fun _ h => by cases h), h4⟩
def Le (a a' : AV) : Prop := ∀ (M : Nat → Prop) β w y, RV M β w a y → RV M β w a' y
inductive LeL : List AV → List AV → Prop
 | nil : LeL [] []
 | cons {a a' as as'} : Le a a' → LeL as as' → LeL (a :: as) (a' :: as')
theorem Le.refl (a : AV) : Le a a := fun _ _ _ _ h => h
theorem Le.emp : Le .emp (.arr []) := fun _ _ _ _ h => mz_ h
theorem LeL.refl : ∀ as, LeL as as
 | [] => .nil
 | a :: as => .cons (Le.refl a) (LeL.refl as)
theorem LeL.rvs {M : Nat → Prop} {β : Nat → Option (Nat × Nat)} {w : World} {as as' : List AV} (h : LeL as as') : ∀ {ys : List Value}, RVs M β w as ys → RVs M β w as' ys := by
 induction h with
 | nil => exact fun h => h
 | cons h1 _ ih => rintro ys ⟨x, xs, e, r1, r2⟩; exact ⟨x, xs, e, h1 M β w x r1, ih r2⟩
theorem Le.agg {cs cs' : List AV} (h : LeL cs cs') : Le (.agg cs) (.agg cs') := fun M β w y => by
 rintro ⟨xs, e, hr⟩; exact ⟨xs, e, h.rvs hr⟩
theorem FSpec.weak {P : Program} {f : Nat} {as as' : List AV} {r : AV} (h : FSpec P f as' r) (hl : LeL as as') (hc : ∀ a ∈ as, Closed a) : FSpec P f as r :=
 ⟨hc, h.enters, fun M w vals hM hv => h.calls M w vals hM (hl.rvs hv)⟩
def bE (s : List UInt8) : List (List AV) := s.map fun c => [.v (.int .u8 c.toNat)]
theorem bx_ (s : List UInt8) : (bE s).length = s.length := by simp [bE]
theorem lo_ (s : List UInt8) : ∀ e ∈ bE s, ∀ c ∈ e, Closed c := by
 intro e he c hc
 obtain ⟨x, _, rfl⟩ := List.mem_map.1 he
 rw [List.mem_singleton.1 hc]; exact ad_ _
theorem lw_ (s t : List UInt8) : bE (s ++ t) = bE s ++ bE t := by simp [bE]
def bldC (i j : Nat) : Option (List UInt8) → List AV
 | none => [.v (.pointer none), .emp]
 | some s => [.lptr i 0 0, .lsl j 0 s.length none 1]
def updB (tB tb i j id : Nat) (s : Option (List UInt8)) (t : List UInt8) : List (Nat × Option ABlk) :=
 match s with
 | none => [(i, some ⟨tB, 2, [bldC i id (some t)]⟩), (id, some ⟨tb, 1, bE t⟩)]
 | some _ => [(j, none), (i, some ⟨tB, 2, [bldC i id (some t)]⟩), (id, some ⟨tb, 1, bE t⟩)]
def Pure (a : AV) : Prop := ∀ (M M' : Nat → Prop) β β' w w' y, RV M β w a y → RV M' β' w' a y
structure BSpec (P : Program) (f tB tb : Nat) (s : Option (List UInt8)) (t : List UInt8) (args : List AV) (r : AV) : Prop where
 cl : ∀ a ∈ args, Closed a
 enters : ∀ (xs : Array Value) (w : World), (callFunc f xs).run P w = .ok (.enter f xs) w
 calls : ∀ (M0 : Nat → Prop) (w0 : Base) (β : Nat → Option (Nat × Nat)) (hp : Nat → Option ABlk) (w : World) (id i j : Nat) (y0 : Value) (vals : List Value), Mem M0 w0 β hp w → id ≠ 0 → β id = none → hp id = none → hp i = some ⟨tB, 2, [bldC i j s]⟩ →
  (∀ q, s = some q → hp j = some ⟨tb, 1, bE q⟩ ∧ i ≠ j) → RV (MM M0 β hp) β w (.lptr i 0 0) y0 → RVs (MM M0 β hp) (fun _ => none) w args vals →
  Calls P f (y0 :: vals).toArray w fun x w' => ∃ y, x = .returned y ∧ ∃ β', After M0 w0 β hp w id ⟨r, updB tB tb i j id s t⟩ y w' β'
section
variable {P : Program} {M0 : Nat → Prop} {w0 : Base} {β : Nat → Option (Nat × Nat)} {hp : Nat → Option ABlk} {w w' : World}
theorem Mem.two (h : Mem M0 w0 β hp w) {i id b bk tB tb : Nat} {B : ABlk} {D : Nat → Prop} {es es2 : List (List AV)} {hp2 : Nat → Option ABlk} {cs ck : Array Value} (hi : hp i = some B) (hb : β i = some (b, 2)) (hid0 : id ≠ 0) (hid : β id = none) (hidh : hp id = none)
    -- hp2: the blocks but for those that are given up
    (hsub : ∀ x X, hp2 x = some X → hp x = some X) (h2i : hp2 i = some B) (hD : ∀ x, D x → x = b ∨ ∃ m X s, hp m = some X ∧ β m = some (x, s) ∧ (hp2 m = none)) (hDb : D b)
    (os : w'.os = w.os ∧ w'.tape = w.tape ∧ w'.output = w.output) (size : w.heap.size ≤ w'.heap.size) (block : ∀ x, x < w.heap.size → ¬ D x → w'.heap[x]? = w.heap[x]?) (sizes : ∀ x n, aC_ w x = some n → aC_ w' x = some n)
    (hbk : bk < w'.heap.size) (hbkn : w.heap.size ≤ bk ∨ (D bk ∧ bk ≠ b))
    (hcs : w'.heap[b]? = some (.cells cs tB (0, 0))) (hck : w'.heap[bk]? = some (.cells ck tb (0, 0)))
    (hes : ∀ M β2, (∀ m x, β m = some x → β2 m = some x) → β2 id = some (bk, 1) → RVess M β2 w' b 2 es 0) (hes2 : ∀ M β2, RVess M β2 w' bk 1 es2 0) (hl : es.length * 2 ≤ cs.size) (hl2 : es2.length * 1 ≤ ck.size) :
    Mem M0 w0 (upd β id (some (bk, 1))) (upd (upd hp2 i (some ⟨tB, 2, es⟩)) id (some ⟨tb, 1, es2⟩)) w' ∧
     Stab (MM M0 β hp) (MM M0 (upd β id (some (bk, 1))) (upd (upd hp2 i (some ⟨tB, 2, es⟩)) id (some ⟨tb, 1, es2⟩))) β (upd β id (some (bk, 1))) w w' := by
 obtain ⟨β2, hβ2⟩ : ∃ x, x = upd β id (some (bk, 1)) := ⟨_, rfl⟩
 obtain ⟨hp3, hhp3⟩ : ∃ x, x = upd (upd hp2 i (some (⟨tB, 2, es⟩ : ABlk))) id (some ⟨tb, 1, es2⟩) := ⟨_, rfl⟩
 rw [← hβ2, ← hhp3]
 have hiid : i ≠ id := fun e => by subst e; rw [hi] at hidh; cases hidh
 have hbe : ∀ m x, β m = some x → β2 m = some x := fun m x hm => by
  rw [hβ2, aM_]; exact hm
  intro e; subst e; rw [hid] at hm; cases hm
 have hβid : β2 id = some (bk, 1) := by rw [hβ2, aH_]
 have h3id : hp3 id = some ⟨tb, 1, es2⟩ := by rw [hhp3, aH_]
 have h3i : hp3 i = some ⟨tB, 2, es⟩ := by rw [hhp3, aM_ _ _ hiid, aH_]
 have h3o : ∀ x, x ≠ id → x ≠ i → hp3 x = hp2 x := fun x h1 h2 => by rw [hhp3, aM_ _ _ h1, aM_ _ _ h2]
 have hβo : ∀ x, x ≠ id → β2 x = β x := fun x h1 => by rw [hβ2, aM_ _ _ h1]
 -- what is not written
 have nD : ∀ m X c s, hp2 m = some X → m ≠ i → β m = some (c, s) → ¬ D c := by
  intro m X c s hm hmi hc hd
  rcases hD c hd with rfl | ⟨m', X', s', h1, h2, h3⟩
  ·exact hmi (h.inj m i X B c s 2 (hsub m X hm) hi hc hb)
  ·have := h.inj m m' X X' c s s' (hsub m X hm) h1 hc h2
   subst this; rw [hm] at h3; cases h3
 have nK : ∀ x, D x → ¬ w0.K x := by
  intro x hd
  rcases hD x hd with rfl | ⟨m', X', s', _, h2, _⟩
  ·exact (h.rng i _ 2 hb).1
  ·exact (h.rng m' x s' h2).1
 have nbK : ¬ w0.K bk := by
  rcases hbkn with hn | hn
  ·intro hk; have := w0.lt bk hk; have := h.below.size; omega
  ·exact nK bk hn.1
 have hmmD : ∀ x, D x → MM M0 β hp x := by
  intro x hd
  rcases hD x hd with rfl | ⟨m', X', s', h1, h2, _⟩
  ·exact .inr ⟨i, B, 2, hi, hb⟩
  ·exact .inr ⟨m', X', s', h1, h2⟩
 have hDc : ∀ x, D x → ∃ N, aC_ w x = some N := by
  intro x hd
  have key : ∀ m X s, hp m = some X → β m = some (x, s) → ∃ N, aC_ w x = some N := by
   intro m X s h1 h2
   obtain ⟨b', e1, e2⟩ := h.blk m X h1
   rw [h2] at e1; cases e1
   exact e2.size
  rcases hD x hd with rfl | ⟨m', X', s', h1, h2, _⟩
  ·exact key i B 2 hi hb
  ·exact key m' X' s' h1 h2
 have hmm : ∀ c, MM M0 β2 hp3 c → MM M0 β hp c ∨ w.heap.size ≤ c := by
  rintro c (hc | ⟨m, X, s, h1, h2⟩)
  ·exact .inl (.inl hc)
  ·by_cases hm : m = id
   ·subst hm; rw [hβid] at h2; cases h2
    rcases hbkn with hn | hn
    ·exact .inr hn
    ·exact .inl (hmmD bk hn.1)
   ·rw [hβo m hm] at h2
    by_cases hmi : m = i
    ·subst hmi; exact .inl (.inr ⟨m, B, s, hi, h2⟩)
    ·rw [h3o m hm hmi] at h1; exact .inl (.inr ⟨m, X, s, hsub m X h1, h2⟩)
 have st : Stab (MM M0 β hp) (MM M0 β2 hp3) β β2 w w' :=
  ⟨⟨fun c N hs hm => block c (bf_ hs) fun hd => hm (hmmD c hd), fun c N hs hm => (hmm c hm).elim (fun h => h) fun hn => by have := bf_ hs; omega, hbe, sizes⟩,
   fun c hlt hn => block c hlt fun hd => by obtain ⟨N, hN⟩ := hDc c hd; rw [hN] at hn; cases hn⟩
 refine ⟨⟨⟨os.1.trans h.below.os, os.2.1.trans h.below.tape, os.2.2.trans h.below.output, Nat.le_trans h.below.size size, fun k hk => (block k (Nat.lt_of_lt_of_le (w0.lt k hk) h.below.size) fun hd => nK k hd hk).trans (h.below.block k hk), fun c n hs => sizes c n (h.below.sizes c n hs)⟩, h.m0,
  fun m c s hm => ?_, fun h0 => ?_, fun m X hm => ?_, fun m k X Y c s s' h1 h2 h3 h4 => ?_⟩, st⟩
 ·by_cases hmid : m = id
  ·subst hmid; rw [hβid] at hm; cases hm; exact ⟨nbK, hbk⟩
  ·rw [hβo m hmid] at hm; exact ⟨(h.rng m c s hm).1, Nat.lt_of_lt_of_le (h.rng m c s hm).2 size⟩
 ·rw [hβo 0 (Ne.symm hid0)]
  refine h.pin ?_
  by_cases h0i : 0 = i
  ·rw [h0i, hi]; rfl
  ·rw [h3o 0 (Ne.symm hid0) h0i] at h0
   obtain ⟨X, hX⟩ := Option.isSome_iff_exists.1 h0
   rw [hsub 0 X hX]; rfl
 ·by_cases hmid : m = id
  ·subst hmid; rw [h3id] at hm; cases hm
   exact ⟨bk, hβid, .inl ⟨Nat.one_ne_zero, ck, hck, hes2 _ _, hl2⟩⟩
  ·by_cases hmi : m = i
   ·subst hmi; rw [h3i] at hm; cases hm
    exact ⟨b, hbe _ _ hb, .inl ⟨(by decide : (2 : Nat) ≠ 0), cs, hcs, hes _ _ hbe hβid, hl⟩⟩
   ·rw [h3o m hmid hmi] at hm
    obtain ⟨c, e1, e2⟩ := h.blk m X (hsub m X hm)
    exact ⟨c, hbe _ _ e1, e2.stab st.toStabC (block c (h.rng m c _ e1).2 (nD m X c _ hm hmi e1))⟩
 ·have key : ∀ m X c s, hp3 m = some X → β2 m = some (c, s) → m ≠ id → ∃ X', hp m = some X' ∧ β m = some (c, s) ∧ c ≠ bk := by
   intro m X c s hm hc hmid
   rw [hβo m hmid] at hc
   by_cases hmi : m = i
   ·subst hmi
    rw [hb] at hc; cases hc
    refine ⟨B, hi, hb, ?_⟩
    rintro rfl
    rcases hbkn with hn | hn
    ·have := (h.rng m _ 2 hb).2; omega
    ·exact hn.2 rfl
   ·rw [h3o m hmid hmi] at hm
    refine ⟨X, hsub m X hm, hc, ?_⟩
    rintro rfl
    rcases hbkn with hn | hn
    ·have := (h.rng m _ s hc).2; omega
    ·exact nD m X _ s hm hmi hc hn.1
  by_cases hm : m = id
  ·by_cases hk : k = id
   ·rw [hm, hk]
   ·subst hm; rw [hβid] at h3; cases h3
    obtain ⟨_, _, _, hne⟩ := key k Y _ s' h2 h4 hk
    exact absurd rfl hne
  ·by_cases hk : k = id
   ·subst hk; rw [hβid] at h4; cases h4
    obtain ⟨_, _, _, hne⟩ := key m X _ s h1 h3 hm
    exact absurd rfl hne
   ·obtain ⟨X', e1, e2, _⟩ := key m X c s h1 h3 hm
    obtain ⟨Y', f1, f2, _⟩ := key k Y c s' h2 h4 hk
    exact h.inj m k X' Y' c s s' e1 f1 e2 f2
theorem gH_ {M M' : Nat → Prop} {β β' : Nat → Option (Nat × Nat)} {b : Nat} : ∀ {t : List UInt8} {off : Nat}, RVess M β w b 1 (bE t) off → RVess M' β' w b 1 (bE t) off
 | [], _, _ => trivial
 | _ :: _, _, ⟨h0, ⟨⟨x, h1, h2⟩, _⟩, h3⟩ => ⟨h0, ⟨⟨x, h1, h2⟩, trivial⟩, gH_ h3⟩
theorem kA_ {M M' : Nat → Prop} {β β' : Nat → Option (Nat × Nat)} {b i j i' j' : Nat} {s : Option (List UInt8)} (hi : ∀ x, β i = some x → β' i' = some x) (hj : s ≠ none → ∀ x, β j = some x → β' j' = some x)
    (h : RVess M β w b 2 [bldC i j s] 0) : RVess M' β' w b 2 [bldC i' j' s] 0 := by
 obtain ⟨_, hc, _⟩ := h
 cases s with
 | none =>
  obtain ⟨⟨x, h1, h2⟩, ⟨y, h3, h4⟩, _⟩ := hc
  exact ⟨rfl, ⟨⟨x, h1, h2⟩, ⟨y, h3, h4⟩, trivial⟩, trivial⟩
 | some q =>
  obtain ⟨⟨x, h1, ⟨b1, s1, h2, h3⟩⟩, ⟨y, h4, ⟨b2, c2, h5, h6⟩⟩, _⟩ := hc
  exact ⟨rfl, ⟨⟨x, h1, ⟨b1, s1, hi _ h2, h3⟩⟩, ⟨y, h4, ⟨b2, c2, hj (by simp) _ h5, h6⟩⟩, trivial⟩, trivial⟩
def hpB (tB tb : Nat) : Option (List UInt8) → List (Nat × Option ABlk)
 | none => [(0, some ⟨tB, 2, [bldC 0 1 none]⟩)]
 | some q => [(0, some ⟨tB, 2, [bldC 0 1 (some q)]⟩), (1, some ⟨tb, 1, bE q⟩)]
theorem hu_ (tB tb : Nat) (s : Option (List UInt8)) (m : Nat) : lookB (hpB tB tb s) m = if m = 0 then some ⟨tB, 2, [bldC 0 1 s]⟩ else if m = 1 then s.map fun q => ⟨tb, 1, bE q⟩ else none := by
 cases s with
 | none =>
  rw [hpB, cF_]; unfold upd
  by_cases h0 : m = 0
  ·rw [if_pos h0, if_pos h0]
  ·rw [if_neg h0, if_neg h0]; by_cases h1 : m = 1
   ·rw [if_pos h1]; rfl
   ·rw [if_neg h1]; rfl
 | some q =>
  rw [hpB, cF_]; unfold upd
  by_cases h0 : m = 0
  ·rw [if_pos h0, if_pos h0]
  ·rw [if_neg h0, if_neg h0, cF_]; unfold upd
   by_cases h1 : m = 1
   ·rw [if_pos h1, if_pos h1]; rfl
   ·rw [if_neg h1, if_neg h1]; rfl
def dropJ (hp : Nat → Option ABlk) (j : Nat) : Option (List UInt8) → Nat → Option ABlk
 | none => hp
 | some _ => upd hp j none
theorem BSpec.intro {f : Nat} {fn : Func} {c : Code} {tB tb : Nat} {s : Option (List UInt8)} {t : List UInt8} {args : List AV} {r : AV} (hf : P.funcs[f]? = some fn) (hb : fn.body = some c) (hname : (fn.name == "runtime.NumGoroutine") = false)
    (hcl : ∀ a ∈ args, Closed a) (hpure : Pure r) (hn : args.length + 1 ≤ fn.ntmps)
    (h : AWp none P c (fun x st => (x = .normal ∨ x = .ret) ∧ ResOK P fn.results.toList st r ∧ ∃ k, k ≠ 0 ∧ lookB st.hp 0 = some ⟨tB, 2, [bldC 0 k (some t)]⟩ ∧ lookB st.hp k = some ⟨tb, 1, bE t⟩) ⟨(0, .lptr 0 0 0) :: argFr 1 args, hpB tB tb s, 2, fn.ntmps⟩) : BSpec P f tB tb s t args r := by
 refine ⟨hcl, fun xs w => ?_, fun M0 w0 β hp w id i j y0 vals mem hid0 hid hidh hi hj hy0 hargs => ?_⟩
 ·have hname' : ¬ fn.name = "runtime.NumGoroutine" := by simpa using hname
  simp [callFunc, hf, hname', hb]
 ·refine (callsIn_wide (n := 0)).1 ?_
  refine callsIn_of_wp_marks (F := Fence.wide) hf hb trivial ?_
  have hlen := hargs.length
  obtain ⟨b, sz0, hbi, rfl⟩ := hy0
  obtain ⟨b', cs, hbi', hh, hr, hl⟩ := mem.cells hi (by decide : (2 : Nat) ≠ 0)
  rw [hbi] at hbi'; cases hbi'
  have hbi2 : β i = some (b, 2) := hbi
  -- the buffer
  have hbuf : ∀ q, s = some q → ∃ bj ck, β j = some (bj, 1) ∧ w.heap[bj]? = some (.cells ck tb (0, 0)) ∧ RVess (MM M0 β hp) β w bj 1 (bE q) 0 ∧ (bE q).length * 1 ≤ ck.size ∧ bj ≠ b := fun q hq => by
   obtain ⟨h1, h2⟩ := hj q hq
   obtain ⟨bj, ck, e1, e2, e3, e4⟩ := mem.cells h1 (by decide : (1 : Nat) ≠ 0)
   exact ⟨bj, ck, e1, e2, e3, e4, fun e => by subst e; exact h2 (mem.inj i j _ _ bj 2 1 hi h1 hbi2 e1)⟩
  let D : Nat → Prop := fun x => x = b ∨ (s ≠ none ∧ ∃ ss, β j = some (x, ss))
  let M0c : Nat → Prop := fun x => MM M0 β hp x ∧ ¬ D x
  let β0 : Nat → Option (Nat × Nat) := fun m => if m = 0 then some (b, 2) else if m = 1 ∧ s ≠ none then β j else none
  have hDm : ∀ x, D x → x < w.heap.size ∧ MM M0 β hp x := by
   rintro x (rfl | ⟨hs, ss, hx⟩)
   ·exact ⟨(mem.rng i x 2 hbi2).2, .inr ⟨i, _, 2, hi, hbi2⟩⟩
   ·obtain ⟨q, hq⟩ := Option.ne_none_iff_exists'.1 hs
    exact ⟨(mem.rng j x ss hx).2, .inr ⟨j, _, ss, (hj q hq).1, hx⟩⟩
  let bs : Base := ⟨w, fun x => x < w.heap.size ∧ ¬ D x, fun _ h => h.1, some (b, 2), fun _ => undef, ⟨mem.tab.lt, fun hd => mem.nt (hDm GT hd).2⟩, mem.tab⟩
  have hβ00 : β0 0 = some (b, 2) := rfl
  have hβ01 : s ≠ none → β0 1 = β j := fun hs => by simp only [β0]; rw [if_neg (by decide), if_pos ⟨trivial, hs⟩]
  have hβ0c : ∀ m x ss, β0 m = some (x, ss) → D x ∧ (m = 0 ∨ m = 1) := by
   intro m x ss hm
   simp only [β0] at hm
   split at hm
   ·cases hm; exact ⟨.inl rfl, .inl ‹_›⟩
   ·split at hm
    ·rename_i h1; exact ⟨.inr ⟨h1.2, ss, hm⟩, .inr h1.1⟩
    ·cases hm
  have hmm : MM M0c β0 (lookB (hpB tB tb s)) = MM M0 β hp := by
   funext x
   refine propext ⟨?_, fun hx => ?_⟩
   ·rintro (hx | ⟨m, B, ss, _, h2⟩)
    ·exact hx.1
    ·exact (hDm x (hβ0c m x ss h2).1).2
   ·by_cases hd : D x
    ·rcases hd with rfl | ⟨hs, ss, hx2⟩
     ·exact .inr ⟨0, ⟨tB, 2, [bldC 0 1 s]⟩, 2, by rw [hu_]; rfl, rfl⟩
     ·obtain ⟨q, hq⟩ := Option.ne_none_iff_exists'.1 hs
      exact .inr ⟨1, ⟨tb, 1, bE q⟩, ss, by rw [hu_, hq]; rfl, (hβ01 hs).trans hx2⟩
    ·exact .inl ⟨hx, hd⟩
  have hmem : Mem M0c bs β0 (lookB (hpB tB tb s)) w := by
   refine ⟨⟨rfl, rfl, rfl, Nat.le_refl _, fun _ _ => rfl, fun _ _ h => h⟩, fun x hx => ⟨⟨mem.lt hx.1, hx.2⟩, fun e => mem.nt (e ▸ hx.1)⟩, fun m x ss hm => ?_, (fun _ => rfl), fun m B hm => ?_, fun m k B B' x ss ss' h1 h2 h3 h4 => ?_⟩
   ·have := hβ0c m x ss hm
    exact ⟨fun hk => hk.2 this.1, (hDm x this.1).1⟩
   ·rw [hmm]
    rw [hu_] at hm
    split at hm
    ·rename_i h0; subst h0; cases hm
     exact ⟨b, rfl, .inl ⟨(by decide : (2 : Nat) ≠ 0), cs, hh, kA_ (i := i) (j := j) (fun x hx => by rw [hbi2] at hx; cases hx; rfl) (fun hs x hx => (hβ01 hs).trans hx) hr, hl⟩⟩
    ·split at hm
     ·rename_i h1; subst h1
      cases hs : s with
      | none => rw [hs] at hm; cases hm
      | some q =>
       rw [hs] at hm; cases hm
       obtain ⟨bj, ck, e1, e2, e3, e4, _⟩ := hbuf q hs
       exact ⟨bj, (hβ01 (by rw [hs]; simp)).trans e1, .inl ⟨(by decide : (1 : Nat) ≠ 0), ck, e2, gH_ e3, e4⟩⟩
     ·cases hm
   ·have g1 := (hβ0c m x ss h3).2
    have g2 := (hβ0c k x ss' h4).2
    have hne : ∀ ss ss', β0 0 = some (x, ss) → β0 1 = some (x, ss') → False := fun ss ss' e1 e2 => by
     cases e1
     cases hs : s with
     | none => simp only [β0] at e2; rw [if_neg (by decide), if_neg (by rw [hs]; simp)] at e2; cases e2
     | some q =>
      obtain ⟨bj, ck, f1, _, _, _, f2⟩ := hbuf q hs
      rw [hβ01 (by rw [hs]; simp), f1] at e2; cases e2; exact f2 rfl
    rcases g1 with rfl | rfl <;> rcases g2 with rfl | rfl
    ·rfl
    ·exact (hne _ _ h3 h4).elim
    ·exact (hne _ _ h4 h3).elim
    ·rfl
  have hrel : ARel M0c bs ⟨(0, .lptr 0 0 0) :: argFr 1 args, hpB tB tb s, 2, fn.ntmps⟩ { tmps := (Value.pointer (some ⟨b, 0 * 2 + 0, none⟩) :: vals).toArray ++ Array.replicate (fn.ntmps - (Value.pointer (some ⟨b, 0 * 2 + 0, none⟩) :: vals).toArray.size) undef, defers := [] } w := by
   refine ⟨β0, hmem, by simp; omega, fun t x hx => ?_, fun m (hm : 2 ≤ m) => ⟨by simp only [β0]; rw [if_neg (by omega), if_neg (by omega)], by omega⟩, ⟨[], rfl, List.nodup_nil, by simp⟩⟩
   show RV (MM M0c β0 (lookB (hpB tB tb s))) _ _ _ _
   rw [hmm, b6_ rfl]
   rw [show (look ((0, .lptr 0 0 0) :: argFr 1 args) t = some x) ↔ (upd (look (argFr 1 args)) 0 (some (.lptr 0 0 0)) t = some x) by rw [bD_]] at hx
   obtain ⟨y0, hy0⟩ : ∃ y0, y0 = Value.pointer (some ⟨b, 0 * 2 + 0, none⟩) := ⟨_, rfl⟩
   rw [← hy0]
   have get : ∀ (k : Nat) (y : Value), (y0 :: vals)[k]? = some y → ((y0 :: vals).toArray ++ Array.replicate (fn.ntmps - (y0 :: vals).toArray.size) undef).getD k undef = y := by
    intro k y hk
    have hlt : k < (y0 :: vals).length := (List.getElem?_eq_some_iff.1 hk).1
    rw [Array.getD_eq_getD_getElem?, Array.getElem?_append_left (by simpa using hlt)]
    simp only [List.getElem?_toArray]
    rw [hk]; rfl
   unfold upd at hx
   split at hx
   ·rename_i h0; subst h0; cases hx
    rw [get 0 y0 rfl]
    exact ⟨b, 2, rfl, by rw [hy0]⟩
   ·obtain ⟨h1, y, h2, h3⟩ := dp_ hargs hx
    rw [get t y (by rw [show t = (t - 1) + 1 by omega, List.getElem?_cons_succ]; exact h2)]
    exact StabC.all (w := w) (w' := w) (M := MM M0 β hp) (β := fun _ => none) ⟨fun _ _ _ _ => rfl, fun _ _ _ h => h, (fun _ _ h => by cases h), fun _ _ h => h⟩ h3
  refine wpIn_mono (h _ bs _ w hrel) fun x a' w' ⟨st', ⟨β', mem', hsz, hfr, hfree, Ds, hds, hnd, hDs⟩, he, hres, k, hk0, hl0, hlk⟩ => ?_
  have hL : LeavesInM (FR none) 0 P fn a'.tmps (fun x w' => ∃ y, x = .returned y ∧ ∃ β', After M0 w0 β hp w id ⟨r, updB tB tb i j id s t⟩ y w' β') a'.defers .returning w' := by
   rw [hds]
   refine gc_ hres (fun y w'' h1 h2 _ _ => ?_) Ds w' hnd hDs mem' (fun t x hx => by have := hfr t x hx; rwa [b6_ rfl] at this)
   have hb0 : β' 0 = some (b, 2) := h2.pin (by rw [hl0]; rfl)
   obtain ⟨b1, cs1, e1, e2, e3, e4⟩ := h2.cells hl0 (by decide : (2 : Nat) ≠ 0)
   rw [hb0] at e1; cases e1
   obtain ⟨bk, ck1, f1, f2, f3, f4⟩ := h2.cells hlk (by decide : (1 : Nat) ≠ 0)
   have hkb : bk ≠ b := fun e => hk0 (h2.inj k 0 _ _ bk _ _ hlk hl0 f1 (by rw [e]; exact hb0))
   have hrk := h2.rng k bk _ f1
   have hbkn : w.heap.size ≤ bk ∨ (D bk ∧ bk ≠ b) := by
    by_cases hlt : bk < w.heap.size
    ·by_cases hd : D bk
     ·exact .inr ⟨hd, hkb⟩
     ·exact absurd ⟨hlt, hd⟩ hrk.1
    ·exact .inl (by omega)
   obtain ⟨hp2, hhp2⟩ : ∃ hp2 : Nat → Option ABlk, hp2 = dropJ hp j s := ⟨_, rfl⟩
   have hji : s ≠ none → i ≠ j := fun hs => by obtain ⟨q, hq⟩ := Option.ne_none_iff_exists'.1 hs; exact (hj q hq).2
   have h2sub : ∀ x X, hp2 x = some X → hp x = some X := by
    intro x X hx
    rw [hhp2] at hx
    cases hs : s with
    | none => rw [hs] at hx; exact hx
    | some q =>
     rw [hs] at hx
     simp only [dropJ, upd] at hx
     split at hx
     ·cases hx
     ·exact hx
   have h2i : hp2 i = some ⟨tB, 2, [bldC i j s]⟩ := by
    rw [hhp2]
    cases hs : s with
    | none => rw [hs] at hi; exact hi
    | some q => show upd hp j none i = _; rw [aM_ _ _ (hji (by rw [hs]; simp)), ← hs]; exact hi
   have htwo := mem.two (w' := w'') (i := i) (id := id) (b := b) (bk := bk) (tB := tB) (tb := tb) (D := D) (es := [bldC i id (some t)]) (es2 := bE t) (hp2 := hp2) (cs := cs1) (ck := ck1) hi hbi2 hid0 hid hidh h2sub h2i
    (fun x hx => by
     rcases hx with rfl | ⟨hs, ss, hx⟩
     ·exact .inl rfl
     ·obtain ⟨q, hq⟩ := Option.ne_none_iff_exists'.1 hs
      exact .inr ⟨j, _, ss, (hj q hq).1, hx, by rw [hhp2, hq]; exact aH_ _ _ _⟩) (.inl rfl)
    ⟨h2.below.os, h2.below.tape, h2.below.output⟩ h2.below.size (fun x hx hd => h2.below.block x ⟨hx, hd⟩) h2.below.sizes hrk.2 hbkn e2 f2
    (fun M β2 hbe hbid => kA_ (i := 0) (j := k) (fun x hx => by rw [hb0] at hx; cases hx; exact hbe _ _ hbi2) (fun _ x hx => by rw [f1] at hx; cases hx; exact hbid) e3) (fun M β2 => gH_ f3) e4 f4
   refine ⟨y, rfl, upd β id (some (bk, 1)), ?_⟩
   have happ : appB hp (updB tB tb i j id s t) = upd (upd hp2 i (some ⟨tB, 2, [bldC i id (some t)]⟩)) id (some ⟨tb, 1, bE t⟩) := by
    rw [hhp2]; cases s <;> rfl
   unfold After
   rw [happ]
   exact ⟨htwo.1, hpure _ _ _ _ _ _ _ h1, htwo.2, fun m hm => aM_ _ _ hm⟩
  rcases he with rfl | rfl
  ·exact hL
  ·exact hL
section
variable {id : Nat} {ev : Operand → Option AV} {c : Call} {callee x0 : Operand} {f i j tB tb : Nat} {as : List AV} {r : AV}
def rdB (i j : Nat) : Option (List UInt8) → List Nat
 | none => [i]
 | some _ => [i, j]
theorem fz_ {ρ : Operand → Value} {o : Oper} {args : List Value} {w : World} (ho : o.op = .call c) (h1 : c.callee = .value callee) (hx : ρ callee = .func (.func f) #[] #[]) (ha : c.args.toList.map ρ = args) (he : ∀ (xs : Array Value) (w : World), (callFunc f xs).run P w = .ok (.enter f xs) w) :
    (execOp ρ o).run P w = .ok (.enter f args.toArray) w := by
 subst ha
 simp only [execOp, ho]
 simp only [resolve, h1, hx, Deferred.ofValue, Sem.run_bind, Sem.run_pure, Result.andThen_ok, invoke]
 rw [Array.empty_append, Array.append_empty, he]
 have : (c.args.toList.map ρ).toArray = c.args.map ρ := by apply Array.ext'; simp
 rw [this]
theorem pX_ {M : Nat → Prop} {β : Nat → Option (Nat × Nat)} {w : World} {ρ : Operand → Value} : ∀ {xs : List Operand} {as : List AV}, (∀ x ∈ xs, ∀ a, ev x = some a → RV M β w a (ρ x)) → evs ev xs = some as → RVs M β w as (xs.map ρ)
 | [], as, _, h => by simp only [evs, Option.some.injEq] at h; subst h; exact rfl
 | x :: xs, as, hev, h => by
  simp only [evs] at h
  split at h
  ·rename_i a as' h1 h2
   simp only [Option.some.injEq] at h
   subst h
   exact ⟨_, _, rfl, hev x (List.mem_cons_self ..) a h1, pX_ (fun y hy => hev y (List.mem_cons_of_mem _ hy)) h2⟩
  ·cases h
theorem AEval.callB {s : Option (List UInt8)} {t : List UInt8} {rest : List Operand} (h1 : c.callee = .value callee) (h2 : ev callee = some (.clos f [] [])) (h3 : c.args.toList = x0 :: rest) (h4 : ev x0 = some (.lptr i 0 0)) (h5 : evs ev rest = some as) (h6 : hp i = some ⟨tB, 2, [bldC i j s]⟩)
    (h7 : ∀ q, s = some q → hp j = some ⟨tb, 1, bE q⟩ ∧ i ≠ j) (h8 : BSpec P f tB tb s t (as.map coe) r) : AEval P id ev hp (.call c) ⟨r, updB tB tb i j id s t⟩ (rdB i j s) := by
 refine .sem fun M0 w0 β hp' w ρ o ho mem hev hcst hid0 hid hidh hrd => ?_
 have hopn : ∀ x, x ∈ (Op.call c).operands ↔ x = callee ∨ x ∈ x0 :: rest := by
  intro x; simp [Op.operands, Call.operands, h1, ← Array.mem_toList_iff, h3]
 obtain ⟨xs, ys, hx, hr1, hr2⟩ := hev callee ((hopn _).2 (.inl rfl)) _ h2
 have hxs : xs = #[] := Array.ext' hr1
 have hys : ys = #[] := Array.ext' hr2
 subst hxs hys
 have hi : hp' i = some ⟨tB, 2, [bldC i j s]⟩ := (hrd i (by cases s <;> simp [rdB])).trans h6
 have hj : ∀ q, s = some q → hp' j = some ⟨tb, 1, bE q⟩ ∧ i ≠ j := fun q hq => ⟨(hrd j (by rw [hq]; simp [rdB])).trans (h7 q hq).1, (h7 q hq).2⟩
 have has : RVs (MM M0 β hp') β w as (rest.map ρ) := pX_ (fun x hx => hev x ((hopn _).2 (.inr (List.mem_cons_of_mem _ hx)))) h5
 refine .inr ⟨f, (ρ x0 :: rest.map ρ).toArray, fz_ ho h1 hx (by rw [h3]; rfl) h8.enters, ?_⟩
 exact h8.calls M0 w0 β hp' w id i j (ρ x0) (rest.map ρ) mem hid0 hid hidh hi hj (hev x0 ((hopn _).2 (.inr (List.mem_cons_self ..))) _ h4) (cU_ h8.cl (fk_ has))
structure CSpec (P : Program) (f tB : Nat) : Prop where
 enters : ∀ (xs : Array Value) (w : World), (callFunc f xs).run P w = .ok (.enter f xs) w
 used : ∀ (b : Nat) (w : World), w.cell? ⟨b, 0, none⟩ = some (.pointer (some ⟨b, 0, none⟩)) → Calls P f #[.pointer (some ⟨b, 0, none⟩)] w fun e w' => e = .returned (.tuple #[]) ∧ w' = w
 fresh : ∀ (b : Nat) (w : World) (cs : Array Value), w.heap[b]? = some (.cells cs tB (0, 0)) → 2 ≤ cs.size → cs[0]? = some (.pointer none) → Calls P f #[.pointer (some ⟨b, 0, none⟩)] w fun e w' => e = .returned (.tuple #[]) ∧ w' = w.setCell ⟨b, 0, none⟩ (.pointer (some ⟨b, 0, none⟩))
theorem AEval.callC {a X : AV} (h1 : c.callee = .value callee) (h2 : ev callee = some (.clos f [] [])) (h3 : c.args.toList = [x0]) (h4 : ev x0 = some (.lptr i 0 0)) (h5 : hp i = some ⟨tB, 2, [[a, X]]⟩) (h6 : a = .v (.pointer none) ∨ a = .lptr i 0 0) (h7 : CSpec P f tB) :
    AEval P id ev hp (.call c) ⟨.tup [], [(i, some ⟨tB, 2, [[.lptr i 0 0, X]]⟩)]⟩ [i] := by
 refine .sem fun M0 w0 β hp' w ρ o ho mem hev hcst hid0 hid hidh hrd => ?_
 have hopn : ∀ x, x ∈ (Op.call c).operands ↔ x = callee ∨ x ∈ [x0] := by
  intro x; simp [Op.operands, Call.operands, h1, ← Array.mem_toList_iff, h3]
 obtain ⟨xs, ys, hx, hr1, hr2⟩ := hev callee ((hopn _).2 (.inl rfl)) _ h2
 have hxs : xs = #[] := Array.ext' hr1
 have hys : ys = #[] := Array.ext' hr2
 subst hxs hys
 have hi : hp' i = some ⟨tB, 2, [[a, X]]⟩ := (hrd i (by simp)).trans h5
 obtain ⟨b, sz0, hbi, hy0⟩ := hev x0 ((hopn _).2 (.inr (List.mem_cons_self ..))) _ h4
 obtain ⟨b', cs, hbi', hh, ⟨_, ⟨⟨x1, hc1, hx1⟩, ⟨x2, hc2, hx2⟩, _⟩, _⟩, hl⟩ := mem.cells hi (by decide : (2 : Nat) ≠ 0)
 rw [hbi] at hbi'; cases hbi'
 have hl2 : 2 ≤ cs.size := by simpa using hl
 have hbi2 : β i = some (b, 2) := hbi
 have hp0 : ρ x0 = .pointer (some ⟨b, 0, none⟩) := by rw [hy0]; simp
 have hun : appB hp' [(i, some ⟨tB, 2, [[.lptr i 0 0, X]]⟩)] = upd hp' i (some ⟨tB, 2, [[.lptr i 0 0, X]]⟩) := rfl
 have g1 : cs[0]? = some x1 := by simpa [World.cell?, hh] using hc1
 have g2 : cs[1]? = some x2 := by simpa [World.cell?, hh] using hc2
 have hsz : aC_ w b = some cs.size := by simp [aC_, hh]
 have e : Calls P f #[.pointer (some ⟨b, 0, none⟩)] w fun e w' => e = .returned (.tuple #[]) ∧ w' = w.setCell ⟨b, 0, none⟩ (.pointer (some ⟨b, 0, none⟩)) ∨ e = .returned (.tuple #[]) ∧ w' = w ∧ x1 = .pointer (some ⟨b, 0, none⟩) := by
  rcases h6 with rfl | rfl
  ·cases (hx1 : x1 = .pointer none)
   exact (h7.fresh b w cs hh hl2 g1).mono fun _ _ h => .inl h
  ·obtain ⟨b2, s2, hb2, hx⟩ := hx1
   rw [hbi2] at hb2; cases hb2
   have hx' : x1 = .pointer (some ⟨b, 0, none⟩) := by rw [hx]
   exact (h7.used b w (by rw [← hx']; exact hc1)).mono fun _ _ h => .inr ⟨h.1, h.2, hx'⟩
 refine .inr ⟨f, #[.pointer (some ⟨b, 0, none⟩)], fz_ ho h1 hx (by rw [h3]; simp [hp0]) h7.enters, ?_⟩
 refine e.mono ?_
 rintro e w' (⟨rfl, rfl⟩ | ⟨rfl, rfl, hx1'⟩)
 ·have hw := mem.write (w' := w.setCell ⟨b, 0, none⟩ (.pointer (some ⟨b, 0, none⟩))) (es := [[.lptr i 0 0, X]]) (cs := cs.setIfInBounds 0 (.pointer (some ⟨b, 0, none⟩))) (by decide : (2 : Nat) ≠ 0) hi hbi2 ⟨rfl, rfl, rfl⟩ (by simp [World.setCell]) (heap_setCell_same w b 0 cs tB _ hh) (fun k hk => heap_setCell_other w _ k _ hk)
   (fun k e he => by
    cases k with
    | zero =>
     simp only [List.getElem?_cons_zero, Option.some.injEq] at he; subst he
     refine ⟨[.pointer (some ⟨b, 0, none⟩), x2], ⟨_, _, rfl, ⟨b, 2, hbi2, rfl⟩, _, _, rfl, hx2, rfl⟩, rfl, fun m v hm => ?_⟩
     match m, hm with
     | 0, hm => cases hm; show (cs.setIfInBounds 0 _)[0 * 2 + 0]? = _; rw [Array.getElem?_setIfInBounds, if_pos rfl, if_pos (by omega)]
     | 1, hm => cases hm; simpa [Array.getElem?_setIfInBounds] using g2
    | succ k => simp at he) (by simpa using hl2) (by rw [Array.size_setIfInBounds]; exact hsz)
  exact ⟨_, rfl, β, hw.1, ⟨#[], rfl, rfl⟩, hw.2, fun _ _ => rfl⟩
 ·have hw := mem.write (w' := w') (es := [[.lptr i 0 0, X]]) (cs := cs) (by decide : (2 : Nat) ≠ 0) hi hbi2 ⟨rfl, rfl, rfl⟩ rfl hh (fun k _ => rfl)
   (fun k e he => by
    cases k with
    | zero =>
     simp only [List.getElem?_cons_zero, Option.some.injEq] at he; subst he
     refine ⟨[.pointer (some ⟨b, 0, none⟩), x2], ⟨_, _, rfl, ⟨b, 2, hbi2, rfl⟩, _, _, rfl, hx2, rfl⟩, rfl, fun m v hm => ?_⟩
     match m, hm with
     | 0, hm => cases hm; rw [← hx1']; simpa using g1
     | 1, hm => cases hm; simpa using g2
    | succ k => simp at he) (by simpa using hl2) hsz
  exact ⟨_, rfl, β, hw.1, ⟨#[], rfl, rfl⟩, hw.2, fun _ _ => rfl⟩
structure DSpec (P : Program) (f tB tb : Nat) : Prop where
 enters : ∀ (xs : Array Value) (w : World), (callFunc f xs).run P w = .ok (.enter f xs) w
 calls : ∀ (b bj cap : Nat) (q : List UInt8) (w : World) (cs ck : Array Value), q ≠ [] → w.heap[b]? = some (.cells cs tB (0, 0)) → cs[1]? = some (.slice (some ⟨bj, 0, none⟩) q.length cap) → q.length ≤ cap → cap ≤ maxLen → b ≠ bj → w.heap[bj]? = some (.cells ck tb (0, 0)) → cap ≤ ck.size →
  (∀ (k : Nat) (x : UInt8), q[k]? = some x → ck[k]? = some (Value.int .u8 x.toNat)) → Calls P f #[.pointer (some ⟨b, 0, none⟩)] w fun e w' => e = .returned (.string ⟨q.toArray⟩) ∧ But bj w w'
theorem Mem.gone (h : Mem M0 w0 β hp w) {j b : Nat} {B : ABlk} {s : Nat} {ids : List Nat} (hb : But b w w') (hj : hp j = some B) (hbj : β j = some (b, s)) (hin : j ∈ ids) :
    Mem M0 w0 β (bQ_ hp ids) w' ∧ Stab (MM M0 β hp) (MM M0 β (bQ_ hp ids)) β β w w' := by
 have hsub : ∀ m X, bQ_ hp ids m = some X → hp m = some X ∧ m ∉ ids := fun m X hm => by
  simp only [bQ_] at hm
  split at hm
  ·cases hm
  ·exact ⟨hm, ‹_›⟩
 obtain ⟨m1, st1⟩ := h.forget fun m X hm => (hsub m X hm).1
 have hmb : MM M0 β hp b := .inr ⟨j, B, s, hj, hbj⟩
 have hrng := h.rng j b s hbj
 have hcell : ∃ N, aC_ w b = some N := by
  obtain ⟨b', e1, e2⟩ := h.blk j B hj
  rw [hbj] at e1; cases e1
  exact e2.size
 have st : Stab (MM M0 β hp) (MM M0 β (bQ_ hp ids)) β β w w' :=
  ⟨⟨fun c N hs hm => hb.block c (bf_ hs) fun e => hm (e ▸ hmb), st1.m, fun _ _ h => h, hb.sizes⟩,
   fun c hlt hn => hb.block c hlt fun e => by subst e; obtain ⟨N, hN⟩ := hcell; rw [hN] at hn; cases hn⟩
 refine ⟨⟨⟨hb.os.trans h.below.os, hb.tape.trans h.below.tape, hb.output.trans h.below.output, Nat.le_trans h.below.size hb.size, fun k hk => (hb.block k (Nat.lt_of_lt_of_le (w0.lt k hk) h.below.size) fun e => hrng.1 (e ▸ hk)).trans (h.below.block k hk), fun c n hs => hb.sizes c n (h.below.sizes c n hs)⟩, h.m0, fun m c ss hm => ⟨(h.rng m c ss hm).1, Nat.lt_of_lt_of_le (h.rng m c ss hm).2 hb.size⟩, m1.pin, fun m X hm => ?_, m1.inj⟩, st⟩
 obtain ⟨h1, h2⟩ := hsub m X hm
 obtain ⟨c, e1, e2⟩ := h.blk m X h1
 have hne : c ≠ b := fun e => by
  subst e
  have := h.inj m j X B c _ _ h1 hj e1 hbj
  subst this; exact h2 hin
 have hsame := hb.block c (h.rng m c _ e1).2 hne
 exact ⟨c, e1, e2.stab st.toStabC hsame⟩
theorem AEval.callD {q : List UInt8} (h1 : c.callee = .value callee) (h2 : ev callee = some (.clos f [] [])) (h3 : c.args.toList = [x0]) (h4 : ev x0 = some (.lptr i 0 0)) (h5 : hp i = some ⟨tB, 2, [bldC i j (some q)]⟩) (h6 : hp j = some ⟨tb, 1, bE q⟩) (hij : i ≠ j) (hq : q ≠ []) (h7 : DSpec P f tB tb) :
    AEval P id ev hp (.call c) ⟨.v (.string ⟨q.toArray⟩), [(i, none), (j, none)]⟩ [i, j] := by
 refine .sem fun M0 w0 β hp' w ρ o ho mem hev hcst hid0 hid hidh hrd => ?_
 have hopn : ∀ x, x ∈ (Op.call c).operands ↔ x = callee ∨ x ∈ [x0] := by
  intro x; simp [Op.operands, Call.operands, h1, ← Array.mem_toList_iff, h3]
 obtain ⟨xs, ys, hx, hr1, hr2⟩ := hev callee ((hopn _).2 (.inl rfl)) _ h2
 have hxs : xs = #[] := Array.ext' hr1
 have hys : ys = #[] := Array.ext' hr2
 subst hxs hys
 have hi : hp' i = some ⟨tB, 2, [bldC i j (some q)]⟩ := (hrd i (by simp)).trans h5
 have hj : hp' j = some ⟨tb, 1, bE q⟩ := (hrd j (by simp)).trans h6
 obtain ⟨b, sz0, hbi, hy0⟩ := hev x0 ((hopn _).2 (.inr (List.mem_cons_self ..))) _ h4
 obtain ⟨b', cs, hbi', hh, ⟨_, ⟨⟨x1, hc1, hx1⟩, ⟨x2, hc2, hx2⟩, _⟩, _⟩, hl⟩ := mem.cells hi (by decide : (2 : Nat) ≠ 0)
 rw [hbi] at hbi'; cases hbi'
 obtain ⟨bj, ck, e1, e2, e3, e4⟩ := mem.cells hj (by decide : (1 : Nat) ≠ 0)
 obtain ⟨bj', cap, f1, f2, f3, f4, _, N, f5, f6⟩ := hx2
 rw [e1] at f1; cases f1
 have hp0 : ρ x0 = .pointer (some ⟨b, 0, none⟩) := by rw [hy0]; simp
 have g2 : cs[1]? = some x2 := by simpa [World.cell?, hh] using hc2
 have hne : b ≠ bj := fun e => by subst e; exact hij (mem.inj i j _ _ b _ _ hi hj hbi e1)
 have hN : N = ck.size := by simp [aC_, e2] at f5; exact f5.symm
 refine .inr ⟨f, #[.pointer (some ⟨b, 0, none⟩)], fz_ ho h1 hx (by rw [h3]; simp [hp0]) h7.enters, ?_⟩
 refine (h7.calls b bj cap q w cs ck hq hh (by rw [g2, f2]) f3 f4 hne e2 (by rw [← hN]; simpa using f6) fun k x hk => ?_).mono ?_
 ·have := (e3.get (i := k) (e := [.v (.int .u8 x.toNat)]) (by simp [bE, hk])).1
  obtain ⟨⟨y, hy1, hy2⟩, _⟩ := this
  cases (hy2 : y = _)
  simpa [World.cell?, e2] using hy1
 rintro e w' ⟨rfl, hbut⟩
 have hg := mem.gone (ids := [i, j]) hbut hj e1 (by simp)
 refine ⟨_, rfl, β, ?_⟩
 unfold After
 rw [show ([(i, none), (j, none)] : List (Nat × Option ABlk)) = [i, j].map fun i => (i, none) from rfl, ia_]
 exact ⟨hg.1, rfl, hg.2, fun _ _ => rfl⟩
def bldV : Option (List UInt8) → List AV
 | none => [.v (.pointer none), .emp]
 | some q => [.any, .arr (bE q)]
theorem AEval.callR {s : Option (List UInt8)} {r : Value} (h1 : c.callee = .value callee) (h2 : ev callee = some (.clos f [] [])) (h3 : c.args.toList = [x0]) (h4 : ev x0 = some (.lptr i 0 0)) (h5 : hp i = some ⟨tB, 2, [bldC i j s]⟩) (h6 : ∀ q, s = some q → hp j = some ⟨tb, 1, bE q⟩) (h7 : FSpec P f [.aptr [bldV s] 0 0] (.v r)) :
    AEval P id ev hp (.call c) ⟨.v r, []⟩ (rdB i j s) := by
 refine .sem fun M0 w0 β hp' w ρ o ho mem hev hcst hid0 hid hidh hrd => ?_
 have hopn : ∀ x, x ∈ (Op.call c).operands ↔ x = callee ∨ x ∈ [x0] := by
  intro x; simp [Op.operands, Call.operands, h1, ← Array.mem_toList_iff, h3]
 obtain ⟨xs, ys, hx, hr1, hr2⟩ := hev callee ((hopn _).2 (.inl rfl)) _ h2
 have hxs : xs = #[] := Array.ext' hr1
 have hys : ys = #[] := Array.ext' hr2
 subst hxs hys
 have hi : hp' i = some ⟨tB, 2, [bldC i j s]⟩ := (hrd i (by cases s <;> simp [rdB])).trans h5
 have hj : ∀ q, s = some q → hp' j = some ⟨tb, 1, bE q⟩ := fun q hq => (hrd j (by rw [hq]; simp [rdB])).trans (h6 q hq)
 obtain ⟨b, sz0, hbi, hy0⟩ := hev x0 ((hopn _).2 (.inr (List.mem_cons_self ..))) _ h4
 obtain ⟨b', cs, hbi', hh, hr, hl⟩ := mem.cells hi (by decide : (2 : Nat) ≠ 0)
 rw [hbi] at hbi'; cases hbi'
 have hbi2 : β i = some (b, 2) := hbi
 have hp0 : ρ x0 = .pointer (some ⟨b, 0, none⟩) := by rw [hy0]; simp
 let hp2 := bQ_ hp' [i, j]
 have hsub : ∀ m X, hp2 m = some X → hp' m = some X ∧ m ≠ i ∧ m ≠ j := fun m X hm => by
  simp only [hp2, bQ_] at hm
  split at hm
  ·cases hm
  ·rename_i hn; simp at hn; exact ⟨hm, hn.1, hn.2⟩
 have hM : ∀ x, MM M0 β hp2 x → MM M0 β hp' x := by
  rintro x (hx | ⟨m, X, s', g1, g2⟩)
  ·exact .inl hx
  ·exact .inr ⟨m, X, s', (hsub m X g1).1, g2⟩
 have hnb : ∀ m X x s', hp' m = some X → β m = some (x, s') → (m = i ∨ m = j) → ¬ MM M0 β hp2 x := by
  rintro m X x s' g1 g2 gm (hx | ⟨m', X', s'', g3, g4⟩)
  ·exact (mem.rng m x s' g2).1 (mem.m0 x hx).1
  ·obtain ⟨g5, g6, g7⟩ := hsub m' X' g3
   have := mem.inj m m' X X' x s' s'' g1 g5 g2 g4
   subst this
   rcases gm with rfl | rfl
   ·exact g6 rfl
   ·exact g7 rfl
 have harg : RVs (MM M0 β hp2) (fun _ => none) w [.aptr [bldV s] 0 0] [.pointer (some ⟨b, 0, none⟩)] := by
  refine ⟨_, _, rfl, ⟨by simp, b, 0, 2, by simp, ⟨cs.size, by simp [aC_, hh]⟩, hnb i _ b 2 hi hbi2 (.inl rfl), ?_⟩, rfl⟩
  obtain ⟨_, hc, _⟩ := hr
  cases hs : s with
  | none =>
   rw [hs] at hc
   obtain ⟨⟨x, h1, h2⟩, ⟨y, h3, h4⟩, _⟩ := hc
   exact ⟨rfl, ⟨⟨x, h1, h2⟩, ⟨y, h3, h4⟩, trivial⟩, trivial⟩
  | some q =>
   rw [hs] at hc
   obtain ⟨⟨x, h1, _⟩, ⟨y, h3, ⟨bj, cap, g1, g2, g3, g4, _, N, g5, g6⟩⟩, _⟩ := hc
   obtain ⟨bj', ck, e1, e2, e3, e4⟩ := mem.cells (hj q hs) (by decide : (1 : Nat) ≠ 0)
   rw [g1] at e1; cases e1
   refine ⟨rfl, ⟨⟨x, h1, trivial⟩, ⟨y, h3, ⟨some ⟨bj, 0, none⟩, cap, by rw [g2, bx_], by rw [bx_]; exact g3, g4, .inr ⟨bj, 0, 1, rfl, ⟨N, g5⟩, hnb j _ bj 1 (hj q hs) g1 (.inr rfl), gH_ e3⟩⟩⟩, trivial⟩, trivial⟩
 refine .inr ⟨f, #[.pointer (some ⟨b, 0, none⟩)], fz_ ho h1 hx (by rw [h3]; simp [hp0]) h7.enters, ?_⟩
 refine (h7.calls (MM M0 β hp2) w _ (mem.fit.sub hM) harg).mono ?_
 rintro e w' ⟨y, rfl, hy, hb⟩
 have hm := mem.ext hb
 exact ⟨y, rfl, β, hm.1, hy, hm.2, fun _ _ => rfl⟩
end
end
end Go.Abs
