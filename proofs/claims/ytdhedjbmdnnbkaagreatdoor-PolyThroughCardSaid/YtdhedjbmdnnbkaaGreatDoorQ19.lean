/- For every input the law PolyThrough returns true, and each argument reads behind the call as it read before; the three listed variables start as the program's text lays them (tied). (Part 19 of the proof.) -/
import Derived.Test.YtdhedjbmdnnbkaaGreatDoorQ18
import Derived.Test.YtdhedjbmdnnbkaaGreatDoorTie
import Derived.Test.YtdhedjbmdnnbkaaGreatDoorCards
import Derived.LaidMore
import Derived.Stop.Joined
import Derived.SevenTiedAt
set_option linter.all false
namespace Go.Proofs.YtdhedjbmdnnbkaaGreatDoor
open Go
theorem polyThrough_wf : Rows.polyThroughRow.wf (OpenSpec.ofChange Rows.polyThroughSpec) = true := by kernel_rfl
theorem polyThrough_rr : Tryz.f13.params.all (Tryz.prog.readableRec ·) = true := by kernel_rfl
theorem polyThrough_nt : namedTie Tryz.prog Rows.polyThroughRow.named Rows.polyThroughSpec.vars = true := by kernel_rfl
theorem polyThrough_st : ((Rows.polyThroughRow.stops == []) && (Tryz.prog.stops == []) && (Rows.polyThroughRow.knobs == []) && (Tryz.prog.stopKnobs == [])) = true := by kernel_rfl
theorem polyThrough_ip : (Rows.polyThroughRow.inPlace == Tryz.prog.inPlace 13) = true := by kernel_rfl
theorem polyThrough_uf : (Rows.polyThroughRow.unfollowed == Tryz.prog.unfollowed 13) = true := by kernel_rfl
theorem polyThrough_rc : (Rows.polyThroughRow.recurses == Tryz.prog.recurses 13) = true := by kernel_rfl
theorem polyThrough_vn : (Rows.polyThroughRow.named == Tryz.prog.varsNamed 13) = true := by kernel_rfl
theorem polyThrough_mp : ((Rows.polyThroughRow.maps == (Tryz.f13.params.toList ++ Rows.polyThroughSpec.plain.varTypes Tryz.prog).any (Tryz.prog.mapsRec ·)) && (Rows.polyThroughRow.ifaces == (Tryz.f13.params.toList ++ Rows.polyThroughSpec.plain.varTypes Tryz.prog).any (Tryz.prog.ifacesRec ·)) && (Rows.polyThroughRow.mapsOut == Tryz.prog.mapsAmong Tryz.f13.resultTypes.toList)) = true := by kernel_rfl
theorem polyThrough_lp : ((Rows.polyThroughRow.loops == (Tryz.f13.params.toList ++ Rows.polyThroughSpec.plain.varTypes Tryz.prog).any (Tryz.prog.loopsFrom ·)) && (Rows.polyThroughRow.wideKeys == (Tryz.f13.params.toList ++ Rows.polyThroughSpec.plain.varTypes Tryz.prog ++ Tryz.f13.resultTypes.toList).any (Tryz.prog.wideKeysFrom ·))) = true := by kernel_rfl
theorem polyThrough_vr : (Rows.polyThroughSpec.vars.all (Tryz.prog.varReadable ·) && Tryz.f13.resultTypes.all (fun t => Tryz.prog.readableRec t && decide (t < Tryz.prog.types.size)) && (Rows.polyThroughRow.ifacesOut == Tryz.f13.resultTypes.toList.any (Tryz.prog.ifacesRec ·)) && (Rows.polyThroughRow.loopsOut == Tryz.f13.resultTypes.toList.any (Tryz.prog.loopsFrom ·)) && (Rows.polyThroughRow.plainKeys == Tryz.prog.plainKeys) && Rows.polyThroughRow.shortTexts.isNone) = true := by kernel_rfl
theorem polyThrough_ve : ((Rows.polyThroughRow.veiled == (Tryz.f13.params.toList ++ Rows.polyThroughSpec.plain.varTypes Tryz.prog ++ Tryz.f13.resultTypes.toList).any (Tryz.prog.veiledRec ·)) && Rows.polyThroughRow.veiledFits Tryz.prog Tryz.f13.params.toList (Tryz.f13.params.toList ++ Rows.polyThroughSpec.plain.varTypes Tryz.prog ++ Tryz.f13.resultTypes.toList)) = true := by kernel_rfl
theorem polyThrough_wt : Rows.polyThroughRow.wfByText (OpenSpec.ofChange Rows.polyThroughSpec) = true := by kernel_rfl
theorem polyThrough_gb : false = Rows.polyThroughRow.goesBy Tryz.prog := by kernel_rfl
theorem polyThrough_fn : Tryz.prog.funcNamed Rows.polyThroughRow.func = some 13 := by kernel_rfl
theorem polyThrough_is : decide (Tryz.f13.isInstance Tryz.prog Rows.polyThroughRow.origin Rows.polyThroughRow.targs) = true := by kernel_rfl
theorem polyThrough_ws : (Tryz.f13.params.toList.all fun u => !Tryz.prog.wantsStandIn u) = true := by kernel_rfl
theorem polyThrough_mk : mkF Tryz.prog Tryz.f13 Rows.polyThroughRow = true := by kernel_rfl
theorem polyThrough_lf : (Rows.polyThroughRow.lifted == Tryz.prog.liftsFinal) = true := by rw [all_lf]; kernel_rfl
theorem polyThrough_joined : joinedFacts Tryz.prog 13 Tryz.f13 Rows.polyThroughSpec Rows.polyThroughRow = true :=
 joined_of polyThrough_wf all_lo all_mr polyThrough_rr polyThrough_nt polyThrough_st polyThrough_ip polyThrough_uf polyThrough_rc polyThrough_vn polyThrough_mp polyThrough_lp polyThrough_vr all_sh all_me polyThrough_lf polyThrough_mk polyThrough_ve
theorem polyThrough_wrap : Tryz.f13.isWrapper Tryz.prog Rows.polyThroughRow.wrapper Rows.polyThroughRow.mainSum := by
 unfold Func.isWrapper; first | (rw [if_pos (by decide +kernel)]; kernel_rfl) | (rw [if_neg (by decide +kernel)]; exact ⟨rfl, rfl⟩)
end Go.Proofs.YtdhedjbmdnnbkaaGreatDoor
namespace Go.Proofs.YtdhedjbmdnnbkaaGreatDoor
open Go.Abs Go.ChangeAt Go.ChangeShapes Go.RowKit Go.WideShapes
theorem own : ownKnob Tryz.prog.godebug = none := by kernel_rfl
theorem und4 : Tryz.prog.underlying 4 = some .bool := by kernel_rfl
abbrev laid3 : List (String × DataW Unit) := Rows.polyThroughRow.laid
theorem door_met (os : Os) (args : Array Value) : laidMetH Tryz.prog laid3 ((World.doorLaid Tryz.prog 24 os).forCall (fun _ _ => 0) ⟨#[], args, []⟩).memory :=
 laidMetH_of_parts3 (fuel := 8) (laidMet_of_run' 8 (by kernel_rfl) (by kernel_rfl)) (by kernel_rfl) (by kernel_rfl)
set_option maxRecDepth 100000 in
theorem polyThrough_lifted (os : Os) (started : os.Started) (H : Type) (enc : TypeId × Value → H) :
    ReturnsInHanded {} Tryz.checked os 13 .any (fun w args => (Rows.polyThroughSpec.pre enc Tryz.prog Tryz.f13 [] false w args ∧ laidMetH Tryz.prog laid3 w) ∧ sizedMet enc Tryz.prog Tryz.f13 (OpenSpec.ofChange Rows.polyThroughSpec) false w args)
     (Rows.polyThroughSpec.post enc Tryz.prog Tryz.f13 false true false false) := by
 refine returnsInHanded_of_change_and (C := Tryz.checked) (X := fun w _ => laidMetH Tryz.prog laid3 w) (fun _ _ _ hh h => h.of_heap hh) own started (by kernel_rfl) Tryz.func13
  (ChangeSpec.witness_shaped (enc := enc) (C := Tryz.checked) (os := os) (X := fun w _ => laidMetH Tryz.prog laid3 w) false (World.doorLaid Tryz.prog 24 os) #[.slice none 0 0, .slice none 0 0] 8 rfl (World.shaped_of_RefB (by kernel_rfl) (by kernel_rfl)) (by kernel_rfl) (by kernel_rfl) (by kernel_rfl) (door_met os _)) ?_
 intro W base args ds gs before hval0 hW _ _ _ _
 have hval : ∀ (j : Nat) t v, Tryz.f13.params[j]? = some t → args[j]? = some v → Value.okWide Tryz.prog W .any base t v := hval0
 have hW' := hW
 obtain ⟨p, q, hA0, hV, rfl, hfz, hnd⟩ := hW
 have hA : DataW.TrodAll enc Tryz.prog W 0 (fun _ => true) true Tryz.f13.params.toList args.toList ds p := hA0
 rw [Tryz.params13] at hA hval
 obtain ⟨v0, vs0, d0, ds0, p0, q0, hargs, rfl, rfl, h0, r0⟩ := trodAll_cons hA
 obtain ⟨v1, vs1, d1, ds1, p1, q1, rfl, rfl, rfl, h1, r1⟩ := trodAll_cons r0
 obtain ⟨rfl, rfl, rfl⟩ := trodAll_nil r1
 obtain rfl : args = #[v0, v1] := by cases args; simp_all
 obtain ⟨rfl, rfl⟩ := trodVars_none hV
 obtain ⟨a0, len0, cap0, rfl⟩ := okWide_slice tyS (hval 0 22 v0 rfl rfl)
 obtain ⟨a1, len1, cap1, rfl⟩ := okWide_slice tyS (hval 1 22 v1 rfl rfl)
 have lt0 : ∀ x ∈ p0, x.block < W.heap.size := by obtain ⟨m, hm⟩ := h0; exact DataW.trod_lt m _ _ _ hm
 have lt1 : ∀ x ∈ p1, x.block < W.heap.size := by obtain ⟨m, hm⟩ := h1; exact DataW.trod_lt m _ _ _ hm
 obtain ⟨l0, o0, g0⟩ := rows_of h0
 obtain ⟨l1, o1, g1⟩ := rows_of h1
 clear hA0 hval0
 refine ((fs_PolyThrough l0 l1 o0 o1).calls (fun _ => False) W [.slice a0 len0 cap0, .slice a1 len1 cap1] (fun _ h => h.elim) ⟨_, _, rfl, g0, _, _, rfl, g1, rfl⟩).mono fun e W' ⟨y, he, hy, bel⟩ => ?_
 have hy' : y = .bool true := hy
 subst he; subst hy'
 exact ⟨_, rfl, _, _, _, [], _, [], hW', trodAll_mk1 (shut_bool und4 _), (trodAll_cons_mk (Below.trod all_lo (by kernel_rfl) (of_decide_eq_true (by kernel_rfl)) h0 bel lt0) (trodAll_cons_mk (Below.trod all_lo (by kernel_rfl) (of_decide_eq_true (by kernel_rfl)) h1 bel lt1) trodAll_mk0)), rfl, bel.frame _, fun h => by cases h⟩
theorem polyThrough_row : Rows.PolyThroughSaid :=
 OpenClaim.holds_of_wide 13 Tryz.f13 rfl rfl rfl rfl rfl rfl rfl ⟨rfl, rfl, rfl, rfl, rfl⟩ rfl rfl rfl rfl rfl polyThrough_fn Tryz.func13 polyThrough_joined
  (of_decide_eq_true polyThrough_is) polyThrough_wrap
  (fun os started H enc _ => polyThrough_lifted os started H enc)
theorem polyThrough_card : Rows.PolyThroughCardSaid :=
 Claim7.holds_tied_plain_at .later [] [.data, .data, .data] true (true, "3282ea10664338544b9e7d29bc655aa318bb5383d19a7a3f41182a047c2a096f") false
  polyThrough_row (fun _ h => by cases h) polyThrough_wt (fun _ h => by cases h) polyThrough_row_tie rfl ⟨rfl, rfl⟩ all_mi rfl
  (fun f fn hf hfn => by
   obtain rfl : f = 13 := Option.some.inj (polyThrough_fn.symm.trans hf) |>.symm
   obtain rfl : fn = Tryz.f13 := (Option.some.inj (Tryz.func13.symm.trans hfn)).symm
   exact ⟨all_lk, fun j t ht => by
    have hm : t ∈ Tryz.f13.params.toList := by simpa using Array.mem_of_getElem? ht
    exact (show Tryz.prog.wantsStandIn t = false by simpa using List.all_eq_true.1 polyThrough_ws t hm)⟩)
  polyThrough_gb
#print axioms polyThrough_card
end Go.Proofs.YtdhedjbmdnnbkaaGreatDoor
