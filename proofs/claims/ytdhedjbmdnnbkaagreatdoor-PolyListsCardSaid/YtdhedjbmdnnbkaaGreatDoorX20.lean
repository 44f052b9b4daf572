/- For every input the law PolyLists returns true, and each argument reads behind the call as it read before; the listed variables start as the program's text lays them (tied). -/
import Derived.Test.YtdhedjbmdnnbkaaGreatDoorX19
import Derived.Test.YtdhedjbmdnnbkaaGreatDoorRows
import Derived.JoinedOf
import Derived.SevenTiedAt
import Derived.Lib.LaidTab
import Derived.Test.YtdhedjbmdnnbkaaGreatDoorTie
import Derived.Test.YtdhedjbmdnnbkaaGreatDoorCards
import Derived.LaidMore
import Derived.Stop.Joined
import Derived.MakeChecks
set_option linter.all false
namespace Go.Proofs.YtdhedjbmdnnbkaaGreatDoor
open Go.Abs
set_option maxRecDepth 20000
theorem rP_lead (p : List Rat) : (trimR (rP p)).getLastD (rq 0) = rq (leadP p) := by
 rw [trimR_rP, rP, List.getLastD_eq_getLast?, List.getLast?_map]
 unfold leadP
 rw [List.getLastD_eq_getLast?]
 cases (trimQ p).getLast? <;> rfl
theorem qtx_bd {c : Rat} {s : Nat} (h : qs c ≤ s) : (qtx c).length ≤ 2 * s + 4 ∧ qtx c ≠ [] := by
 have h1 := ztx_len c.num
 have h2 := dec_len_bl c.den
 have h3 := qs_num c
 have h4 := qs_den c
 rw [qtx_eq]
 refine ⟨by split <;> simp <;> omega, fun e => ?_⟩
 have h5 := (List.append_eq_nil_iff.1 e).1
 unfold ztx at h5
 have h6 := (List.append_eq_nil_iff.1 h5).2
 have h7 : 0 < (Lib.decDigits c.num.natAbs).length := by rw [Lib.decDigits_length]; exact Lib.nDigits_pos _
 rw [h6] at h7
 cases h7
theorem fs_PolyLists (pr qr : List NRow) (hp : okR pr) (hq : okR qr) : FSpec Tryz.prog 8 [.arr (nR pr), .arr (nR qr)] (.v (.bool true)) := by
 have hnp : (nR pr).length = pr.length := by simp [nR]
 have hnq : (nR qr).length = qr.length := by simp [nR]
 refine FSpec.enter Tryz.func8 rfl (by kernel_rfl) rfl rfl rfl ?_ rfl ?_
 ·exact closed_cons (closed_arr (closed_nR pr)) (closed_cons (closed_arr (closed_nR qr)) closed_nil)
 refine r_z 1 ?_
 by_cases h1 : pr.length > 30
 ·refine AWp.seq ?_
  refine q_z 8 ?_
  refine AWp.cond rfl (fun h => ?_) (fun h => ?_)
  ·refine r_c 2 (fs_wakes) ?_
   refine a_z ?_
   refine AWp.ret ?_
   exact Fin.tmpE rfl rfl (closed_v _)
  ·cases h
 by_cases h2 : qr.length > 30
 ·refine AWp.seq ?_
  refine q_z 8 ?_
  refine AWp.cond rfl (fun h => ?_) (fun h => ?_)
  ·refine r_c 2 (fs_wakes) ?_
   refine a_z ?_
   refine AWp.ret ?_
   exact Fin.tmpE rfl rfl (closed_v _)
  ·cases h
 refine AWp.seq ?_
 refine q_z 8 ?_
 refine AWp.cond rfl (fun h => ?_) (fun h => ?_)
 ·cases h
 refine AWp.skip ?_
 have bp := fs_BothP pr (by omega) hp
 have bq := fs_BothP qr (by omega) hq
 have sp : bdL (nL pr) 256 := nL_qs hp
 have sq : bdL (nL qr) 256 := nL_qs hq
 have lp : (nL pr).length ≤ 30 := by simp [nL]; omega
 have lq : (nL qr).length ≤ 30 := by simp [nL]; omega
 obtain ⟨p, hpe⟩ : ∃ p, p = nL pr := ⟨_, rfl⟩
 obtain ⟨q, hqe⟩ : ∃ q, q = nL qr := ⟨_, rfl⟩
 rw [← hpe] at bp sp lp
 rw [← hqe] at bq sq lq
 have bp' : FSpec Tryz.prog 15 [.arr (nR pr)] (.tup [.arr (pE p), .arr (rE (rP p))]) := bp
 have bq' : FSpec Tryz.prog 15 [.arr (nR qr)] (.tup [.arr (pE q), .arr (rE (rP q))]) := bq
 have rpl : (rP p).length ≤ 30 := by rw [rP_length]; exact lp
 have rql : (rP q).length ≤ 30 := by rw [rP_length]; exact lq
 have smp : smL p := bdL_sm sp (by decide)
 have smq : smL q := bdL_sm sq (by decide)
 have spR : bdL (vR (rP p)) 256 := by rw [vR_rP]; exact sp
 have sqR : bdL (vR (rP q)) 256 := by rw [vR_rP]; exact sq
 have e1 := fs_Same p q smp smq (by omega) (by omega)
 have r1 := fs_rSameR (rP p) (rP q) 256 (okX_rP _) (okX_rP _) spR sqR (by decide) (by omega) (by omega)
 rw [vR_rP, vR_rP] at r1
 have e2 := fs_Degree p (by omega)
 have r2 := fs_rDegree (rP p) (by omega)
 rw [vR_rP] at r2
 have e3 := fs_Lead p (by omega)
 have r3 := fs_rLead (rP p) (rq (leadP p)) (by omega) (rP_lead p)
 have s3 := fs_SameN (leadP p) (rq (leadP p)) (rok_rq _) rfl (Nat.le_trans (lead_qs sp (by decide)) (by decide))
 have hne : ∀ c ∈ trimQ p, qtx (absQ c) ≠ [] := fun c hc => (qtx_bd (s := 256) (by rw [qs_abs]; exact sp c (trimQ_mem hc))).2
 have htl := trimQ_len p
 have e4 := fs_PTextG qtx Lib.decDigits 600 p (by omega) (by decide) (fun c hc => by
  have h := sp c (trimQ_mem hc)
  have h9 := qtx_bd (c := absQ c) (s := 256) (by rw [qs_abs]; exact h)
  exact ⟨fs_QTextA (absQ c) (by rw [qs_abs]; omega), h9.2, by omega⟩) (fun n hn => ⟨fs_ItoaA n (by omega), by have := dec_len (n := n) (by omega); omega⟩)
 rw [textG_E hne] at e4
 have r4 := fs_rPText (rP p) (okX_rP p) spR (by omega)
 rw [vR_rP] at r4
 have e5 := fs_Trim p (by omega)
 have s5 := fs_SameP (trimQ p) (rP p) (okX_rP p) (by rw [vR_rP]) (bdL_trim (bdL_mono sp (by decide))) (by omega)
 have aP := fs_Alike p (rP p) (okX_rP p) (vR_rP p) (bdL_mono sp (by decide)) (by omega)
 have aQ := fs_Alike q (rP q) (okX_rP q) (vR_rP q) (bdL_mono sq (by decide)) (by omega)
 obtain ⟨tp, htp⟩ : ∃ tp, tp = textE qtx Lib.decDigits p := ⟨_, rfl⟩
 rw [← htp] at e4 r4
 have hte : (!decide (tp = tp)) = false := by rw [decide_eq_true rfl]; rfl
 refine r_c 7 (bp') ?_
 refine a_z ?_
 refine r_c 7 (bq') ?_
 refine a_z ?_
 refine AWp.seq ?_
 refine r_c 36 (e1) ?_
 refine c_s (r1) ?_
 refine o_0 (.bin rfl rfl (vF (binB_neq tu_4.h) ((bne_self_eq_false _)))) ?_
 refine c_s (e2) ?_
 refine c_s (r2) ?_
 refine AR.op0y rfl rfl rfl (.bin rfl rfl (vF binI_neq ((bne_self_eq_false _)))) rfl rfl ?_
 refine c_s (e3) ?_
 refine c_s (r3) ?_
 refine c_s (s3) ?_
 refine c_s (e4) ?_
 refine c_s (r4) ?_
 refine AR.op0y rfl rfl rfl (.bin rfl rfl (vF binS_neT hte)) rfl rfl ?_
 refine c_s (e5) ?_
 refine c_s (s5) ?_
 refine a_z ?_
 refine AWp.cond rfl (fun h => ?_) (fun h => ?_)
 ·cases h
 refine AWp.skip ?_
 refine r_c 12 (aP) ?_
 refine c_s (aQ) ?_
 refine c_s (fs_wakes) ?_
 refine a_z ?_
 refine AWp.ret ?_
 exact Fin.tmpE rfl rfl (closed_v _)
end Go.Proofs.YtdhedjbmdnnbkaaGreatDoor
namespace Go.Proofs.YtdhedjbmdnnbkaaGreatDoor
open Go
def mkF (P : Program) (fn : Func) (c : OpenClaim) : Bool := (P.make == some c.make) && (c.kinds == (if c.domain.isEmpty then [] else fn.params.toList.map fun t => match P.underlying t with | some (.int k) => some k | _ => none)) && (c.pinned == c.pinnedBy)
section
variable {P : Program} {f : FuncId} {fn : Func} {s : ChangeSpec} {c : OpenClaim}
theorem joined_of (h1 : c.wf (OpenSpec.ofChange s) = true) (h2 : laidOutB P = true) (h3 : mapsRowed P = true)
    (h4 : fn.params.all (P.readableRec ·) = true) (h5 : namedTie P c.named s.vars = true)
    (h6 : ((c.stops == []) && (P.stops == []) && (c.knobs == []) && (P.stopKnobs == [])) = true)
    (h7 : (c.inPlace == P.inPlace f) = true) (h8 : (c.unfollowed == P.unfollowed f) = true) (h9 : (c.recurses == P.recurses f) = true) (h10 : (c.named == P.varsNamed f) = true)
    (h11 : ((c.maps == (fn.params.toList ++ s.plain.varTypes P).any (P.mapsRec ·)) && (c.ifaces == (fn.params.toList ++ s.plain.varTypes P).any (P.ifacesRec ·)) && (c.mapsOut == P.mapsAmong fn.resultTypes.toList)) = true)
    (h12 : ((c.loops == (fn.params.toList ++ s.plain.varTypes P).any (P.loopsFrom ·)) && (c.wideKeys == (fn.params.toList ++ s.plain.varTypes P ++ fn.resultTypes.toList).any (P.wideKeysFrom ·))) = true)
    (h13 : (s.vars.all (P.varReadable ·) && fn.resultTypes.all (fun t => P.readableRec t && decide (t < P.types.size)) && (c.ifacesOut == fn.resultTypes.toList.any (P.ifacesRec ·)) && (c.loopsOut == fn.resultTypes.toList.any (P.loopsFrom ·)) && (c.plainKeys == P.plainKeys) && c.shortTexts.isNone) = true)
    (h14 : P.stopsHeard = true) (h15 : P.mayEnter = true) (h16 : (c.lifted == P.liftsFinal) = true)
    (h17 : mkF P fn c = true)
    (h18 : ((c.veiled == (fn.params.toList ++ s.plain.varTypes P ++ fn.resultTypes.toList).any (P.veiledRec ·)) && c.veiledFits P fn.params.toList (fn.params.toList ++ s.plain.varTypes P ++ fn.resultTypes.toList)) = true) :
    joinedFacts P f fn s c = true := by
 unfold mkF at h17
 simp only [Bool.and_eq_true] at h6 h11 h12 h13 h17 h18
 simp only [joinedFacts, Bool.and_eq_true]
 and_intros
 all_goals first | assumption | exact h6.1.1.1 | exact h6.1.1.2 | exact h6.1.2 | exact h6.2 | exact h11.1.1 | exact h11.1.2 | exact h11.2 | exact h12.1 | exact h12.2 | exact h13.1.1.1.1.1 | exact h13.1.1.1.1.2 | exact h13.1.1.1.2 | exact h13.1.1.2 | exact h13.1.2 | exact h13.2 | exact h17.1.1 | exact h17.1.2 | exact h17.2 | exact h18.1 | exact h18.2
end
theorem all_lo : laidOutB Tryz.prog = true := by kernel_rfl
theorem all_mr : mapsRowed Tryz.prog = true := by kernel_rfl
theorem all_sh : Tryz.prog.stopsHeard = true := by kernel_rfl
theorem all_me : Tryz.prog.mayEnter = true := by kernel_rfl
theorem all_lk : false = Tryz.prog.looks [] := by kernel_rfl
theorem all_mi : Tryz.prog.mainIs = some (true, ("3282ea10664338544b9e7d29bc655aa318bb5383d19a7a3f41182a047c2a096f" : String).toList) := by kernel_rfl
theorem all_lf : Tryz.prog.liftsFinal = Rows.polyThroughRow.lifted := by kernel_rfl
theorem polyLists_wf : Rows.polyListsRow.wf (OpenSpec.ofChange Rows.polyListsSpec) = true := by kernel_rfl
theorem polyLists_rr : Tryz.f8.params.all (Tryz.prog.readableRec ·) = true := by kernel_rfl
theorem polyLists_nt : namedTie Tryz.prog Rows.polyListsRow.named Rows.polyListsSpec.vars = true := by kernel_rfl
theorem polyLists_st : ((Rows.polyListsRow.stops == []) && (Tryz.prog.stops == []) && (Rows.polyListsRow.knobs == []) && (Tryz.prog.stopKnobs == [])) = true := by kernel_rfl
theorem polyLists_ip : (Rows.polyListsRow.inPlace == Tryz.prog.inPlace 8) = true := by kernel_rfl
theorem polyLists_uf : (Rows.polyListsRow.unfollowed == Tryz.prog.unfollowed 8) = true := by kernel_rfl
theorem polyLists_rc : (Rows.polyListsRow.recurses == Tryz.prog.recurses 8) = true := by kernel_rfl
theorem polyLists_vn : (Rows.polyListsRow.named == Tryz.prog.varsNamed 8) = true := by kernel_rfl
theorem polyLists_mp : ((Rows.polyListsRow.maps == (Tryz.f8.params.toList ++ Rows.polyListsSpec.plain.varTypes Tryz.prog).any (Tryz.prog.mapsRec ·)) && (Rows.polyListsRow.ifaces == (Tryz.f8.params.toList ++ Rows.polyListsSpec.plain.varTypes Tryz.prog).any (Tryz.prog.ifacesRec ·)) && (Rows.polyListsRow.mapsOut == Tryz.prog.mapsAmong Tryz.f8.resultTypes.toList)) = true := by kernel_rfl
theorem polyLists_lp : ((Rows.polyListsRow.loops == (Tryz.f8.params.toList ++ Rows.polyListsSpec.plain.varTypes Tryz.prog).any (Tryz.prog.loopsFrom ·)) && (Rows.polyListsRow.wideKeys == (Tryz.f8.params.toList ++ Rows.polyListsSpec.plain.varTypes Tryz.prog ++ Tryz.f8.resultTypes.toList).any (Tryz.prog.wideKeysFrom ·))) = true := by kernel_rfl
theorem polyLists_vr : (Rows.polyListsSpec.vars.all (Tryz.prog.varReadable ·) && Tryz.f8.resultTypes.all (fun t => Tryz.prog.readableRec t && decide (t < Tryz.prog.types.size)) && (Rows.polyListsRow.ifacesOut == Tryz.f8.resultTypes.toList.any (Tryz.prog.ifacesRec ·)) && (Rows.polyListsRow.loopsOut == Tryz.f8.resultTypes.toList.any (Tryz.prog.loopsFrom ·)) && (Rows.polyListsRow.plainKeys == Tryz.prog.plainKeys) && Rows.polyListsRow.shortTexts.isNone) = true := by kernel_rfl
theorem polyLists_ve : ((Rows.polyListsRow.veiled == (Tryz.f8.params.toList ++ Rows.polyListsSpec.plain.varTypes Tryz.prog ++ Tryz.f8.resultTypes.toList).any (Tryz.prog.veiledRec ·)) && Rows.polyListsRow.veiledFits Tryz.prog Tryz.f8.params.toList (Tryz.f8.params.toList ++ Rows.polyListsSpec.plain.varTypes Tryz.prog ++ Tryz.f8.resultTypes.toList)) = true := by kernel_rfl
theorem polyLists_wt : Rows.polyListsRow.wfByText (OpenSpec.ofChange Rows.polyListsSpec) = true := by kernel_rfl
theorem polyLists_gb : false = Rows.polyListsRow.goesBy Tryz.prog := by kernel_rfl
theorem polyLists_fn : Tryz.prog.funcNamed Rows.polyListsRow.func = some 8 := by kernel_rfl
theorem polyLists_is : decide (Tryz.f8.isInstance Tryz.prog Rows.polyListsRow.origin Rows.polyListsRow.targs) = true := by kernel_rfl
theorem polyLists_ws : (Tryz.f8.params.toList.all fun u => !Tryz.prog.wantsStandIn u) = true := by kernel_rfl
theorem polyLists_mk : mkF Tryz.prog Tryz.f8 Rows.polyListsRow = true := by kernel_rfl
theorem polyLists_lf : (Rows.polyListsRow.lifted == Tryz.prog.liftsFinal) = true := by rw [all_lf]; kernel_rfl
theorem polyLists_joined : joinedFacts Tryz.prog 8 Tryz.f8 Rows.polyListsSpec Rows.polyListsRow = true :=
 joined_of polyLists_wf all_lo all_mr polyLists_rr polyLists_nt polyLists_st polyLists_ip polyLists_uf polyLists_rc polyLists_vn polyLists_mp polyLists_lp polyLists_vr all_sh all_me polyLists_lf polyLists_mk polyLists_ve
theorem polyLists_wrap : Tryz.f8.isWrapper Tryz.prog Rows.polyListsRow.wrapper Rows.polyListsRow.mainSum := by
 unfold Func.isWrapper; first | (rw [if_pos (by decide +kernel)]; kernel_rfl) | (rw [if_neg (by decide +kernel)]; exact ⟨rfl, rfl⟩)
end Go.Proofs.YtdhedjbmdnnbkaaGreatDoor
namespace Go.Proofs.YtdhedjbmdnnbkaaGreatDoor
open Go.Abs Go.RowKit
theorem tab_of {n1 n2 : String} {a b : DataW Unit} {W : World} (h : laidMet Tryz.prog [(n1, a), (n2, b), ("internal/strconv.uint64pow10", Lib.tabData .u64 Lib.pow10Tab)] W) : TabW W := by
 obtain ⟨ps, ⟨g1, t1, c1, u1, p1, q1, _, _, _, _, ⟨g2, t2, c2, u2, p2, q2, _, _, _, _, ⟨g, t, cs, fuel, p, q, hg, ht, hv, hd, _, _⟩, _⟩, _⟩, _, _⟩ := h
 obtain rfl := Option.some.inj (tab_glob.symm.trans hg)
 have hT : ((Tryz.prog).globals[GT]?).map (·.type) = some 298 := by kernel_rfl
 have hu : (Tryz.prog).underlying 298 = some (.array 20 207) := by kernel_rfl
 have he : (Tryz.prog).underlying 207 = some (.int .u64) := by kernel_rfl
 have hce : (Tryz.prog).cellsOf 207 = 1 := by kernel_rfl
 have hct : (Tryz.prog).cellsOf 298 = 20 := by kernel_rfl
 obtain rfl := Option.some.inj (hT.symm.trans ht)
 have hc := Lib.cells_of_tab (zs := Lib.pow10Tab) hu he hce hct hd
 unfold World.var? at hv
 rw [tab_glob] at hv
 have hv' : (match W.heap[GT]? with | some (.cells cs _ _) => some cs | _ => none) = some cs := hv
 cases hh : W.heap[GT]? with
 | none => rw [hh] at hv'; cases hv'
 | some o =>
  rw [hh] at hv'
  cases o with
  | cells a b c =>
   obtain rfl : a = cs := Option.some.inj hv'
   refine ⟨b, c, ?_⟩
   rw [hh]
   have : a = tabA := by
    unfold tabA
    rw [← hc]
   rw [this]
  | _ => cases hv'
end Go.Proofs.YtdhedjbmdnnbkaaGreatDoor
namespace Go.Proofs.YtdhedjbmdnnbkaaGreatDoor
open Go.Abs Go.ChangeAt Go.ChangeShapes Go.RowKit Go.WideShapes
theorem own : ownKnob Tryz.prog.godebug = none := by kernel_rfl
theorem und4 : Tryz.prog.underlying 4 = some .bool := by kernel_rfl
abbrev laid3 : List (String × DataW Unit) := Rows.polyListsRow.laid
theorem door_met (os : Os) (args : Array Value) : laidMetH Tryz.prog laid3 ((World.doorLaid Tryz.prog 24 os).forCall (fun _ _ => 0) ⟨#[], args, []⟩).memory :=
 laidMetH_of_parts3 (fuel := 8) (laidMet_of_run' 8 (by kernel_rfl) (by kernel_rfl)) (by kernel_rfl) (by kernel_rfl)
set_option maxRecDepth 100000 in
theorem polyLists_lifted (os : Os) (started : os.Started) (H : Type) (enc : TypeId × Value → H) :
    ReturnsInHanded {} Tryz.checked os 8 .any (fun w args => (Rows.polyListsSpec.pre enc Tryz.prog Tryz.f8 [] false w args ∧ laidMetH Tryz.prog laid3 w) ∧ sizedMet enc Tryz.prog Tryz.f8 (OpenSpec.ofChange Rows.polyListsSpec) false w args)
     (Rows.polyListsSpec.post enc Tryz.prog Tryz.f8 false true false false) := by
 refine returnsInHanded_of_change_and (C := Tryz.checked) (X := fun w _ => laidMetH Tryz.prog laid3 w) (fun _ _ _ hh h => h.of_heap hh) own started (by kernel_rfl) Tryz.func8
  (ChangeSpec.witness_shaped (enc := enc) (C := Tryz.checked) (os := os) (X := fun w _ => laidMetH Tryz.prog laid3 w) false (World.doorLaid Tryz.prog 24 os) #[.slice none 0 0, .slice none 0 0] 8 rfl (World.shaped_of_RefB (by kernel_rfl) (by kernel_rfl)) (by kernel_rfl) (by kernel_rfl) (by kernel_rfl) (door_met os _)) ?_
 intro W base args ds gs before hval0 hW _ _ hX _
 have hval : ∀ (j : Nat) t v, Tryz.f8.params[j]? = some t → args[j]? = some v → Value.okWide Tryz.prog W .any base t v := hval0
 have hW' := hW
 obtain ⟨p, q, hA0, hV, rfl, hfz, hnd⟩ := hW
 have hA : DataW.TrodAll enc Tryz.prog W 0 (fun _ => true) true Tryz.f8.params.toList args.toList ds p := hA0
 rw [Tryz.params8] at hA hval
 obtain ⟨v0, vs0, d0, ds0, p0, q0, hargs, rfl, rfl, h0, r0⟩ := trodAll_cons hA
 obtain ⟨v1, vs1, d1, ds1, p1, q1, rfl, rfl, rfl, h1, r1⟩ := trodAll_cons r0
 obtain ⟨rfl, rfl, rfl⟩ := trodAll_nil r1
 obtain rfl : args = #[v0, v1] := by cases args; simp_all
 obtain ⟨rfl, rfl⟩ := trodVars_none hV
 obtain ⟨a0, len0, cap0, rfl⟩ := okWide_slice tyS (hval 0 22 v0 rfl rfl)
 obtain ⟨a1, len1, cap1, rfl⟩ := okWide_slice tyS (hval 1 22 v1 rfl rfl)
 have lt0 : ∀ x ∈ p0, x.block < W.heap.size := by obtain ⟨m, hm⟩ := h0; exact DataW.trod_lt m _ _ _ hm
 have lt1 : ∀ x ∈ p1, x.block < W.heap.size := by obtain ⟨m, hm⟩ := h1; exact DataW.trod_lt m _ _ _ hm
 obtain ⟨l0, o0, g0⟩ := rows_of h0
 obtain ⟨l1, o1, g1⟩ := rows_of h1
 clear hA0 hval0
 refine ((fs_PolyLists l0 l1 o0 o1).calls (fun _ => False) W [.slice a0 len0 cap0, .slice a1 len1 cap1] ⟨fun _ h => h.elim, fun h => h, tab_of (by rw [MakeChecks.laidMetH_plain _ _ _ (by kernel_rfl)] at hX; exact hX)⟩ ⟨_, _, rfl, g0, ⟨_, _, rfl, g1, rfl⟩⟩).mono fun e W' ⟨y, he, hy, bel⟩ => ?_
 have hy' : y = .bool true := hy
 subst he; subst hy'
 exact ⟨_, rfl, _, _, _, [], _, [], hW', trodAll_mk1 (shut_bool und4 _), (trodAll_cons_mk (Below.trod all_lo (by kernel_rfl) (of_decide_eq_true (by kernel_rfl)) h0 bel lt0) (trodAll_cons_mk (Below.trod all_lo (by kernel_rfl) (of_decide_eq_true (by kernel_rfl)) h1 bel lt1) trodAll_mk0)), rfl, bel.frame _, fun h => by cases h⟩
theorem polyLists_row : Rows.PolyListsSaid :=
 OpenClaim.holds_of_wide 8 Tryz.f8 rfl rfl rfl rfl rfl rfl rfl ⟨rfl, rfl, rfl, rfl, rfl⟩ rfl rfl rfl rfl rfl polyLists_fn Tryz.func8 polyLists_joined
  (of_decide_eq_true polyLists_is) polyLists_wrap
  (fun os started H enc _ => polyLists_lifted os started H enc)
theorem polyLists_card : Rows.PolyListsCardSaid :=
 Claim7.holds_tied_plain_at .later [] [.data, .data, .data] true (true, "3282ea10664338544b9e7d29bc655aa318bb5383d19a7a3f41182a047c2a096f") false
  polyLists_row (fun _ h => by cases h) polyLists_wt (fun _ h => by cases h) polyLists_row_tie rfl ⟨rfl, rfl⟩ all_mi rfl
  (fun f fn hf hfn => by
   obtain rfl : f = 8 := Option.some.inj (polyLists_fn.symm.trans hf) |>.symm
   obtain rfl : fn = Tryz.f8 := (Option.some.inj (Tryz.func8.symm.trans hfn)).symm
   exact ⟨all_lk, fun j t ht => by
    have hm : t ∈ Tryz.f8.params.toList := by simpa using Array.mem_of_getElem? ht
    exact (show Tryz.prog.wantsStandIn t = false by simpa using List.all_eq_true.1 polyLists_ws t hm)⟩)
  polyLists_gb
#print axioms polyLists_card
end Go.Proofs.YtdhedjbmdnnbkaaGreatDoor
