/- For every input the law PolyResultants returns true, and each argument reads behind the call as it read before; the listed variables start as the program's text lays them (tied). -/
import Derived.Test.YtdhedjbmdnnbkaaGreatDoorS20
import Derived.Test.YtdhedjbmdnnbkaaGreatDoorTie
import Derived.Test.YtdhedjbmdnnbkaaGreatDoorCards
import Derived.LaidMore
import Derived.Stop.Joined
import Derived.SevenTiedAt
set_option linter.all false
namespace Go.Proofs.YtdhedjbmdnnbkaaGreatDoor
open Go.Abs
set_option maxRecDepth 20000
theorem sgZ_zero (x : Rat) : (sgZ x.num == (0 : Int)) = decide (x = 0) := by
 rw [Bool.eq_iff_iff]
 simp [sgZ_num_eq]
theorem fs_PolyResultants (pr qr rr : List NRow) (hp : okR pr) (hq : okR qr) (hr : okR rr) : FSpec Tryz.prog 3 [.arr (nR pr), .arr (nR qr), .arr (nR rr)] (.v (.bool true)) := by
 have hnp : (nR pr).length = pr.length := by simp [nR]
 have hnq : (nR qr).length = qr.length := by simp [nR]
 have hnr : (nR rr).length = rr.length := by simp [nR]
 refine FSpec.enter Tryz.func3 rfl (by kernel_rfl) rfl rfl rfl ?_ rfl ?_
 ·exact closed_cons (closed_arr (closed_nR pr)) (closed_cons (closed_arr (closed_nR qr)) (closed_cons (closed_arr (closed_nR rr)) closed_nil))
 refine r_z 1 ?_
 by_cases h1 : pr.length > 5
 ·refine AWp.seq ?_
  refine s_r 13 ?_
  refine a_2 ?_
  refine o_0 (.bin rfl rfl (vT binI_gtr (decide_eq_true (by omega)))) ?_
  refine a_z ?_
  refine AWp.cond rfl (fun h => ?_) (fun h => ?_)
  ·refine r_c 2 (fs_wakes) ?_
   refine a_z ?_
   refine AWp.ret ?_
   exact Fin.tmpE rfl rfl (closed_v _)
  ·cases h
 by_cases h2 : qr.length > 5
 ·refine AWp.seq ?_
  refine s_r 13 ?_
  refine a_2 ?_
  refine o_0 (.bin rfl rfl (vF binI_gtr (decide_eq_false (by omega)))) ?_
  refine a_1 ?_
  first | refine AR.op0y rfl rfl rfl (.move rfl) rfl rfl ?_ | refine AR.opN rfl rfl (by simp [boolOf]) rfl rfl ?_
  first | refine AR.op0y rfl rfl rfl (.lenD rfl rfl rfl rfl te_22.h) rfl rfl ?_ | refine AR.op0y rfl rfl rfl (.lenI rfl rfl rfl rfl te_22.h) rfl rfl ?_ | refine AR.op0y rfl rfl rfl (.lenP rfl rfl rfl rfl te_22.h) rfl rfl ?_ | refine AR.op0y rfl rfl rfl (.lenC rfl rfl rfl rfl te_22.h) rfl rfl ?_ | refine AR.op0y rfl rfl rfl (.lenR rfl rfl rfl rfl te_22.h) rfl rfl ?_ | refine AR.op0y rfl rfl rfl (.len rfl rfl rfl rfl rfl te_22.h) rfl rfl ?_ | refine AR.opN rfl rfl (by simp [boolOf]) rfl rfl ?_
  refine AR.op0y rfl rfl rfl (.bin rfl rfl (vT binI_gtr (decide_eq_true (by omega)))) rfl rfl ?_
  refine a_z ?_
  refine AWp.cond rfl (fun h => ?_) (fun h => ?_)
  ·refine r_c 2 (fs_wakes) ?_
   refine a_z ?_
   refine AWp.ret ?_
   exact Fin.tmpE rfl rfl (closed_v _)
  ·cases h
 by_cases h3 : rr.length > 5
 ·refine AWp.seq ?_
  refine s_r 13 ?_
  refine a_2 ?_
  refine o_0 (.bin rfl rfl (vF binI_gtr (decide_eq_false (by omega)))) ?_
  refine a_1 ?_
  first | refine AR.op0y rfl rfl rfl (.move rfl) rfl rfl ?_ | refine AR.opN rfl rfl (by simp [boolOf]) rfl rfl ?_
  first | refine AR.op0y rfl rfl rfl (.lenD rfl rfl rfl rfl te_22.h) rfl rfl ?_ | refine AR.op0y rfl rfl rfl (.lenI rfl rfl rfl rfl te_22.h) rfl rfl ?_ | refine AR.op0y rfl rfl rfl (.lenP rfl rfl rfl rfl te_22.h) rfl rfl ?_ | refine AR.op0y rfl rfl rfl (.lenC rfl rfl rfl rfl te_22.h) rfl rfl ?_ | refine AR.op0y rfl rfl rfl (.lenR rfl rfl rfl rfl te_22.h) rfl rfl ?_ | refine AR.op0y rfl rfl rfl (.len rfl rfl rfl rfl rfl te_22.h) rfl rfl ?_ | refine AR.opN rfl rfl (by simp [boolOf]) rfl rfl ?_
  refine AR.op0y rfl rfl rfl (.bin rfl rfl (vF binI_gtr (decide_eq_false (by omega)))) rfl rfl ?_
  refine a_2 ?_
  first | refine AR.op0y rfl rfl rfl (.move rfl) rfl rfl ?_ | refine AR.opN rfl rfl (by simp [boolOf]) rfl rfl ?_
  first | refine AR.op0y rfl rfl rfl (.lenD rfl rfl rfl rfl te_22.h) rfl rfl ?_ | refine AR.op0y rfl rfl rfl (.lenI rfl rfl rfl rfl te_22.h) rfl rfl ?_ | refine AR.op0y rfl rfl rfl (.lenP rfl rfl rfl rfl te_22.h) rfl rfl ?_ | refine AR.op0y rfl rfl rfl (.lenC rfl rfl rfl rfl te_22.h) rfl rfl ?_ | refine AR.op0y rfl rfl rfl (.lenR rfl rfl rfl rfl te_22.h) rfl rfl ?_ | refine AR.op0y rfl rfl rfl (.len rfl rfl rfl rfl rfl te_22.h) rfl rfl ?_ | refine AR.opN rfl rfl (by simp [boolOf]) rfl rfl ?_
  refine AR.op0y rfl rfl rfl (.bin rfl rfl (vT binI_gtr (decide_eq_true (by omega)))) rfl rfl ?_
  refine a_z ?_
  refine AWp.cond rfl (fun h => ?_) (fun h => ?_)
  ·refine r_c 2 (fs_wakes) ?_
   refine a_z ?_
   refine AWp.ret ?_
   exact Fin.tmpE rfl rfl (closed_v _)
  ·cases h
 refine AWp.seq ?_
 refine s_r 13 ?_
 refine a_2 ?_
 refine o_0 (.bin rfl rfl (vF binI_gtr (decide_eq_false (by omega)))) ?_
 refine a_1 ?_
 first | refine AR.op0y rfl rfl rfl (.move rfl) rfl rfl ?_ | refine AR.opN rfl rfl (by simp [boolOf]) rfl rfl ?_
 first | refine AR.op0y rfl rfl rfl (.lenD rfl rfl rfl rfl te_22.h) rfl rfl ?_ | refine AR.op0y rfl rfl rfl (.lenI rfl rfl rfl rfl te_22.h) rfl rfl ?_ | refine AR.op0y rfl rfl rfl (.lenP rfl rfl rfl rfl te_22.h) rfl rfl ?_ | refine AR.op0y rfl rfl rfl (.lenC rfl rfl rfl rfl te_22.h) rfl rfl ?_ | refine AR.op0y rfl rfl rfl (.lenR rfl rfl rfl rfl te_22.h) rfl rfl ?_ | refine AR.op0y rfl rfl rfl (.len rfl rfl rfl rfl rfl te_22.h) rfl rfl ?_ | refine AR.opN rfl rfl (by simp [boolOf]) rfl rfl ?_
 refine AR.op0y rfl rfl rfl (.bin rfl rfl (vF binI_gtr (decide_eq_false (by omega)))) rfl rfl ?_
 refine a_2 ?_
 first | refine AR.op0y rfl rfl rfl (.move rfl) rfl rfl ?_ | refine AR.opN rfl rfl (by simp [boolOf]) rfl rfl ?_
 first | refine AR.op0y rfl rfl rfl (.lenD rfl rfl rfl rfl te_22.h) rfl rfl ?_ | refine AR.op0y rfl rfl rfl (.lenI rfl rfl rfl rfl te_22.h) rfl rfl ?_ | refine AR.op0y rfl rfl rfl (.lenP rfl rfl rfl rfl te_22.h) rfl rfl ?_ | refine AR.op0y rfl rfl rfl (.lenC rfl rfl rfl rfl te_22.h) rfl rfl ?_ | refine AR.op0y rfl rfl rfl (.lenR rfl rfl rfl rfl te_22.h) rfl rfl ?_ | refine AR.op0y rfl rfl rfl (.len rfl rfl rfl rfl rfl te_22.h) rfl rfl ?_ | refine AR.opN rfl rfl (by simp [boolOf]) rfl rfl ?_
 refine AR.op0y rfl rfl rfl (.bin rfl rfl (vF binI_gtr (decide_eq_false (by omega)))) rfl rfl ?_
 refine a_z ?_
 refine AWp.cond rfl (fun h => ?_) (fun h => ?_)
 ·cases h
 refine AWp.skip ?_
 have bp := fs_BothP pr (by omega) hp
 have bq := fs_BothP qr (by omega) hq
 have br := fs_BothP rr (by omega) hr
 have sp := nL_qs hp
 have sq := nL_qs hq
 have sr := nL_qs hr
 have lp : (nL pr).length ≤ 5 := by simp [nL]; omega
 have lq : (nL qr).length ≤ 5 := by simp [nL]; omega
 have lr : (nL rr).length ≤ 5 := by simp [nL]; omega
 obtain ⟨p, hpe⟩ : ∃ p, p = nL pr := ⟨_, rfl⟩
 obtain ⟨q, hqe⟩ : ∃ q, q = nL qr := ⟨_, rfl⟩
 obtain ⟨r, hre⟩ : ∃ r, r = nL rr := ⟨_, rfl⟩
 rw [← hpe] at bp sp lp
 rw [← hqe] at bq sq lq
 rw [← hre] at br sr lr
 refine r_c 7 (bp) ?_
 refine a_z ?_
 refine r_c 7 (bq) ?_
 refine a_z ?_
 refine r_c 7 (br) ?_
 refine a_z ?_
 have dp := fs_Degree p (by omega)
 have dq := fs_Degree q (by omega)
 have dr := fs_Degree r (by omega)
 have z0 : resM 1 1 p [] = some 0 := by
  rw [resM, if_pos ⟨by omega, by simp⟩, if_pos (.inr (by decide))]
 have rz := fs_Resultant 1 p [] 0 z0
 by_cases g1 : degP p < 0
 ·refine AWp.seq ?_
  refine r_c 13 (dp) ?_
  refine o_0 (.bin rfl rfl (vT binI_lss (decide_eq_true g1))) ?_
  refine a_z ?_
  refine AWp.cond rfl (fun h => ?_) (fun h => ?_)
  ·refine s_r 9 ?_
   refine a_2 ?_
   refine o_1 (.callS1 rfl rfl rfl (.keep (.shut rfl (by first | exact nle rfl | (simp; done) | (simp; omega)) (.nil))) rfl (rz)) ?_
   refine c_s (fs_Sign 0) ?_
   refine o_0 (.bin rfl rfl (vT binI_eql ((by decide)))) ?_
   refine c_s (fs_wakes) ?_
   refine a_z ?_
   refine AWp.ret ?_
   exact Fin.tmpE rfl rfl (closed_v _)
  ·cases h
 by_cases g2 : degP q < 0
 ·refine AWp.seq ?_
  refine r_c 13 (dp) ?_
  refine o_0 (.bin rfl rfl (vF binI_lss (decide_eq_false g1))) ?_
  refine c_s (dq) ?_
  refine AR.op0y rfl rfl rfl (.bin rfl rfl (vT binI_lss (decide_eq_true g2))) rfl rfl ?_
  refine a_z ?_
  refine AWp.cond rfl (fun h => ?_) (fun h => ?_)
  ·refine s_r 9 ?_
   refine a_2 ?_
   refine o_1 (.callS1 rfl rfl rfl (.keep (.shut rfl (by first | exact nle rfl | (simp; done) | (simp; omega)) (.nil))) rfl (rz)) ?_
   refine c_s (fs_Sign 0) ?_
   refine o_0 (.bin rfl rfl (vT binI_eql ((by decide)))) ?_
   refine c_s (fs_wakes) ?_
   refine a_z ?_
   refine AWp.ret ?_
   exact Fin.tmpE rfl rfl (closed_v _)
  ·cases h
 by_cases g3 : degP r < 0
 ·refine AWp.seq ?_
  refine r_c 13 (dp) ?_
  refine o_0 (.bin rfl rfl (vF binI_lss (decide_eq_false g1))) ?_
  refine c_s (dq) ?_
  refine AR.op0y rfl rfl rfl (.bin rfl rfl (vF binI_lss (decide_eq_false g2))) rfl rfl ?_
  refine c_s (dr) ?_
  refine AR.op0y rfl rfl rfl (.bin rfl rfl (vT binI_lss (decide_eq_true g3))) rfl rfl ?_
  refine a_z ?_
  refine AWp.cond rfl (fun h => ?_) (fun h => ?_)
  ·refine s_r 9 ?_
   refine a_2 ?_
   refine o_1 (.callS1 rfl rfl rfl (.keep (.shut rfl (by first | exact nle rfl | (simp; done) | (simp; omega)) (.nil))) rfl (rz)) ?_
   refine c_s (fs_Sign 0) ?_
   refine o_0 (.bin rfl rfl (vT binI_eql ((by decide)))) ?_
   refine c_s (fs_wakes) ?_
   refine a_z ?_
   refine AWp.ret ?_
   exact Fin.tmpE rfl rfl (closed_v _)
  ·cases h
 refine AWp.seq ?_
 refine r_c 13 (dp) ?_
 refine o_0 (.bin rfl rfl (vF binI_lss (decide_eq_false g1))) ?_
 refine c_s (dq) ?_
 refine AR.op0y rfl rfl rfl (.bin rfl rfl (vF binI_lss (decide_eq_false g2))) rfl rfl ?_
 refine c_s (dr) ?_
 refine AR.op0y rfl rfl rfl (.bin rfl rfl (vF binI_lss (decide_eq_false g3))) rfl rfl ?_
 refine a_z ?_
 refine AWp.cond rfl (fun h => ?_) (fun h => ?_)
 ·cases h
 refine AWp.skip ?_
 -- all three are other than 0
 have np : nz p := Classical.byContradiction fun e => g1 (degP_nil.2 e)
 have nq : nz q := Classical.byContradiction fun e => g2 (degP_nil.2 e)
 have nr : nz r := Classical.byContradiction fun e => g3 (degP_nil.2 e)
 have tp := trimQ_len p
 have tq := trimQ_len q
 have tr := trimQ_len r
 have mb : bdL (mulP q r) 2566 := fun c hc => by
  have h1 := mulP_bd sq sr (by decide) (by decide) c hc
  have h2 := Nat.mul_le_mul_right (256 + 256 + 1) lq
  omega
 have ml := mulP_len q r
 obtain ⟨nm, dm, _⟩ := dg_mul nq nr
 have tm : (trimQ (mulP q r)).length ≤ 9 := by
  have e1 := List.length_pos_iff.2 nm
  have e2 := List.length_pos_iff.2 nq
  have e3 := List.length_pos_iff.2 nr
  unfold dg at dm; omega
 obtain ⟨x, hx, sx⟩ := resM_five p q sp (fun c hc => by have := sq c hc; omega) np nq (by omega) (by omega) (by omega) (by omega)
 obtain ⟨y, hy, sy⟩ := resM_five p r sp (fun c hc => by have := sr c hc; omega) np nr (by omega) (by omega) (by omega) (by omega)
 obtain ⟨z, hz, sz⟩ := resM_five p (mulP q r) sp mb np nm (by omega) tm (by omega) (by omega)
 obtain ⟨g, hg, lg⟩ := gcdM_five p q sp sq (by omega) (by omega) (by omega) (by omega)
 have ex := resM_spec _ _ _ _ _ hx np nq
 have ey := resM_spec _ _ _ _ _ hy np nr
 have ez := resM_spec _ _ _ _ _ hz np nm
 have hzero : ((sgZ x.num == (0 : Int)) != decide ((0 : Int) < degP g)) = false := by
  have e1 : x = 0 ↔ 0 < degP g := by
   rw [ex, show (1 : Rat) * Rr p q = Rr p q by grind, Rr_iff np nq, ← (gcdM_spec _ _ _ _ hg).2 nq]
   unfold dg degP; omega
  rw [sgZ_zero]
  by_cases h0 : x = 0
  ·rw [decide_eq_true h0, decide_eq_true (e1.1 h0)]; rfl
  ·rw [decide_eq_false h0, decide_eq_false fun e => h0 (e1.2 e)]; rfl
 have hmul : (cmpQ z (x * y) == (0 : Int)) = true := by
  rw [cmpQ_eq]
  exact decide_eq_true (by rw [ez, ex, ey, Rr_mul np nq nr]; grind)
 have smx : sm x := by unfold sm; omega
 have smy : sm y := by unfold sm; omega
 have smz : sm z := by unfold sm; omega
 have smxy : sm (x * y) := by have := qs_mul x y; unfold sm; omega
 have rx := fs_Resultant 40 p q x hx
 have fm := fs_Mul q r 256 256 sq sr (by decide) (by decide) (by omega) (by decide) (by omega) (by omega)
 refine AWp.seq ?_
 refine r_c 11 (rx) ?_
 refine c_s (fs_Sign x) ?_
 refine c_s (fs_Gcd 20 p q g hg (by omega) (by omega)) ?_
 refine c_s (fs_Degree g (by omega)) ?_
 refine a_1 ?_
 refine o_0 (.bin rfl rfl (vF (binB_neq tu_4.h) (hzero))) ?_
 refine AR.nil ?_
 refine AWp.cond rfl (fun h => ?_) (fun h => ?_)
 ·cases h
 refine AWp.skip ?_
 refine r_c 18 (fm) ?_
 refine c_s (fs_Resultant 40 p (mulP q r) z hz) ?_
 refine c_s (rx) ?_
 refine c_s (fs_Resultant 40 p r y hy) ?_
 refine c_s (fs_mul x y (sm2 smx smy)) ?_
 refine c_s (fs_cmp z (x * y) smz smxy) ?_
 refine o_0 (.bin rfl rfl (vT binI_eql (hmul))) ?_
 refine c_s (fs_wakes) ?_
 refine a_z ?_
 refine AWp.ret ?_
 exact Fin.tmpE rfl rfl (closed_v _)
end Go.Proofs.YtdhedjbmdnnbkaaGreatDoor
namespace Go.Proofs.YtdhedjbmdnnbkaaGreatDoor
open Go
theorem polyResultants_wf : Rows.polyResultantsRow.wf (OpenSpec.ofChange Rows.polyResultantsSpec) = true := by kernel_rfl
theorem polyResultants_rr : Tryz.f3.params.all (Tryz.prog.readableRec ·) = true := by kernel_rfl
theorem polyResultants_nt : namedTie Tryz.prog Rows.polyResultantsRow.named Rows.polyResultantsSpec.vars = true := by kernel_rfl
theorem polyResultants_st : ((Rows.polyResultantsRow.stops == []) && (Tryz.prog.stops == []) && (Rows.polyResultantsRow.knobs == []) && (Tryz.prog.stopKnobs == [])) = true := by kernel_rfl
theorem polyResultants_ip : (Rows.polyResultantsRow.inPlace == Tryz.prog.inPlace 3) = true := by kernel_rfl
theorem polyResultants_uf : (Rows.polyResultantsRow.unfollowed == Tryz.prog.unfollowed 3) = true := by kernel_rfl
theorem polyResultants_rc : (Rows.polyResultantsRow.recurses == Tryz.prog.recurses 3) = true := by kernel_rfl
theorem polyResultants_vn : (Rows.polyResultantsRow.named == Tryz.prog.varsNamed 3) = true := by kernel_rfl
theorem polyResultants_mp : ((Rows.polyResultantsRow.maps == (Tryz.f3.params.toList ++ Rows.polyResultantsSpec.plain.varTypes Tryz.prog).any (Tryz.prog.mapsRec ·)) && (Rows.polyResultantsRow.ifaces == (Tryz.f3.params.toList ++ Rows.polyResultantsSpec.plain.varTypes Tryz.prog).any (Tryz.prog.ifacesRec ·)) && (Rows.polyResultantsRow.mapsOut == Tryz.prog.mapsAmong Tryz.f3.resultTypes.toList)) = true := by kernel_rfl
theorem polyResultants_lp : ((Rows.polyResultantsRow.loops == (Tryz.f3.params.toList ++ Rows.polyResultantsSpec.plain.varTypes Tryz.prog).any (Tryz.prog.loopsFrom ·)) && (Rows.polyResultantsRow.wideKeys == (Tryz.f3.params.toList ++ Rows.polyResultantsSpec.plain.varTypes Tryz.prog ++ Tryz.f3.resultTypes.toList).any (Tryz.prog.wideKeysFrom ·))) = true := by kernel_rfl
theorem polyResultants_vr : (Rows.polyResultantsSpec.vars.all (Tryz.prog.varReadable ·) && Tryz.f3.resultTypes.all (fun t => Tryz.prog.readableRec t && decide (t < Tryz.prog.types.size)) && (Rows.polyResultantsRow.ifacesOut == Tryz.f3.resultTypes.toList.any (Tryz.prog.ifacesRec ·)) && (Rows.polyResultantsRow.loopsOut == Tryz.f3.resultTypes.toList.any (Tryz.prog.loopsFrom ·)) && (Rows.polyResultantsRow.plainKeys == Tryz.prog.plainKeys) && Rows.polyResultantsRow.shortTexts.isNone) = true := by kernel_rfl
theorem polyResultants_ve : ((Rows.polyResultantsRow.veiled == (Tryz.f3.params.toList ++ Rows.polyResultantsSpec.plain.varTypes Tryz.prog ++ Tryz.f3.resultTypes.toList).any (Tryz.prog.veiledRec ·)) && Rows.polyResultantsRow.veiledFits Tryz.prog Tryz.f3.params.toList (Tryz.f3.params.toList ++ Rows.polyResultantsSpec.plain.varTypes Tryz.prog ++ Tryz.f3.resultTypes.toList)) = true := by kernel_rfl
theorem polyResultants_wt : Rows.polyResultantsRow.wfByText (OpenSpec.ofChange Rows.polyResultantsSpec) = true := by kernel_rfl
theorem polyResultants_gb : false = Rows.polyResultantsRow.goesBy Tryz.prog := by kernel_rfl
theorem polyResultants_fn : Tryz.prog.funcNamed Rows.polyResultantsRow.func = some 3 := by kernel_rfl
theorem polyResultants_is : decide (Tryz.f3.isInstance Tryz.prog Rows.polyResultantsRow.origin Rows.polyResultantsRow.targs) = true := by kernel_rfl
theorem polyResultants_ws : (Tryz.f3.params.toList.all fun u => !Tryz.prog.wantsStandIn u) = true := by kernel_rfl
theorem polyResultants_mk : mkF Tryz.prog Tryz.f3 Rows.polyResultantsRow = true := by kernel_rfl
theorem polyResultants_lf : (Rows.polyResultantsRow.lifted == Tryz.prog.liftsFinal) = true := by rw [all_lf]; kernel_rfl
theorem polyResultants_joined : joinedFacts Tryz.prog 3 Tryz.f3 Rows.polyResultantsSpec Rows.polyResultantsRow = true :=
 joined_of polyResultants_wf all_lo all_mr polyResultants_rr polyResultants_nt polyResultants_st polyResultants_ip polyResultants_uf polyResultants_rc polyResultants_vn polyResultants_mp polyResultants_lp polyResultants_vr all_sh all_me polyResultants_lf polyResultants_mk polyResultants_ve
theorem polyResultants_wrap : Tryz.f3.isWrapper Tryz.prog Rows.polyResultantsRow.wrapper Rows.polyResultantsRow.mainSum := by
 unfold Func.isWrapper; first | (rw [if_pos (by decide +kernel)]; kernel_rfl) | (rw [if_neg (by decide +kernel)]; exact ⟨rfl, rfl⟩)
end Go.Proofs.YtdhedjbmdnnbkaaGreatDoor
namespace Go.Proofs.YtdhedjbmdnnbkaaGreatDoor
open Go.Abs Go.ChangeAt Go.ChangeShapes Go.RowKit Go.WideShapes
theorem own : ownKnob Tryz.prog.godebug = none := by kernel_rfl
theorem und4 : Tryz.prog.underlying 4 = some .bool := by kernel_rfl
abbrev laid3 : List (String × DataW Unit) := Rows.polyResultantsRow.laid
theorem door_met (os : Os) (args : Array Value) : laidMetH Tryz.prog laid3 ((World.doorLaid Tryz.prog 24 os).forCall (fun _ _ => 0) ⟨#[], args, []⟩).memory :=
 laidMetH_of_parts3 (fuel := 8) (laidMet_of_run' 8 (by kernel_rfl) (by kernel_rfl)) (by kernel_rfl) (by kernel_rfl)
set_option maxRecDepth 100000 in
theorem polyResultants_lifted (os : Os) (started : os.Started) (H : Type) (enc : TypeId × Value → H) :
    ReturnsInHanded {} Tryz.checked os 3 .any (fun w args => (Rows.polyResultantsSpec.pre enc Tryz.prog Tryz.f3 [] false w args ∧ laidMetH Tryz.prog laid3 w) ∧ sizedMet enc Tryz.prog Tryz.f3 (OpenSpec.ofChange Rows.polyResultantsSpec) false w args)
     (Rows.polyResultantsSpec.post enc Tryz.prog Tryz.f3 false true false false) := by
 refine returnsInHanded_of_change_and (C := Tryz.checked) (X := fun w _ => laidMetH Tryz.prog laid3 w) (fun _ _ _ hh h => h.of_heap hh) own started (by kernel_rfl) Tryz.func3
  (ChangeSpec.witness_shaped (enc := enc) (C := Tryz.checked) (os := os) (X := fun w _ => laidMetH Tryz.prog laid3 w) false (World.doorLaid Tryz.prog 24 os) #[.slice none 0 0, .slice none 0 0, .slice none 0 0] 8 rfl (World.shaped_of_RefB (by kernel_rfl) (by kernel_rfl)) (by kernel_rfl) (by kernel_rfl) (by kernel_rfl) (door_met os _)) ?_
 intro W base args ds gs before hval0 hW _ _ _ _
 have hval : ∀ (j : Nat) t v, Tryz.f3.params[j]? = some t → args[j]? = some v → Value.okWide Tryz.prog W .any base t v := hval0
 have hW' := hW
 obtain ⟨p, q, hA0, hV, rfl, hfz, hnd⟩ := hW
 have hA : DataW.TrodAll enc Tryz.prog W 0 (fun _ => true) true Tryz.f3.params.toList args.toList ds p := hA0
 rw [Tryz.params3] at hA hval
 obtain ⟨v0, vs0, d0, ds0, p0, q0, hargs, rfl, rfl, h0, r0⟩ := trodAll_cons hA
 obtain ⟨v1, vs1, d1, ds1, p1, q1, rfl, rfl, rfl, h1, r1⟩ := trodAll_cons r0
 obtain ⟨v2, vs2, d2, ds2, p2, q2, rfl, rfl, rfl, h2, r2⟩ := trodAll_cons r1
 obtain ⟨rfl, rfl, rfl⟩ := trodAll_nil r2
 obtain rfl : args = #[v0, v1, v2] := by cases args; simp_all
 obtain ⟨rfl, rfl⟩ := trodVars_none hV
 obtain ⟨a0, len0, cap0, rfl⟩ := okWide_slice tyS (hval 0 22 v0 rfl rfl)
 obtain ⟨a1, len1, cap1, rfl⟩ := okWide_slice tyS (hval 1 22 v1 rfl rfl)
 obtain ⟨a2, len2, cap2, rfl⟩ := okWide_slice tyS (hval 2 22 v2 rfl rfl)
 have lt0 : ∀ x ∈ p0, x.block < W.heap.size := by obtain ⟨m, hm⟩ := h0; exact DataW.trod_lt m _ _ _ hm
 have lt1 : ∀ x ∈ p1, x.block < W.heap.size := by obtain ⟨m, hm⟩ := h1; exact DataW.trod_lt m _ _ _ hm
 have lt2 : ∀ x ∈ p2, x.block < W.heap.size := by obtain ⟨m, hm⟩ := h2; exact DataW.trod_lt m _ _ _ hm
 obtain ⟨l0, o0, g0⟩ := rows_of h0
 obtain ⟨l1, o1, g1⟩ := rows_of h1
 obtain ⟨l2, o2, g2⟩ := rows_of h2
 clear hA0 hval0
 refine ((fs_PolyResultants l0 l1 l2 o0 o1 o2).calls (fun _ => False) W [.slice a0 len0 cap0, .slice a1 len1 cap1, .slice a2 len2 cap2] (fun _ h => h.elim) ⟨_, _, rfl, g0, ⟨_, _, rfl, g1, ⟨_, _, rfl, g2, rfl⟩⟩⟩).mono fun e W' ⟨y, he, hy, bel⟩ => ?_
 have hy' : y = .bool true := hy
 subst he; subst hy'
 exact ⟨_, rfl, _, _, _, [], _, [], hW', trodAll_mk1 (shut_bool und4 _), (trodAll_cons_mk (Below.trod all_lo (by kernel_rfl) (of_decide_eq_true (by kernel_rfl)) h0 bel lt0) (trodAll_cons_mk (Below.trod all_lo (by kernel_rfl) (of_decide_eq_true (by kernel_rfl)) h1 bel lt1) (trodAll_cons_mk (Below.trod all_lo (by kernel_rfl) (of_decide_eq_true (by kernel_rfl)) h2 bel lt2) trodAll_mk0))), rfl, bel.frame _, fun h => by cases h⟩
theorem polyResultants_row : Rows.PolyResultantsSaid :=
 OpenClaim.holds_of_wide 3 Tryz.f3 rfl rfl rfl rfl rfl rfl rfl ⟨rfl, rfl, rfl, rfl, rfl⟩ rfl rfl rfl rfl rfl polyResultants_fn Tryz.func3 polyResultants_joined
  (of_decide_eq_true polyResultants_is) polyResultants_wrap
  (fun os started H enc _ => polyResultants_lifted os started H enc)
theorem polyResultants_card : Rows.PolyResultantsCardSaid :=
 Claim7.holds_tied_plain_at .later [] [.data, .data, .data] true (true, "3282ea10664338544b9e7d29bc655aa318bb5383d19a7a3f41182a047c2a096f") false
  polyResultants_row (fun _ h => by cases h) polyResultants_wt (fun _ h => by cases h) polyResultants_row_tie rfl ⟨rfl, rfl⟩ all_mi rfl
  (fun f fn hf hfn => by
   obtain rfl : f = 3 := Option.some.inj (polyResultants_fn.symm.trans hf) |>.symm
   obtain rfl : fn = Tryz.f3 := (Option.some.inj (Tryz.func3.symm.trans hfn)).symm
   exact ⟨all_lk, fun j t ht => by
    have hm : t ∈ Tryz.f3.params.toList := by simpa using Array.mem_of_getElem? ht
    exact (show Tryz.prog.wantsStandIn t = false by simpa using List.all_eq_true.1 polyResultants_ws t hm)⟩)
  polyResultants_gb
#print axioms polyResultants_card
end Go.Proofs.YtdhedjbmdnnbkaaGreatDoor
