/- ApproxQuotients: the quotient of two polynomials that begins like a series is the document's, or the error is, at every input of the kinds that the law takes. -/
import Derived.Test.YtjgokhkahkmpbaaGreatDoorY35
import Derived.Test.YtjgokhkahkmpbaaGreatDoorTie
import Derived.Test.YtjgokhkahkmpbaaGreatDoorCards
import Derived.LaidMore
import Derived.Stop.Joined
import Derived.SevenTiedAt
import Derived.MakeChecks
set_option linter.all false
namespace Go.Proofs.YtjgokhkahkmpbaaGreatDoor
open Go.Abs Go.ChangeAt Go.ChangeShapes Go.RowKit Go.WideShapes
theorem own:ownKnob Tryz.prog.godebug=none:=by kernel_rfl
theorem und4:Tryz.prog.underlying 4=some .bool:=by kernel_rfl
abbrev DA:List (String×DataW Unit):=Rows.approxQuotientsRow.laid
theorem HN(os:Os)(args:Array Value):laidMetH Tryz.prog DA ((World.doorLaid Tryz.prog 24 os).forCall (λ_ _=>0) ⟨#[],args,[]⟩).memory:=
 laidMetH_of_parts3 (fuel:=8) (laidMet_of_run' 8 κ κ) κ κ
set_option maxRecDepth 100000 in
theorem lN(os:Os)(started:os.Started)(H:Type)(enc:TypeId×Value->H):
    ReturnsInHanded {} Tryz.checked os 4 .any (λw args=>(Rows.approxQuotientsSpec.pre enc Tryz.prog Tryz.f4 [] false w args/\laidMetH Tryz.prog DA w)/\sizedMet enc Tryz.prog Tryz.f4 (OpenSpec.ofChange Rows.approxQuotientsSpec) false w args)
     (Rows.approxQuotientsSpec.post enc Tryz.prog Tryz.f4 false true false false):=by
 refine returnsInHanded_of_change_and (C:=Tryz.checked) (X:=λw _=>laidMetH Tryz.prog DA w) (λ_ _ _ hh h=>h.of_heap hh) own started κ Tryz.func4
  (ChangeSpec.witness_shaped (enc:=enc) (C:=Tryz.checked) (os:=os) (X:=λw _=>laidMetH Tryz.prog DA w) false (World.doorLaid Tryz.prog 24 os) #[.slice none 0 0,(.int .i64 0),(.int .i64 0)] 8 rfl (World.shaped_of_RefB κ κ) κ κ κ (HN os _)) ?_
 intro W base args ds gs before hval0 hW _ _ hX _;have hval:∀(j:Nat) t v,Tryz.f4.params[j]?=some t->args[j]?=some v->Value.okWide Tryz.prog W .any base t v:=hval0;have hW':=hW;obtain⟨p,q,hA0,hV,rfl,hfz,hnd⟩:=hW;have hA:DataW.TrodAll enc Tryz.prog W 0 (λ_=>true) true Tryz.f4.params.toList args.toList ds p:=hA0;rw[Tryz.params4] at hA hval;obtain⟨v0,vs0,d0,ds0,p0,q0,hargs,rfl,rfl,h0,r0⟩:=trodAll_cons hA;obtain⟨v1,vs1,d1,ds1,p1,q1,rfl,rfl,rfl,h1,r1⟩:=trodAll_cons r0;obtain⟨v2,vs2,d2,ds2,p2,q2,rfl,rfl,rfl,h2,r2⟩:=trodAll_cons r1;obtain⟨rfl,rfl,rfl⟩:=trodAll_nil r2;obtain rfl:args= #[v0,v1,v2]:=by cases args;simp_all
 obtain⟨rfl,rfl⟩:=trodVars_none hV;obtain⟨a0,len0,cap0,rfl⟩:=okWide_slice tyS (hval 0 22 v0 rfl rfl);have lt0:∀x∈p0,x.block< W.heap.size:=by obtain⟨m,hm⟩:=h0;exact DataW.trod_lt m _ _ _ hm
 have lt1:∀x∈p1,x.block< W.heap.size:=by obtain⟨m,hm⟩:=h1;exact DataW.trod_lt m _ _ _ hm
 have lt2:∀x∈p2,x.block< W.heap.size:=by obtain⟨m,hm⟩:=h2;exact DataW.trod_lt m _ _ _ hm
 obtain⟨l0,o0,g0⟩:=rows_of h0;obtain⟨l1,o1,g1⟩:=DC (hval 1 3 v1 rfl rfl) h1;obtain⟨l2,o2,g2⟩:=DC (hval 2 3 v2 rfl rfl) h2;clear hA0 hval0;refine((oj l0 l1 l2 o0 (rvlen g0) o1 o2).calls (λ_=>False) W [.slice a0 len0 cap0,v1,v2] ⟨λ_ h=>h.elim,λh=>h,tab_of (by rw[MakeChecks.laidMetH_plain _ _ _ κ] at hX;exact hX)⟩ ⟨_,_,rfl,g0,⟨_,_,rfl,g1,⟨_,_,rfl,g2,rfl⟩⟩⟩).mono λe W' ⟨y,he,hy,bel⟩=>?_;have hy':y= .bool true:=hy;subst he;subst hy';exact⟨_,rfl,_,_,_,[],_,[],hW',trodAll_mk1 (shut_bool und4 _),(trodAll_cons_mk (Below.trod yA κ (of_decide_eq_true κ) h0 bel lt0) (trodAll_cons_mk (Below.trod yA κ (of_decide_eq_true κ) h1 bel lt1) (trodAll_cons_mk (Below.trod yA κ (of_decide_eq_true κ) h2 bel lt2) trodAll_mk0))),rfl,bel.frame _,λh=>by cases h⟩
theorem nN:Rows.ApproxQuotientsSaid:=
 OpenClaim.holds_of_wide 4 Tryz.f4 rfl rfl rfl rfl rfl rfl rfl ⟨rfl,rfl,rfl,rfl,rfl⟩ rfl rfl rfl rfl rfl approxQuotients_fn Tryz.func4 lO
  (of_decide_eq_true oO) mN
  (λos started H enc _=>lN os started H enc)
theorem approxQuotients_card:Rows.ApproxQuotientsCardSaid:=
 Claim7.holds_tied_plain_at .later [] [.data,.data,.data] true (true, "70a96ca732a625b64e2cc30d8b2ff4a1e0277bc946d2166fe72dcd27bb40609a") false
  nN (λ_ h=>by cases h) ov (λ_ h=>by cases h) approxQuotients_row_tie rfl ⟨rfl,rfl⟩ all_mi rfl
  (λf fn hf hfn=>by
   obtain rfl:f=4:=Option.some.inj (approxQuotients_fn.symm.trans hf)|>.symm;obtain rfl:fn=Tryz.f4:=(Option.some.inj (Tryz.func4.symm.trans hfn)).symm
   exact⟨all_lk,λj t ht=>by
    have hm:t∈Tryz.f4.params.toList:=by simpa using Array.mem_of_getElem? ht
    exact(show Tryz.prog.wantsStandIn t=false by simpa using List.all_eq_true.1 ow t hm)⟩)
  oR
#print axioms approxQuotients_card
end Go.Proofs.YtjgokhkahkmpbaaGreatDoor
