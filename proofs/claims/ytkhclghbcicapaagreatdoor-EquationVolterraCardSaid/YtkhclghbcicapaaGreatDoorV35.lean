/- EquationVolterra: for every input the law returns true; the listed variables start as the program's text lays them (tied). -/
import Derived.Test.YtkhclghbcicapaaGreatDoorV34
import Derived.Test.YtkhclghbcicapaaGreatDoorRows
import Derived.JoinedOf
import Derived.SevenTiedAt
import Derived.Lib.LaidTab
import Derived.Test.YtkhclghbcicapaaGreatDoorTie
import Derived.Test.YtkhclghbcicapaaGreatDoorCards
import Derived.LaidMore
import Derived.Stop.Joined
import Derived.MakeChecks
set_option linter.all false
namespace Go.Proofs.YtkhclghbcicapaaGreatDoor
open Go
def mkF(P:Program)(fn:Func)(c:OpenClaim):Bool:=(P.make==some c.make) && (c.kinds==(if c.domain.isEmpty then [] else fn.params.toList.map fun t=>match P.underlying t with|some (.int k)=>some k|_=>none)) && (c.pinned==c.pinnedBy)
section
variable {P:Program}{f:FuncId}{fn:Func}{s:ChangeSpec}{c:OpenClaim}
theorem F4 (h1:c.wf (OpenSpec.ofChange s)=true) (h2:laidOutB P=true) (h3:mapsRowed P=true)
    (h4:fn.params.all (P.readableRec ·)=true) (h5:namedTie P c.named s.vars=true)
    (h6:((c.stops==[]) && (P.stops==[]) && (c.knobs==[]) && (P.stopKnobs==[]))=true)
    (h7:(c.inPlace==P.inPlace f)=true) (h8:(c.unfollowed==P.unfollowed f)=true) (h9:(c.recurses==P.recurses f)=true) (h10:(c.named==P.varsNamed f)=true)
    (h11:((c.maps==(fn.params.toList++s.plain.varTypes P).any (P.mapsRec ·)) && (c.ifaces==(fn.params.toList++s.plain.varTypes P).any (P.ifacesRec ·)) && (c.mapsOut==P.mapsAmong fn.resultTypes.toList))=true)
    (h12:((c.loops==(fn.params.toList++s.plain.varTypes P).any (P.loopsFrom ·)) && (c.wideKeys==(fn.params.toList++s.plain.varTypes P++fn.resultTypes.toList).any (P.wideKeysFrom ·)))=true)
    (h13:(s.vars.all (P.varReadable ·) && fn.resultTypes.all (fun t=>P.readableRec t && decide (t< P.types.size)) && (c.ifacesOut==fn.resultTypes.toList.any (P.ifacesRec ·)) && (c.loopsOut==fn.resultTypes.toList.any (P.loopsFrom ·)) && (c.plainKeys==P.plainKeys) && c.shortTexts.isNone)=true)
    (h14:P.stopsHeard=true) (h15:P.mayEnter=true) (h16:(c.lifted==P.liftsFinal)=true)
    (h17:mkF P fn c=true)
    (h18:((c.veiled==(fn.params.toList++s.plain.varTypes P++fn.resultTypes.toList).any (P.veiledRec ·)) && c.veiledFits P fn.params.toList (fn.params.toList++s.plain.varTypes P++fn.resultTypes.toList))=true):
    joinedFacts P f fn s c=true:=by
 unfold mkF at h17;simp only[Bool.and_eq_true] at h6 h11 h12 h13 h17 h18;simp only[joinedFacts,Bool.and_eq_true]
 and_intros
 all_goals first|assumption|exact h6.1.1.1|exact h6.1.1.2|exact h6.1.2|exact h6.2|exact h11.1.1|exact h11.1.2|exact h11.2|exact h12.1|exact h12.2|exact h13.1.1.1.1.1|exact h13.1.1.1.1.2|exact h13.1.1.1.2|exact h13.1.1.2|exact h13.1.2|exact h13.2|exact h17.1.1|exact h17.1.2|exact h17.2|exact h18.1|exact h18.2
end
theorem na:laidOutB Tryz.prog=true:=by kernel_rfl
theorem all_mr:mapsRowed Tryz.prog=true:=by kernel_rfl
theorem all_sh:Tryz.prog.stopsHeard=true:=by kernel_rfl
theorem all_me:Tryz.prog.mayEnter=true:=by kernel_rfl
theorem all_lk:false=Tryz.prog.looks []:=by kernel_rfl
theorem all_mi:Tryz.prog.mainIs=some (true,("322b70ded45db0a09bc4225a320e010138d1a3a9730619f33802e56c67b01897" :String).toList):=by kernel_rfl
theorem all_lf:Tryz.prog.liftsFinal=Rows.equationVolterraRow.lifted:=by kernel_rfl
theorem pg:Rows.equationVolterraRow.wf (OpenSpec.ofChange Rows.equationVolterraSpec)=true:=by kernel_rfl
theorem pn:Tryz.f3.params.all (Tryz.prog.readableRec ·)=true:=by kernel_rfl
theorem pp:namedTie Tryz.prog Rows.equationVolterraRow.named Rows.equationVolterraSpec.vars=true:=by kernel_rfl
theorem pm:((Rows.equationVolterraRow.stops==[]) && (Tryz.prog.stops==[]) && (Rows.equationVolterraRow.knobs==[]) && (Tryz.prog.stopKnobs==[]))=true:=by kernel_rfl
theorem px:(Rows.equationVolterraRow.inPlace==Tryz.prog.inPlace 3)=true:=by kernel_rfl
theorem pk:(Rows.equationVolterraRow.unfollowed==Tryz.prog.unfollowed 3)=true:=by kernel_rfl
theorem po:(Rows.equationVolterraRow.recurses==Tryz.prog.recurses 3)=true:=by kernel_rfl
theorem pi:(Rows.equationVolterraRow.named==Tryz.prog.varsNamed 3)=true:=by kernel_rfl
theorem pq:((Rows.equationVolterraRow.maps==(Tryz.f3.params.toList++Rows.equationVolterraSpec.plain.varTypes Tryz.prog).any (Tryz.prog.mapsRec ·)) && (Rows.equationVolterraRow.ifaces==(Tryz.f3.params.toList++Rows.equationVolterraSpec.plain.varTypes Tryz.prog).any (Tryz.prog.ifacesRec ·)) && (Rows.equationVolterraRow.mapsOut==Tryz.prog.mapsAmong Tryz.f3.resultTypes.toList))=true:=by kernel_rfl
theorem pt:((Rows.equationVolterraRow.loops==(Tryz.f3.params.toList++Rows.equationVolterraSpec.plain.varTypes Tryz.prog).any (Tryz.prog.loopsFrom ·)) && (Rows.equationVolterraRow.wideKeys==(Tryz.f3.params.toList++Rows.equationVolterraSpec.plain.varTypes Tryz.prog++Tryz.f3.resultTypes.toList).any (Tryz.prog.wideKeysFrom ·)))=true:=by kernel_rfl
theorem ph:(Rows.equationVolterraSpec.vars.all (Tryz.prog.varReadable ·) && Tryz.f3.resultTypes.all (fun t=>Tryz.prog.readableRec t && decide (t< Tryz.prog.types.size)) && (Rows.equationVolterraRow.ifacesOut==Tryz.f3.resultTypes.toList.any (Tryz.prog.ifacesRec ·)) && (Rows.equationVolterraRow.loopsOut==Tryz.f3.resultTypes.toList.any (Tryz.prog.loopsFrom ·)) && (Rows.equationVolterraRow.plainKeys==Tryz.prog.plainKeys) && Rows.equationVolterraRow.shortTexts.isNone)=true:=by kernel_rfl
theorem pj:((Rows.equationVolterraRow.veiled==(Tryz.f3.params.toList++Rows.equationVolterraSpec.plain.varTypes Tryz.prog++Tryz.f3.resultTypes.toList).any (Tryz.prog.veiledRec ·)) && Rows.equationVolterraRow.veiledFits Tryz.prog Tryz.f3.params.toList (Tryz.f3.params.toList++Rows.equationVolterraSpec.plain.varTypes Tryz.prog++Tryz.f3.resultTypes.toList))=true:=by kernel_rfl
theorem pe:Rows.equationVolterraRow.wfByText (OpenSpec.ofChange Rows.equationVolterraSpec)=true:=by kernel_rfl
theorem py:false=Rows.equationVolterraRow.goesBy Tryz.prog:=by kernel_rfl
theorem equationVolterra_fn:Tryz.prog.funcNamed Rows.equationVolterraRow.func=some 3:=by kernel_rfl
theorem pv:decide (Tryz.f3.isInstance Tryz.prog Rows.equationVolterraRow.origin Rows.equationVolterraRow.targs)=true:=by kernel_rfl
theorem pf:(Tryz.f3.params.toList.all fun u=>!Tryz.prog.wantsStandIn u)=true:=by kernel_rfl
theorem pr:mkF Tryz.prog Tryz.f3 Rows.equationVolterraRow=true:=by kernel_rfl
theorem pu:(Rows.equationVolterraRow.lifted==Tryz.prog.liftsFinal)=true:=by rw[all_lf];kernel_rfl
theorem ma:joinedFacts Tryz.prog 3 Tryz.f3 Rows.equationVolterraSpec Rows.equationVolterraRow=true:=
 F4 pg na all_mr pn pp pm px pk po pi pq pt ph all_sh all_me pu pr pj
theorem ns:Tryz.f3.isWrapper Tryz.prog Rows.equationVolterraRow.wrapper Rows.equationVolterraRow.mainSum:=by
 unfold Func.isWrapper;first|(rw[if_pos (by decide+kernel)];kernel_rfl)|(rw[if_neg (by decide+kernel)];exact⟨rfl,rfl⟩)
end Go.Proofs.YtkhclghbcicapaaGreatDoor
namespace Go.Proofs.YtkhclghbcicapaaGreatDoor
open Go.Abs Go.RowKit
theorem tab_glb:(Tryz.prog).globalNamed "internal/strconv.uint64pow10" =some GT:=by kernel_rfl
theorem tab_of{n1 n2:String}{a b:DataW Unit}{W:World}(h:laidMet Tryz.prog [(n1,a),(n2,b),("internal/strconv.uint64pow10",Lib.tabData .u64 Lib.pow10Tab)] W):TabW W:=by
 obtain⟨r,⟨n,t1,c1,u1,p1,q1,_,_,_,_,⟨s,t2,u,u2,p2,q2,_,_,_,_,⟨g,t,cs,i,p,q,hg,ht,hv,k,_,_⟩,_⟩,_⟩,_,_⟩:=h;obtain rfl:=Option.some.inj (tab_glb.symm.trans hg);have l:((Tryz.prog).globals[GT]?).map (·.type)=some 299:=by kernel_rfl
 have j:(Tryz.prog).underlying 299=some (.array 20 190):=by kernel_rfl
 have m:(Tryz.prog).underlying 190=some (.int .u64):=by kernel_rfl
 have f:(Tryz.prog).cellsOf 190=1:=by kernel_rfl
 have e:(Tryz.prog).cellsOf 299=20:=by kernel_rfl
 obtain rfl:=Option.some.inj (l.symm.trans ht);have hc:=Lib.cells_of_tab (zs:=Lib.pow10Tab) j m f e k;unfold World.var? at hv;rw[tab_glb] at hv;have d:(match W.heap[GT]? with|some (.cells cs _ _)=>some cs|_=>none)=some cs:=hv;cases hh:W.heap[GT]? with
 |none=>rw[hh] at d;cases d
 |some o=>
  rw[hh] at d;cases o with
  |cells a b c=>
   obtain rfl:a=cs:=Option.some.inj d;refine⟨b,c,?_⟩;rw[hh]
   have:a=tabA:=by
    unfold tabA;rw[←hc]
   rw[this]
  |_=>cases d
end Go.Proofs.YtkhclghbcicapaaGreatDoor
namespace Go.Proofs.YtkhclghbcicapaaGreatDoor
open Go.Abs Go.ChangeAt Go.ChangeShapes Go.RowKit Go.WideShapes
theorem own:ownKnob Tryz.prog.godebug=none:=by kernel_rfl
theorem und4:Tryz.prog.underlying 4=some .bool:=by kernel_rfl
abbrev E4:List (String×DataW Unit):=Rows.equationVolterraRow.laid
theorem I3(os:Os)(args:Array Value):laidMetH Tryz.prog E4 ((World.doorLaid Tryz.prog 24 os).forCall (fun _ _=>0) ⟨#[],args,[]⟩).memory:=
 laidMetH_of_parts3 (fuel:=8) (laidMet_of_run' 8 (by kernel_rfl) (by kernel_rfl)) (by kernel_rfl) (by kernel_rfl)
set_option maxRecDepth 100000 in
theorem l9(os:Os)(started:os.Started)(H:Type)(enc:TypeId×Value→H):
    ReturnsInHanded {} Tryz.checked os 3 .any (fun w args=>(Rows.equationVolterraSpec.pre enc Tryz.prog Tryz.f3 [] false w args∧laidMetH Tryz.prog E4 w)∧sizedMet enc Tryz.prog Tryz.f3 (OpenSpec.ofChange Rows.equationVolterraSpec) false w args)
     (Rows.equationVolterraSpec.post enc Tryz.prog Tryz.f3 false true false false):=by
 refine returnsInHanded_of_change_and (C:=Tryz.checked) (X:=fun w _=>laidMetH Tryz.prog E4 w) (fun _ _ _ hh h=>h.of_heap hh) own started (by kernel_rfl) Tryz.func3
  (ChangeSpec.witness_shaped (enc:=enc) (C:=Tryz.checked) (os:=os) (X:=fun w _=>laidMetH Tryz.prog E4 w) false (World.doorLaid Tryz.prog 24 os) #[.slice none 0 0,(.agg #[.int .i64 0,.int .i64 0,.int .u8 0]),(.agg #[.int .i64 0,.int .i64 0,.int .u8 0]),(.agg #[.int .i64 0,.int .i64 0,.int .u8 0]),(.agg #[.int .i64 0,.int .i64 0,.int .u8 0]),(.agg #[.int .i64 0,.int .i64 0,.int .u8 0]),.slice none 0 0,(.int .u8 0)] 8 rfl (World.shaped_of_RefB (by kernel_rfl) (by kernel_rfl)) (by kernel_rfl) (by kernel_rfl) (by kernel_rfl) (I3 os _)) ?_
 intro W l args ds gs o d hW _ _ Y _;have a:∀(j:Nat) t v,Tryz.f3.params[j]?=some t→args[j]?=some v→Value.okWide Tryz.prog W .any l t v:=d;have B:=hW;obtain⟨p,q,g,hV,rfl,hfz,hnd⟩:=hW;have hA:DataW.TrodAll enc Tryz.prog W 0 (fun _=>true) true Tryz.f3.params.toList args.toList ds p:=g;rw[Tryz.params3] at hA a;obtain⟨v0,vs0,d0,ds0,p0,q0,D,rfl,rfl,L,r0⟩:=trodAll_cons hA;obtain⟨v1,vs1,d1,ds1,p1,q1,rfl,rfl,rfl,h1,r1⟩:=trodAll_cons r0;obtain⟨v2,vs2,d2,ds2,p2,q2,rfl,rfl,rfl,J,r2⟩:=trodAll_cons r1;obtain⟨V,vs3,d3,ds3,p3,q3,rfl,rfl,rfl,Q,r3⟩:=trodAll_cons r2;obtain⟨N,vs4,d4,ds4,p4,q4,rfl,rfl,rfl,U,r4⟩:=trodAll_cons r3;obtain⟨S,vs5,d5,ds5,p5,q5,rfl,rfl,rfl,E,r5⟩:=trodAll_cons r4;obtain⟨v6,vs6,d6,ds6,p6,q6,rfl,rfl,rfl,O,r6⟩:=trodAll_cons r5;obtain⟨s,vs7,d7,ds7,p7,q7,rfl,rfl,rfl,u,r7⟩:=trodAll_cons r6;obtain⟨rfl,rfl,rfl⟩:=trodAll_nil r7;obtain rfl:args= #[v0,v1,v2,V,N,S,v6,s]:=by cases args;simp_all
 obtain⟨rfl,rfl⟩:=trodVars_none hV;obtain⟨a0,n,f,rfl⟩:=okWide_slice tySt (a 0 22 v0 rfl rfl);obtain⟨a6,i,k,rfl⟩:=okWide_slice tyS (a 6 25 v6 rfl rfl);have F:∀x∈p0,x.block< W.heap.size:=by obtain⟨m,c⟩:=L;exact DataW.trod_lt m _ _ _ c
 have z:∀x∈p1,x.block< W.heap.size:=by obtain⟨m,c⟩:=h1;exact DataW.trod_lt m _ _ _ c
 have r:∀x∈p2,x.block< W.heap.size:=by obtain⟨m,c⟩:=J;exact DataW.trod_lt m _ _ _ c
 have K:∀x∈p3,x.block< W.heap.size:=by obtain⟨m,c⟩:=Q;exact DataW.trod_lt m _ _ _ c
 have G:∀x∈p4,x.block< W.heap.size:=by obtain⟨m,c⟩:=U;exact DataW.trod_lt m _ _ _ c
 have T:∀x∈p5,x.block< W.heap.size:=by obtain⟨m,c⟩:=E;exact DataW.trod_lt m _ _ _ c
 have R:∀x∈p6,x.block< W.heap.size:=by obtain⟨m,c⟩:=O;exact DataW.trod_lt m _ _ _ c
 have A:∀x∈p7,x.block< W.heap.size:=by obtain⟨m,c⟩:=u;exact DataW.trod_lt m _ _ _ c
 obtain⟨l0,Z,g0⟩:=twP_of L;obtain⟨l1,o1,g1⟩:=rk (a 1 24 v1 rfl rfl) h1;obtain⟨l2,o2,g2⟩:=rk (a 2 24 v2 rfl rfl) J;obtain⟨l3,o3,g3⟩:=rk (a 3 24 V rfl rfl) Q;obtain⟨l4,o4,g4⟩:=rk (a 4 24 N rfl rfl) U;obtain⟨l5,o5,g5⟩:=rk (a 5 24 S rfl rfl) E;obtain⟨l6,o6,g6⟩:=y8 O;obtain⟨l7,o7,g7⟩:=u8P_of (a 7 5 s rfl rfl) u;clear g d;refine((pc l0 l1 l2 l3 l4 l5 l6 l7 Z.1 Z.2 o1 o2 o3 o4 o5 o6 (rvlen g6) o7).calls (fun _=>False) W [.slice a0 n f,v1,v2,V,N,S,.slice a6 i k,s] ⟨fun _ h=>h.elim,fun h=>h,tab_of (by rw[MakeChecks.laidMetH_plain _ _ _ (by kernel_rfl)] at Y;exact Y)⟩ ⟨_,_,rfl,g0,⟨_,_,rfl,g1,⟨_,_,rfl,g2,⟨_,_,rfl,g3,⟨_,_,rfl,g4,⟨_,_,rfl,g5,⟨_,_,rfl,g6,⟨_,_,rfl,g7,rfl⟩⟩⟩⟩⟩⟩⟩⟩).mono fun e W' ⟨y,he,hy,b⟩=>?_;have M:y= .bool true:=hy;subst he;subst M
 exact⟨_,rfl,_,_,_,[],_,[],B,trodAll_mk1 (shut_bool und4 _),(trodAll_cons_mk (Below.trod na (by kernel_rfl) (of_decide_eq_true (by kernel_rfl)) L b F) (trodAll_cons_mk (Below.trod na (by kernel_rfl) (of_decide_eq_true (by kernel_rfl)) h1 b z) (trodAll_cons_mk (Below.trod na (by kernel_rfl) (of_decide_eq_true (by kernel_rfl)) J b r) (trodAll_cons_mk (Below.trod na (by kernel_rfl) (of_decide_eq_true (by kernel_rfl)) Q b K) (trodAll_cons_mk (Below.trod na (by kernel_rfl) (of_decide_eq_true (by kernel_rfl)) U b G) (trodAll_cons_mk (Below.trod na (by kernel_rfl) (of_decide_eq_true (by kernel_rfl)) E b T) (trodAll_cons_mk (Below.trod na (by kernel_rfl) (of_decide_eq_true (by kernel_rfl)) O b R) (trodAll_cons_mk (Below.trod na (by kernel_rfl) (of_decide_eq_true (by kernel_rfl)) u b A) trodAll_mk0)))))))),rfl,b.frame _,fun h=>by cases h⟩
theorem n5:Rows.EquationVolterraSaid:=
 OpenClaim.holds_of_wide 3 Tryz.f3 rfl rfl rfl rfl rfl rfl rfl ⟨rfl,rfl,rfl,rfl,rfl⟩ rfl rfl rfl rfl rfl equationVolterra_fn Tryz.func3 ma
  (of_decide_eq_true pv) ns
  (fun os a H b _=>l9 os a H b)
theorem equationVolterra_card:Rows.EquationVolterraCardSaid:=
 Claim7.holds_tied_plain_at .later [] [.data,.data,.data] true (true, "322b70ded45db0a09bc4225a320e010138d1a3a9730619f33802e56c67b01897") false
  n5 (fun _ h=>by cases h) pe (fun _ h=>by cases h) equationVolterra_row_tie rfl ⟨rfl,rfl⟩ all_mi rfl
  (fun f fn hf hfn=>by
   obtain rfl:f=3:=Option.some.inj (equationVolterra_fn.symm.trans hf)|>.symm;obtain rfl:fn=Tryz.f3:=(Option.some.inj (Tryz.func3.symm.trans hfn)).symm
   exact⟨all_lk,fun j t ht=>by
    have hm:t∈Tryz.f3.params.toList:=by simpa using Array.mem_of_getElem? ht
    exact(show Tryz.prog.wantsStandIn t=false by simpa using List.all_eq_true.1 pf t hm)⟩)
  py
#print axioms equationVolterra_card
end Go.Proofs.YtkhclghbcicapaaGreatDoor
