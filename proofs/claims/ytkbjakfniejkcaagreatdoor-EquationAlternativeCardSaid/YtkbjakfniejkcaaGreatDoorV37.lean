/- EquationAlternative: free solutions, characteristic values, the turned kernel, and whether there is a solution, belong together, at every input of the law's kinds. -/
import Derived.Test.YtkbjakfniejkcaaGreatDoorV36
import Derived.Lib.LaidTab
import Derived.Test.YtkbjakfniejkcaaGreatDoorTie
import Derived.Test.YtkbjakfniejkcaaGreatDoorCards
import Derived.LaidMore
import Derived.Stop.Joined
import Derived.SevenTiedAt
import Derived.MakeChecks
set_option linter.all false
namespace Go.Proofs.YtkbjakfniejkcaaGreatDoor
open Go.Abs Go.RowKit
theorem tab_glb:(Tryz.prog).globalNamed "internal/strconv.uint64pow10" =some GT:=by kernel_rfl
theorem tab_of{n1 n2:String}{a b:DataW Unit}{W:World}(h:laidMet Tryz.prog [(n1,a),(n2,b),("internal/strconv.uint64pow10",Lib.tabData .u64 Lib.pow10Tab)] W):TabW W:=by
 obtain⟨ps,⟨x,t1,v,u1,p1,q1,_,_,_,_,⟨u,t2,w,u2,p2,q2,_,_,_,_,⟨g,t,cs,i,p,q,l,k,hv,j,_,_⟩,_⟩,_⟩,_,_⟩:=h;obtain rfl:=Option.some.inj (tab_glb.symm.trans l);have m:((Tryz.prog).globals[GT]?).map (·.type)=some 304:=by kernel_rfl
 have n:(Tryz.prog).underlying 304=some (.array 20 207):=by kernel_rfl
 have r:(Tryz.prog).underlying 207=some (.int .u64):=by kernel_rfl
 have f:(Tryz.prog).cellsOf 207=1:=by kernel_rfl
 have e:(Tryz.prog).cellsOf 304=20:=by kernel_rfl
 obtain rfl:=Option.some.inj (m.symm.trans k);have s:=Lib.cells_of_tab (zs:=Lib.pow10Tab) n r f e j;unfold World.var? at hv;rw[tab_glb] at hv;have d:(match W.heap[GT]? with|some (.cells cs _ _)=>some cs|_=>none)=some cs:=hv;cases hh:W.heap[GT]? with
 |none=>rw[hh] at d;cases d
 |some o=>
  rw[hh] at d;cases o with
  |cells a b c=>
   obtain rfl:a=cs:=Option.some.inj d;refine⟨b,c,?_⟩;rw[hh]
   have:a=tabA:=by
    unfold tabA;rw[<-s]
   rw[this]
  |_=>cases d
end Go.Proofs.YtkbjakfniejkcaaGreatDoor
namespace Go.Proofs.YtkbjakfniejkcaaGreatDoor
open Go.Abs Go.ChangeAt Go.ChangeShapes Go.RowKit Go.WideShapes
theorem own:ownKnob Tryz.prog.godebug=none:=by kernel_rfl
theorem und4:Tryz.prog.underlying 4=some .bool:=by kernel_rfl
abbrev Fh:List (String×DataW Unit):=Rows.equationAlternativeRow.laid
theorem JK(os:Os)(args:Array Value):laidMetH Tryz.prog Fh ((World.doorLaid Tryz.prog 24 os).forCall (fun _ _=>0) ⟨#[],args,[]⟩).memory:=
 laidMetH_of_parts3 (fuel:=8) (laidMet_of_run' 8 (by kernel_rfl) (by kernel_rfl)) (by kernel_rfl) (by kernel_rfl)
set_option maxRecDepth 100000 in
theorem kr(os:Os)(started:os.Started)(H:Type)(enc:TypeId×Value->H):
    ReturnsInHanded {} Tryz.checked os 3 .any (fun w args=>(Rows.equationAlternativeSpec.pre enc Tryz.prog Tryz.f3 [] false w args/\laidMetH Tryz.prog Fh w)/\sizedMet enc Tryz.prog Tryz.f3 (OpenSpec.ofChange Rows.equationAlternativeSpec) false w args)
     (Rows.equationAlternativeSpec.post enc Tryz.prog Tryz.f3 false true false false):=by
 refine returnsInHanded_of_change_and (C:=Tryz.checked) (X:=fun w _=>laidMetH Tryz.prog Fh w) (fun _ _ _ hh h=>h.of_heap hh) own started (by kernel_rfl) Tryz.func3
  (ChangeSpec.witness_shaped (enc:=enc) (C:=Tryz.checked) (os:=os) (X:=fun w _=>laidMetH Tryz.prog Fh w) false (World.doorLaid Tryz.prog 24 os) #[.slice none 0 0,(.agg #[.int .i64 0,.int .i64 0,.int .u8 0,.int .i64 0,.int .i64 0,.int .u8 0]),(.agg #[.int .i64 0,.int .i64 0,.int .u8 0]),.slice none 0 0] 8 rfl (World.shaped_of_RefB (by kernel_rfl) (by kernel_rfl)) (by kernel_rfl) (by kernel_rfl) (by kernel_rfl) (JK os _)) ?_
 intro W k args ds gs o c O _ _ K _;have a:∀(j:Nat) t v,Tryz.f3.params[j]?=some t->args[j]?=some v->Value.okWide Tryz.prog W .any k t v:=c;have D:=O;obtain⟨p,q,i,hV,rfl,hfz,hnd⟩:=O;have N:DataW.TrodAll enc Tryz.prog W 0 (fun _=>true) true Tryz.f3.params.toList args.toList ds p:=i;rw[Tryz.params3] at N a;obtain⟨L,vs0,d0,U,p0,q0,z,rfl,rfl,E,r0⟩:=trodAll_cons N;obtain⟨v1,T,d1,ds1,p1,q1,rfl,rfl,rfl,F,r1⟩:=trodAll_cons r0;obtain⟨v2,vs2,d2,ds2,p2,q2,rfl,rfl,rfl,B,r2⟩:=trodAll_cons r1;obtain⟨M,vs3,d3,ds3,S,q3,rfl,rfl,rfl,s,r3⟩:=trodAll_cons r2;obtain⟨rfl,rfl,rfl⟩:=trodAll_nil r3;obtain rfl:args= #[L,v1,v2,M]:=by cases args;simp_all
 obtain⟨rfl,rfl⟩:=trodVars_none hV;obtain⟨a0,n,g,rfl⟩:=okWide_slice tySt (a 0 22 L rfl rfl);obtain⟨a3,l,f,rfl⟩:=okWide_slice tyS (a 3 27 M rfl rfl);have r:∀x∈p0,x.block< W.heap.size:=by obtain⟨m,d⟩:=E;exact DataW.trod_lt m _ _ _ d
 have u:∀x∈p1,x.block< W.heap.size:=by obtain⟨m,d⟩:=F;exact DataW.trod_lt m _ _ _ d
 have G:∀x∈p2,x.block< W.heap.size:=by obtain⟨m,d⟩:=B;exact DataW.trod_lt m _ _ _ d
 have A:∀x∈S,x.block< W.heap.size:=by obtain⟨m,d⟩:=s;exact DataW.trod_lt m _ _ _ d
 obtain⟨Y,Q,g0⟩:=twP_of E;obtain⟨l1,o1,g1⟩:=gapP_of (a 1 26 v1 rfl rfl) F;obtain⟨l2,o2,g2⟩:=numP_of (a 2 24 v2 rfl rfl) B;obtain⟨V,Z,R⟩:=yF s;clear i c;refine((mu Y l1 l2 V Q.1 Q.2 o1 o2 Z (rvlen R)).calls (fun _=>False) W [.slice a0 n g,v1,v2,.slice a3 l f] ⟨fun _ h=>h.elim,fun h=>h,tab_of (by rw[MakeChecks.laidMetH_plain _ _ _ (by kernel_rfl)] at K;exact K)⟩ ⟨_,_,rfl,g0,⟨_,_,rfl,g1,⟨_,_,rfl,g2,⟨_,_,rfl,R,rfl⟩⟩⟩⟩).mono fun e W' ⟨y,he,hy,b⟩=>?_;have J:y= .bool true:=hy;subst he;subst J;exact⟨_,rfl,_,_,_,[],_,[],D,trodAll_mk1 (shut_bool und4 _),(trodAll_cons_mk (Below.trod wu (by kernel_rfl) (of_decide_eq_true (by kernel_rfl)) E b r) (trodAll_cons_mk (Below.trod wu (by kernel_rfl) (of_decide_eq_true (by kernel_rfl)) F b u) (trodAll_cons_mk (Below.trod wu (by kernel_rfl) (of_decide_eq_true (by kernel_rfl)) B b G) (trodAll_cons_mk (Below.trod wu (by kernel_rfl) (of_decide_eq_true (by kernel_rfl)) s b A) trodAll_mk0)))),rfl,b.frame _,fun h=>by cases h⟩
theorem lK:Rows.EquationAlternativeSaid:=
 OpenClaim.holds_of_wide 3 Tryz.f3 rfl rfl rfl rfl rfl rfl rfl ⟨rfl,rfl,rfl,rfl,rfl⟩ rfl rfl rfl rfl rfl equationAlternative_fn Tryz.func3 ku
  (of_decide_eq_true mS) k5
  (fun os a H b _=>kr os a H b)
theorem equationAlternative_card:Rows.EquationAlternativeCardSaid:=
 Claim7.holds_tied_plain_at .later [] [.data,.data,.data] true (true, "ba6e90113d2779f3846d44f92836af6dcf0e789d384cccac6924f1d1d7f5ee89") false
  lK (fun _ h=>by cases h) mB (fun _ h=>by cases h) equationAlternative_row_tie rfl ⟨rfl,rfl⟩ all_mi rfl
  (fun f fn hf hfn=>by
   obtain rfl:f=3:=Option.some.inj (equationAlternative_fn.symm.trans hf)|>.symm;obtain rfl:fn=Tryz.f3:=(Option.some.inj (Tryz.func3.symm.trans hfn)).symm
   exact⟨all_lk,fun j t ht=>by
    have hm:t∈Tryz.f3.params.toList:=by simpa using Array.mem_of_getElem? ht
    exact(show Tryz.prog.wantsStandIn t=false by simpa using List.all_eq_true.1 mC t hm)⟩)
  mU
#print axioms equationAlternative_card
end Go.Proofs.YtkbjakfniejkcaaGreatDoor
