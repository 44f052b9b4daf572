/- EquationKernels: whether a kernel is valid, its values, the turned kernel, the determinant and the characteristic values are the ones of the document, or the error is, at every input of the kinds that the law takes. -/
import Derived.Test.YtjmkjicckobojaaGreatDoorW37
import Derived.Test.YtjmkjicckobojaaGreatDoorRows
import Derived.JoinedOf
import Derived.SevenTiedAt
import Derived.Lib.LaidTab
import Derived.Test.YtjmkjicckobojaaGreatDoorTie
import Derived.Test.YtjmkjicckobojaaGreatDoorCards
import Derived.LaidMore
import Derived.Stop.Joined
import Derived.MakeChecks
set_option linter.all false
namespace Go.Proofs.YtjmkjicckobojaaGreatDoor
open Go.Abs Go.Deep Go.RowKit
set_option maxRecDepth 20000
theorem tySt:(Tryz.prog).underlying 22=some (.slice 115):=by kernel_rfl
def twF:Array Field:= #[{name:= "A",type:=34,offset:=0,embedded:=false,tag:= "",pkgPath:= "",byteOffset:=0},{name:= "B",type:=34,offset:=1,embedded:=false,tag:= "",pkgPath:= "",byteOffset:=24}]
theorem tyTw:(Tryz.prog).underlying 115=some (.struct twF):=by kernel_rfl
theorem tycTw:(Tryz.prog).cellsOf 115=2:=by kernel_rfl
theorem tycS2:(Tryz.prog).cellsOf 34=1:=by kernel_rfl
theorem two_of{H:Type}{enc:TypeId×Value->H}{W:World}{n:Nat}{cs:List Value}{x:DataW H×List MemPlace}(h:DataW.trod enc Tryz.prog W 0 (λ_=>true) true n 115 cs=some x):
    ∃(t:jc) (c0 c1:Value),BN t/\cs=[c0,c1]/\RV (λ_=>False) (λ_=>none) W (.arr (nR t.1)) c0/\RV (λ_=>False) (λ_=>none) W (.arr (nR t.2)) c1:=by
 obtain⟨C,m,_,_,w,g,v⟩:=DataW.trod_struct tyTw h;rw[tycTw] at w
 match cs,w,C,g with
 |[c0,c1],_,[y0,y1],_=>
  have i:DataW.trod enc Tryz.prog W 0 (λ_=>true) true m 34 (([c0,c1].drop 0).take ((Tryz.prog).cellsOf 34))=some y0:=v 0 _ rfl;have j:DataW.trod enc Tryz.prog W 0 (λ_=>true) true m 34 (([c0,c1].drop 1).take ((Tryz.prog).cellsOf 34))=some y1:=v 1 _ rfl;rw[tycS2] at i j;simp only[List.drop,List.take] at i j
  have k:∃a len b,c0= .slice a len b:=by
   rcases open_slice tyS i with⟨c,_⟩|⟨a,len,b,_,_,_,_,c,_⟩
   simp at c;exact⟨_,_,_,c⟩;simp at c;exact⟨_,_,_,c⟩
  have q:∃a len b,c1= .slice a len b:=by
   rcases open_slice tyS j with⟨c,_⟩|⟨a,len,b,_,_,_,_,c,_⟩
   simp at c;exact⟨_,_,_,c⟩;simp at c;exact⟨_,_,_,c⟩
  obtain⟨a,len,b,rfl⟩:=k;obtain⟨z,f,d,rfl⟩:=q;have r:DataW.Trod enc Tryz.prog W 0 (λ_=>true) true 34 (.slice a len b) y0.1 y0.2:=⟨m,by simpa[Value.cells] using i⟩;have o:DataW.Trod enc Tryz.prog W 0 (λ_=>true) true 34 (.slice z f d) y1.1 y1.2:=⟨m,by simpa[Value.cells] using j⟩;obtain⟨m0,l,r0⟩:=FP r;obtain⟨m1,p,u⟩:=FP o;have D:maxLen=9223372036854775807:=δ
  have A:m0.length<=9223372036854775807:=by
   obtain⟨_,_,B,s,e,_⟩:=r0;have:(nR m0).length=m0.length:=by simp[nR]
   omega
  have y:m1.length<=9223372036854775807:=by
   obtain⟨_,_,B,s,e,_⟩:=u;have:(nR m1).length=m1.length:=by simp[nR]
   omega
  exact⟨(m0,m1),_,_,⟨⟨l,p⟩,A,y⟩,rfl,r0,u⟩
theorem twP_of{H:Type}{enc:TypeId×Value->H}{W:World}{a:Option Addr}{len cap:Nat}{d:DataW H}{ps:List MemPlace}(h:DataW.Trod enc Tryz.prog W 0 (λ_=>true) true 22 (.slice a len cap) d ps):
    ∃l:List jc,((∀t∈l,BN t)/\l.length<=9223372036854775807)/\RV (λ_=>False) (λ_=>none) W (.arr (twR l)) (.slice a len cap):=by
 obtain⟨O,V⟩:=h;rcases open_slice tySt V with⟨o,_⟩|⟨x,N,L,m,n,D,Pl,o,_,Y,hm,u,_,G⟩
 simp[Value.cells] at o;obtain⟨rfl,rfl,rfl⟩:=o;exact⟨[],⟨(λr F=>by cases F),ψ⟩,none,0,rfl,Nat.le_refl _,δ,.inl rfl⟩;simp[Value.cells] at o;obtain⟨rfl,rfl,rfl⟩:=o;simp only[if_true] at u;have E:m=cap:=u;rw[E] at G;rw[tycTw] at G
 have B:∀i,i< len->∃r:jc×Value×Value,BN r.1/\W.cells? 0 (x.add (i* 2)) 2=some [r.2.1,r.2.2]/\RV (λ_=>False) (λ_=>none) W (.arr (nR r.1.1)) r.2.1/\RV (λ_=>False) (λ_=>none) W (.arr (nR r.1.2)) r.2.2:=λi z=>by
  obtain⟨Z,X,S⟩:=G i ω;obtain⟨t,A,U,Q,e,J,C⟩:=two_of S;exact⟨(t,A,U),Q,by rw[X,e],J,C⟩
 obtain⟨R,K⟩:=choose_lt (α:=jc×Value×Value) B;have T:maxLen=9223372036854775807:=δ
 refine⟨(List.range len).map λi=>(R i).1,⟨?_,χ⟩,some x,cap,by simp[twR],by simpa[twR] using Y,hm,?_⟩;intro r F;obtain⟨i,z,rfl⟩:=List.mem_map.1 F;exact(K i (List.mem_range.1 z)).1;by_cases h0:len=0;subst h0;exact .inl rfl;right
 have c:∀i,i< len->∀j (v:Value),[(R i).2.1,(R i).2.2][j]?=some v->W.cell? (x.add (i* 2+j))=some v:=λi z j v hv=>by
  have hj:j< 2:=by
   have:=(List.getElem?_eq_some_iff.1 hv).1;simpa using this
  have:=(World.cells?_some (K i z).2.1).2.2 j hj;rw[hv,Go.Deep.add_add] at this;exact this
 have A:=c 0 ω 0 _ rfl;obtain⟨b,off,y⟩:=x;have q:y=none:=by simpa[Addr.add] using World.cell?_spot A
 subst q
 have g:∀k,Addr.add ⟨b,off,none⟩ k=⟨b,off+k,none⟩:=λk=>by
  unfold Addr.add;by_cases hk:k=0;simp[hk];simp[hk]
 refine⟨b,off,2,rfl,qJ (by rw[g] at A;exact A),(λh=>h),?_⟩;have:=EJ (M:=λ_=>False) (β:=λ_=>none) (w:=W) (b:=b) (s:=2) (off:=off) (f:=λi=>twC (R i).1) len 0 (λi z=>⟨rfl,?_⟩);rw[Nat.zero_mul,Nat.add_zero,<-List.range_eq_range'] at this;rw[twR,List.map_map];exact this;have p:i< len:=ω
 obtain⟨_,_,J,C⟩:=K i p;refine⟨⟨_,?_,J⟩,⟨_,?_,C⟩,trivial⟩;have:=c i p 0 _ rfl;rw[g] at this;exact this;have:=c i p 1 _ rfl;rw[g] at this;rw[Nat.add_assoc];exact this
end Go.Proofs.YtjmkjicckobojaaGreatDoor
namespace Go.Proofs.YtjmkjicckobojaaGreatDoor
open Go
def mkF(P:Program)(fn:Func)(c:OpenClaim):Bool:=(P.make==some c.make) && (c.kinds==(if c.domain.isEmpty then [] else fn.params.toList.map λt=>match P.underlying t with|some (.int k)=>some k|_=>none)) && (c.pinned==c.pinnedBy)
section
variable {P:Program}{f:FuncId}{fn:Func}{s:ChangeSpec}{c:OpenClaim}
theorem HM (h1:c.wf (OpenSpec.ofChange s)=true) (h2:laidOutB P=true) (h3:mapsRowed P=true)
    (h4:fn.params.all (P.readableRec ·)=true) (h5:namedTie P c.named s.vars=true)
    (h6:((c.stops==[]) && (P.stops==[]) && (c.knobs==[]) && (P.stopKnobs==[]))=true)
    (h7:(c.inPlace==P.inPlace f)=true) (h8:(c.unfollowed==P.unfollowed f)=true) (h9:(c.recurses==P.recurses f)=true) (h10:(c.named==P.varsNamed f)=true)
    (h11:((c.maps==(fn.params.toList++s.plain.varTypes P).any (P.mapsRec ·)) && (c.ifaces==(fn.params.toList++s.plain.varTypes P).any (P.ifacesRec ·)) && (c.mapsOut==P.mapsAmong fn.resultTypes.toList))=true)
    (h12:((c.loops==(fn.params.toList++s.plain.varTypes P).any (P.loopsFrom ·)) && (c.wideKeys==(fn.params.toList++s.plain.varTypes P++fn.resultTypes.toList).any (P.wideKeysFrom ·)))=true)
    (h13:(s.vars.all (P.varReadable ·) && fn.resultTypes.all (λt=>P.readableRec t && decide (t< P.types.size)) && (c.ifacesOut==fn.resultTypes.toList.any (P.ifacesRec ·)) && (c.loopsOut==fn.resultTypes.toList.any (P.loopsFrom ·)) && (c.plainKeys==P.plainKeys) && c.shortTexts.isNone)=true)
    (h14:P.stopsHeard=true) (h15:P.mayEnter=true) (h16:(c.lifted==P.liftsFinal)=true)
    (h17:mkF P fn c=true)
    (h18:((c.veiled==(fn.params.toList++s.plain.varTypes P++fn.resultTypes.toList).any (P.veiledRec ·)) && c.veiledFits P fn.params.toList (fn.params.toList++s.plain.varTypes P++fn.resultTypes.toList))=true):
    joinedFacts P f fn s c=true:=by
 unfold mkF at h17;simp only[Bool.and_eq_true] at h6 h11 h12 h13 h17 h18;simp only[joinedFacts,Bool.and_eq_true]
 and_intros
 all_goals first|assumption|exact h6.1.1.1|exact h6.1.1.2|exact h6.1.2|exact h6.2|exact h11.1.1|exact h11.1.2|exact h11.2|exact h12.1|exact h12.2|exact h13.1.1.1.1.1|exact h13.1.1.1.1.2|exact h13.1.1.1.2|exact h13.1.1.2|exact h13.1.2|exact h13.2|exact h17.1.1|exact h17.1.2|exact h17.2|exact h18.1|exact h18.2
end
theorem xL:laidOutB Tryz.prog=true:=by kernel_rfl
theorem all_mr:mapsRowed Tryz.prog=true:=by kernel_rfl
theorem all_sh:Tryz.prog.stopsHeard=true:=by kernel_rfl
theorem all_me:Tryz.prog.mayEnter=true:=by kernel_rfl
theorem all_lk:false=Tryz.prog.looks []:=by kernel_rfl
theorem all_mi:Tryz.prog.mainIs=some (true,("4394ef4dddf2e97571f8d3b8fa8a94fba971999ba5e017bb33ce7550229099e6" :String).toList):=by kernel_rfl
theorem all_lf:Tryz.prog.liftsFinal=Rows.equationKernelsRow.lifted:=by kernel_rfl
theorem pY:Rows.equationKernelsRow.wf (OpenSpec.ofChange Rows.equationKernelsSpec)=true:=by kernel_rfl
theorem qg:Tryz.f3.params.all (Tryz.prog.readableRec ·)=true:=by kernel_rfl
theorem qi:namedTie Tryz.prog Rows.equationKernelsRow.named Rows.equationKernelsSpec.vars=true:=by kernel_rfl
theorem qf:((Rows.equationKernelsRow.stops==[]) && (Tryz.prog.stops==[]) && (Rows.equationKernelsRow.knobs==[]) && (Tryz.prog.stopKnobs==[]))=true:=by kernel_rfl
theorem qp:(Rows.equationKernelsRow.inPlace==Tryz.prog.inPlace 3)=true:=by kernel_rfl
theorem qe:(Rows.equationKernelsRow.unfollowed==Tryz.prog.unfollowed 3)=true:=by kernel_rfl
theorem qh:(Rows.equationKernelsRow.recurses==Tryz.prog.recurses 3)=true:=by kernel_rfl
theorem p8:(Rows.equationKernelsRow.named==Tryz.prog.varsNamed 3)=true:=by kernel_rfl
theorem qj:((Rows.equationKernelsRow.maps==(Tryz.f3.params.toList++Rows.equationKernelsSpec.plain.varTypes Tryz.prog).any (Tryz.prog.mapsRec ·)) && (Rows.equationKernelsRow.ifaces==(Tryz.f3.params.toList++Rows.equationKernelsSpec.plain.varTypes Tryz.prog).any (Tryz.prog.ifacesRec ·)) && (Rows.equationKernelsRow.mapsOut==Tryz.prog.mapsAmong Tryz.f3.resultTypes.toList))=true:=by kernel_rfl
theorem qm:((Rows.equationKernelsRow.loops==(Tryz.f3.params.toList++Rows.equationKernelsSpec.plain.varTypes Tryz.prog).any (Tryz.prog.loopsFrom ·)) && (Rows.equationKernelsRow.wideKeys==(Tryz.f3.params.toList++Rows.equationKernelsSpec.plain.varTypes Tryz.prog++Tryz.f3.resultTypes.toList).any (Tryz.prog.wideKeysFrom ·)))=true:=by kernel_rfl
theorem pZ:(Rows.equationKernelsSpec.vars.all (Tryz.prog.varReadable ·) && Tryz.f3.resultTypes.all (λt=>Tryz.prog.readableRec t && decide (t< Tryz.prog.types.size)) && (Rows.equationKernelsRow.ifacesOut==Tryz.f3.resultTypes.toList.any (Tryz.prog.ifacesRec ·)) && (Rows.equationKernelsRow.loopsOut==Tryz.f3.resultTypes.toList.any (Tryz.prog.loopsFrom ·)) && (Rows.equationKernelsRow.plainKeys==Tryz.prog.plainKeys) && Rows.equationKernelsRow.shortTexts.isNone)=true:=by kernel_rfl
theorem p9:((Rows.equationKernelsRow.veiled==(Tryz.f3.params.toList++Rows.equationKernelsSpec.plain.varTypes Tryz.prog++Tryz.f3.resultTypes.toList).any (Tryz.prog.veiledRec ·)) && Rows.equationKernelsRow.veiledFits Tryz.prog Tryz.f3.params.toList (Tryz.f3.params.toList++Rows.equationKernelsSpec.plain.varTypes Tryz.prog++Tryz.f3.resultTypes.toList))=true:=by kernel_rfl
theorem pW:Rows.equationKernelsRow.wfByText (OpenSpec.ofChange Rows.equationKernelsSpec)=true:=by kernel_rfl
theorem qq:false=Rows.equationKernelsRow.goesBy Tryz.prog:=by kernel_rfl
theorem equationKernels_fn:Tryz.prog.funcNamed Rows.equationKernelsRow.func=some 3:=by kernel_rfl
theorem qo:decide (Tryz.f3.isInstance Tryz.prog Rows.equationKernelsRow.origin Rows.equationKernelsRow.targs)=true:=by kernel_rfl
theorem pX:(Tryz.f3.params.toList.all λu=>!Tryz.prog.wantsStandIn u)=true:=by kernel_rfl
theorem qk:mkF Tryz.prog Tryz.f3 Rows.equationKernelsRow=true:=by kernel_rfl
theorem qn:(Rows.equationKernelsRow.lifted==Tryz.prog.liftsFinal)=true:=by rw[all_lf];kernel_rfl
theorem nj:joinedFacts Tryz.prog 3 Tryz.f3 Rows.equationKernelsSpec Rows.equationKernelsRow=true:=
 HM pY xL all_mr qg qi qf qp qe qh p8 qj qm pZ all_sh all_me qn qk p9
theorem om:Tryz.f3.isWrapper Tryz.prog Rows.equationKernelsRow.wrapper Rows.equationKernelsRow.mainSum:=by
 unfold Func.isWrapper;first|(rw[if_pos (by decide+kernel)];kernel_rfl)|(rw[if_neg (by decide+kernel)];exact⟨rfl,rfl⟩)
end Go.Proofs.YtjmkjicckobojaaGreatDoor
namespace Go.Proofs.YtjmkjicckobojaaGreatDoor
open Go.Abs Go.RowKit
theorem tab_glb:(Tryz.prog).globalNamed "internal/strconv.uint64pow10" =some GT:=by kernel_rfl
theorem tab_of{n1 n2:String}{a b:DataW Unit}{W:World}(h:laidMet Tryz.prog [(n1,a),(n2,b),("internal/strconv.uint64pow10",Lib.tabData .u64 Lib.pow10Tab)] W):TabW W:=by
 obtain⟨u,⟨x,t1,v,u1,p1,q1,_,_,_,_,⟨s,t2,w,u2,p2,q2,_,_,_,_,⟨g,t,cs,i,p,q,l,k,hv,j,_,_⟩,_⟩,_⟩,_,_⟩:=h;obtain rfl:=Option.some.inj (tab_glb.symm.trans l);have m:((Tryz.prog).globals[GT]?).map (·.type)=some 355:=by kernel_rfl
 have n:(Tryz.prog).underlying 355=some (.array 20 246):=by kernel_rfl
 have r:(Tryz.prog).underlying 246=some (.int .u64):=by kernel_rfl
 have f:(Tryz.prog).cellsOf 246=1:=by kernel_rfl
 have e:(Tryz.prog).cellsOf 355=20:=by kernel_rfl
 obtain rfl:=Option.some.inj (m.symm.trans k);have hc:=Lib.cells_of_tab (zs:=Lib.pow10Tab) n r f e j;unfold World.var? at hv;rw[tab_glb] at hv;have d:(match W.heap[GT]? with|some (.cells cs _ _)=>some cs|_=>none)=some cs:=hv;cases hh:W.heap[GT]? with
 |none=>rw[hh] at d;cases d
 |some o=>
  rw[hh] at d;cases o with
  |cells a b c=>
   obtain rfl:a=cs:=Option.some.inj d;refine⟨b,c,?_⟩;rw[hh]
   have:a=tabA:=by
    unfold tabA;rw[<-hc]
   rw[this]
  |_=>cases d
end Go.Proofs.YtjmkjicckobojaaGreatDoor
namespace Go.Proofs.YtjmkjicckobojaaGreatDoor
open Go.Abs Go.ChangeAt Go.ChangeShapes Go.RowKit Go.WideShapes
theorem own:ownKnob Tryz.prog.godebug=none:=by kernel_rfl
theorem und4:Tryz.prog.underlying 4=some .bool:=by kernel_rfl
abbrev Gj:List (String×DataW Unit):=Rows.equationKernelsRow.laid
theorem KX(os:Os)(args:Array Value):laidMetH Tryz.prog Gj ((World.doorLaid Tryz.prog 24 os).forCall (λ_ _=>0) ⟨#[],args,[]⟩).memory:=
 laidMetH_of_parts3 (fuel:=8) (laidMet_of_run' 8 κ κ) κ κ
set_option maxRecDepth 100000 in
theorem ni(os:Os)(started:os.Started)(H:Type)(enc:TypeId×Value->H):
    ReturnsInHanded {} Tryz.checked os 3 .any (λw args=>(Rows.equationKernelsSpec.pre enc Tryz.prog Tryz.f3 [] false w args/\laidMetH Tryz.prog Gj w)/\sizedMet enc Tryz.prog Tryz.f3 (OpenSpec.ofChange Rows.equationKernelsSpec) false w args)
     (Rows.equationKernelsSpec.post enc Tryz.prog Tryz.f3 false true false false):=by
 refine returnsInHanded_of_change_and (C:=Tryz.checked) (X:=λw _=>laidMetH Tryz.prog Gj w) (λ_ _ _ Z h=>h.of_heap Z) own started κ Tryz.func3
  (ChangeSpec.witness_shaped (enc:=enc) (C:=Tryz.checked) (os:=os) (X:=λw _=>laidMetH Tryz.prog Gj w) false (World.doorLaid Tryz.prog 24 os) #[.slice none 0 0,(.agg #[.int .i64 0,.int .i64 0,.int .u8 0]),(.agg #[.int .i64 0,.int .i64 0,.int .u8 0]),(.agg #[.int .i64 0,.int .i64 0,.int .u8 0,.int .i64 0,.int .i64 0,.int .u8 0])] 8 rfl (World.shaped_of_RefB κ κ) κ κ κ (KX os _)) ?_
 intro W i args ds gs l c K _ _ G _;have a:∀(j:Nat) t v,Tryz.f3.params[j]?=some t->args[j]?=some v->Value.okWide Tryz.prog W .any i t v:=c;have A:=K;obtain⟨p,q,g,hV,rfl,hfz,hnd⟩:=K;have J:DataW.TrodAll enc Tryz.prog W 0 (λ_=>true) true Tryz.f3.params.toList args.toList ds p:=g;rw[Tryz.params3] at J a;obtain⟨v0,T,d0,O,p0,q0,s,rfl,rfl,B,r0⟩:=trodAll_cons J;obtain⟨v1,N,d1,ds1,p1,q1,rfl,rfl,rfl,D,r1⟩:=trodAll_cons r0;obtain⟨v2,vs2,d2,U,p2,q2,rfl,rfl,rfl,z,r2⟩:=trodAll_cons r1;obtain⟨v3,vs3,d3,V,M,q3,rfl,rfl,rfl,o,r3⟩:=trodAll_cons r2;obtain⟨rfl,rfl,rfl⟩:=trodAll_nil r3;obtain rfl:args= #[v0,v1,v2,v3]:=by cases args;simp_all
 obtain⟨rfl,rfl⟩:=trodVars_none hV;obtain⟨a0,k,f,rfl⟩:=okWide_slice tySt (a 0 22 v0 rfl rfl);have n:∀x∈p0,x.block< W.heap.size:=by obtain⟨m,d⟩:=B;exact DataW.trod_lt m _ _ _ d
 have r:∀x∈p1,x.block< W.heap.size:=by obtain⟨m,d⟩:=D;exact DataW.trod_lt m _ _ _ d
 have E:∀x∈p2,x.block< W.heap.size:=by obtain⟨m,d⟩:=z;exact DataW.trod_lt m _ _ _ d
 have u:∀x∈M,x.block< W.heap.size:=by obtain⟨m,d⟩:=o;exact DataW.trod_lt m _ _ _ d
 obtain⟨R,L,g0⟩:=twP_of B;obtain⟨l1,o1,g1⟩:=F5 (a 1 24 v1 rfl rfl) D;obtain⟨l2,o2,g2⟩:=F5 (a 2 24 v2 rfl rfl) z;obtain⟨Q,S,g3⟩:=gapP_of (a 3 26 v3 rfl rfl) o;clear g c;refine((pR R l1 l2 Q L.1 L.2 o1 o2 S).calls (λ_=>False) W [.slice a0 k f,v1,v2,v3] ⟨λ_ h=>h.elim,λh=>h,tab_of (by rw[MakeChecks.laidMetH_plain _ _ _ κ] at G;exact G)⟩ ⟨_,_,rfl,g0,⟨_,_,rfl,g1,⟨_,_,rfl,g2,⟨_,_,rfl,g3,rfl⟩⟩⟩⟩).mono λe W' ⟨y,he,Y,b⟩=>?_;have F:y= .bool true:=Y;subst he;subst F;exact⟨_,rfl,_,_,_,[],_,[],A,trodAll_mk1 (shut_bool und4 _),(trodAll_cons_mk (Below.trod xL κ (of_decide_eq_true κ) B b n) (trodAll_cons_mk (Below.trod xL κ (of_decide_eq_true κ) D b r) (trodAll_cons_mk (Below.trod xL κ (of_decide_eq_true κ) z b E) (trodAll_cons_mk (Below.trod xL κ (of_decide_eq_true κ) o b u) trodAll_mk0)))),rfl,b.frame _,λh=>by cases h⟩
theorem pq:Rows.EquationKernelsSaid:=
 OpenClaim.holds_of_wide 3 Tryz.f3 rfl rfl rfl rfl rfl rfl rfl ⟨rfl,rfl,rfl,rfl,rfl⟩ rfl rfl rfl rfl rfl equationKernels_fn Tryz.func3 nj
  (of_decide_eq_true qo) om
  (λos a H b _=>ni os a H b)
theorem equationKernels_card:Rows.EquationKernelsCardSaid:=
 Claim7.holds_tied_plain_at .later [] [.data,.data,.data] true (true, "4394ef4dddf2e97571f8d3b8fa8a94fba971999ba5e017bb33ce7550229099e6") false
  pq (λ_ h=>by cases h) pW (λ_ h=>by cases h) equationKernels_row_tie rfl ⟨rfl,rfl⟩ all_mi rfl
  (λf fn hf hfn=>by
   obtain rfl:f=3:=Option.some.inj (equationKernels_fn.symm.trans hf)|>.symm;obtain rfl:fn=Tryz.f3:=(Option.some.inj (Tryz.func3.symm.trans hfn)).symm
   exact⟨all_lk,λj t ht=>by
    have hm:t∈Tryz.f3.params.toList:=by simpa using Array.mem_of_getElem? ht
    exact(show Tryz.prog.wantsStandIn t=false by simpa using List.all_eq_true.1 pX t hm)⟩)
  qq
#print axioms equationKernels_card
end Go.Proofs.YtjmkjicckobojaaGreatDoor
