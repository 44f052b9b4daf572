/- For every input the law RuleFewest returns true; the listed variables start as the program's text lays them (tied). -/
import Derived.Test.YtdjfjpeoddmamaaGreatDoorZ23
import Derived.ProofKit
import Derived.OpenShut
import Derived.Carry
import Derived.Deep.Slices
import Derived.Deep.Strs
import Derived.ChangeArms
import Derived.Test.YtdjfjpeoddmamaaGreatDoorRows
import Derived.JoinedOf
import Derived.SevenTiedAt
import Derived.Lib.LaidTab
import Derived.Test.YtdjfjpeoddmamaaGreatDoorTie
import Derived.Test.YtdjfjpeoddmamaaGreatDoorCards
import Derived.LaidMore
import Derived.Stop.Joined
import Derived.MakeChecks
set_option linter.all false
namespace Go.Proofs.YtdjfjpeoddmamaaGreatDoor
open Go.Abs
set_option maxRecDepth 20000
set_option maxHeartbeats 1000000
theorem cmp0{a b:Rat}:cmpQ a b=0↔a=b:=by
 unfold cmpQ
 by_cases h:a< b
 rw[if_pos h]
 exact⟨fun e=>absurd e (by decide),fun e=>absurd h (by rw[e];grind)⟩
 rw[if_neg h]
 by_cases e:a=b
 rw[if_pos e];exact⟨fun _=>e,fun _=>rfl⟩
 rw[if_neg e];exact⟨fun h=>absurd h (by decide),fun h=>absurd h e⟩
theorem fs_rAll(p:List Rat)(c:Cnt)(h:CN p c):FSpec Tryz.prog 133 [.arr (rE (rP p))] (i64 (uptoV c (bc_ c.p))):=by
 have hq:=lw_ h.sb (by decide)
 have h1:=fs_rSqf p c h
 have h2:=mw_ (rP c.p) 140168 (ce_ _) (by rw[vR_rP];exact h.sb) (by decide) (by rw[vR_rP];exact h.sn) (by decide) (by have:=h.sl;simp[rP];omega)
 rw[vR_rP] at h2
 have h3:=p1_ p c h (rq (bc_ c.p)) (bg_ _) (by show qs (bc_ c.p)≤_;omega)
 refine f_n Tryz.func133 ?_ ?_
 exact aa_ (aF_ _) ab_
 refine r_z 1 ?_
 refine r_c 6 (h1) ?_
 refine c_s (h2) ?_
 refine c_s (h3) ?_
 refine a_z ?_
 exact ag_ (t_e (ad_ _))
theorem fs_rReal(p:List Rat)(hl:p.length≤7)(hb:bdL p 20):∃b:Bool,FSpec Tryz.prog 44 [.arr (rE (rP p))] (bln b)∧(b=true→RealV p):=by
 have hdg:=dp_ (rP p) (by simp[rP];omega)
 rw[vR_rP] at hdg
 have hd:degP p≤6:=by have:=aI_ p;unfold degP;omega
 by_cases h1:1≤degP p
 have np:nz p:=fun e=>by unfold degP at h1;rw[e] at h1;simp at h1
 obtain⟨c,hc⟩:=CN.ex np hl hb
 have hA:=fs_rAll p c hc
 by_cases h2:uptoV c (bc_ c.p)=degP p
 refine⟨true,?_,fun _=>⟨h1,by omega,c,hc,h2⟩⟩
 refine f_n Tryz.func44 ?_ ?_
 exact aa_ (aF_ _) ab_
 refine r_z 1 ?_
 refine r_c 3 (hdg) ?_
 refine a_z ?_
 refine q_c 13 (hA) ?_
 refine d_z ?_
 exact ag_ (t_e (ad_ _))
 refine⟨false,?_,fun e=>by cases e⟩
 refine f_n Tryz.func44 ?_ ?_
 exact aa_ (aF_ _) ab_
 refine r_z 1 ?_
 refine r_c 3 (hdg) ?_
 refine a_z ?_
 refine q_c 13 (hA) ?_
 refine d_z ?_
 exact ag_ (t_e (ad_ _))
 refine⟨false,?_,fun e=>by cases e⟩
 refine f_n Tryz.func44 ?_ ?_
 exact aa_ (aF_ _) ab_
 refine r_z 1 ?_
 refine r_c 3 (hdg) ?_
 refine a_z ?_
 refine q_z 13 ?_
 exact ag_ (t_e (ad_ _))
abbrev rruC(p w:List Rat):List AV:=[.arr (rE (rP p)),.arr (rE (rP w))]
theorem dr_(p w:List Rat):∀c∈rruC p w,Closed c:=aa_ (aF_ _) (aa_ (aF_ _) ab_)
theorem k4_(p w:List Rat)(hl:p.length≤7)(hb:bdL p 20)(hw:w.length≤1000):∃b:Bool,FSpec Tryz.prog 65 [.agg (rruC p w)] (bln b)∧(b=true→RealV p∧leadP p=1∧degP w< degP p):=by
 obtain⟨b,hR,hb2⟩:=fs_rReal p hl hb
 have hdg:=dp_ (rP p) (by simp[rP];omega)
 have hdw:=dp_ (rP w) (by simp[rP];omega)
 rw[vR_rP] at hdg hdw
 have i1:FSpec Tryz.prog 112 [i64 1] (.agg (rC (rq 1))):=bT_ 1 (by decide)
 have hld:=gL_ (rP p) (rq (leadP p)) (by simp[rP];omega) (by
  rw[fE_]
  unfold leadP rP
  rw[List.getLastD_eq_getLast?,List.getLastD_eq_getLast?,List.getLast?_map]
  cases (trimQ p).getLast? <;> rfl)
 have hlq:qs (leadP p)≤20:=by
  unfold leadP
  rw[List.getLastD_eq_getLast?]
  cases e:(trimQ p).getLast? with
  |none=>exact Nat.le_trans (by decide:qs 0≤1) (by decide)
  |some q=>exact hb q (bk_ (List.mem_of_getLast? e))
 have hcm:=iV_ (rq (leadP p)) (rq 1) (bg_ _) (bg_ _) (by
  show qs (leadP p)+qs 1≤_
  have:qs 1=1:=by decide
  omega)
 cases b with
 |false=>
  refine⟨false,?_,fun e=>by cases e⟩
  refine f_n Tryz.func65 ?_ ?_
  exact aa_ (ao_ (dr_ p w)) ab_
  refine r_z 2 ?_
  refine ac_ (r_d hmix 21 ?_)
  refine c_s (hR) ?_
  refine d_8 ?_
  refine d_8 ?_
  refine d_2 ?_
  refine ak_ (n_k ?_)
  exact ag_ (t_e (ad_ _))
 |true=>
  by_cases h1:leadP p=1
  rotate_left
  refine⟨false,?_,fun e=>by cases e⟩
  refine f_n Tryz.func65 ?_ ?_
  exact aa_ (ao_ (dr_ p w)) ab_
  refine r_z 2 ?_
  refine ac_ (r_d hmix 21 ?_)
  refine c_s (hR) ?_
  refine c_s (hld) ?_
  refine c_s (i1) ?_
  refine c_s (hcm) ?_
  refine bl_ rfl rfl rfl (.bin rfl rfl (vF bq_ (decide_eq_false (fun e=>h1 (cmp0.1 e))))) rfl rfl ?_
  refine d_8 ?_
  refine d_3 ?_
  refine ak_ (n_k ?_)
  exact ag_ (t_e (ad_ _))
  by_cases h2:degP w< degP p
  refine⟨true,?_,fun _=>⟨hb2 rfl,h1,h2⟩⟩
  refine f_n Tryz.func65 ?_ ?_
  exact aa_ (ao_ (dr_ p w)) ab_
  refine r_z 2 ?_
  refine ac_ (r_d hmix 21 ?_)
  refine c_s (hR) ?_
  refine c_s (hld) ?_
  refine c_s (i1) ?_
  refine c_s (hcm) ?_
  refine bl_ rfl rfl rfl (.bin rfl rfl (vT bq_ (decide_eq_true (cmp0.2 h1)))) rfl rfl ?_
  refine c_s (hdw) ?_
  refine c_s (hdg) ?_
  refine d_3 ?_
  refine ak_ (n_k ?_)
  exact ag_ (t_e (ad_ _))
  refine⟨false,?_,fun e=>by cases e⟩
  refine f_n Tryz.func65 ?_ ?_
  exact aa_ (ao_ (dr_ p w)) ab_
  refine r_z 2 ?_
  refine ac_ (r_d hmix 21 ?_)
  refine c_s (hR) ?_
  refine c_s (hld) ?_
  refine c_s (i1) ?_
  refine c_s (hcm) ?_
  refine bl_ rfl rfl rfl (.bin rfl rfl (vT bq_ (decide_eq_true (cmp0.2 h1)))) rfl rfl ?_
  refine c_s (hdw) ?_
  refine c_s (hdg) ?_
  refine d_3 ?_
  refine ak_ (n_k ?_)
  exact ag_ (t_e (ad_ _))
end Go.Proofs.YtdjfjpeoddmamaaGreatDoor
namespace Go.Proofs.YtdjfjpeoddmamaaGreatDoor
open Go.Abs Go.Deep Go.RowKit Go.WideShapes
set_option maxRecDepth 20000

end Go.Proofs.YtdjfjpeoddmamaaGreatDoor
namespace Go.Proofs.YtdjfjpeoddmamaaGreatDoor
open Go.Abs Go.ChangeShapes Go.Deep Go.RowKit Go.WideShapes
set_option maxRecDepth 20000
def loF:Array Field:= #[{name:= "Kind",type:=5,offset:=0,embedded:=false,tag:= "",pkgPath:= "",byteOffset:=0},{name:= "S",type:=25,offset:=1,embedded:=false,tag:= "",pkgPath:= "",byteOffset:=8},{name:= "P",type:=3,offset:=7,embedded:=false,tag:= "",pkgPath:= "",byteOffset:=56},{name:= "Q",type:=3,offset:=8,embedded:=false,tag:= "",pkgPath:= "",byteOffset:=64},{name:= "N",type:=3,offset:=9,embedded:=false,tag:= "",pkgPath:= "",byteOffset:=72},{name:= "Moments",type:=26,offset:=10,embedded:=false,tag:= "",pkgPath:= "",byteOffset:=80},{name:= "Left",type:=4,offset:=11,embedded:=false,tag:= "",pkgPath:= "",byteOffset:=104},{name:= "Right",type:=4,offset:=12,embedded:=false,tag:= "",pkgPath:= "",byteOffset:=105},{name:= "Low",type:=23,offset:=13,embedded:=false,tag:= "",pkgPath:= "",byteOffset:=112},{name:= "High",type:=23,offset:=16,embedded:=false,tag:= "",pkgPath:= "",byteOffset:=136}]
theorem tyL:(Tryz.prog).underlying 75=some (.struct loF):=by kernel_rfl
theorem tycL:(Tryz.prog).cellsOf 75=19:=by kernel_rfl
theorem tycb:(Tryz.prog).cellsOf 4=1:=by kernel_rfl
theorem tyc3:(Tryz.prog).cellsOf 3=1:=by kernel_rfl
theorem tycS:(Tryz.prog).cellsOf 26=1:=by kernel_rfl
theorem tyub:(Tryz.prog).underlying 4=some .bool:=by kernel_rfl
theorem gap_of{H:Type}{enc:TypeId×Value→H}{W:World}{base n:Nat}{spare:Nat→Bool}{held:Bool}{cs:List Value}{x:DataW H×List MemPlace}(h:DataW.trod enc Tryz.prog W base spare held n 25 cs=some x):
    ∃r:NRow×NRow,(okN r.1∧okN r.2)∧cs=[.int .i64 r.1.1,.int .i64 r.1.2.1,.int .u8 r.1.2.2,.int .i64 r.2.1,.int .i64 r.2.2.1,.int .u8 r.2.2.2]:=by
 obtain⟨f0,f1,hu,h1,h2,h3,h4⟩:=tyG
 obtain⟨y0,y1,m,_,hl,g0,g1⟩:=trod_struct2 hu h
 rw[h1,h2,tyc82] at g0
 rw[h3,h4,tyc82] at g1
 rw[tycG] at hl
 obtain⟨r,r1,r2,r3,e⟩:=mg_ g0
 obtain⟨r',r1',r2',r3',e'⟩:=mg_ g1
 match cs,hl with
 |[a0,a1,a2,a3,a4,a5],_=>
  simp at e e'
  obtain⟨rfl,rfl,rfl⟩:=e
  obtain⟨rfl,rfl,rfl⟩:=e'
  exact⟨(r,r'),⟨⟨r1,r2,r3⟩,⟨r1',r2',r3'⟩⟩,rfl⟩
theorem loP_of{H:Type}{enc:TypeId×Value→H}{W:World}{base:Nat}{v:Value}{d:DataW H}{ps:List MemPlace}(hv:Value.okWide Tryz.prog W .any base 75 v)(h:DataW.Trod enc Tryz.prog W 0 (fun _=>true) true 75 v d ps):
    ∃x:LoR,(okLo x∧x.mo.length≤9223372036854775807)∧RV (fun _=>False) (fun _=>none) W (.agg (loC x)) v:=by
 obtain⟨cs,rfl,_⟩:∃cs,v= .agg cs∧True:=by
  unfold Value.okWide at hv
  rw[tyL] at hv
  obtain⟨cs,h1,_⟩:=hv
  exact⟨cs,h1,trivial⟩
 obtain⟨fuel,hf⟩:=h
 obtain⟨ys,m,_,_,hl,hlen,hg⟩:=DataW.trod_struct tyL hf
 rw[tycL] at hl
 have h0:(Value.agg cs).cells.toList=cs.toList:=by simp[Value.cells]
 rw[h0] at hg hl
 have hcs:cs=⟨cs.toList⟩:=rfl
 generalize cs.toList=l at *
 match l,hl,ys,hlen with
 |[c0,c1,c2,c3,c4,c5,c6,c7,c8,c9,c10,c11,c12,c13,c14,c15,c16,c17,c18],_,[y0,y1,y2,y3,y4,y5,y6,y7,y8,y9],_=>
  obtain⟨L,hL⟩:∃L,L=[c0,c1,c2,c3,c4,c5,c6,c7,c8,c9,c10,c11,c12,c13,c14,c15,c16,c17,c18]:=⟨_,rfl⟩
  rw[←hL] at hg
  have g0:DataW.trod enc Tryz.prog W 0 (fun _=>true) true m 5 ((L.drop 0).take ((Tryz.prog).cellsOf 5))=some y0:=hg 0 _ rfl
  have g1:DataW.trod enc Tryz.prog W 0 (fun _=>true) true m 25 ((L.drop 1).take ((Tryz.prog).cellsOf 25))=some y1:=hg 1 _ rfl
  have g2:DataW.trod enc Tryz.prog W 0 (fun _=>true) true m 3 ((L.drop 7).take ((Tryz.prog).cellsOf 3))=some y2:=hg 2 _ rfl
  have g3:DataW.trod enc Tryz.prog W 0 (fun _=>true) true m 3 ((L.drop 8).take ((Tryz.prog).cellsOf 3))=some y3:=hg 3 _ rfl
  have g4:DataW.trod enc Tryz.prog W 0 (fun _=>true) true m 3 ((L.drop 9).take ((Tryz.prog).cellsOf 3))=some y4:=hg 4 _ rfl
  have g5:DataW.trod enc Tryz.prog W 0 (fun _=>true) true m 26 ((L.drop 10).take ((Tryz.prog).cellsOf 26))=some y5:=hg 5 _ rfl
  have g6:DataW.trod enc Tryz.prog W 0 (fun _=>true) true m 4 ((L.drop 11).take ((Tryz.prog).cellsOf 4))=some y6:=hg 6 _ rfl
  have g7:DataW.trod enc Tryz.prog W 0 (fun _=>true) true m 4 ((L.drop 12).take ((Tryz.prog).cellsOf 4))=some y7:=hg 7 _ rfl
  have g8:DataW.trod enc Tryz.prog W 0 (fun _=>true) true m 23 ((L.drop 13).take ((Tryz.prog).cellsOf 23))=some y8:=hg 8 _ rfl
  have g9:DataW.trod enc Tryz.prog W 0 (fun _=>true) true m 23 ((L.drop 16).take ((Tryz.prog).cellsOf 23))=some y9:=hg 9 _ rfl
  rw[tyc5] at g0
  rw[tycG] at g1
  rw[tyc3] at g2 g3 g4
  rw[tycS] at g5
  rw[tycb] at g6 g7
  rw[tyc82] at g8 g9
  subst hL
  simp only[List.drop,List.take] at g0 g1 g2 g3 g4 g5 g6 g7 g8 g9
  obtain⟨n0,e0,_,w0⟩:=DataW.trod_int tyu5 g0
  obtain⟨r,hr,e1⟩:=gap_of g1
  obtain⟨n2,e2,_,w2⟩:=DataW.trod_int tyu3 g2
  obtain⟨n3,e3,_,w3⟩:=DataW.trod_int tyu3 g3
  obtain⟨n4,e4,_,w4⟩:=DataW.trod_int tyu3 g4
  obtain⟨b6,e6,_⟩:=DataW.trod_bool tyub g6
  obtain⟨b7,e7,_⟩:=DataW.trod_bool tyub g7
  obtain⟨r8,r81,r82,r83,e8⟩:=mg_ g8
  obtain⟨r9,r91,r92,r93,e9⟩:=mg_ g9
  have hsl:∃a len cap,c10= .slice a len cap:=by
   rcases open_slice tyS g5 with⟨e5,_⟩|⟨a,len,cap,_,_,_,_,e5,_⟩
   simp at e5;exact⟨_,_,_,e5⟩
   simp at e5;exact⟨_,_,_,e5⟩
  obtain⟨a,len,cap,rfl⟩:=hsl
  have hT:DataW.Trod enc Tryz.prog W 0 (fun _=>true) true 26 (.slice a len cap) y5.1 y5.2:=⟨m,by simpa[Value.cells] using g5⟩
  obtain⟨mo,hmo,hrv⟩:=nv_ hT
  have hml:mo.length≤9223372036854775807:=by
   obtain⟨a',cap',e',hle,hcap,_⟩:=hrv
   have:(nR mo).length=mo.length:=by simp[nR]
   have hm:maxLen=9223372036854775807:=by decide
   omega
  simp at e0 e1 e2 e3 e4 e6 e7 e8 e9
  obtain⟨rfl,rfl,rfl,rfl,rfl,rfl⟩:=e1
  obtain⟨rfl,rfl,rfl⟩:=e8
  obtain⟨rfl,rfl,rfl⟩:=e9
  subst e0;subst e2;subst e3;subst e4;subst e6;subst e7
  have b:=bounds_u8 w0
  refine⟨⟨n0.toNat,r,n2,n3,n4,mo,b6,b7,r8,r9⟩,⟨⟨by show n0.toNat≤255;omega,hr,bounds_i64 w2,bounds_i64 w3,bounds_i64 w4,hmo,⟨r81,r82,r83⟩,⟨r91,r92,r93⟩⟩,hml⟩,cs,rfl,?_⟩
  rw[hcs]
  refine⟨_,_,rfl,?_,?_⟩
  show _=Value.int .u8 ((n0.toNat:Nat):Int)
  rw[Int.toNat_of_nonneg b.1]
  exact⟨_,_,rfl,rfl,_,_,rfl,rfl,_,_,rfl,rfl,_,_,rfl,rfl,_,_,rfl,rfl,_,_,rfl,rfl,_,_,rfl,rfl,_,_,rfl,rfl,_,_,rfl,rfl,_,_,rfl,hrv,_,_,rfl,rfl,_,_,rfl,rfl,_,_,rfl,rfl,_,_,rfl,rfl,_,_,rfl,rfl,_,_,rfl,rfl,_,_,rfl,rfl,_,_,rfl,rfl,rfl⟩
end Go.Proofs.YtdjfjpeoddmamaaGreatDoor
namespace Go.Proofs.YtdjfjpeoddmamaaGreatDoor
open Go.Abs
set_option maxRecDepth 20000
set_option maxHeartbeats 2000000
abbrev lwC(x:List NRow×List NRow):List AV:=[.arr (nR x.1),.arr (nR x.2)]
theorem hr_(x:List NRow×List NRow):∀c∈lwC x,Closed c:=aa_ (aU_ (bX_ _)) (aa_ (aU_ (bX_ _)) ab_)
def lwB(x:List NRow×List NRow):Bool:=tameB x.1 6 && tameB x.2 6
theorem fs_laws0(x:List NRow×List NRow)(h1:x.1.length≤9223372036854775807)(h2:x.2.length≤9223372036854775807)(h:lwB x=false):FSpec Tryz.prog 64 [.agg (lwC x)] (.tup [.agg (ruC [] []),.agg (rruC [] []),bln false]):=by
 have t1:=hj_ x.1 6 h1 (by decide)
 have t2:=hj_ x.2 6 h2 (by decide)
 unfold lwB at h
 refine f_n Tryz.func64 ?_ ?_
 exact aa_ (ao_ (hr_ x)) ab_
 refine r_z 4 ?_
 cases e1:tameB x.1 6 with
 |false=>
  rw[e1] at t1
  refine ac_ (r_c 10 (t1) ?_)
  refine a_z ?_
  refine cT (r_z 5 ?_)
  refine ag_ (Fin.many ⟨_,_,rfl,⟨_,_,_,_,_,rfl,rfl,rfl,.inl ⟨tg_57.h,_,ts_57.h,nle rfl,rfl⟩⟩,⟨_,_,rfl,⟨_,_,_,_,_,rfl,rfl,rfl,.inl ⟨tg_102.h,_,ts_102.h,nle rfl,rfl⟩⟩,⟨_,_,rfl,rfl,rfl⟩⟩⟩ (nle rfl) ?_)
  exact af_ (Cv.agg (af_ (Cv.emp _) (af_ (Cv.emp _) ap_))) (af_ (Cv.agg (af_ (Cv.emp _) (af_ (Cv.emp _) ap_))) (af_ (an_ au_ (ad_ _)) ap_))
 |true=>
  rw[e1,Bool.true_and] at h
  rw[e1] at t1
  rw[h] at t2
  refine ac_ (r_c 10 (t1) ?_)
  refine c_s (t2) ?_
  refine a_z ?_
  refine cT (r_z 5 ?_)
  refine ag_ (Fin.many ⟨_,_,rfl,⟨_,_,_,_,_,rfl,rfl,rfl,.inl ⟨tg_57.h,_,ts_57.h,nle rfl,rfl⟩⟩,⟨_,_,rfl,⟨_,_,_,_,_,rfl,rfl,rfl,.inl ⟨tg_102.h,_,ts_102.h,nle rfl,rfl⟩⟩,⟨_,_,rfl,rfl,rfl⟩⟩⟩ (nle rfl) ?_)
  exact af_ (Cv.agg (af_ (Cv.emp _) (af_ (Cv.emp _) ap_))) (af_ (Cv.agg (af_ (Cv.emp _) (af_ (Cv.emp _) ap_))) (af_ (an_ au_ (ad_ _)) ap_))
theorem fs_laws1(x:List NRow×List NRow)(h1:okR x.1)(h2:okR x.2)(h:lwB x=true):FSpec Tryz.prog 64 [.agg (lwC x)] (.tup [.agg (ruC (nL x.1) (nL x.2)),.agg (rruC (nL x.1) (nL x.2)),bln true]):=by
 unfold lwB at h
 rw[Bool.and_eq_true] at h
 obtain⟨e1,e2⟩:=h
 have l1:=(g6_ e1 h1).2
 have l2:=(g6_ e2 h2).2
 have m1:(nL x.1).length=x.1.length:=by simp[nL]
 have m2:(nL x.2).length=x.2.length:=by simp[nL]
 have t1:=hj_ x.1 6 (by omega) (by decide)
 have t2:=hj_ x.2 6 (by omega) (by decide)
 rw[e1] at t1
 rw[e2] at t2
 have b1:=pf_ x.1 (by omega) h1
 have b2:=pf_ x.2 (by omega) h2
 refine f_n Tryz.func64 ?_ ?_
 exact aa_ (ao_ (hr_ x)) ab_
 refine r_z 4 ?_
 refine ac_ (r_c 10 (t1) ?_)
 refine c_s (t2) ?_
 refine a_z ?_
 refine cF (ai_ (r_c 8 (b1) ?_))
 refine a_z ?_
 refine r_c 8 (b2) ?_
 refine a_z ?_
 refine r_z 9 ?_
 refine ag_ (Fin.many ⟨_,_,rfl,⟨_,_,_,_,_,rfl,rfl,rfl,.inl ⟨tg_57.h,_,ts_57.h,nle rfl,rfl⟩⟩,⟨_,_,rfl,⟨_,_,_,_,_,rfl,rfl,rfl,.inl ⟨tg_102.h,_,ts_102.h,nle rfl,rfl⟩⟩,⟨_,_,rfl,rfl,rfl⟩⟩⟩ (nle rfl) ?_)
 exact af_ (an_ au_ (ao_ (bw_ _ _))) (af_ (an_ au_ (ao_ (dr_ _ _))) (af_ (an_ au_ (ad_ _)) ap_))
theorem k2_(p:List Rat)(hl:p.length≤7)(hb:bdL p 20)(h:RealV p):FSpec Tryz.prog 160 [.arr (pE p)] (bln true):=by
 obtain⟨n0,_,c,hc,hcn⟩:=h.facts
 obtain⟨h1,h2,_⟩:=h
 have hbq:=lw_ hb (by decide)
 have hbo:=jf_ p
 have hm:=bP_ hb (by decide)
 have hC:=pe_ 9 p c (-bc_ p,bc_ p) hc.hc (by omega) (hc.below (by show qs (-bc_ p)≤_;rw[dK_];omega)) (hc.upto (by show qs (bc_ p)≤_;omega)) ⟨by show qs (-bc_ p)≤_;rw[dK_];omega,by show qs (bc_ p)≤_;omega⟩ (by
  show cmpQ (-bc_ p) (bc_ p)≤0
  unfold cmpQ;rw[if_pos (by grind)];decide) (by unfold hB_;rw[if_neg (by omega),if_neg (by omega)]) (by omega)
 have:=o5_ p _ (by omega) ⟨h1,h2⟩ ⟨by omega,by omega⟩ hC
 rw[decide_eq_true hcn] at this
 exact this
theorem r4_(p w:List Rat)(hl:p.length≤7)(hb:bdL p 20)(h:RealV p)(hm:leadP p=1)(hd:degP w< degP p)(hw:w.length≤1099511627776):FSpec Tryz.prog 94 [.agg (ruC p w)] (i64 0):=
 hH_ p w (k2_ p hl hb h) hm hd (by omega) hw
theorem fs_On (m:List Rat) (l r:Bool) (a b:Rat) (p wt:List Rat) (hv:okW m l r a b) (ha:sm a) (hb:sm b) (hr:FSpec Tryz.prog 160 [.arr (pE p)] (bln true)) (hlen:degP p≤(m.length:Int)) (hpb:bdL p 68719476736) (hp0:trimQ p≠[]) (hpl:p.length≤1099511627776)
    (hon:FSpec Tryz.prog 161 [.agg (wC m l r (qC a) (qC b)),.arr (pE (a6_ p))] (.agg (ruC (a6_ p) wt))):
    FSpec Tryz.prog 60 [.agg (wC m l r (qC a) (qC b)),.arr (pE p)] (.tup [.agg (ruC (a6_ p) wt),i64 0]):=by
 have hWc:∀c∈wC m l r (qC a) (qC b),Closed c:=aR_ (.inr ⟨a,rfl⟩) (.inr ⟨b,rfl⟩)
 have hck:=cA_ m l r a b ⟨hv.1,hv.2.1⟩ hv.2.2 ha hb
 have hmn:=jT_ p hpb hp0 hpl
 have hdg:=bI_ p hpl
 have hm2:=hv.2.1
 refine f_n Tryz.func60 ?_ ?_
 exact aa_ (ao_ hWc) (aa_ (as_ p) ab_)
 refine r_z 3 ?_
 refine ac_ (r_c 3 (hck) ?_)
 refine a_z ?_
 refine aD_ (fun _:Unit=>⟨[(1,.arr (pE p)),(2,.aptr [wC m l r (qC a) (qC b)] 0 0),(4,.lptr 1 0 0)],[(1,some ⟨57,2,[[.emp,.emp]]⟩)],2,31⟩) (fun _=>True) ?_ ?_
 refine ah_ (s_r 3 ?_)
 refine a_1 ?_
 refine o_0 (.bin rfl rfl (vF bu_ (rfl))) ?_
 refine a_z ?_
 refine cF (r_c 4 (hr) ?_)
 refine a_z ?_
 refine cF (ac_ (r_d hmix 7 ?_))
 refine c_s (hdg) ?_
 refine d_2 ?_
 refine ak_ (n_k ?_)
 refine cF (ai_ ⟨(),trivial,?_⟩)
 exact s_f [(1,4)]
 rintro _ _
 refine ac_ (r_d hmix 6 ?_)
 refine c_s (hmn) ?_
 refine c_s (hon) ?_
 refine a_2 ?_
 refine ak_ (n_k ?_)
 refine ag_ (Fin.many ⟨_,_,rfl,⟨_,_,_,_,_,rfl,rfl,rfl,.inl ⟨tg_57.h,_,ts_57.h,nle rfl,rfl⟩⟩,⟨_,_,rfl,rfl,rfl⟩⟩ (nle rfl) ?_)
 exact af_ (an_ au_ (ao_ (bw_ _ _))) (af_ (an_ au_ (ad_ _)) ap_)
section
variable {T:List Rat}{n:Nat}(hn:1≤n∧n≤5)(hl:T.length=n+1)(ht:trimQ T=T)(hm:leadP T=1)(hb:bdL T 20)
include hn hl ht hm hb
theorem fs_onV{m A B:List Rat}(l r:Bool)(a b:Rat)(hmb:bdL m 3000)(hml:n≤m.length)(hco:∀x,evalP A x* evalP T x+evalP B x* dvE T x=1):
    ∃W,FSpec Tryz.prog 161 [.agg (wC m l r (qC a) (qC b)),.arr (pE T)] (.agg (ruC T W))∧bdL W 180000000∧W.length≤n∧(∃z,∀x,evalP W x* dvE T x=evalP (tpQ T m) x+evalP z x* evalP T x)∧(nz W→dg W< dg T):=by
 obtain⟨n1,n2,n3⟩:=r_len hn hl ht hm hb
 obtain⟨G,A',z1,z2,z3,z4,W,z5,z6,z7,z8,z9⟩:=r_own hn hl ht hm hb hmb hco
 have hde:=gP_ T (ev_ hb (by omega)) (by omega)
 have hbz:=mO_ 9 (ax_ T) T G A' n1 (by omega) z1 z2
 have h2:=Nat.mul_le_mul_right (20+3000+1) (show n+2≤7 by omega)
 have:=fs_on T m l r a b n 20 3000 _ _ _ hl ht (by omega) hb hmb (by omega) (by omega) hml (by omega) hde hbz z3 z4
 rw[←z5] at this
 exact⟨W,this,z6,z7,z8,z9⟩
theorem mz_{p W:List Rat}{k:Nat}(hp:trimQ p=T)(hpl:p.length≤6)(hpb:bdL p 20)(hWt:(trimQ W).length≤n)(hWl:W.length≤6)(hWb:bdL W 180000000)(hk:k≤10):
    FSpec Tryz.prog 103 [.agg (ruC p W),.arr (pE (List.replicate k 0++[((1:Int):Rat)]))] (.agg (qC (trP T (mulP W (gK [1] k)))))∧sm (trP T (mulP W (gK [1] k))):=by
 obtain⟨n1,n2,n3⟩:=r_len hn hl ht hm hb
 obtain⟨s1,s2⟩:=r_su hn hl ht hm hb
 have hf:(List.replicate k 0++[((1:Int):Rat)]).length≤11:=by simp;omega
 have hfb:bdL (List.replicate k 0++[((1:Int):Rat)]) 1:=nj_ (fun q hq=>by rw[List.mem_singleton.1 hq];decide) (by omega) k
 have he:trP T (mulP W (List.replicate k 0++[((1:Int):Rat)]))=trP T (mulP W (gK [1] k)):=(kU_ n1 W).eqv fun x=>by
  rw[dH_]
  have:=h4_ [((1:Int):Rat)] x k
  unfold shP at this
  rw[this,aB_,aG_];grind
 have hp0:trimQ p≠[]:=by rw[hp];intro e;rw[e] at hl;cases hl
 obtain⟨o1,o2,o3,o4,o5,o6,o7⟩:=r_apply hn hl ht hm hb hp hpl hpb hWt hWl hWb hf hfb
 have hsu:=rF_ p W n (by rw[hp,hl]) (by omega) (by omega) (by omega) (by rw[hp];exact s2)
 rw[hp] at hsu
 have h2:=Nat.mul_le_mul_right (17400000000+3000+1) (show(apR p W (List.replicate k 0++[((1:Int):Rat)])).length+2≤7 by omega)
 have hap:=o8_ p W _ _ 17400000000 3000 hsu hp0 o1 o2 o3 o4 s1 (by omega) (by omega) (by omega) (by rw[dh_];omega) (by omega)
 rw[o7,he] at hap
 rw[o7,he] at o6
 exact⟨hap,o6⟩
theorem jZ_ {p W m:List Rat} {l r:Bool} {a b:Rat} (hw:okW m l r a b) (ha:sm a) (hb':sm b) (hmb:bdL m 3000) (hml:2* n+1≤m.length) (hp:trimQ p=T) (hpl:p.length≤6) (hpb:bdL p 20) (hR:RealV p) (hWd:degP W< degP p) (hWl:W.length≤6) (hWb:bdL W 180000000)
    (hpos:∀j,j< n+1→0< oN m j):∃d,d≤2* n∧FSpec Tryz.prog 61 [.agg (wC m l r (qC a) (qC b)),.agg (ruC p W)] (.tup [i64 ((d:Int)- 1),bln true,i64 0])∧∀k,k< d→trP T (mulP W (gK [1] k))=coP m k:=by
 obtain⟨n1,n2,n3⟩:=r_len hn hl ht hm hb
 obtain⟨d,d1,d2,d3⟩:=r_first hn hl ht hm hb W hpos
 have hdp:degP p=(n:Int):=by rw[←i6_,hp,n3]
 have hWt:(trimQ W).length≤n:=by unfold degP at hWd;have:=hdp;unfold degP at this;omega
 have hlp:leadP p=1:=by rw[←dn_,hp,hm]
 have hck:=r4_ p W (by omega) hpb hR hlp hWd (by omega)
 have hcw:=cA_ m l r a b ⟨hw.1,hw.2.1⟩ hw.2.2 ha hb'
 have hbo:=mp_ p W m l r a b hcw hck
 have hw2:=hw.2.1
 refine⟨d,d1,jV_ p W m l r a b d _ hbo (fun k hk=>(mz_ hn hl ht hm hb hp hpl hpb hWt hWl hWb (by omega)).1) (by omega) (by omega) (fun q hq=>Nat.le_trans (hmb q hq) (by decide)) (fun k hk=>(mz_ hn hl ht hm hb hp hpl hpb hWt hWl hWb (by omega)).2) d2 d3,d2⟩
theorem mG_ {W m:List Rat} {l r:Bool} {a b:Rat} (hw:okW m l r a b) (ha:sm a) (hb':sm b) (hmb:bdL m 3000) (hl13:m.length≤16) (hml:2* n≤m.length) (hR:RealV T) (hpos:∀j,j< n+1→0< oN m j) (hN:oP m n=T)
    (hon:FSpec Tryz.prog 161 [.agg (wC m l r (qC a) (qC b)),.arr (pE T)] (.agg (ruC T W))):FSpec Tryz.prog 16 [.agg (wC m l r (qC a) (qC b)),i64 n] (.tup [.agg (ruC T W),i64 0]):=by
 obtain⟨n1,n2,n3⟩:=r_len hn hl ht hm hb
 have hmo:=jN_ n1 hm ht
 have hN':(ldr m n).1=T:=hN
 have hok:=lad_ok hmb (by decide) (by decide) hl13 (show n≤6 by omega) (fun j hj=>hpos j (by omega)) hml
 have:=pc_ m l r a b n W (by omega) hok ⟨hml,hw.2.1⟩ hw.2.2 ha hb' (by rw[hN'];exact k2_ T (by omega) hb hR) (by rw[hN'];exact bdL_mono' hb (by decide)) (by rw[hN'];exact n1) (by rw[hN'];omega) (by rw[hN',hmo];exact hon)
 rw[hN',hmo] at this
 exact this
end
theorem ldW_tame(x:LoR)(hx:okLo x)(w:Wt)(h:ldW x 12=some w)(hv:okW w.m w.l w.r w.a w.b):bdL w.m 3000∧w.m.length≤13:=by
 unfold ldW at h
 split at h
 split at h
 cases h
 ·rename_i h1 h2
  cases h
  have hn:x.n≤12:=by
   by_cases e:(12:Int)< x.n
   exact absurd (.inl e) h2
   omega
  have ht:tameB [x.g.1,x.g.2] 2=true:=by
   cases e:tameB [x.g.1,x.g.2] 2 with
   |true=>rfl
   |false=>exact absurd (.inr e) h2
  have okr:okR [x.g.1,x.g.2]:=fun r hr=>by
   simp only[List.mem_cons,List.not_mem_nil,or_false] at hr
   rcases hr with rfl|rfl
   exact hx.2.1.1
   exact hx.2.1.2
  obtain⟨tb,_⟩:=g6_ ht okr
  have qa:qs (nV x.g.1)≤20:=tb _ (by simp[nL])
  have qb:qs (nV x.g.2)≤20:=tb _ (by simp[nL])
  have hz:∀e:Int,okW (wZt,e).1.m (wZt,e).1.l (wZt,e).1.r (wZt,e).1.a (wZt,e).1.b→bdL (wZt,e).1.m 3000∧(wZt,e).1.m.length≤13:=fun e he=>absurd he.1 (show¬1≤(0:Nat) by decide)
  revert hv
  unfold gvW
  split
  split
  split
  exact hz 3
  ·rename_i h3
   intro _
   have b5:¬bdN x.n:=fun e=>h3 (.inl e)
   have b6:¬bdP x.p:=fun e=>h3 (.inr (.inl e))
   have b7:¬bdP x.q:=fun e=>h3 (.inr (.inr e))
   unfold bdN at b5
   unfold bdP at b6 b7
   refine⟨jz_ fun k hk=>jc_tame qa qb (by omega) (by omega) (by omega),?_⟩
   show(sqL _ _).length≤13
   rw[dS_];omega
  exact hz 2
  split
  split
  exact hz 3
  ·rename_i h3
   intro _
   have b5:¬bdN x.n:=fun e=>h3 (.inl e)
   have b6:¬bdP x.p:=fun e=>h3 (.inr e)
   unfold bdN at b5
   unfold bdP at b6
   refine⟨jz_ fun k hk=>Nat.le_trans (gS_ (n:=x.p.toNat+k) (by omega)) (by decide),?_⟩
   show(sqL _ _).length≤13
   rw[dS_];omega
  split
  exact hz 3
  ·rename_i b5
   intro _
   unfold bdN at b5
   refine⟨jz_ fun k hk=>?_,?_⟩
   have:qs (evW (evK (x.k- 2)) k)≤(k/ 2) * 42+1:=by
    unfold evW
    split
    exact pk_ _ fun j hj=>mV_ _ _ (by omega)
    exact Nat.le_trans (by decide:qs 0≤1) (Nat.le_add_left _ _)
   omega
   show(sqL _ _).length≤13
   rw[dS_];omega
 split at h
 cases h
 ·rename_i h2
  cases h
  have hl:x.mo.length≤64:=by
   have h1:(nL x.mo).length≤64:=hv.2.1
   simpa[nL] using h1
  have ht:tameB x.mo (12+1)=true:=by
   cases e:tameB x.mo (12+1) with
   |true=>rfl
   |false=>exact absurd (.inl ⟨e,hl⟩) h2
  obtain⟨tb,tl⟩:=g6_ ht hx.2.2.2.2.2.1
  exact⟨bdL_mono' tb (by decide),tl⟩
theorem r8_ {N W m:List Rat} {l r:Bool} {a b:Rat} {n:Nat} (hw:okW m l r a b) (ha:sm a) (hb:sm b) (hmb:bdL m 3000) (hl13:m.length≤16) (hml:2* n+1≤m.length) (hN:RealV N) (h1:leadP N=1) (hd:degP N=(n:Int)) (hWd:degP W< degP N)
    (hNl:N.length≤6) (hNb:bdL N 20) (hWl:W.length≤6) (hWb:bdL W 20) (hpos:∀j,j< n+1→0< oN m j):
    ∃T V,FSpec Tryz.prog 60 [.agg (wC m l r (qC a) (qC b)),.arr (pE N)] (.tup [.agg (ruC T V),i64 0])∧∀c,c=(N,W)∨c=(T,V)→∃d,d≤2* n∧FSpec Tryz.prog 61 [.agg (wC m l r (qC a) (qC b)),.agg (ruC c.1 c.2)] (.tup [i64 ((d:Int)- 1),bln true,i64 0])∧
     (d=2* n→FSpec Tryz.prog 16 [.agg (wC m l r (qC a) (qC b)),i64 n] (.tup [.agg (ruC T V),i64 0])∧FSpec Tryz.prog 21 [.arr (pE T),.arr (pE c.1)] (bln true)∧FSpec Tryz.prog 21 [.arr (pE V),.arr (pE c.2)] (bln true)):=by
 have htl:=aI_ N
 have hRT:=hN.trim (by omega) hNb
 have hn:1≤n∧n≤5:=by have:=hN.1;unfold degP at hd this;omega
 obtain⟨T,hT⟩:∃T,T=trimQ N:=⟨_,rfl⟩
 have hl:T.length=n+1:=by rw[hT];unfold degP at hd;omega
 have ht:trimQ T=T:=by rw[hT,aN_]
 have hm:leadP T=1:=by rw[hT,dn_,h1]
 have hTb:bdL T 20:=fun q hq=>hNb q (bk_ (by rw[←hT];exact hq))
 rw[←hT] at hRT
 obtain⟨n1,n2,n3⟩:=r_len hn hl ht hm hTb
 obtain⟨_,⟨A,B,hco⟩,_⟩:=hRT.facts
 obtain⟨V,hon,v1,v2,v3,v4⟩:=fs_onV hn hl ht hm hTb l r a b hmb (by omega) hco
 have hmo:a6_ N=T:=by rw[←jM_,←hT];exact jN_ n1 hm ht
 have hN0:trimQ N≠[]:=by rw[←hT];intro e;rw[e] at hl;cases hl
 have hOn:=fs_On m l r a b N V hw ha hb (k2_ N (by omega) hNb hN) (by omega) (bdL_mono' hNb (by decide)) hN0 (by omega) (by rw[hmo];exact hon)
 rw[hmo] at hOn
 have hvl:V.length≤6:=by omega
 refine⟨T,V,hOn,?_⟩
 have smT:=ev_ hTb (by decide)
 have smV:=ev_ v1 (by decide)
 have dV:degP V< degP T:=by
  by_cases h:nz V
  rw[gk_ h,gk_ n1];have:=v4 h;omega
  have:=degP_nil.2 h;omega
 have dW:nz W→dg W< dg T:=fun h=>by
  rw[gk_ h,hd] at hWd
  omega
 rintro c (rfl|rfl)
 obtain⟨d,d1,d2,d3⟩:=jZ_ hn hl ht hm hTb hw ha hb hmb hml hT.symm hNl hNb hN hWd hWl (bdL_mono' hWb (by decide)) hpos
 refine⟨d,d1,d2,fun e=>?_⟩
 obtain⟨e1,e2⟩:=qW_ hn hl ht hm hTb hpos hco (by rw[←e];exact d3) dW v3 v4
 refine⟨mG_ hn hl ht hm hTb hw ha hb hmb hl13 (by omega) hRT hpos e1 hon,?_,?_⟩
 have:=lh_ T N smT (ev_ hNb (by decide)) (by omega) (by omega)
 rw[show sameP T N=true from decide_eq_true (by rw[ht,hT])] at this
 exact this
 have:=lh_ V W smV (ev_ hWb (by decide)) (by omega) (by omega)
 rw[show sameP V W=true from decide_eq_true (eqv_trim.1 e2).symm] at this
 exact this
 obtain⟨d,d1,d2,d3⟩:=jZ_ hn hl ht hm hTb hw ha hb hmb hml ht (by omega) hTb hRT dV hvl v1 hpos
 refine⟨d,d1,d2,fun e=>?_⟩
 obtain⟨e1,e2⟩:=qW_ hn hl ht hm hTb hpos hco (by rw[←e];exact d3) v4 v3 v4
 refine⟨mG_ hn hl ht hm hTb hw ha hb hmb hl13 (by omega) hRT hpos e1 hon,?_,?_⟩
 have:=lh_ T T smT smT (by omega) (by omega)
 rw[show sameP T T=true from decide_eq_true rfl] at this
 exact this
 have:=lh_ V V smV smV (by omega) (by omega)
 rw[show sameP V V=true from decide_eq_true rfl] at this
 exact this
theorem mJ_(m:List Rat)(l r:Bool)(a b:Rat)(n:Nat)(hv:okW m l r a b)(ha:sm a)(hb:sm b)(hmb:bdL m 3000)(hl:m.length≤16)(hn:n≤6)(hml:2* n+1≤m.length):
    ∃is:Bool,FSpec Tryz.prog 67 [.agg (wC m l r (qC a) (qC b)),i64 n] (.tup [bln is,i64 0])∧(is=true→∀j,j< n+1→0< oN m j):=by
 obtain⟨d,d1,d2,d3⟩:=leastN (P:=fun k=>k=n∨¬0< oN m k) n (.inl rfl)
 have hpos:∀j,j< d→0< oN m j:=fun j hj=>Classical.not_not.1 fun e=>d3 j hj (.inr e)
 obtain⟨o1,o2,o3,o4,o5⟩:=nB_ hmb (by decide) (by decide) hl (show d≤6 by omega) hpos d (Nat.le_refl _)
 refine⟨_,nX_ m l r a b n d hv ha hb (by omega) (by omega) d1 (fun k hk=>lad_ok hmb (by decide) (by decide) hl (show d≤6 by omega) hpos (by omega) k hk) ⟨o1,o4 (by omega)⟩ (fun h=>d2.resolve_left (by omega)),fun e j hj=>?_⟩
 have e:=of_decide_eq_true e
 have hdn:d=n:=by
  rcases d2 with h|h
  exact h
  exact absurd e h
 by_cases hj2:j=d
 rw[hj2];exact e
 exact hpos j (by omega)
def rfS(N W T V:List Rat)(wA:List AV)(n k:Nat):AState:=⟨[(8,.aptr [wA] 0 0),(11,i64 n),(79,.lsl 1 0 2 (some 2) 2),(80,i64 2),(81,i64 k)],[(1,some ⟨57,2,[ruC N W,ruC T V]⟩)],2,131⟩
theorem ox_(N W T V:List Rat)(wA:List AV)(n k:Nat):rfS N W T V wA n k=⟨[(8,.aptr [wA] 0 0),(11,i64 n),(79,.lsl 1 0 2 (some 2) 2),(80,i64 2),(81,i64 k)],[(1,some ⟨57,2,[ruC N W,ruC T V]⟩)],2,131⟩:=rfl
theorem li_(x:List NRow×List NRow)(y:LoR)(hx:okR x.1∧okR x.2)(hxl:x.1.length≤9223372036854775807∧x.2.length≤9223372036854775807)(hy:okLo y)(hym:y.mo.length≤9223372036854775807):FSpec Tryz.prog 8 [.agg (lwC x),.agg (loC y)] (.v (.bool true)):=by
 have cX:=hr_ x
 have cY:=hs_ y
 have hld:=fs_Loads y 12 hy (by decide) hym
 have lok:=ldW_ok y hy 12
 have ltm:=ldW_tame y hy
 refine f_n Tryz.func8 ?_ ?_
 exact aa_ (ao_ cX) (aa_ (ao_ cY) ab_)
 refine r_z 3 ?_
 cases hb:lwB x with
 |false=>
  have hla:=fs_laws0 x hxl.1 hxl.2 hb
  refine r_c 11 (hla) ?_
  refine a_z ?_
  refine r_c 11 (hld) ?_
  refine a_z ?_
  refine ac_ (r_z 16 ?_)
  refine cT (r_c 2 (d6_) ?_)
  refine a_z ?_
  exact ag_ (t_e (ad_ _))
 |true=>
 have hla:=fs_laws1 x hx.1 hx.2 hb
 refine r_c 11 (hla) ?_
 refine a_z ?_
 have hb2:=hb
 unfold lwB at hb2
 rw[Bool.and_eq_true] at hb2
 obtain⟨bN,lN⟩:=g6_ hb2.1 hx.1
 obtain⟨bW,lW⟩:=g6_ hb2.2 hx.2
 generalize nL x.1=N at *
 generalize nL x.2=W at *
 cases hw:ldW y 12 with
 |none=>
  rw[hw] at hld
  refine r_c 11 (hld) ?_
  refine a_z ?_
  refine ac_ (r_z 16 ?_)
  refine cT (r_c 2 (d6_) ?_)
  refine a_z ?_
  exact ag_ (t_e (ad_ _))
 |some w=>
 rw[hw] at hld
 have ok:=lok w hw
 have tm:=ltm w hw
 simp only[Option.getD_some,Option.isSome_some] at hld
 refine r_c 11 (hld) ?_
 refine a_z ?_
 have cA:∀c∈w.A,Closed c:=w.cA
 have cB:∀c∈w.B,Closed c:=bb_
 have cR:=bw_ N W
 have cRR:=dr_ N W
 refine AWp.ent (st':=⟨[(5,.aptr [ruC N W] 0 0),(6,.aptr [rruC N W] 0 0),(7,bln true),(8,.aptr [w.A] 0 0),(9,.aptr [w.B] 0 0),(10,bln true)],[],1,131⟩) ?_ ?_
 refine at_ [] rfl rfl rfl au_r (fun hs=>?_) (fun hs=>?_)
 ·repeat' (first|exact aK_|refine aE_ rfl ?_ ?_)
  all_goals (first|((first|exact Cv.boxp hs rfl (aQ_ rfl) rfl cR|exact Cv.boxp hs rfl (aQ_ rfl) rfl cRR|exact Cv.boxp hs rfl (aQ_ rfl) rfl cA|exact Cv.boxp hs rfl (aQ_ rfl) rfl cB))|exact au_c)
 ·repeat' (first|exact aq_|refine al_ rfl rfl rfl rfl ?_ ?_)
  all_goals (first|exact au_e|(refine ae_ ?_;repeat' (first|exact ap_|refine af_ ?_ ?_)))
  all_goals (first|((first|exact Cv.boxp hs rfl (aQ_ rfl) rfl cR|exact Cv.boxp hs rfl (aQ_ rfl) rfl cRR|exact Cv.boxp hs rfl (aQ_ rfl) rfl cA|exact Cv.boxp hs rfl (aQ_ rfl) rfl cB))|exact au_c)
 obtain⟨vr,hvr,hvr2⟩:=k4_ N W (by omega) bN (by omega)
 have hvl:=rI_ w.m w.l w.r w.x w.y (by have:=ok.len;omega) ok.ox ok.oy (by have:=ok.qa;have:=ok.qb;rw[ok.ex,ok.ey];omega)
 rw[ok.ex,ok.ey] at hvl
 cases vr with
 |false=>
  refine ac_ (r_c 16 (hvr) ?_)
  refine a_z ?_
  refine cT (r_c 2 (d6_) ?_)
  refine a_z ?_
  exact ag_ (t_e (ad_ _))
 |true=>
 obtain⟨r1,r2,r3⟩:=hvr2 rfl
 by_cases hok:okW w.m w.l w.r w.a w.b
 rotate_left
 rw[decide_eq_false hok] at hvl
 refine ac_ (r_c 16 (hvr) ?_)
 refine c_s (hvl) ?_
 refine a_z ?_
 refine cT (r_c 2 (d6_) ?_)
 refine a_z ?_
 exact ag_ (t_e (ad_ _))
 rw[decide_eq_true hok] at hvl
 obtain⟨mb,ml⟩:=tm hok
 refine ac_ (r_c 16 (hvr) ?_)
 refine c_s (hvl) ?_
 refine a_z ?_
 refine cF (ai_ ?_)
 have sa:sm w.a:=Nat.le_trans ok.qa (by decide)
 have sb:sm w.b:=Nat.le_trans ok.qb (by decide)
 have hdg:=bI_ N (by omega)
 obtain⟨n,hn⟩:∃n:Nat,degP N=(n:Int):=⟨(degP N).toNat,by have:=r1.1;omega⟩
 have hn5:1≤n∧n≤5:=by have h1:=r1.1;have h2:=aI_ N;unfold degP at hn h1;omega
 rw[hn] at hdg
 obtain⟨m,l,r,a,b,X,Y⟩:=w
 simp only at *
 by_cases hln:(m.length- 1) / 2< n
 have hdf:=mK_ m l r a b n hok sa sb hln (by omega)
 refine r_c 4 (hdg) ?_
 refine a_z ?_
 refine r_c 8 (hdf) ?_
 refine a_z ?_
 refine ac_ (s_r 6 ?_)
 refine a_1 ?_
 refine o_0 (.bin rfl rfl (vT bu_ (rfl))) ?_
 refine a_z ?_
 refine cT (r_c 2 (d6_) ?_)
 refine a_z ?_
 exact ag_ (t_e (ad_ _))
 have hm1:=hok.1
 obtain⟨is,hdf,hpos⟩:=mJ_ m l r a b n hok sa sb mb (by omega) (by omega) (by omega)
 refine r_c 4 (hdg) ?_
 refine a_z ?_
 refine r_c 8 (hdf) ?_
 refine a_z ?_
 cases is with
 |false=>
  refine ac_ (s_r 6 ?_)
  refine a_1 ?_
  refine o_0 (.bin rfl rfl (vF bu_ (rfl))) ?_
  refine a_z ?_
  refine cT (r_c 2 (d6_) ?_)
  refine a_z ?_
  exact ag_ (t_e (ad_ _))
 |true=>
 refine ac_ (s_r 6 ?_)
 refine a_1 ?_
 refine o_0 (.bin rfl rfl (vF bu_ (rfl))) ?_
 refine a_z ?_
 refine cF (ai_ ?_)
 obtain⟨T,V,hOn,hcs⟩:=r8_ hok sa sb mb (by omega) (by omega) r1 r2 hn r3 (by omega) bN (by omega) bW (hpos rfl)
 have cT:=bw_ T V
 refine r_c 10 (hOn) ?_
 refine a_z ?_
 refine ac_ (s_r 2 ?_)
 refine a_1 ?_
 refine o_0 (.bin rfl rfl (vF bu_ (rfl))) ?_
 refine ak_ ?_
 refine cF (ai_ (ac_ (r_z 5 ?_)))
 refine aD_ (fun _:Unit=>⟨[],[],1,131⟩) (fun _=>True) ?_ ?_
 refine ah_ (aw_ (rfS N W T V (wC m l r (qC a) (qC b)) n) (fun k=>2- k) (fun k=>k≤2) 0 (Nat.zero_le _) ?_ ?_)
 rw[ox_]
 refine at_ [(1,79)] rfl rfl rfl au_r (fun hs=>?_) (fun hs=>?_)
 ·repeat' (first|exact aK_|refine aE_ rfl ?_ ?_)
  all_goals (first|(exact an_ hs (am_ cA))|exact au_c)
 ·repeat' (first|exact aq_|refine al_ rfl rfl rfl rfl ?_ ?_)
  all_goals (first|(exact CvLL.cons (CvL.clo hs cR) (CvLL.cons (CvL.clo hs cT) CvLL.nil))|exact au_e|(refine ae_ ?_;repeat' (first|exact ap_|refine af_ ?_ ?_)))
  all_goals (first|(exact an_ hs (am_ cA))|exact au_c)
 intro k hk
 rw[ox_]
 by_cases hlt:k< 2
 ·obtain⟨c,hc,hgt⟩:∃c,(c=(N,W)∨c=(T,V))∧∀e,e=k→[ruC N W,ruC T V][e]?=some (ruC c.1 c.2):=by
   match k,hlt with
   |0,_=>exact⟨(N,W),.inl rfl,fun e he=>by rw[he];rfl⟩
   |1,_=>exact⟨(T,V),.inr rfl,fun e he=>by rw[he];rfl⟩
  obtain⟨d,d1,d2,d3⟩:=hcs c hc
  have cC:=bw_ c.1 c.2
  refine q_z 1 ?_
  refine ac_ (aj_ rfl (fun h=>?_) (fun h=>?_))
  rotate_left
  cases h
  refine ai_ (ac_ (ah_ (s_r 4 ?_)))
  refine a_1 ?_
  first|refine aM_ (.load_l rfl rfl (hgt _ (by omega)) tg_57.h ts_57.h (nle rfl)) rfl rfl ?_|refine aM_ (.load_a rfl (hgt _ (by omega)) tg_57.h ts_57.h (nle rfl)) rfl rfl ?_
  refine a_z ?_
  refine r_c 10 (d2) ?_
  refine a_z ?_
  refine ac_ (s_r 8 ?_)
  refine a_1 ?_
  refine o_0 (.bin rfl rfl (vF bu_ (rfl))) ?_
  refine d_z ?_
  refine cF (ai_ ?_)
  by_cases hd:d=2* n
  ·obtain⟨g1,g2,g3⟩:=d3 hd
   refine q_z 5 ?_
   refine aj_ rfl (fun h=>?_) (fun h=>?_)
   rotate_left
   cases h
   refine r_c 9 (g1) ?_
   refine a_z ?_
   refine s_r 18 ?_
   refine a_1 ?_
   refine o_0 (.bin rfl rfl (vF bu_ (rfl))) ?_
   refine c_s (g2) ?_
   refine c_s (g3) ?_
   refine a_z ?_
   refine cF (ai_ (r_m 2 ?_))
   refine a_z ?_
   refine⟨k+1,by omega,by omega,?_⟩
   rw[ox_]
   refine at_ [(1,79)] rfl rfl rfl au_r (fun hs=>?_) (fun hs=>?_)
   ·repeat' (first|exact aK_|refine aE_ rfl ?_ ?_)
    all_goals (first|(exact an_ hs (am_ cA))|exact au_c)
   ·repeat' (first|exact aq_|refine al_ rfl rfl rfl rfl ?_ ?_)
    all_goals (first|(exact CvLL.cons (CvL.clo hs cR) (CvLL.cons (CvL.clo hs cT) CvLL.nil))|exact au_e|(refine ae_ ?_;repeat' (first|exact ap_|refine af_ ?_ ?_)))
    all_goals (first|(exact an_ hs (am_ cA))|exact au_c)
  refine q_z 5 ?_
  refine cF (ai_ (r_m 2 ?_))
  refine a_z ?_
  refine⟨k+1,by omega,by omega,?_⟩
  rw[ox_]
  refine at_ [(1,79)] rfl rfl rfl au_r (fun hs=>?_) (fun hs=>?_)
  ·repeat' (first|exact aK_|refine aE_ rfl ?_ ?_)
   all_goals (first|(exact an_ hs (am_ cA))|exact au_c)
  ·repeat' (first|exact aq_|refine al_ rfl rfl rfl rfl ?_ ?_)
   all_goals (first|(exact CvLL.cons (CvL.clo hs cR) (CvLL.cons (CvL.clo hs cT) CvLL.nil))|exact au_e|(refine ae_ ?_;repeat' (first|exact ap_|refine af_ ?_ ?_)))
   all_goals (first|(exact an_ hs (am_ cA))|exact au_c)
 have hge:k=2:=by omega
 subst hge
 refine q_z 1 ?_
 refine ac_ (cF (av_ ⟨(),trivial,?_⟩))
 exact s_e []
 rintro _ _
 refine r_c 2 (d6_) ?_
 refine a_z ?_
 exact ag_ (t_e (ad_ _))
end Go.Proofs.YtdjfjpeoddmamaaGreatDoor
namespace Go.Proofs.YtdjfjpeoddmamaaGreatDoor
open Go.Abs Go.ChangeShapes Go.Deep Go.RowKit Go.WideShapes
set_option maxRecDepth 20000
def lwF:Array Field:= #[{name:= "Nodes",type:=26,offset:=0,embedded:=false,tag:= "",pkgPath:= "",byteOffset:=0},{name:= "Weights",type:=26,offset:=1,embedded:=false,tag:= "",pkgPath:= "",byteOffset:=24}]
theorem tyW:(Tryz.prog).underlying 122=some (.struct lwF):=by kernel_rfl
theorem tycW:(Tryz.prog).cellsOf 122=2:=by kernel_rfl
theorem lwP_of{H:Type}{enc:TypeId×Value→H}{W:World}{base:Nat}{v:Value}{d:DataW H}{ps:List MemPlace}(hv:Value.okWide Tryz.prog W .any base 122 v)(h:DataW.Trod enc Tryz.prog W 0 (fun _=>true) true 122 v d ps):
    ∃x:List NRow×List NRow,((okR x.1∧okR x.2)∧x.1.length≤9223372036854775807∧x.2.length≤9223372036854775807)∧RV (fun _=>False) (fun _=>none) W (.agg (lwC x)) v:=by
 obtain⟨cs,rfl,_⟩:∃cs,v= .agg cs∧True:=by
  unfold Value.okWide at hv
  rw[tyW] at hv
  obtain⟨cs,h1,_⟩:=hv
  exact⟨cs,h1,trivial⟩
 obtain⟨fuel,hf⟩:=h
 obtain⟨ys,m,_,_,hl,hlen,hg⟩:=DataW.trod_struct tyW hf
 rw[tycW] at hl
 have h0:(Value.agg cs).cells.toList=cs.toList:=by simp[Value.cells]
 rw[h0] at hg hl
 have hcs:cs=⟨cs.toList⟩:=rfl
 generalize cs.toList=l at *
 match l,hl,ys,hlen with
 |[c0,c1],_,[y0,y1],_=>
  have g0:DataW.trod enc Tryz.prog W 0 (fun _=>true) true m 26 (([c0,c1].drop 0).take ((Tryz.prog).cellsOf 26))=some y0:=hg 0 _ rfl
  have g1:DataW.trod enc Tryz.prog W 0 (fun _=>true) true m 26 (([c0,c1].drop 1).take ((Tryz.prog).cellsOf 26))=some y1:=hg 1 _ rfl
  rw[tycS] at g0 g1
  simp only[List.drop,List.take] at g0 g1
  have hs0:∃a len cap,c0= .slice a len cap:=by
   rcases open_slice tyS g0 with⟨e5,_⟩|⟨a,len,cap,_,_,_,_,e5,_⟩
   simp at e5;exact⟨_,_,_,e5⟩
   simp at e5;exact⟨_,_,_,e5⟩
  have hs1:∃a len cap,c1= .slice a len cap:=by
   rcases open_slice tyS g1 with⟨e5,_⟩|⟨a,len,cap,_,_,_,_,e5,_⟩
   simp at e5;exact⟨_,_,_,e5⟩
   simp at e5;exact⟨_,_,_,e5⟩
  obtain⟨a,len,cap,rfl⟩:=hs0
  obtain⟨a',len',cap',rfl⟩:=hs1
  have hT0:DataW.Trod enc Tryz.prog W 0 (fun _=>true) true 26 (.slice a len cap) y0.1 y0.2:=⟨m,by simpa[Value.cells] using g0⟩
  have hT1:DataW.Trod enc Tryz.prog W 0 (fun _=>true) true 26 (.slice a' len' cap') y1.1 y1.2:=⟨m,by simpa[Value.cells] using g1⟩
  obtain⟨m0,hm0,r0⟩:=nv_ hT0
  obtain⟨m1,hm1,r1⟩:=nv_ hT1
  have hm:maxLen=9223372036854775807:=by decide
  have k0:m0.length≤9223372036854775807:=by
   obtain⟨_,_,e',hle,hcap,_⟩:=r0
   have:(nR m0).length=m0.length:=by simp[nR]
   omega
  have k1:m1.length≤9223372036854775807:=by
   obtain⟨_,_,e',hle,hcap,_⟩:=r1
   have:(nR m1).length=m1.length:=by simp[nR]
   omega
  refine⟨(m0,m1),⟨⟨hm0,hm1⟩,k0,k1⟩,cs,rfl,?_⟩
  rw[hcs]
  exact⟨_,_,rfl,r0,_,_,rfl,r1,rfl⟩
end Go.Proofs.YtdjfjpeoddmamaaGreatDoor
namespace Go.Proofs.YtdjfjpeoddmamaaGreatDoor
open Go
def mkF(P:Program)(fn:Func)(c:OpenClaim):Bool:=(P.make==some c.make) && (c.kinds==(if c.domain.isEmpty then [] else fn.params.toList.map fun t=>match P.underlying t with|some (.int k)=>some k|_=>none)) && (c.pinned==c.pinnedBy)
section
variable {P:Program}{f:FuncId}{fn:Func}{s:ChangeSpec}{c:OpenClaim}
theorem rp_ (h1:c.wf (OpenSpec.ofChange s)=true) (h2:laidOutB P=true) (h3:mapsRowed P=true)
    (h4:fn.params.all (P.readableRec ·)=true) (h5:namedTie P c.named s.vars=true)
    (h6:((c.stops==[]) && (P.stops==[]) && (c.knobs==[]) && (P.stopKnobs==[]))=true)
    (h7:(c.inPlace==P.inPlace f)=true) (h8:(c.unfollowed==P.unfollowed f)=true) (h9:(c.recurses==P.recurses f)=true) (h10:(c.named==P.varsNamed f)=true)
    (h11:((c.maps==(fn.params.toList++s.plain.varTypes P).any (P.mapsRec ·)) && (c.ifaces==(fn.params.toList++s.plain.varTypes P).any (P.ifacesRec ·)) && (c.mapsOut==P.mapsAmong fn.resultTypes.toList))=true)
    (h12:((c.loops==(fn.params.toList++s.plain.varTypes P).any (P.loopsFrom ·)) && (c.wideKeys==(fn.params.toList++s.plain.varTypes P++fn.resultTypes.toList).any (P.wideKeysFrom ·)))=true)
    (h13:(s.vars.all (P.varReadable ·) && fn.resultTypes.all (fun t=>P.readableRec t && decide (t< P.types.size)) && (c.ifacesOut==fn.resultTypes.toList.any (P.ifacesRec ·)) && (c.loopsOut==fn.resultTypes.toList.any (P.loopsFrom ·)) && (c.plainKeys==P.plainKeys) && c.shortTexts.isNone)=true)
    (h14:P.stopsHeard=true) (h15:P.mayEnter=true) (h16:(c.lifted==P.liftsFinal)=true)
    (h17:mkF P fn c=true)
    (h18:((c.veiled==(fn.params.toList++s.plain.varTypes P++fn.resultTypes.toList).any (P.veiledRec ·)) && c.veiledFits P fn.params.toList (fn.params.toList++s.plain.varTypes P++fn.resultTypes.toList))=true):
    joinedFacts P f fn s c=true:=by
 unfold mkF at h17
 simp only[Bool.and_eq_true] at h6 h11 h12 h13 h17 h18
 simp only[joinedFacts,Bool.and_eq_true]
 and_intros
 all_goals first|assumption|exact h6.1.1.1|exact h6.1.1.2|exact h6.1.2|exact h6.2|exact h11.1.1|exact h11.1.2|exact h11.2|exact h12.1|exact h12.2|exact h13.1.1.1.1.1|exact h13.1.1.1.1.2|exact h13.1.1.1.2|exact h13.1.1.2|exact h13.1.2|exact h13.2|exact h17.1.1|exact h17.1.2|exact h17.2|exact h18.1|exact h18.2
end
theorem sT_:laidOutB Tryz.prog=true:=by kernel_rfl
theorem all_mr:mapsRowed Tryz.prog=true:=by kernel_rfl
theorem all_sh:Tryz.prog.stopsHeard=true:=by kernel_rfl
theorem all_me:Tryz.prog.mayEnter=true:=by kernel_rfl
theorem all_lk:false=Tryz.prog.looks []:=by kernel_rfl
theorem all_mi:Tryz.prog.mainIs=some (true,("854b0172178e1658f68fdbd1af1c5e470e78f85c99764663bd0791e63856cf6f" :String).toList):=by kernel_rfl
theorem all_lf:Tryz.prog.liftsFinal=Rows.polyMembersRow.lifted:=by kernel_rfl
theorem ks_:Rows.ruleFewestRow.wf (OpenSpec.ofChange Rows.ruleFewestSpec)=true:=by kernel_rfl
theorem ky_:Tryz.f8.params.all (Tryz.prog.readableRec ·)=true:=by kernel_rfl
theorem kA_:namedTie Tryz.prog Rows.ruleFewestRow.named Rows.ruleFewestSpec.vars=true:=by kernel_rfl
theorem kx_:((Rows.ruleFewestRow.stops==[]) && (Tryz.prog.stops==[]) && (Rows.ruleFewestRow.knobs==[]) && (Tryz.prog.stopKnobs==[]))=true:=by kernel_rfl
theorem kG_:(Rows.ruleFewestRow.inPlace==Tryz.prog.inPlace 8)=true:=by kernel_rfl
theorem kw_:(Rows.ruleFewestRow.unfollowed==Tryz.prog.unfollowed 8)=true:=by kernel_rfl
theorem kz_:(Rows.ruleFewestRow.recurses==Tryz.prog.recurses 8)=true:=by kernel_rfl
theorem ku_:(Rows.ruleFewestRow.named==Tryz.prog.varsNamed 8)=true:=by kernel_rfl
theorem kB_:((Rows.ruleFewestRow.maps==(Tryz.f8.params.toList++Rows.ruleFewestSpec.plain.varTypes Tryz.prog).any (Tryz.prog.mapsRec ·)) && (Rows.ruleFewestRow.ifaces==(Tryz.f8.params.toList++Rows.ruleFewestSpec.plain.varTypes Tryz.prog).any (Tryz.prog.ifacesRec ·)) && (Rows.ruleFewestRow.mapsOut==Tryz.prog.mapsAmong Tryz.f8.resultTypes.toList))=true:=by kernel_rfl
theorem kD_:((Rows.ruleFewestRow.loops==(Tryz.f8.params.toList++Rows.ruleFewestSpec.plain.varTypes Tryz.prog).any (Tryz.prog.loopsFrom ·)) && (Rows.ruleFewestRow.wideKeys==(Tryz.f8.params.toList++Rows.ruleFewestSpec.plain.varTypes Tryz.prog++Tryz.f8.resultTypes.toList).any (Tryz.prog.wideKeysFrom ·)))=true:=by kernel_rfl
theorem kt_:(Rows.ruleFewestSpec.vars.all (Tryz.prog.varReadable ·) && Tryz.f8.resultTypes.all (fun t=>Tryz.prog.readableRec t && decide (t< Tryz.prog.types.size)) && (Rows.ruleFewestRow.ifacesOut==Tryz.f8.resultTypes.toList.any (Tryz.prog.ifacesRec ·)) && (Rows.ruleFewestRow.loopsOut==Tryz.f8.resultTypes.toList.any (Tryz.prog.loopsFrom ·)) && (Rows.ruleFewestRow.plainKeys==Tryz.prog.plainKeys) && Rows.ruleFewestRow.shortTexts.isNone)=true:=by kernel_rfl
theorem kv_:((Rows.ruleFewestRow.veiled==(Tryz.f8.params.toList++Rows.ruleFewestSpec.plain.varTypes Tryz.prog++Tryz.f8.resultTypes.toList).any (Tryz.prog.veiledRec ·)) && Rows.ruleFewestRow.veiledFits Tryz.prog Tryz.f8.params.toList (Tryz.f8.params.toList++Rows.ruleFewestSpec.plain.varTypes Tryz.prog++Tryz.f8.resultTypes.toList))=true:=by kernel_rfl
theorem kq_:Rows.ruleFewestRow.wfByText (OpenSpec.ofChange Rows.ruleFewestSpec)=true:=by kernel_rfl
theorem kH_:false=Rows.ruleFewestRow.goesBy Tryz.prog:=by kernel_rfl
theorem ruleFewest_fn:Tryz.prog.funcNamed Rows.ruleFewestRow.func=some 8:=by kernel_rfl
theorem kF_:decide (Tryz.f8.isInstance Tryz.prog Rows.ruleFewestRow.origin Rows.ruleFewestRow.targs)=true:=by kernel_rfl
theorem kr_:(Tryz.f8.params.toList.all fun u=>!Tryz.prog.wantsStandIn u)=true:=by kernel_rfl
theorem kC_:mkF Tryz.prog Tryz.f8 Rows.ruleFewestRow=true:=by kernel_rfl
theorem kE_:(Rows.ruleFewestRow.lifted==Tryz.prog.liftsFinal)=true:=by rw[all_lf];kernel_rfl
theorem hb_:joinedFacts Tryz.prog 8 Tryz.f8 Rows.ruleFewestSpec Rows.ruleFewestRow=true:=
 rp_ ks_ sT_ all_mr ky_ kA_ kx_ kG_ kw_ kz_ ku_ kB_ kD_ kt_ all_sh all_me kE_ kC_ kv_
theorem im_:Tryz.f8.isWrapper Tryz.prog Rows.ruleFewestRow.wrapper Rows.ruleFewestRow.mainSum:=by
 unfold Func.isWrapper;first|(rw[if_pos (by decide+kernel)];kernel_rfl)|(rw[if_neg (by decide+kernel)];exact⟨rfl,rfl⟩)
end Go.Proofs.YtdjfjpeoddmamaaGreatDoor
namespace Go.Proofs.YtdjfjpeoddmamaaGreatDoor
open Go.Abs Go.RowKit
theorem tab_glb:(Tryz.prog).globalNamed "internal/strconv.uint64pow10" =some GT:=by kernel_rfl
theorem tab_of{n1 n2:String}{a b:DataW Unit}{W:World}(h:laidMet Tryz.prog [(n1,a),(n2,b),("internal/strconv.uint64pow10",Lib.tabData .u64 Lib.pow10Tab)] W):TabW W:=by
 obtain⟨ps,⟨g1,t1,c1,u1,p1,q1,_,_,_,_,⟨g2,t2,c2,u2,p2,q2,_,_,_,_,⟨g,t,cs,fuel,p,q,hg,ht,hv,hd,_,_⟩,_⟩,_⟩,_,_⟩:=h
 obtain rfl:=Option.some.inj (tab_glb.symm.trans hg)
 have hT:((Tryz.prog).globals[GT]?).map (·.type)=some 351:=by kernel_rfl
 have hu:(Tryz.prog).underlying 351=some (.array 20 235):=by kernel_rfl
 have he:(Tryz.prog).underlying 235=some (.int .u64):=by kernel_rfl
 have hce:(Tryz.prog).cellsOf 235=1:=by kernel_rfl
 have hct:(Tryz.prog).cellsOf 351=20:=by kernel_rfl
 obtain rfl:=Option.some.inj (hT.symm.trans ht)
 have hc:=Lib.cells_of_tab (zs:=Lib.pow10Tab) hu he hce hct hd
 unfold World.var? at hv
 rw[tab_glb] at hv
 have hv':(match W.heap[GT]? with|some (.cells cs _ _)=>some cs|_=>none)=some cs:=hv
 cases hh:W.heap[GT]? with
 |none=>rw[hh] at hv';cases hv'
 |some o=>
  rw[hh] at hv'
  cases o with
  |cells a b c=>
   obtain rfl:a=cs:=Option.some.inj hv'
   refine⟨b,c,?_⟩
   rw[hh]
   have:a=tabA:=by
    unfold tabA
    rw[←hc]
   rw[this]
  |_=>cases hv'
end Go.Proofs.YtdjfjpeoddmamaaGreatDoor
namespace Go.Proofs.YtdjfjpeoddmamaaGreatDoor
open Go.Abs Go.ChangeAt Go.ChangeShapes Go.RowKit Go.WideShapes
theorem own:ownKnob Tryz.prog.godebug=none:=by kernel_rfl
theorem und4:Tryz.prog.underlying 4=some .bool:=by kernel_rfl
abbrev laid3:List (String×DataW Unit):=Rows.ruleFewestRow.laid
theorem door_met(os:Os)(args:Array Value):laidMetH Tryz.prog laid3 ((World.doorLaid Tryz.prog 24 os).forCall (fun _ _=>0) ⟨#[],args,[]⟩).memory:=
 laidMetH_of_parts3 (fuel:=8) (laidMet_of_run' 8 (by kernel_rfl) (by kernel_rfl)) (by kernel_rfl) (by kernel_rfl)
set_option maxRecDepth 100000 in
theorem ha_(os:Os)(started:os.Started)(H:Type)(enc:TypeId×Value→H):
    ReturnsInHanded {} Tryz.checked os 8 .any (fun w args=>(Rows.ruleFewestSpec.pre enc Tryz.prog Tryz.f8 [] false w args∧laidMetH Tryz.prog laid3 w)∧sizedMet enc Tryz.prog Tryz.f8 (OpenSpec.ofChange Rows.ruleFewestSpec) false w args)
     (Rows.ruleFewestSpec.post enc Tryz.prog Tryz.f8 false true false false):=by
 refine returnsInHanded_of_change_and (C:=Tryz.checked) (X:=fun w _=>laidMetH Tryz.prog laid3 w) (fun _ _ _ hh h=>h.of_heap hh) own started (by kernel_rfl) Tryz.func8
  (ChangeSpec.witness_shaped (enc:=enc) (C:=Tryz.checked) (os:=os) (X:=fun w _=>laidMetH Tryz.prog laid3 w) false (World.doorLaid Tryz.prog 24 os) #[(.agg #[.slice none 0 0,.slice none 0 0]),(.agg #[.int .u8 0,.int .i64 0,.int .i64 0,.int .u8 0,.int .i64 0,.int .i64 0,.int .u8 0,.int .i64 0,.int .i64 0,.int .i64 0,.slice none 0 0,.bool false,.bool false,.int .i64 0,.int .i64 0,.int .u8 0,.int .i64 0,.int .i64 0,.int .u8 0])] 8 rfl (World.shaped_of_RefB (by kernel_rfl) (by kernel_rfl)) (by kernel_rfl) (by kernel_rfl) (by kernel_rfl) (door_met os _)) ?_
 intro W base args ds gs before hval0 hW _ _ hX _
 have hval:∀(j:Nat) t v,Tryz.f8.params[j]?=some t→args[j]?=some v→Value.okWide Tryz.prog W .any base t v:=hval0
 have hW':=hW
 obtain⟨p,q,hA0,hV,rfl,hfz,hnd⟩:=hW
 have hA:DataW.TrodAll enc Tryz.prog W 0 (fun _=>true) true Tryz.f8.params.toList args.toList ds p:=hA0
 rw[Tryz.params8] at hA hval
 obtain⟨v0,vs0,d0,ds0,p0,q0,hargs,rfl,rfl,h0,r0⟩:=trodAll_cons hA
 obtain⟨v1,vs1,d1,ds1,p1,q1,rfl,rfl,rfl,h1,r1⟩:=trodAll_cons r0
 obtain⟨rfl,rfl,rfl⟩:=trodAll_nil r1
 obtain rfl:args= #[v0,v1]:=by cases args;simp_all
 obtain⟨rfl,rfl⟩:=trodVars_none hV
 have lt0:∀x∈p0,x.block< W.heap.size:=by obtain⟨m,hm⟩:=h0;exact DataW.trod_lt m _ _ _ hm
 have lt1:∀x∈p1,x.block< W.heap.size:=by obtain⟨m,hm⟩:=h1;exact DataW.trod_lt m _ _ _ hm
 obtain⟨l0,o0,g0⟩:=lwP_of (hval 0 122 v0 rfl rfl) h0
 obtain⟨l1,o1,g1⟩:=loP_of (hval 1 75 v1 rfl rfl) h1
 clear hA0 hval0
 refine((li_ l0 l1 o0.1 o0.2 o1.1 o1.2).calls (fun _=>False) W [v0,v1] ⟨fun _ h=>h.elim,fun h=>h,tab_of (by rw[MakeChecks.laidMetH_plain _ _ _ (by kernel_rfl)] at hX;exact hX)⟩ ⟨_,_,rfl,g0,⟨_,_,rfl,g1,rfl⟩⟩).mono fun e W' ⟨y,he,hy,bel⟩=>?_
 have hy':y= .bool true:=hy
 subst he;subst hy'
 exact⟨_,rfl,_,_,_,[],_,[],hW',trodAll_mk1 (shut_bool und4 _),(trodAll_cons_mk (Below.trod sT_ (by kernel_rfl) (of_decide_eq_true (by kernel_rfl)) h0 bel lt0) (trodAll_cons_mk (Below.trod sT_ (by kernel_rfl) (of_decide_eq_true (by kernel_rfl)) h1 bel lt1) trodAll_mk0)),rfl,bel.frame _,fun h=>by cases h⟩
theorem js_:Rows.RuleFewestSaid:=
 OpenClaim.holds_of_wide 8 Tryz.f8 rfl rfl rfl rfl rfl rfl rfl ⟨rfl,rfl,rfl,rfl,rfl⟩ rfl rfl rfl rfl rfl ruleFewest_fn Tryz.func8 hb_
  (of_decide_eq_true kF_) im_
  (fun os started H enc _=>ha_ os started H enc)
theorem ruleFewest_card:Rows.RuleFewestCardSaid:=
 Claim7.holds_tied_plain_at .later [] [.data,.data,.data] true (true, "854b0172178e1658f68fdbd1af1c5e470e78f85c99764663bd0791e63856cf6f") false
  js_ (fun _ h=>by cases h) kq_ (fun _ h=>by cases h) ruleFewest_row_tie rfl ⟨rfl,rfl⟩ all_mi rfl
  (fun f fn hf hfn=>by
   obtain rfl:f=8:=Option.some.inj (ruleFewest_fn.symm.trans hf)|>.symm
   obtain rfl:fn=Tryz.f8:=(Option.some.inj (Tryz.func8.symm.trans hfn)).symm
   exact⟨all_lk,fun j t ht=>by
    have hm:t∈Tryz.f8.params.toList:=by simpa using Array.mem_of_getElem? ht
    exact(show Tryz.prog.wantsStandIn t=false by simpa using List.all_eq_true.1 kr_ t hm)⟩)
  kH_
#print axioms ruleFewest_card
end Go.Proofs.YtdjfjpeoddmamaaGreatDoor
