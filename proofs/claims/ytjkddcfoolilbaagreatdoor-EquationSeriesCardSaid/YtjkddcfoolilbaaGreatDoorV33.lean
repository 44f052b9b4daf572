/- Part V33 of the proof. -/
import Derived.Test.YtjkddcfoolilbaaGreatDoorV32
set_option linter.all false
namespace Go.Proofs.YtjkddcfoolilbaaGreatDoor
open Go.Abs
set_option maxRecDepth 100000
set_option maxHeartbeats 4000000
abbrev q1I:Rat:=((1:Int):Rat)
def clL(p:List Rat×List Rat)(l a b:Rat):List Rat:=oneL (syM [p] l [q1I] a b).1 1 (syM [p] l [q1I] a b).2
def clC(p:List Rat×List Rat)(l a b:Rat):Rat:=coP (clL p l a b) 0
def clS1(p:List Rat×List Rat)(l a b vA vB:Rat):Rat:=0+vA* absQ (clC p l a b) * vB
def clW(l a b:Rat):Rat:=absQ l* (b- a)
def clB(p:List Rat×List Rat)(l a b vA vB:Rat):Rat:=q1I+clW l a b* clS1 p l a b vA vB
def clSh(p:List Rat×List Rat)(l a b vA vB ep:Rat):Rat:=clW l a b* ep* clB p l a b vA vB
def clRe(p:List Rat×List Rat)(l a b vA vB ep:Rat):Rat:=q1I- clSh p l a b vA vB ep
def clRa(p:List Rat×List Rat)(l a b vA vB ep de vU:Rat):Rat:=clB p l a b vA vB* (de+clW l a b* ep* vU) / clRe p l a b vA vB ep
def mxQ:Nat:=549755813888
structure OkCl (p:List Rat×List Rat)(l:Rat)(g:List Rat)(a b ep de vA vB vU:Rat):Prop where
 e0:0≤ep
 d0:0≤de
 q1:qs vA+qs (absQ (clC p l a b))≤mxQ
 q2:qs (vA* absQ (clC p l a b))+qs vB≤mxQ
 q3:qs 0+qs (vA* absQ (clC p l a b) * vB)≤mxQ
 q4:qs (absQ l)+qs (b- a)≤mxQ
 q5:qs (clW l a b)+qs (clS1 p l a b vA vB)≤mxQ
 q6:qs q1I+qs (clW l a b* clS1 p l a b vA vB)≤mxQ
 q7:qs (clW l a b)+qs ep≤mxQ
 q8:qs (clW l a b* ep)+qs (clB p l a b vA vB)≤mxQ
 q9:qs q1I+qs (clSh p l a b vA vB ep)≤mxQ
 r0:0< clRe p l a b vA vB ep
 qa:qs (clW l a b* ep)+qs vU≤mxQ
 qb:qs de+qs (clW l a b* ep* vU)≤mxQ
 qc:qs (clB p l a b vA vB)+qs (de+clW l a b* ep* vU)≤mxQ
 qd:qs (clB p l a b vA vB* (de+clW l a b* ep* vU))+qs (clRe p l a b vA vB ep)≤mxQ
def neC(U:List Rat)(bo sh ra:Rat):List AV:= .arr (pE U)::(qC bo++(qC sh++qC ra))
theorem dU_(U:List Rat)(bo sh ra:Rat):∀c∈neC U bo sh ra,Closed c:=aa_ (ar_ U) (cf_ (aR_ bo) (cf_ (aR_ sh) (aR_ ra)))
def nC1(U:List Rat)(bo:Rat):List AV:= .arr (pE U)::(qC bo++(zC++zC))
theorem p9_(U:List Rat)(bo:Rat):∀e∈[nC1 U bo],∀c∈e,Closed c:=fun e he=>by
 rw[List.mem_singleton.1 he];exact aa_ (ar_ U) (cf_ (aR_ bo) (cf_ jm_ jm_))
def nC2(U:List Rat)(bo sh:Rat):List AV:= .arr (pE U)::(qC bo++(qC sh++zC))
def zNe:List AV:=[.emp,.emp,bln false,.emp,.emp,bln false,.emp,.emp,bln false,.emp]
def clV(x y:Rat):Nat→Rat
 |0=>x
 |_+1=>y
def clO(p:List Rat×List Rat)(l:Rat)(g:List Rat)(a b ep de vA vB:Rat)(gr:Int)(A:Mx)(L:List Nat):Nat→AState
 |j=>⟨[(6,bSp a b),(7,bQ ep),(8,bQ de),(10,.lptr 1 0 0),(12,bTk [p] l g a b),(13,bSy 1 A L),(14,bSz a b gr),(15,.arr (pE [vA])),(16,.arr (pE [vB])),(17,.lptr 2 0 0),(67,i64 1),(68,i64 j)],[(1,some ⟨106,10,[zNe]⟩),(2,some ⟨46,3,[qC (clV 0 (clS1 p l a b vA vB) j)]⟩)],3,172⟩
def clI(p:List Rat×List Rat)(l:Rat)(g:List Rat)(a b ep de vA vB:Rat)(gr:Int)(A:Mx)(L:List Nat):Nat→AState
 |i=>⟨[(6,bSp a b),(7,bQ ep),(8,bQ de),(10,.lptr 1 0 0),(12,bTk [p] l g a b),(13,bSy 1 A L),(14,bSz a b gr),(15,.arr (pE [vA])),(16,.arr (pE [vB])),(17,.lptr 2 0 0),(67,i64 1),(68,i64 0),(18,i64 0),(90,.arr (pE (clL p l a b))),(91,i64 1),(92,i64 i)],[(1,some ⟨106,10,[zNe]⟩),(2,some ⟨46,3,[qC (clV 0 (clS1 p l a b vA vB) i)]⟩)],3,172⟩
theorem sg_ (p:List Rat×List Rat) (l:Rat) (g:List Rat) (a b ep de vA vB vU:Rat) (gr:Int) (s:Nat) (h:OkTa [p] l g a b s) (h2:OkSu [p] l g a b) (hs1:1≤s) (hL:(syM [p] l (rhK [p] g a b) a b).2.length=1) (ok:OkCl p l g a b ep de vA vB vU)
    (hzA:FS 94 [.agg (spC a b++[i64 gr]),.arr (pE p.1)] (.agg (qC vA))) (hzB:FS 94 [.agg (spC a b++[i64 gr]),.arr (pE p.2)] (.agg (qC vB))) (hzU:FS 94 [.agg (spC a b++[i64 gr]),.arr (pE (syU [p] l g a b))] (.agg (qC vU))):
    FS 36 [.agg (eqC [p] l g),.agg (spC a b),.agg (qC ep),.agg (qC de),i64 gr] (.tup [.agg (neC (syU [p] l g a b) (clB p l a b vA vB) (clSh p l a b vA vB ep) (clRa p l a b vA vB ep de vU)),i64 0]):=by
 have hw:=ec_ [p] l g a b h.ke h.ha h.hb h.ab h.dg h.gl;have hs:=iV_ [p] l g a b s h.sy h.rh;have he0:¬sgZ ep.num< 0:=fun e=>by have:=sgZ_num_lt.1 e;have:=ok.e0;grind
 have hd0:¬sgZ de.num< 0:=fun e=>by have:=sgZ_num_lt.1 e;have:=ok.d0;grind
 have hea:=kL_ [p] 95 [bSz a b gr] (fun _=>vA) (aa_ (bH_ a b gr) ac_) (by simp) fun q hq=>by
  rw[List.mem_singleton.1 hq];exact fs_Clo1 p a b gr vA hzA
 have heb:=kL_ [p] 96 [bSz a b gr] (fun _=>vB) (aa_ (bH_ a b gr) ac_) (by simp) fun q hq=>by
  rw[List.mem_singleton.1 hq];exact fs_Clo2 p a b gr vB hzB
 have i1:=c2_ 1 (by decide);obtain⟨A,hA⟩:∃A,A=(syM [p] l (rhK [p] g a b) a b).1:=⟨_,rfl⟩;obtain⟨L,hLe⟩:∃L,L=(syM [p] l (rhK [p] g a b) a b).2:=⟨_,rfl⟩;have hsy:syV 1 (A,L)=syV [p].length (syM [p] l (rhK [p] g a b) a b):=by rw[hA,hLe];rfl
 rw[←hsy] at hs;rw[←hLe] at hL;have hk1:(kE [p]).length=1:=rfl;have hll:(lvE L).length=1:=by rw[fs_,hL]
 refine f_n Tryz.func36 ?_ ?_;exact aa_ (ay_ (bB_ [p] l g)) (aa_ (ay_ (a0_ a b)) (aa_ (aC_ ep) (aa_ (aC_ de) (aa_ (ad_ _) ac_))));refine r_z 6 ?_;refine AWp.ent (st':=⟨[(4,i64 gr),(5,.aptr [eqC [p] l g] 0 0),(6,bSp a b),(7,bQ ep),(8,bQ de),(10,.lptr 1 0 0)],[(1,some ⟨106,10,[zNe]⟩)],2,172⟩) ?_ ?_;refine s_x [(1,10)] (fun hs=>?_) (fun hs=>?_)
 ·repeat' (first|exact aH_|refine ap_ rfl ?_ ?_|exact Cv.boxp hs rfl (aK_ rfl) rfl (bB_ [p] l g)|exact Cv.boxp hs rfl (aK_ rfl) rfl (a0_ a b)|exact Cv.boxp hs rfl (aK_ rfl) rfl (aR_ _)|exact au_c)
 ·repeat' (first|exact az_|refine h_c ?_ ?_|exact au_e|refine av_ ?_|exact an_|refine ai_ ?_ ?_|exact Cv.boxp hs rfl (aK_ rfl) rfl (bB_ [p] l g)|exact Cv.boxp hs rfl (aK_ rfl) rfl (a0_ a b)|exact Cv.boxp hs rfl (aK_ rfl) rfl (aR_ _)|exact au_c)
 refine r_z 5 ?_;refine AWp.ent (st':=⟨[(4,i64 gr),(6,bSp a b),(7,bQ ep),(8,bQ de),(10,.lptr 1 0 0),(12,bTk [p] l g a b)],[(1,some ⟨106,10,[zNe]⟩)],2,172⟩) ?_ ?_;refine s_x [(1,10)] (fun hs=>?_) (fun hs=>?_)
 ·repeat' (first|exact aH_|refine ap_ rfl ?_ ?_|exact ak_ hs (bc_ a b)|exact Cv.boxp hs rfl (aK_ rfl) rfl (cr_ [p] l g a b)|exact au_c)
 ·repeat' (first|exact az_|refine h_c ?_ ?_|exact au_e|refine av_ ?_|exact an_|refine ai_ ?_ ?_|exact ak_ hs (bc_ a b)|exact Cv.boxp hs rfl (aK_ rfl) rfl (cr_ [p] l g a b)|exact au_c)
 refine ab_ (r_c 12 (hw) ?_);refine c_s (br_ ep) ?_;refine e_s (br_ de) ?_;refine d_z ?_;refine cF (ah_ (r_c 4 (hs) ?_));refine a_z ?_;refine AWp.ent (st':=⟨[(4,i64 gr),(6,bSp a b),(7,bQ ep),(8,bQ de),(10,.lptr 1 0 0),(12,bTk [p] l g a b),(13,bSy 1 A L)],[(1,some ⟨106,10,[zNe]⟩)],2,172⟩) ?_ ?_;refine s_x [(1,10)] (fun hs=>?_) (fun hs=>?_)
 ·repeat' (first|exact aH_|refine ap_ rfl ?_ ?_|exact ak_ hs (bc_ a b)|exact ak_ hs (bn_ [p] l g a b)|exact Cv.boxp hs rfl (aK_ rfl) rfl (b7_ 1 A L)|exact au_c)
 ·repeat' (first|exact az_|refine h_c ?_ ?_|exact au_e|refine av_ ?_|exact an_|refine ai_ ?_ ?_|exact ak_ hs (bc_ a b)|exact ak_ hs (bn_ [p] l g a b)|exact Cv.boxp hs rfl (aK_ rfl) rfl (b7_ 1 A L)|exact au_c)
 refine ab_ (q_z 6 ?_);refine cF (ah_ (r_z 6 ?_));refine AWp.ent (st':=⟨[(6,bSp a b),(7,bQ ep),(8,bQ de),(10,.lptr 1 0 0),(12,bTk [p] l g a b),(13,bSy 1 A L),(14,bSz a b gr)],[(1,some ⟨106,10,[zNe]⟩)],2,172⟩) ?_ ?_;refine s_x [(1,10)] (fun hs=>?_) (fun hs=>?_)
 ·repeat' (first|exact aH_|refine ap_ rfl ?_ ?_|exact ak_ hs (bc_ a b)|exact ak_ hs (bn_ [p] l g a b)|exact ak_ hs (bg_ 1 A L)|exact Cv.boxp hs rfl (aK_ rfl) rfl (aa_ (hs_ a b gr) ac_)|exact au_c)
 ·repeat' (first|exact az_|refine h_c ?_ ?_|exact au_e|refine av_ ?_|exact an_|refine ai_ ?_ ?_|exact ak_ hs (bc_ a b)|exact ak_ hs (bn_ [p] l g a b)|exact ak_ hs (bg_ 1 A L)|exact Cv.boxp hs rfl (aK_ rfl) rfl (aa_ (hs_ a b gr) ac_)|exact au_c)
 refine r_c 6 (hea) ?_;refine a_z ?_;refine r_c 6 (heb) ?_;refine a_z ?_;refine r_z 1 ?_;refine ab_ (r_z 5 ?_);refine aw_ (fun _:Unit=>clO p l g a b ep de vA vB gr A L 1) (fun _=>True) ?_ ?_;refine ae_ (aq_ (clO p l g a b ep de vA vB gr A L) (fun j=>1- j) (fun j=>j≤1) 0 (Nat.zero_le _) ?_ ?_);rw[clO.eq_1];refine s_x [(1,10),(2,17)] (fun hs=>e_7) (fun hs=>?_)
 ·repeat' (first|exact az_|refine h_c ?_ ?_|exact CvLL.zeros hs 1|exact au_e|refine av_ ?_|exact an_|refine ai_ ?_ ?_|exact ak_ hs (bc_ a b)|exact ak_ hs (bn_ [p] l g a b)|exact ak_ hs (bg_ 1 A L)|exact ak_ hs (bH_ a b gr)|exact ak_ hs (bj_ _)|exact ak_ hs (ar_ _)|exact au_c)
 intro j hj;by_cases h1:j< 1;obtain rfl:j=0:=by omega
 rw[clO.eq_1]
 have hXs:=jy_ [p] l a b s [q1I] h.sy rfl fun i hi=>by
  obtain rfl:i=0:=by simpa using hi
  exact Nat.le_trans (by decide:qs (coP [q1I] 0)≤1) hs1
 have ho:=nc_ (syM [p] l [q1I] a b).1 1 (syM [p] l [q1I] a b).2 (eW_ _ _ _) (by decide);have hcl:Closed (syV [p].length (syM [p] l [q1I] a b)):=dT_ _ _ _;have hcll:(pE (clL p l a b)).length=1:=by simp[pE,clL]
 refine s_r 1 ?_;refine o_0 (.bin rfl rfl (vT a6_ (rfl))) ?_;refine al_ ?_;refine ab_ (cT (ah_ (ab_ (ae_ (r_z 2 ?_)))));refine r_z 6 ?_;refine r_c 5 (i1) ?_;refine a_z ?_;refine AWp.ent (st':=⟨[(6,bSp a b),(7,bQ ep),(8,bQ de),(10,.lptr 1 0 0),(12,bTk [p] l g a b),(13,bSy 1 A L),(14,bSz a b gr),(15,.arr (pE [vA])),(16,.arr (pE [vB])),(17,.lptr 2 0 0),(67,i64 1),(68,i64 0),(18,i64 0),(19,.arr (pE [q1I]))],[(1,some ⟨106,10,[zNe]⟩),(2,some ⟨46,3,[qC (clV 0 (clS1 p l a b vA vB) 0)]⟩)],3,172⟩) ?_ ?_;refine s_x [(1,10),(2,17)] (fun hs=>?_) (fun hs=>?_)
 ·repeat' (first|exact aH_|refine ap_ rfl ?_ ?_|exact ak_ hs (bc_ a b)|exact ak_ hs (bn_ [p] l g a b)|exact ak_ hs (bg_ 1 A L)|exact ak_ hs (bH_ a b gr)|exact ak_ hs (bj_ _)|exact ak_ hs (ar_ _)|(refine Cv.shut hs rfl (aK_ rfl) (nle rfl) ?_;exact aF_ hs rfl (aI_ [q1I]))|exact au_c)
 ·repeat' (first|exact az_|refine h_c ?_ ?_|exact au_e|refine av_ ?_|exact an_|refine ai_ ?_ ?_|exact ak_ hs (bc_ a b)|exact ak_ hs (bn_ [p] l g a b)|exact ak_ hs (bg_ 1 A L)|exact ak_ hs (bH_ a b gr)|exact ak_ hs (bj_ _)|exact ak_ hs (ar_ _)|(refine Cv.shut hs rfl (aK_ rfl) (nle rfl) ?_;exact aF_ hs rfl (aI_ [q1I]))|exact au_c)
 refine ab_ (AWp.regAB 4 9 84 hmix (ik_ [p] a b h.sy.m) (hXs) (hcl) rfl rfl rfl rfl rfl rfl rfl rfl rfl rfl (by kernel_rfl) rfl rfl rfl ?_)
 first|refine AY.op0 (.fieldAddr_l rfl TF.h (by decide)) rfl rfl ?_|refine AY.op0 (.fieldAddr_a rfl TF.h (by decide)) rfl rfl ?_
 first|refine AY.op0 (.fieldAddr_l rfl TF.h (by decide)) rfl rfl ?_|refine AY.op0 (.fieldAddr_a rfl TF.h (by decide)) rfl rfl ?_
 first|refine AY.op0 (.load_l1 rfl rfl rfl TG.h rfl) rfl rfl ?_|refine AY.op0 (.load_a1 rfl rfl TG.h rfl) rfl rfl ?_
 first|refine AY.op0 (.load_l rfl rfl rfl TG.h TS.h (nle rfl)) rfl rfl ?_|refine AY.op0 (.load_a rfl rfl TG.h TS.h (nle rfl)) rfl rfl ?_
 refine AY.sp rfl rfl (kAB.a rfl rfl rfl (aa_ (aE_ [p]) (aa_ (ay_ (a0_ a b)) ac_)) rfl) ?_
 first|refine AY.op0 (.fieldAddr_l rfl TF.h (by decide)) rfl rfl ?_|refine AY.op0 (.fieldAddr_a rfl TF.h (by decide)) rfl rfl ?_
 first|refine AY.op0 (.fieldAddr_l rfl TF.h (by decide)) rfl rfl ?_|refine AY.op0 (.fieldAddr_a rfl TF.h (by decide)) rfl rfl ?_
 first|refine AY.op0 (.load_l rfl rfl rfl TG.h TS.h (nle rfl)) rfl rfl ?_|refine AY.op0 (.load_a rfl rfl TG.h TS.h (nle rfl)) rfl rfl ?_
 refine AY.op0 (.move rfl) rfl rfl ?_;refine AY.sp rfl rfl (kAB.b rfl rfl (ArgsB.own (ArgsB.clo rfl (ay_ (aR_ l)) (ArgsB.clo rfl (ar_ _) ArgsB.nil))) rfl) ?_;refine AY.op0 (.call rfl rfl rfl (ho)) rfl rfl ?_
 first|refine AY.op0 (.lenD rfl rfl rfl rfl te_32.h) rfl rfl ?_|refine AY.op0 (.lenI rfl rfl rfl rfl te_32.h) rfl rfl ?_|refine AY.op0 (.lenP rfl rfl rfl rfl te_32.h) rfl rfl ?_|refine AY.op0 (.lenC rfl rfl rfl rfl te_32.h) rfl rfl ?_|refine AY.op0 (.lenR rfl rfl rfl rfl te_32.h) rfl rfl ?_|refine AY.op0 (.len rfl rfl rfl rfl rfl te_32.h) rfl rfl ?_
 refine AY.op0 (.move rfl) rfl rfl ?_;refine AY.nil ⟨by kernel_rfl,?_⟩;refine AWp.cutB (fun _:Unit=>clI p l g a b ep de vA vB gr A L 1) (fun _=>True) ?_ ?_;refine ae_ (aq_ (clI p l g a b ep de vA vB gr A L) (fun i=>1- i) (fun i=>i≤1) 0 (Nat.zero_le _) ?_ ?_);rw[clI.eq_1];exact s_x [] (fun hs=>e_7) (fun hs=>e_11);intro i hi;by_cases h1:i< 1;obtain rfl:i=0:=by omega
 rw[clI.eq_1]
 have hcg:(pE (clL p l a b))[((0:Nat):Int).toNat]?=some (qC (clC p l a b)):=by
  have:(clL p l a b).length=1:=by simp[clL]
  have:=bw_ (p:=clL p l a b) (i:=0) (by omega);simp[pE,clC,this]
 have m1:=bK_ vA (absQ (clC p l a b)) ok.q1;have m2:=bK_ (vA* absQ (clC p l a b)) vB ok.q2;have a1:=dy_ 0 (vA* absQ (clC p l a b) * vB) ok.q3;refine s_r 1 ?_;refine o_0 (.bin rfl rfl (vT a6_ (rfl))) ?_;refine al_ ?_;refine ab_ (cT (ah_ (ab_ (ae_ (s_r 6 ?_)))));refine a_1 ?_;refine i_x hcg ?_;refine l_x hcg ?_;refine a_z ?_;refine r_d hmix 15 ?_;refine c_s (j1_ (clC p l a b)) ?_;refine c_s (m1) ?_;refine c_s (m2) ?_;refine c_s (a1) ?_;refine a_1 ?_;refine al_ (n_k ?_);refine r_m 2 ?_;refine a_z ?_;refine⟨1,by omega,by omega,?_⟩;rw[clI.eq_1];exact s_x [] (fun hs=>e_7) (fun hs=>e_11);obtain rfl:i=1:=by omega
 rw[clI.eq_1];refine s_r 1 ?_;refine o_0 (.bin rfl rfl (vF a6_ (rfl))) ?_;refine al_ ?_;refine ab_ (cF (ao_ ⟨(),trivial,?_⟩));exact s_x [] (fun hs=>e_7) (fun hs=>e_11);rintro _ _;rw[clI.eq_1];refine r_m 2 ?_;refine a_z ?_;refine⟨1,by omega,by omega,?_⟩;rw[clO.eq_1];exact s_x [] (fun hs=>e_7) (fun hs=>e_11);obtain rfl:j=1:=by omega
 rw[clO.eq_1];refine s_r 1 ?_;refine o_0 (.bin rfl rfl (vF a6_ (rfl))) ?_;refine al_ ?_;refine ab_ (cF (ao_ ⟨(),trivial,?_⟩));exact s_x [] (fun hs=>e_7) (fun hs=>e_11);rintro _ _;rw[clO.eq_1];have w1:=l7_ a b h.ha h.hb;have w2:=bK_ (absQ l) (b- a) ok.q4;have ho:=nc_ A 1 L (by rw[hA,hLe];exact eW_ _ _ _) (by decide);have hsu:=r0_ [p] (syC1 [p] l g a b) (by unfold syC1;simp) (by simp) h2.ms;have hsc:=ee_ _ l h2.u1 h2.sl h2.u2;have had:=i6_ g _ h2.sg h2.v1 h.gl h2.v2;have eo:oneL A 1 L=syC1 [p] l g a b:=by rw[hA,hLe];rfl
 rw[eo] at ho;have m1:=bK_ (clW l a b) (clS1 p l a b vA vB) ok.q5;have a1:=dy_ q1I (clW l a b* clS1 p l a b vA vB) ok.q6;have m2:=bK_ (clW l a b) ep ok.q7;have m3:=bK_ (clW l a b* ep) (clB p l a b vA vB) ok.q8;have s1:=gz_ q1I (clSh p l a b vA vB ep) ok.q9;have m4:=bK_ (clW l a b* ep) vU ok.qa;have a2:=dy_ de (clW l a b* ep* vU) ok.qb;have m5:=bK_ (clB p l a b vA vB) (de+clW l a b* ep* vU) ok.qc;have ov:=kK_ (clB p l a b vA vB* (de+clW l a b* ep* vU)) (clRe p l a b vA vB ep) (by have:=ok.r0;grind) ok.qd;have hr0:¬sgZ (clRe p l a b vA vB ep).num≤0:=by have:=sgZ_num_gt.2 ok.r0;omega
 refine ab_ (r_d hmix 9 ?_);refine c_s (j1_ l) ?_;refine c_s (w1) ?_;refine c_s (w2) ?_;refine a_2 ?_;refine al_ (n_k ?_);refine AWp.ent (st':=⟨[(7,bQ ep),(8,bQ de),(10,.lptr 1 0 0),(12,bTk [p] l g a b),(13,bSy 1 A L),(14,bSz a b gr),(17,bQ (clS1 p l a b vA vB)),(22,bQ (clW l a b))],[(1,some ⟨106,10,[zNe]⟩)],2,172⟩) ?_ ?_;refine s_x [(1,10)] (fun hs=>e_13) (fun hs=>?_)
 ·repeat' (first|exact az_|refine h_c ?_ ?_|exact au_e|refine av_ ?_|exact an_|refine ai_ ?_ ?_|exact ak_ hs (bc_ a b)|exact ak_ hs (bn_ [p] l g a b)|exact ak_ hs (bg_ 1 A L)|exact ak_ hs (bH_ a b gr)|exact ak_ hs (bj_ _)|exact ak_ hs (ar_ _)|exact Cv.boxp hs rfl (aK_ rfl) rfl (aR_ _)|exact au_c)
 refine ab_ (r_d hmix 22 ?_);refine c_s (ho) ?_;refine c_s (hsu) ?_;refine c_s (hsc) ?_;refine c_s (had) ?_;refine c_s (i1) ?_;refine c_s (m1) ?_;refine c_s (a1) ?_;refine a_3 ?_;refine al_ (n_k ?_);refine AWp.ent (st':=⟨[(7,bQ ep),(8,bQ de),(10,.lptr 1 0 0),(14,bSz a b gr),(22,bQ (clW l a b)),(23,.lptr 2 0 0)],[(1,some ⟨106,10,[zNe]⟩),(2,some ⟨106,10,[nC1 (syU [p] l g a b) (clB p l a b vA vB)]⟩)],3,172⟩) ?_ ?_;refine s_x [(1,10),(2,23)] (fun hs=>e_13) (fun hs=>?_)
 ·repeat' (first|exact az_|refine h_c ?_ ?_|exact aF_ hs rfl (p9_ _ _)|exact au_e|refine av_ ?_|exact an_|refine ai_ ?_ ?_|exact ak_ hs (bc_ a b)|exact ak_ hs (bn_ [p] l g a b)|exact ak_ hs (bg_ 1 A L)|exact ak_ hs (bH_ a b gr)|exact ak_ hs (bj_ _)|exact ak_ hs (ar_ _)|exact Cv.boxp hs rfl (aK_ rfl) rfl (aR_ _)|exact au_c)
 refine ab_ (r_d hmix 8 ?_);refine c_s (m2) ?_;refine c_s (m3) ?_;refine a_2 ?_;refine al_ (n_k ?_);refine AWp.ent (st':=⟨[(7,bQ ep),(8,bQ de),(10,.lptr 1 0 0),(14,bSz a b gr),(22,bQ (clW l a b)),(23,.lptr 2 0 0)],[(1,some ⟨106,10,[zNe]⟩),(2,some ⟨106,10,[nC2 (syU [p] l g a b) (clB p l a b vA vB) (clSh p l a b vA vB ep)]⟩)],3,172⟩) ?_ ?_;exact s_x [(1,10),(2,23)] (fun hs=>e_13) (fun hs=>e_51);refine ab_ (r_d hmix 6 ?_);refine c_s (i1) ?_;refine c_s (s1) ?_;refine a_2 ?_;refine al_ (n_k ?_);refine AWp.ent (st':=⟨[(7,bQ ep),(8,bQ de),(10,.lptr 1 0 0),(14,bSz a b gr),(22,bQ (clW l a b)),(23,.lptr 2 0 0),(24,bQ (clRe p l a b vA vB ep))],[(1,some ⟨106,10,[zNe]⟩),(2,some ⟨106,10,[nC2 (syU [p] l g a b) (clB p l a b vA vB) (clSh p l a b vA vB ep)]⟩)],3,172⟩) ?_ ?_;exact s_x [(1,10),(2,23)] (fun hs=>e_13) (fun hs=>e_51);refine ab_ (r_c 3 (br_ (clRe p l a b vA vB ep)) ?_);refine d_z ?_;refine cF (ah_ (ab_ (r_d hmix 17 ?_)));refine c_s (m2) ?_;refine c_s (hzU) ?_;refine c_s (m4) ?_;refine c_s (a2) ?_;refine c_s (m5) ?_;refine c_s (ov) ?_;refine a_2 ?_;refine al_ (n_k ?_);refine AWp.ent (st':=⟨[(10,.lptr 1 0 0),(23,.lptr 2 0 0)],[(1,some ⟨106,10,[zNe]⟩),(2,some ⟨106,10,[neC (syU [p] l g a b) (clB p l a b vA vB) (clSh p l a b vA vB ep) (clRa p l a b vA vB ep de vU)]⟩)],3,172⟩) ?_ ?_;exact s_f [(1,10),(2,23)];refine r_z 3 ?_;refine af_ (Fin.many ⟨_,_,rfl,⟨_,_,_,_,_,rfl,rfl,rfl,.inl ⟨TG.h,_,TS.h,nle rfl,rfl⟩⟩,⟨_,_,rfl,rfl,rfl⟩⟩ (nle rfl) ?_)
 exact ai_ (ak_ ax_ (ay_ (dU_ _ _ _ _))) (ai_ (ak_ ax_ (ad_ _)) an_)
def itE(l:List Int):List Rat→Nat→AState
 |[],i=>⟨[(0,.arr (zE l)),(3,.emp),(4,i64 i)],[],1,20⟩
 |q::Q,i=>⟨[(0,.arr (zE l)),(3,.lsl 1 0 (Q.length+1) none 3),(4,i64 i)],[(1,some ⟨46,3,pE (q::Q)⟩)],2,20⟩
theorem iM_(l:List Int)(i:Nat):itE l [] i=⟨[(0,.arr (zE l)),(3,.emp),(4,i64 i)],[],1,20⟩:=rfl
theorem fw_(l:List Int)(q:Rat)(Q:List Rat)(i:Nat):itE l (q::Q) i=⟨[(0,.arr (zE l)),(3,.lsl 1 0 (Q.length+1) none 3),(4,i64 i)],[(1,some ⟨46,3,pE (q::Q)⟩)],2,20⟩:=rfl
theorem l3_(l:List Int)(hl:l.length≤1099511627776)(hb:∀n∈l,-9223372036854775808≤n∧n≤9223372036854775807):FS 33 [.arr (zE l)] (.arr (pE (zR l))):=by
 refine f_n Tryz.func33 ?_ ?_;exact aa_ (aB_ (d5_ l)) ac_;refine r_z 1 ?_;refine r_z 1 ?_;refine ab_ (r_z 1 ?_);refine aw_ (fun _:Unit=>itE l (zR l) l.length) (fun _=>True) ?_ ?_;refine ae_ (aq_ (fun i:Nat=>itE l (zR (l.take i)) i) (fun i=>l.length- i) (fun i=>i≤l.length) 0 (Nat.zero_le _) ?_ ?_);show SEnt _ (itE l [] 0);rw[iM_];have:=(aB_ (d5_ l));exact s_f [];rintro i hi;have hlen:(zE l).length=l.length:=by simp[zE]
 by_cases hlt:i< l.length
 ·obtain⟨n,hn⟩:∃n,l[i]?=some n:=⟨_,List.getElem?_eq_getElem hlt⟩
  have hgt:(zE l)[((i:Nat):Int).toNat]?=some [i64 n]:=by
   show(zE l)[i]?=_;simp[zE,hn]
  have hnb:=hb n (List.mem_of_getElem? hn);have htk:zR (l.take (i+1))=zR (l.take i)++[(n:Rat)]:=by rw[bm_ hn];simp[zR]
  have hQl:(zR (l.take i)).length=i:=by simp[zR];omega
  cases hQ:zR (l.take i) with
  |nil=>
   simp only[iM_];refine ab_ (r_z 4 ?_);refine aj_ rfl (fun h=>?_) (fun h=>?_);rotate_left;exact absurd h (by simp[zE];omega);refine ah_ (ab_ (ae_ (r_m 9 ?_)));refine a_3 ?_;refine i_x hgt ?_;refine l_1 hgt ?_;refine c_s (c2_ n hnb) ?_;refine a_z ?_;refine r_m 3 ?_;refine a_z ?_;refine⟨i+1,by omega,hlt,?_⟩;simp only[htk,hQ,List.nil_append,fw_];have:=(aB_ (d5_ l));have:=(aI_ [(n:Rat)]);exact s_f [(1,3)]
  |cons q Q=>
   rw[hQ] at hQl;simp at hQl;simp only[fw_];refine ab_ (r_z 4 ?_);refine aj_ rfl (fun h=>?_) (fun h=>?_);rotate_left;exact absurd h (by simp[zE];omega);refine ah_ (ab_ (ae_ (r_m 9 ?_)));refine a_3 ?_;refine i_x hgt ?_;refine l_1 hgt ?_;refine c_s (c2_ n hnb) ?_;refine a_z ?_;refine r_m 3 ?_;refine a_z ?_;refine⟨i+1,by omega,hlt,?_⟩;simp only[htk,hQ,List.cons_append,fw_];have e:pE (q::Q)++[qC (n:Rat)]=pE (q::(Q++[(n:Rat)])):=by simp[pE]
   refine s_x [(1,3)] (fun hs=>?_) (fun hs=>?_) e_1
   ·repeat' (first|exact aH_|refine ap_ rfl ?_ ?_|exact ak_ hs (aB_ (d5_ l))|exact au_c)
   ·repeat' (first|exact az_|refine h_c ?_ ?_|exact aF_ hs e (aI_ _)|exact au_e|refine av_ ?_|exact an_|refine ai_ ?_ ?_|exact ak_ hs (aB_ (d5_ l))|exact au_c)
 have hge:i=l.length:=by omega
 subst hge;simp only[List.take_length];cases hQ:zR l with
 |nil=>
  simp only[iM_];refine ab_ (r_z 4 ?_);refine aj_ rfl (fun h=>?_) (fun h=>?_);exact absurd h (by simp[zE]);refine ao_ ⟨(),trivial,?_⟩;simp only[hQ,iM_];have:=(aB_ (d5_ l));exact s_f []
 |cons q Q=>
  simp only[fw_];refine ab_ (r_z 4 ?_);refine aj_ rfl (fun h=>?_) (fun h=>?_);exact absurd h (by simp[zE]);refine ao_ ⟨(),trivial,?_⟩;simp only[hQ,fw_];have:=(aB_ (d5_ l));exact s_f []
 rintro _ _;cases hQ:zR l with
 |nil=>
  simp only[iM_];refine r_z 2 ?_;exact af_ (Fin.tmpN rfl)
 |cons q Q=>
  simp only[fw_];refine r_z 2 ?_;exact af_ (Fin.tmpS rfl rfl rfl (by simp) (aI_ _))
abbrev x1W:List Rat:=zR [0,1]
abbrev p1W:List Rat×List Rat:=(x1W,x1W)
abbrev o1W:List Rat:=zR [1]
abbrev p2W:List Rat×List Rat:=(o1W,o1W)
abbrev q3I:Rat:=((3:Int):Rat)
abbrev tnW:Rat:=((1:Int):Rat) / ((10:Int):Rat)
theorem wk_ma:OkMa [p1W] 0 q1I:=⟨by decide,fun p hp q hq=>by
 rw[List.mem_singleton.1 hp,List.mem_singleton.1 hq];exact⟨by decide+kernel,⟨by decide+kernel,by decide+kernel,by decide+kernel,by decide+kernel,by decide+kernel⟩⟩⟩
theorem wk_sy(l:Rat)(hl:qs l≤2):OkSy [p1W] l 0 q1I 100:=⟨wk_ma,fun i j hi hj=>by
 obtain rfl:i=0:=by simpa using hi
 obtain rfl:j=0:=by simpa using hj
 have:qs (maK [p1W] 0 q1I 0 0)≤10:=by decide+kernel
 omega,by decide⟩
theorem wk_ta(l:Rat)(hl:qs l≤2):OkTa [p1W] l x1W 0 q1I 100:=⟨lR_ (by decide) (fun p hp=>by rw[List.mem_singleton.1 hp];decide),by decide+kernel,by decide+kernel,by decide+kernel,by decide+kernel,by decide,wk_sy l hl,fun p hp=>by
 rw[List.mem_singleton.1 hp];exact⟨by decide+kernel,⟨by decide+kernel,by decide+kernel,by decide+kernel,by decide+kernel,by decide+kernel⟩,by decide+kernel⟩⟩
theorem wk_su:OkSu [p1W] q1I x1W 0 q1I:=⟨fun i p hp=>by
 have hi:=(List.getElem?_eq_some_iff.1 hp).1;obtain rfl:i=0:=by simpa using hi
 cases hp;exact⟨by decide+kernel,by decide+kernel,by decide+kernel,by decide+kernel,by decide+kernel,by decide+kernel,by decide+kernel⟩,by decide+kernel,by decide+kernel,by decide+kernel,by decide+kernel,by decide+kernel,by decide+kernel⟩
theorem wk_1:(syM [p1W] q1I (rhK [p1W] x1W 0 q1I) 0 q1I).2=[0]∧noneB 1 (syM [p1W] q1I (rhK [p1W] x1W 0 q1I) 0 q1I).1 (syM [p1W] q1I (rhK [p1W] x1W 0 q1I) 0 q1I).2=false:=by decide+kernel
theorem wk_3:noneB 1 (syM [p1W] q3I (rhK [p1W] x1W 0 q1I) 0 q1I).1 (syM [p1W] q3I (rhK [p1W] x1W 0 q1I) 0 q1I).2=true:=by decide+kernel
theorem wk_r:oa_ 40 40 x1W (0,q1I) 0=some (0,1)∧oa_ 40 40 (syU [p1W] q1I x1W 0 q1I) (0,q1I) 0=some (0,2)∧absH (0,1)=1∧absH (0,2)=2:=by decide+kernel
theorem wk_cl:OkCl p1W q1I x1W 0 q1I tnW 0 1 1 2:=⟨by decide+kernel,by decide+kernel,by decide+kernel,by decide+kernel,by decide+kernel,by decide+kernel,by decide+kernel,by decide+kernel,by decide+kernel,by decide+kernel,by decide+kernel,by decide+kernel,by decide+kernel,by decide+kernel,by decide+kernel,by decide+kernel⟩
theorem wk_t1:textP (trimQ (deV (trQ (maK [p1W] 0 q1I) 1)))=[45,49,47,51,32,120,32,43,32,49]∧okPT (trimQ (deV (trQ (maK [p1W] 0 q1I) 1))):=by decide+kernel
theorem wk_t2:textP (trimQ (syU [p1W] q1I x1W 0 q1I))=[51,47,50,32,120]∧okPT (trimQ (syU [p1W] q1I x1W 0 q1I)):=by decide+kernel
theorem wk_t3:textP (seK (mvK 0 [p2W]) (compP [0,1] o1W) q1I 3 4)=[49,47,54,32,120,94,51,32,43,32,49,47,50,32,120,94,50,32,43,32,120,32,43,32,49]∧okPT (seK (mvK 0 [p2W]) (compP [0,1] o1W) q1I 3 4):=by decide+kernel
theorem wk_t4:textQ (clRa p1W q1I 0 q1I 1 1 tnW 0 2)=[50,47,51]∧okT (clRa p1W q1I 0 q1I 1 1 tnW 0 2)∧textQ (clB p1W q1I 0 q1I 1 1)=[53,47,50]∧okT (clB p1W q1I 0 q1I 1 1):=by decide+kernel
theorem sp_01:([.arr [],bln false,.arr []]:List AV)++qC q1I=spC 0 q1I:=by unfold spC;rw[qC0]
theorem wk_i2:FS 33 [.arr (zE [0,1])] (.arr (pE x1W)):=l3_ [0,1] (by decide) (by decide)
theorem wk_i1:FS 33 [.arr (zE [1])] (.arr (pE o1W)):=l3_ [1] (by decide) (by decide)
theorem wk_det:FS 34 [.arr (kE [p1W]),.agg (spC 0 q1I)] (.tup [.arr (pE (trimQ (deV (trQ (maK [p1W] 0 q1I) 1)))),i64 0]):=
 fs_Det1 p1W 0 q1I (wk_ta q1I (by decide)).ke (by decide+kernel) (by decide+kernel) (by decide+kernel) wk_ma (by decide+kernel)
theorem wk_so:FS 20 [.agg (eqC [p1W] q1I x1W),.agg (spC 0 q1I)] (.tup [.arr (pE (trimQ (syU [p1W] q1I x1W 0 q1I))),.arr (mE []),i64 0]):=
 r8_ [p1W] q1I x1W 0 q1I 100 (wk_ta q1I (by decide)) wk_su (fun f hf=>by
  obtain rfl:f=0:=by simpa using hf
  show(syM [p1W] q1I (rhK [p1W] x1W 0 q1I) 0 q1I).2.contains 0=true;rw[wk_1.1];rfl) wk_1.2 (by decide+kernel)
theorem wk_sv:FS 20 [.agg (eqC [p1W] q3I x1W),.agg (spC 0 q1I)] (.tup [.arr (pE []),.arr (mE []),i64 12]):=
 r7_ [p1W] q3I x1W 0 q1I 100 (wk_ta q3I (by decide)) wk_3
theorem wk_cs:FS 36 [.agg (eqC [p1W] q1I x1W),.agg (spC 0 q1I),.agg (qC tnW),.agg (qC 0),i64 0] (.tup [.agg (neC (syU [p1W] q1I x1W 0 q1I) (clB p1W q1I 0 q1I 1 1) (clSh p1W q1I 0 q1I 1 1 tnW) (clRa p1W q1I 0 q1I 1 1 tnW 0 2)),i64 0]):=by
 obtain⟨r1,r2,a1,a2⟩:=wk_r;have s1:=oy_ x1W 0 q1I 0 (0,1) (oG_ 40 40 x1W (0,q1I) 0 _ r1 (by decide)) (by decide+kernel) (by decide+kernel);have s2:=oy_ (syU [p1W] q1I x1W 0 q1I) 0 q1I 0 (0,2) (oG_ 40 40 _ (0,q1I) 0 _ r2 (by decide)) (by decide+kernel) (by decide+kernel);rw[a1] at s1;rw[a2] at s2;exact sg_ p1W q1I x1W 0 q1I tnW 0 1 1 2 0 100 (wk_ta q1I (by decide)) wk_su (by decide) (by rw[wk_1.1];rfl) wk_cl s1 s1 s2
theorem wk_se:FS 11 [.agg (eqC [p2W] q1I o1W),.agg (qC 0),i64 3] (.tup [.arr (pE (seK (mvK 0 [p2W]) (compP [0,1] o1W) q1I 3 4)),i64 0]):=
 l6_ [p2W] q1I o1W 0 3 (by decide) (mJ_ (by decide) (by decide) (fun p hp=>by rw[List.mem_singleton.1 hp];decide) (fun p hp=>by rw[List.mem_singleton.1 hp];decide+kernel) (by decide) (by decide+kernel) (by decide) (by decide))
theorem wk_cb:∀c∈([.arr [],bln false,.arr []]:List AV)++qC q1I,Closed c:=by rw[sp_01];exact a0_ 0 q1I
theorem pD_:FS 9 [] (.v (.bool true)):=by
 have i2:=wk_i2;have i1:=wk_i1;have hd:=wk_det;have hso:=wk_so;have hsv:=wk_sv;have hcs:=wk_cs;have hse:=wk_se;rw[←sp_01] at hd hso hsv hcs;rw[qC0] at hcs hse;have n1:=c2_ 1 (by decide);have n3:=c2_ 3 (by decide);have n10:=fs_Of 1 10 (by decide) (by decide) (by decide);have t1:=kR_ _ wk_t1.2;rw[wk_t1.1] at t1;have t2:=kR_ _ wk_t2.2;rw[wk_t2.1] at t2;have t3:=kR_ _ wk_t3.2;rw[wk_t3.1] at t3;have t4:=kQ_ _ wk_t4.2.1;rw[wk_t4.1] at t4;have t5:=kQ_ _ wk_t4.2.2.2;rw[wk_t4.2.2.1] at t5;refine f_c Tryz.func9 ?_;refine r_z 1 ?_;refine s_r 7 ?_;refine a_1 ?_;refine o_1 (.callS1 rfl rfl rfl (.shut rfl d_n (.nil)) rfl (i2)) ?_;refine a_1 ?_;refine o_1 (.callS1 rfl rfl rfl (.shut rfl d_n (.nil)) rfl (i2)) ?_;refine a_z ?_;refine AWp.ent (st':=⟨[(1,.arr (kE [p1W]))],[],1,130⟩) ?_ ?_;refine s_x [] (fun hs=>?_) (fun hs=>?_)
 ·repeat' (first|exact aH_|refine ap_ rfl ?_ ?_|(refine Cv.shut hs rfl (aK_ rfl) (nle rfl) ?_;exact aF_ hs rfl (b9_ [p1W]))|exact au_c)
 ·repeat' (first|exact az_|refine h_c ?_ ?_|exact au_e|refine av_ ?_|exact an_|refine ai_ ?_ ?_|(refine Cv.shut hs rfl (aK_ rfl) (nle rfl) ?_;exact aF_ hs rfl (b9_ [p1W]))|exact au_c)
 refine r_c 4 (n1) ?_;refine a_z ?_;refine AWp.ent (st':=⟨[(1,.arr (kE [p1W])),(2,.lptr 1 0 0)],[(1,some ⟨74,6,[[.arr [],bln false,.arr []]++qC q1I]⟩)],2,130⟩) ?_ ?_;refine s_x [(1,2)] (fun hs=>?_) (fun hs=>?_)
 ·repeat' (first|exact aH_|refine ap_ rfl ?_ ?_|exact ak_ hs (aE_ [p1W])|exact au_c)
 ·repeat' (first|exact az_|refine h_c ?_ ?_|exact CvLL.cons (ai_ (Cv.emp _) (ai_ (ak_ hs (ad_ _)) (ai_ (Cv.emp _) (CvL.clo hs (aR_ q1I))))) CvLL.nil|exact au_e|refine av_ ?_|exact an_|refine ai_ ?_ ?_|exact ak_ hs (aE_ [p1W])|exact au_c)
 refine AWp.ent (st':=⟨[(1,.arr (kE [p1W])),(2,.aptr [[.arr [],bln false,.arr []]++qC q1I] 0 0)],[],1,130⟩) ?_ ?_;refine s_x [] (fun hs=>?_) (fun hs=>?_)
 ·repeat' (first|exact aH_|refine ap_ rfl ?_ ?_|exact ak_ hs (aE_ [p1W])|exact Cv.boxp hs rfl (aK_ rfl) rfl wk_cb|exact au_c)
 ·repeat' (first|exact az_|refine h_c ?_ ?_|exact au_e|refine av_ ?_|exact an_|refine ai_ ?_ ?_|exact ak_ hs (aE_ [p1W])|exact Cv.boxp hs rfl (aK_ rfl) rfl wk_cb|exact au_c)
 refine r_c 8 (hd) ?_;refine a_z ?_;refine r_c 7 (n1) ?_;refine a_1 ?_;refine o_1 (.callS1 rfl rfl rfl (.shut rfl d_n (.nil)) rfl (i2)) ?_;refine a_z ?_;refine r_c 10 (hso) ?_;refine a_z ?_;refine r_c 7 (n10) ?_;refine a_z ?_;refine r_c 11 (hcs) ?_;refine a_z ?_;refine r_c 3 (n3) ?_;refine a_z ?_;refine r_c 10 (hsv) ?_;refine a_z ?_;refine AWp.ent (st':=⟨[(3,.arr (pE (trimQ (deV (trQ (maK [p1W] 0 q1I) 1))))),(4,i64 0),(6,.arr (pE (trimQ (syU [p1W] q1I x1W 0 q1I)))),(7,.arr (mE [])),(8,i64 0),(11,.aptr [neC (syU [p1W] q1I x1W 0 q1I) (clB p1W q1I 0 q1I 1 1) (clSh p1W q1I 0 q1I 1 1 tnW) (clRa p1W q1I 0 q1I 1 1 tnW 0 2)] 0 0),(12,i64 0),(15,i64 12)],[],1,130⟩) ?_ ?_;refine s_x [] (fun hs=>?_) (fun hs=>?_)
 ·repeat' (first|exact aH_|refine ap_ rfl ?_ ?_|exact ak_ hs (ar_ _)|exact ak_ hs (closed_mA _)|exact Cv.boxp hs rfl (aK_ rfl) rfl (dU_ _ _ _ _)|exact au_c)
 ·repeat' (first|exact az_|refine h_c ?_ ?_|exact au_e|refine av_ ?_|exact an_|refine ai_ ?_ ?_|exact ak_ hs (ar_ _)|exact ak_ hs (closed_mA _)|exact Cv.boxp hs rfl (aK_ rfl) rfl (dU_ _ _ _ _)|exact au_c)
 have hX:=hse.xs (p8_ (aa_ (ar_ _) (aa_ (ad_ _) ac_)));refine ab_ (AWp.regX (fr2:=[(75,.agg (eqC [p2W] q1I o1W)),(76,.agg [.arr [],bln false,.arr []]),(3,.arr (pE (trimQ (deV (trQ (maK [p1W] 0 q1I) 1))))),(4,i64 0),(6,.arr (pE (trimQ (syU [p1W] q1I x1W 0 q1I)))),(7,.arr (mE [])),(8,i64 0),(11,.aptr [neC (syU [p1W] q1I x1W 0 q1I) (clB p1W q1I 0 q1I 1 1) (clSh p1W q1I 0 q1I 1 1 tnW) (clRa p1W q1I 0 q1I 1 1 tnW 0 2)] 0 0),(12,i64 0),(15,i64 12)]) (hp2:=[]) (nx2:=1) (fr3:=[(3,.arr (pE (trimQ (deV (trQ (maK [p1W] 0 q1I) 1))))),(4,i64 0),(6,.arr (pE (trimQ (syU [p1W] q1I x1W 0 q1I)))),(7,.arr (mE [])),(8,i64 0),(11,.aptr [neC (syU [p1W] q1I x1W 0 q1I) (clB p1W q1I 0 q1I 1 1) (clSh p1W q1I 0 q1I 1 1 tnW) (clRa p1W q1I 0 q1I 1 1 tnW 0 2)] 0 0),(12,i64 0),(15,i64 12)]) 11 rfl rfl rfl rfl rfl rfl ?_ rfl rfl rfl hX (keepF ?_) (loF rfl) ?_)
 ·refine o_1 (.buildSlice te_162.h TZ.h rfl (by decide) rfl rfl rfl (by first|(simp;done)|(simp[a4_,ofV];done)|rfl)) ?_
  refine o_1 (.callS1 rfl rfl rfl (.shut rfl d_n (.nil)) rfl (i1)) ?_;refine o_1 (.buildSlice te_162.h TZ.h rfl (by decide) rfl rfl rfl (by first|(simp;done)|(simp[a4_,ofV];done)|rfl)) ?_;refine o_1 (.callS1 rfl rfl rfl (.shut rfl d_n (.nil)) rfl (i1)) ?_;refine o_0 (.build TZ.h tp_98.h rfl rfl) ?_;refine o_1 (.buildSlice te_27.h TZ.h rfl (by decide) rfl rfl rfl (by first|(simp;done)|(simp[a4_,ofV];done)|rfl)) ?_;refine o_0 (.call rfl rfl rfl (n1)) ?_;refine o_1 (.buildSlice te_162.h TZ.h rfl (by decide) rfl rfl rfl (by first|(simp;done)|(simp[a4_,ofV];done)|rfl)) ?_;refine o_1 (.callS1 rfl rfl rfl (.shut rfl d_n (.nil)) rfl (i1)) ?_;refine o_0 (.build TZ.h tp_58.h rfl rfl) ?_;refine o_0 (.build TZ.h tp_46.h rfl rfl) ?_;refine al_ ?_;refine s_y [] (fun hs=>?_) (fun hs=>?_)
  ·repeat' (first|exact aH_|refine ap_ rfl ?_ ?_|exact ak_ hs (ar_ _)|exact ak_ hs (closed_mA _)|exact ak_ hs (aL_ (dU_ _ _ _ _))|exact Cv.agg (ai_ (Cv.shut hs rfl (aK_ rfl) (nle rfl) (aF_ hs rfl (b9_ [p2W]))) (CvL.clo hs (cf_ (aR_ q1I) (aa_ (ar_ o1W) ac_))))|exact Cv.agg (ai_ (Cv.emp _) (ai_ (ak_ hs (ad_ _)) (ai_ (Cv.emp _) an_)))|exact au_c)
  ·repeat' (first|exact az_|refine h_c ?_ ?_|exact au_e|refine av_ ?_|exact an_|refine ai_ ?_ ?_|exact ak_ hs (ar_ _)|exact ak_ hs (closed_mA _)|exact ak_ hs (aL_ (dU_ _ _ _ _))|exact Cv.agg (ai_ (Cv.shut hs rfl (aK_ rfl) (nle rfl) (aF_ hs rfl (b9_ [p2W]))) (CvL.clo hs (cf_ (aR_ q1I) (aa_ (ar_ o1W) ac_))))|exact Cv.agg (ai_ (Cv.emp _) (ai_ (ak_ hs (ad_ _)) (ai_ (Cv.emp _) an_)))|exact au_c)
 intro p hp;rcases List.mem_cons.1 hp with rfl|hp
 exact⟨rfl,ar_ _⟩;rcases List.mem_cons.1 hp with rfl|hp
 exact⟨rfl,ad_ _⟩;rcases List.mem_cons.1 hp with rfl|hp
 exact⟨rfl,ar_ _⟩;rcases List.mem_cons.1 hp with rfl|hp
 exact⟨rfl,closed_mA _⟩;rcases List.mem_cons.1 hp with rfl|hp
 exact⟨rfl,ad_ _⟩;rcases List.mem_cons.1 hp with rfl|hp
 exact⟨rfl,aL_ (dU_ _ _ _ _)⟩;rcases List.mem_cons.1 hp with rfl|hp
 exact⟨rfl,ad_ _⟩;rcases List.mem_cons.1 hp with rfl|hp
 exact⟨rfl,ad_ _⟩;cases hp;refine o_0 (.move rfl) ?_;refine o_0 (.extract rfl rfl) ?_;refine o_0 (.extract rfl rfl) ?_;refine o_0 (.assign rfl) ?_;refine o_0 (.assign rfl) ?_;refine al_ ?_;refine s_r 51 ?_;refine a_1 ?_;refine o_0 (.bin rfl rfl (vT a3_ (rfl))) ?_;refine c_s (t1) ?_;refine ag_ rfl rfl rfl (.bin rfl rfl (vT eg_ rfl)) rfl rfl ?_;refine a_2 ?_
 first|refine ag_ rfl rfl rfl (.move rfl) rfl rfl ?_|refine au_ rfl rfl (by first|(simp[as_];done)|exact nofun) rfl rfl ?_
 refine ag_ rfl rfl rfl (.bin rfl rfl (vT a3_ (rfl))) rfl rfl ?_;refine c_s (t2) ?_;refine ag_ rfl rfl rfl (.bin rfl rfl (vT eg_ rfl)) rfl rfl ?_;refine a_2 ?_
 first|refine ag_ rfl rfl rfl (.move rfl) rfl rfl ?_|refine au_ rfl rfl (by first|(simp[as_];done)|exact nofun) rfl rfl ?_
 first|refine ag_ rfl rfl rfl (.lenD rfl rfl rfl rfl te_77.h) rfl rfl ?_|refine ag_ rfl rfl rfl (.lenI rfl rfl rfl rfl te_77.h) rfl rfl ?_|refine ag_ rfl rfl rfl (.lenP rfl rfl rfl rfl te_77.h) rfl rfl ?_|refine ag_ rfl rfl rfl (.lenC rfl rfl rfl rfl te_77.h) rfl rfl ?_|refine ag_ rfl rfl rfl (.lenR rfl rfl rfl rfl te_77.h) rfl rfl ?_|refine ag_ rfl rfl rfl (.len rfl rfl rfl rfl rfl te_77.h) rfl rfl ?_|refine au_ rfl rfl (by first|(simp[as_];done)|exact nofun) rfl rfl ?_
 refine ag_ rfl rfl rfl (.bin rfl rfl (vT a3_ (rfl))) rfl rfl ?_;refine a_2 ?_
 first|refine ag_ rfl rfl rfl (.move rfl) rfl rfl ?_|refine au_ rfl rfl (by first|(simp[as_];done)|exact nofun) rfl rfl ?_
 refine ag_ rfl rfl rfl (.bin rfl rfl (vT a3_ (rfl))) rfl rfl ?_;refine c_s (t4) ?_;refine ag_ rfl rfl rfl (.bin rfl rfl (vT eg_ rfl)) rfl rfl ?_;refine c_s (t5) ?_;refine ag_ rfl rfl rfl (.bin rfl rfl (vT eg_ rfl)) rfl rfl ?_;refine a_2 ?_
 first|refine ag_ rfl rfl rfl (.move rfl) rfl rfl ?_|refine au_ rfl rfl (by first|(simp[as_];done)|exact nofun) rfl rfl ?_
 refine ag_ rfl rfl rfl (.bin rfl rfl (vT a3_ (rfl))) rfl rfl ?_;refine a_2 ?_
 first|refine ag_ rfl rfl rfl (.move rfl) rfl rfl ?_|refine au_ rfl rfl (by first|(simp[as_];done)|exact nofun) rfl rfl ?_
 refine ag_ rfl rfl rfl (.bin rfl rfl (vT a3_ (rfl))) rfl rfl ?_;refine c_s (t3) ?_;refine ag_ rfl rfl rfl (.bin rfl rfl (vT eg_ rfl)) rfl rfl ?_;refine a_z ?_;exact af_ (t_e (ad_ _))
end Go.Proofs.YtjkddcfoolilbaaGreatDoor
