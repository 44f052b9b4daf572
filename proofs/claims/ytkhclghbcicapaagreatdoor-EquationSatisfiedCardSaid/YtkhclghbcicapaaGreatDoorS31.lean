/- Part S31 of the proof. -/
import Derived.Test.YtkhclghbcicapaaGreatDoorS30
import Derived.ChangeSame
import Derived.ProofKit
import Derived.OpenShut
import Derived.Carry
import Derived.Deep.Slices
import Derived.Deep.Strs
import Derived.ChangeArms
set_option linter.all false
namespace Go.Proofs.YtkhclghbcicapaaGreatDoor
open Go.Abs
set_option maxRecDepth 100000
set_option maxHeartbeats 4000000
abbrev q1I:Rat:=((1:Int):Rat)
def clL(p:List Rat×List Rat)(l a b:Rat):List Rat:=w6 (syM [p] l [q1I] a b).1 1 (syM [p] l [q1I] a b).2
def clC(p:List Rat×List Rat)(l a b:Rat):Rat:=coP (clL p l a b) 0
def ut(p:List Rat×List Rat)(l a b vA vB:Rat):Rat:=0+vA* fM (clC p l a b) * vB
def clW(l a b:Rat):Rat:=fM l* (b- a)
def clB(p:List Rat×List Rat)(l a b vA vB:Rat):Rat:=q1I+clW l a b* ut p l a b vA vB
def ur(p:List Rat×List Rat)(l a b vA vB ep:Rat):Rat:=clW l a b* ep* clB p l a b vA vB
def B9(p:List Rat×List Rat)(l a b vA vB ep:Rat):Rat:=q1I- ur p l a b vA vB ep
def Aa(p:List Rat×List Rat)(l a b vA vB ep de vU:Rat):Rat:=clB p l a b vA vB* (de+clW l a b* ep* vU) / B9 p l a b vA vB ep
def mxQ:Nat:=549755813888
structure OkCl (p:List Rat×List Rat)(l:Rat)(g:List Rat)(a b ep de vA vB vU:Rat):Prop where
 e0:0≤ep
 d0:0≤de
 q1:qs vA+qs (fM (clC p l a b))≤mxQ
 q2:qs (vA* fM (clC p l a b))+qs vB≤mxQ
 q3:qs 0+qs (vA* fM (clC p l a b) * vB)≤mxQ
 q4:qs (fM l)+qs (b- a)≤mxQ
 q5:qs (clW l a b)+qs (ut p l a b vA vB)≤mxQ
 q6:qs q1I+qs (clW l a b* ut p l a b vA vB)≤mxQ
 q7:qs (clW l a b)+qs ep≤mxQ
 q8:qs (clW l a b* ep)+qs (clB p l a b vA vB)≤mxQ
 q9:qs q1I+qs (ur p l a b vA vB ep)≤mxQ
 r0:0< B9 p l a b vA vB ep
 qa:qs (clW l a b* ep)+qs vU≤mxQ
 qb:qs de+qs (clW l a b* ep* vU)≤mxQ
 qc:qs (clB p l a b vA vB)+qs (de+clW l a b* ep* vU)≤mxQ
 qd:qs (clB p l a b vA vB* (de+clW l a b* ep* vU))+qs (B9 p l a b vA vB ep)≤mxQ
def neC(U:List Rat)(bo sh ra:Rat):List AV:= .arr (pE U)::(qC bo++(qC sh++qC ra))
theorem iv(U:List Rat)(bo sh ra:Rat):∀c∈neC U bo sh ra,Closed c:=ac (ax U) (ct (a8 bo) (ct (a8 sh) (a8 ra)))
def nC1(U:List Rat)(bo:Rat):List AV:= .arr (pE U)::(qC bo++(zC++zC))
theorem B8(U:List Rat)(bo:Rat):∀e∈[nC1 U bo],∀c∈e,Closed c:=fun e a=>by
 rw[List.mem_singleton.1 a];exact ac (ax U) (ct (a8 bo) (ct nn nn))
def nC2(U:List Rat)(bo sh:Rat):List AV:= .arr (pE U)::(qC bo++(qC sh++zC))
theorem B7(U:List Rat)(bo sh:Rat):∀e∈[nC2 U bo sh],∀c∈e,Closed c:=fun e a=>by
 rw[List.mem_singleton.1 a];exact ac (ax U) (ct (a8 bo) (ct (a8 sh) nn))
def zNe:List AV:=[.emp,.emp,bln false,.emp,.emp,bln false,.emp,.emp,bln false,.emp]
def clV(x y:Rat):Nat→Rat
 |0=>x
 |_+1=>y
def clO(p:List Rat×List Rat)(l:Rat)(g:List Rat)(a b ep de vA vB:Rat)(gr:Int)(A:Mx)(L:List Nat):Nat→AState
 |j=>⟨[(6,bSp a b),(7,bQ ep),(8,bQ de),(10,.lptr 1 0 0),(12,bTk [p] l g a b),(13,bSy 1 A L),(14,bSz a b gr),(15,.arr (pE [vA])),(16,.arr (pE [vB])),(17,.lptr 2 0 0),(67,i64 1),(68,i64 j)],[(1,some ⟨101,10,[zNe]⟩),(2,some ⟨34,3,[qC (clV 0 (ut p l a b vA vB) j)]⟩)],3,172⟩
def clI(p:List Rat×List Rat)(l:Rat)(g:List Rat)(a b ep de vA vB:Rat)(gr:Int)(A:Mx)(L:List Nat):Nat→AState
 |i=>⟨[(6,bSp a b),(7,bQ ep),(8,bQ de),(10,.lptr 1 0 0),(12,bTk [p] l g a b),(13,bSy 1 A L),(14,bSz a b gr),(15,.arr (pE [vA])),(16,.arr (pE [vB])),(17,.lptr 2 0 0),(67,i64 1),(68,i64 0),(18,i64 0),(90,.arr (pE (clL p l a b))),(91,i64 1),(92,i64 i)],[(1,some ⟨101,10,[zNe]⟩),(2,some ⟨34,3,[qC (clV 0 (ut p l a b vA vB) i)]⟩)],3,172⟩
theorem EI (p:List Rat×List Rat) (l:Rat) (g:List Rat) (a b ep de vA vB vU:Rat) (gr:Int) (s:Nat) (h:OkTa [p] l g a b s) (h2:OkSu [p] l g a b) (hs1:1≤s) (hL:(syM [p] l (rhK [p] g a b) a b).2.length=1) (ok:OkCl p l g a b ep de vA vB vU)
    (hzA:FS 88 [.agg (spC a b++[i64 gr]),.arr (pE p.1)] (.agg (qC vA))) (hzB:FS 88 [.agg (spC a b++[i64 gr]),.arr (pE p.2)] (.agg (qC vB))) (hzU:FS 88 [.agg (spC a b++[i64 gr]),.arr (pE (syU [p] l g a b))] (.agg (qC vU))):
    FS 36 [.agg (eqC [p] l g),.agg (spC a b),.agg (qC ep),.agg (qC de),i64 gr] (.tup [.agg (neC (syU [p] l g a b) (clB p l a b vA vB) (ur p l a b vA vB ep) (Aa p l a b vA vB ep de vU)),i64 0]):=by
 have O:=eR [p] l g a b h.ke h.ha h.hb h.ab h.dg h.gl;have hs:=kj [p] l g a b s h.sy h.rh;have C:¬sgZ ep.num< 0:=fun e=>by have:=sgZ_num_lt.1 e;have:=ok.e0;grind
 have Q:¬sgZ de.num< 0:=fun e=>by have:=sgZ_num_lt.1 e;have:=ok.d0;grind
 have o:=pj [p] 89 [bSz a b gr] (fun _=>vA) (ac (dh a b gr) af) (by simp) fun q y=>by
  rw[List.mem_singleton.1 y];exact fs_Clo1 p a b gr vA hzA
 have x:=pj [p] 90 [bSz a b gr] (fun _=>vB) (ac (dh a b gr) af) (by simp) fun q y=>by
  rw[List.mem_singleton.1 y];exact fs_Clo2 p a b gr vB hzB
 have i1:=dK 1 (by decide);obtain⟨A,hA⟩:∃A,A=(syM [p] l (rhK [p] g a b) a b).1:=⟨_,rfl⟩;obtain⟨L,c⟩:∃L,L=(syM [p] l (rhK [p] g a b) a b).2:=⟨_,rfl⟩;have t:syV 1 (A,L)=syV [p].length (syM [p] l (rhK [p] g a b) a b):=by rw[hA,c];rfl
 rw[←t] at hs;rw[←c] at hL;have S:(kE [p]).length=1:=rfl;have H:(lvE L).length=1:=by rw[jr,hL]
 refine f_n Tryz.func36 ?_ ?_;exact ac (aA (cL [p] l g)) (ac (aA (a6 a b)) (ac (aP ep) (ac (aP de) (ac (ag _) af))));refine r_z 6 ?_;refine AWp.ent (st':=⟨[(4,i64 gr),(5,.aptr [eqC [p] l g] 0 0),(6,bSp a b),(7,bQ ep),(8,bQ de),(10,.lptr 1 0 0)],[(1,some ⟨101,10,[zNe]⟩)],2,172⟩) ?_ ?_;refine s_x [(1,10)] (fun hs=>?_) (fun hs=>?_)
 ·repeat' (first|exact aK|refine az rfl ?_ ?_|exact Cv.boxp hs rfl (aM rfl) rfl (cL [p] l g)|exact Cv.boxp hs rfl (aM rfl) rfl (a6 a b)|exact Cv.boxp hs rfl (aM rfl) rfl (a8 _)|exact aW)
 ·repeat' (first|exact aE|refine h_c ?_ ?_|exact bF|refine aC ?_|exact av|refine ah ?_ ?_|exact Cv.boxp hs rfl (aM rfl) rfl (cL [p] l g)|exact Cv.boxp hs rfl (aM rfl) rfl (a6 a b)|exact Cv.boxp hs rfl (aM rfl) rfl (a8 _)|exact aW)
 refine r_z 5 ?_;refine AWp.ent (st':=⟨[(4,i64 gr),(6,bSp a b),(7,bQ ep),(8,bQ de),(10,.lptr 1 0 0),(12,bTk [p] l g a b)],[(1,some ⟨101,10,[zNe]⟩)],2,172⟩) ?_ ?_;refine s_x [(1,10)] (fun hs=>?_) (fun hs=>?_)
 ·repeat' (first|exact aK|refine az rfl ?_ ?_|exact ak hs (bD a b)|exact Cv.boxp hs rfl (aM rfl) rfl (c8 [p] l g a b)|exact aW)
 ·repeat' (first|exact aE|refine h_c ?_ ?_|exact bF|refine aC ?_|exact av|refine ah ?_ ?_|exact ak hs (bD a b)|exact Cv.boxp hs rfl (aM rfl) rfl (c8 [p] l g a b)|exact aW)
 refine ae (r_c 12 (O) ?_);refine c_s (ci ep) ?_;refine e_s (ci de) ?_;refine d_z ?_;refine cF (am (r_c 4 (hs) ?_));refine a_z ?_;refine AWp.ent (st':=⟨[(4,i64 gr),(6,bSp a b),(7,bQ ep),(8,bQ de),(10,.lptr 1 0 0),(12,bTk [p] l g a b),(13,bSy 1 A L)],[(1,some ⟨101,10,[zNe]⟩)],2,172⟩) ?_ ?_;refine s_x [(1,10)] (fun hs=>?_) (fun hs=>?_)
 ·repeat' (first|exact aK|refine az rfl ?_ ?_|exact ak hs (bD a b)|exact ak hs (cg [p] l g a b)|exact Cv.boxp hs rfl (aM rfl) rfl (dw 1 A L)|exact aW)
 ·repeat' (first|exact aE|refine h_c ?_ ?_|exact bF|refine aC ?_|exact av|refine ah ?_ ?_|exact ak hs (bD a b)|exact ak hs (cg [p] l g a b)|exact Cv.boxp hs rfl (aM rfl) rfl (dw 1 A L)|exact aW)
 refine ae (q_z 6 ?_);refine cF (am (r_z 6 ?_));refine AWp.ent (st':=⟨[(6,bSp a b),(7,bQ ep),(8,bQ de),(10,.lptr 1 0 0),(12,bTk [p] l g a b),(13,bSy 1 A L),(14,bSz a b gr)],[(1,some ⟨101,10,[zNe]⟩)],2,172⟩) ?_ ?_;refine s_x [(1,10)] (fun hs=>?_) (fun hs=>?_)
 ·repeat' (first|exact aK|refine az rfl ?_ ?_|exact ak hs (bD a b)|exact ak hs (cg [p] l g a b)|exact ak hs (bi 1 A L)|exact Cv.boxp hs rfl (aM rfl) rfl (ac (ob a b gr) af)|exact aW)
 ·repeat' (first|exact aE|refine h_c ?_ ?_|exact bF|refine aC ?_|exact av|refine ah ?_ ?_|exact ak hs (bD a b)|exact ak hs (cg [p] l g a b)|exact ak hs (bi 1 A L)|exact Cv.boxp hs rfl (aM rfl) rfl (ac (ob a b gr) af)|exact aW)
 refine r_c 6 (o) ?_;refine a_z ?_;refine r_c 6 (x) ?_;refine a_z ?_;refine r_z 1 ?_;refine ae (r_z 5 ?_);refine aH (fun _:Unit=>clO p l g a b ep de vA vB gr A L 1) (fun _=>True) ?_ ?_;refine aj (aB (clO p l g a b ep de vA vB gr A L) (fun j=>1- j) (fun j=>j≤1) 0 (Nat.zero_le _) ?_ ?_);rw[clO.eq_1];refine s_x [(1,10),(2,17)] (fun hs=>e_5) (fun hs=>?_)
 ·repeat' (first|exact aE|refine h_c ?_ ?_|exact CvLL.zeros hs 1|exact bF|refine aC ?_|exact av|refine ah ?_ ?_|exact ak hs (bD a b)|exact ak hs (cg [p] l g a b)|exact ak hs (bi 1 A L)|exact ak hs (dh a b gr)|exact ak hs (cn _)|exact ak hs (ax _)|exact aW)
 intro j T;by_cases h1:j< 1;obtain rfl:j=0:=by omega
 rw[clO.eq_1]
 have r:=sD [p] l a b s [q1I] h.sy rfl fun i z=>by
  obtain rfl:i=0:=by simpa using z
  exact Nat.le_trans (by decide:qs (coP [q1I] 0)≤1) hs1
 have f:=r8 (syM [p] l [q1I] a b).1 1 (syM [p] l [q1I] a b).2 (ei _ _ _) (by decide);have w:Closed (syV [p].length (syM [p] l [q1I] a b)):=fu _ _ _;have B:(pE (clL p l a b)).length=1:=by simp[pE,clL]
 refine s_r 1 ?_;refine o_0 (.bin rfl rfl (vT dM (rfl))) ?_;refine ao ?_;refine ae (cT (am (ae (aj (r_z 2 ?_)))));refine r_z 6 ?_;refine r_c 5 (i1) ?_;refine a_z ?_;refine AWp.ent (st':=⟨[(6,bSp a b),(7,bQ ep),(8,bQ de),(10,.lptr 1 0 0),(12,bTk [p] l g a b),(13,bSy 1 A L),(14,bSz a b gr),(15,.arr (pE [vA])),(16,.arr (pE [vB])),(17,.lptr 2 0 0),(67,i64 1),(68,i64 0),(18,i64 0),(19,.arr (pE [q1I]))],[(1,some ⟨101,10,[zNe]⟩),(2,some ⟨34,3,[qC (clV 0 (ut p l a b vA vB) 0)]⟩)],3,172⟩) ?_ ?_;refine s_x [(1,10),(2,17)] (fun hs=>?_) (fun hs=>?_)
 ·repeat' (first|exact aK|refine az rfl ?_ ?_|exact ak hs (bD a b)|exact ak hs (cg [p] l g a b)|exact ak hs (bi 1 A L)|exact ak hs (dh a b gr)|exact ak hs (cn _)|exact ak hs (ax _)|(refine Cv.shut hs rfl (aM rfl) (nle rfl) ?_;exact aI hs rfl (aL [q1I]))|exact aW)
 ·repeat' (first|exact aE|refine h_c ?_ ?_|exact bF|refine aC ?_|exact av|refine ah ?_ ?_|exact ak hs (bD a b)|exact ak hs (cg [p] l g a b)|exact ak hs (bi 1 A L)|exact ak hs (dh a b gr)|exact ak hs (cn _)|exact ak hs (ax _)|(refine Cv.shut hs rfl (aM rfl) (nle rfl) ?_;exact aI hs rfl (aL [q1I]))|exact aW)
 refine ae (AWp.regAB 4 9 84 aY (pS [p] a b h.sy.m) (r) (w) rfl rfl rfl rfl rfl rfl rfl rfl rfl rfl (by kernel_rfl) rfl rfl rfl ?_)
 first|refine AY.op0 (.fieldAddr_l rfl TF.h (by decide)) rfl rfl ?_|refine AY.op0 (.fieldAddr_a rfl TF.h (by decide)) rfl rfl ?_
 first|refine AY.op0 (.fieldAddr_l rfl TF.h (by decide)) rfl rfl ?_|refine AY.op0 (.fieldAddr_a rfl TF.h (by decide)) rfl rfl ?_
 first|refine AY.op0 (.load_l1 rfl rfl rfl TG.h rfl) rfl rfl ?_|refine AY.op0 (.load_a1 rfl rfl TG.h rfl) rfl rfl ?_
 first|refine AY.op0 (.load_l rfl rfl rfl TG.h TS.h (nle rfl)) rfl rfl ?_|refine AY.op0 (.load_a rfl rfl TG.h TS.h (nle rfl)) rfl rfl ?_
 refine AY.sp rfl rfl (kAB.a rfl rfl rfl (ac (aV [p]) (ac (aA (a6 a b)) af)) rfl) ?_
 first|refine AY.op0 (.fieldAddr_l rfl TF.h (by decide)) rfl rfl ?_|refine AY.op0 (.fieldAddr_a rfl TF.h (by decide)) rfl rfl ?_
 first|refine AY.op0 (.fieldAddr_l rfl TF.h (by decide)) rfl rfl ?_|refine AY.op0 (.fieldAddr_a rfl TF.h (by decide)) rfl rfl ?_
 first|refine AY.op0 (.load_l rfl rfl rfl TG.h TS.h (nle rfl)) rfl rfl ?_|refine AY.op0 (.load_a rfl rfl TG.h TS.h (nle rfl)) rfl rfl ?_
 refine AY.op0 (.move rfl) rfl rfl ?_;refine AY.sp rfl rfl (kAB.b rfl rfl (ArgsB.own (ArgsB.clo rfl (aA (a8 l)) (ArgsB.clo rfl (ax _) ArgsB.nil))) rfl) ?_;refine AY.op0 (.call rfl rfl rfl (f)) rfl rfl ?_
 first|refine AY.op0 (.lenD rfl rfl rfl rfl te_35.h) rfl rfl ?_|refine AY.op0 (.lenI rfl rfl rfl rfl te_35.h) rfl rfl ?_|refine AY.op0 (.lenP rfl rfl rfl rfl te_35.h) rfl rfl ?_|refine AY.op0 (.lenC rfl rfl rfl rfl te_35.h) rfl rfl ?_|refine AY.op0 (.lenR rfl rfl rfl rfl te_35.h) rfl rfl ?_|refine AY.op0 (.len rfl rfl rfl rfl rfl te_35.h) rfl rfl ?_
 refine AY.op0 (.move rfl) rfl rfl ?_;refine AY.nil ⟨by kernel_rfl,?_⟩;refine AWp.cutB (fun _:Unit=>clI p l g a b ep de vA vB gr A L 1) (fun _=>True) ?_ ?_;refine aj (aB (clI p l g a b ep de vA vB gr A L) (fun i=>1- i) (fun i=>i≤1) 0 (Nat.zero_le _) ?_ ?_);rw[clI.eq_1];exact s_x [] (fun hs=>e_5) (fun hs=>G1);intro i z;by_cases h1:i< 1;obtain rfl:i=0:=by omega
 rw[clI.eq_1]
 have d:(pE (clL p l a b))[((0:Nat):Int).toNat]?=some (qC (clC p l a b)):=by
  have:(clL p l a b).length=1:=by simp[clL]
  have:=b9 (p:=clL p l a b) (i:=0) (by omega);simp[pE,clC,this]
 have m1:=cU vA (fM (clC p l a b)) ok.q1;have m2:=cU (vA* fM (clC p l a b)) vB ok.q2;have u:=fl 0 (vA* fM (clC p l a b) * vB) ok.q3;refine s_r 1 ?_;refine o_0 (.bin rfl rfl (vT dM (rfl))) ?_;refine ao ?_;refine ae (cT (am (ae (aj (s_r 6 ?_)))));refine a_1 ?_;refine i_x d ?_;refine l_x d ?_;refine a_z ?_;refine r_d aY 15 ?_;refine c_s (qA (clC p l a b)) ?_;refine c_s (m1) ?_;refine c_s (m2) ?_;refine c_s (u) ?_;refine a_1 ?_;refine ao (n_k ?_);refine r_m 2 ?_;refine a_z ?_;refine⟨1,by omega,by omega,?_⟩;rw[clI.eq_1];exact s_x [] (fun hs=>e_5) (fun hs=>G1);obtain rfl:i=1:=by omega
 rw[clI.eq_1];refine s_r 1 ?_;refine o_0 (.bin rfl rfl (vF dM (rfl))) ?_;refine ao ?_;refine ae (cF (ay ⟨(),trivial,?_⟩));exact s_x [] (fun hs=>e_5) (fun hs=>G1);rintro _ _;rw[clI.eq_1];refine r_m 2 ?_;refine a_z ?_;refine⟨1,by omega,by omega,?_⟩;rw[clO.eq_1];exact s_x [] (fun hs=>e_5) (fun hs=>G1);obtain rfl:j=1:=by omega
 rw[clO.eq_1];refine s_r 1 ?_;refine o_0 (.bin rfl rfl (vF dM (rfl))) ?_;refine ao ?_;refine ae (cF (ay ⟨(),trivial,?_⟩));exact s_x [] (fun hs=>e_5) (fun hs=>G1);rintro _ _;rw[clO.eq_1];have F:=vJ a b h.ha h.hb;have K:=cU (fM l) (b- a) ok.q4;have f:=r8 A 1 L (by rw[hA,c];exact ei _ _ _) (by decide);have n:=pf [p] (ly [p] l g a b) (by unfold ly;simp) (by simp) h2.ms;have k:=eD _ l h2.u1 h2.sl h2.u2;have v:=jW g _ h2.sg h2.v1 h.gl h2.v2;have R:w6 A 1 L=ly [p] l g a b:=by rw[hA,c];rfl
 rw[R] at f;have m1:=cU (clW l a b) (ut p l a b vA vB) ok.q5;have u:=fl q1I (clW l a b* ut p l a b vA vB) ok.q6;have m2:=cU (clW l a b) ep ok.q7;have J:=cU (clW l a b* ep) (clB p l a b vA vB) ok.q8;have s1:=kZ q1I (ur p l a b vA vB ep) ok.q9;have M:=cU (clW l a b* ep) vU ok.qa;have D:=fl de (clW l a b* ep* vU) ok.qb;have E:=cU (clB p l a b vA vB) (de+clW l a b* ep* vU) ok.qc;have N:=pi (clB p l a b vA vB* (de+clW l a b* ep* vU)) (B9 p l a b vA vB ep) (by have:=ok.r0;grind) ok.qd;have G:¬sgZ (B9 p l a b vA vB ep).num≤0:=by have:=sgZ_num_gt.2 ok.r0;omega
 refine ae (r_d aY 9 ?_);refine c_s (qA l) ?_;refine c_s (F) ?_;refine c_s (K) ?_;refine a_2 ?_;refine ao (n_k ?_);refine AWp.ent (st':=⟨[(7,bQ ep),(8,bQ de),(10,.lptr 1 0 0),(12,bTk [p] l g a b),(13,bSy 1 A L),(14,bSz a b gr),(17,bQ (ut p l a b vA vB)),(22,bQ (clW l a b))],[(1,some ⟨101,10,[zNe]⟩)],2,172⟩) ?_ ?_;refine s_x [(1,10)] (fun hs=>e_16) (fun hs=>?_)
 ·repeat' (first|exact aE|refine h_c ?_ ?_|exact bF|refine aC ?_|exact av|refine ah ?_ ?_|exact ak hs (bD a b)|exact ak hs (cg [p] l g a b)|exact ak hs (bi 1 A L)|exact ak hs (dh a b gr)|exact ak hs (cn _)|exact ak hs (ax _)|exact Cv.boxp hs rfl (aM rfl) rfl (a8 _)|exact aW)
 refine ae (r_d aY 22 ?_);refine c_s (f) ?_;refine c_s (n) ?_;refine c_s (k) ?_;refine c_s (v) ?_;refine c_s (i1) ?_;refine c_s (m1) ?_;refine c_s (u) ?_;refine a_3 ?_;refine ao (n_k ?_);refine AWp.ent (st':=⟨[(7,bQ ep),(8,bQ de),(10,.lptr 1 0 0),(14,bSz a b gr),(22,bQ (clW l a b)),(23,.lptr 2 0 0)],[(1,some ⟨101,10,[zNe]⟩),(2,some ⟨101,10,[nC1 (syU [p] l g a b) (clB p l a b vA vB)]⟩)],3,172⟩) ?_ ?_;refine s_x [(1,10),(2,23)] (fun hs=>e_16) (fun hs=>?_)
 ·repeat' (first|exact aE|refine h_c ?_ ?_|exact aI hs rfl (B8 _ _)|exact bF|refine aC ?_|exact av|refine ah ?_ ?_|exact ak hs (bD a b)|exact ak hs (cg [p] l g a b)|exact ak hs (bi 1 A L)|exact ak hs (dh a b gr)|exact ak hs (cn _)|exact ak hs (ax _)|exact Cv.boxp hs rfl (aM rfl) rfl (a8 _)|exact aW)
 refine ae (r_d aY 8 ?_);refine c_s (m2) ?_;refine c_s (J) ?_;refine a_2 ?_;refine ao (n_k ?_);refine AWp.ent (st':=⟨[(7,bQ ep),(8,bQ de),(10,.lptr 1 0 0),(14,bSz a b gr),(22,bQ (clW l a b)),(23,.lptr 2 0 0)],[(1,some ⟨101,10,[zNe]⟩),(2,some ⟨101,10,[nC2 (syU [p] l g a b) (clB p l a b vA vB) (ur p l a b vA vB ep)]⟩)],3,172⟩) ?_ ?_;exact s_x [(1,10),(2,23)] (fun hs=>e_16) (fun hs=>e_51);refine ae (r_d aY 6 ?_);refine c_s (i1) ?_;refine c_s (s1) ?_;refine a_2 ?_;refine ao (n_k ?_);refine AWp.ent (st':=⟨[(7,bQ ep),(8,bQ de),(10,.lptr 1 0 0),(14,bSz a b gr),(22,bQ (clW l a b)),(23,.lptr 2 0 0),(24,bQ (B9 p l a b vA vB ep))],[(1,some ⟨101,10,[zNe]⟩),(2,some ⟨101,10,[nC2 (syU [p] l g a b) (clB p l a b vA vB) (ur p l a b vA vB ep)]⟩)],3,172⟩) ?_ ?_;exact s_x [(1,10),(2,23)] (fun hs=>e_16) (fun hs=>e_51);refine ae (r_c 3 (ci (B9 p l a b vA vB ep)) ?_);refine d_z ?_;refine cF (am (ae (r_d aY 17 ?_)));refine c_s (m2) ?_;refine c_s (hzU) ?_;refine c_s (M) ?_;refine c_s (D) ?_;refine c_s (E) ?_;refine c_s (N) ?_;refine a_2 ?_;refine ao (n_k ?_);refine AWp.ent (st':=⟨[(10,.lptr 1 0 0),(23,.lptr 2 0 0)],[(1,some ⟨101,10,[zNe]⟩),(2,some ⟨101,10,[neC (syU [p] l g a b) (clB p l a b vA vB) (ur p l a b vA vB ep) (Aa p l a b vA vB ep de vU)]⟩)],3,172⟩) ?_ ?_;exact s_f [(1,10),(2,23)];refine r_z 3 ?_;refine ai (Fin.many ⟨_,_,rfl,⟨_,_,_,_,_,rfl,rfl,rfl,.inl ⟨TG.h,_,TS.h,nle rfl,rfl⟩⟩,⟨_,_,rfl,rfl,rfl⟩⟩ (nle rfl) ?_);exact ah (ak aD (aA (iv _ _ _ _))) (ah (ak aD (ag _)) av)
def itE(l:List Int):List Rat→Nat→AState
 |[],i=>⟨[(0,.arr (zE l)),(3,.emp),(4,i64 i)],[],1,20⟩
 |q::Q,i=>⟨[(0,.arr (zE l)),(3,.lsl 1 0 (Q.length+1) none 3),(4,i64 i)],[(1,some ⟨34,3,pE (q::Q)⟩)],2,20⟩
theorem oY(l:List Int)(i:Nat):itE l [] i=⟨[(0,.arr (zE l)),(3,.emp),(4,i64 i)],[],1,20⟩:=rfl
theorem kf(l:List Int)(q:Rat)(Q:List Rat)(i:Nat):itE l (q::Q) i=⟨[(0,.arr (zE l)),(3,.lsl 1 0 (Q.length+1) none 3),(4,i64 i)],[(1,some ⟨34,3,pE (q::Q)⟩)],2,20⟩:=rfl
theorem vG(l:List Int)(hl:l.length≤1099511627776)(hb:∀n∈l,-9223372036854775808≤n∧n≤9223372036854775807):FS 33 [.arr (zE l)] (.arr (pE (zR l))):=by
 refine f_n Tryz.func33 ?_ ?_;exact ac (aG (iq l)) af;refine r_z 1 ?_;refine r_z 1 ?_;refine ae (r_z 1 ?_);refine aH (fun _:Unit=>itE l (zR l) l.length) (fun _=>True) ?_ ?_;refine aj (aB (fun i:Nat=>itE l (zR (l.take i)) i) (fun i=>l.length- i) (fun i=>i≤l.length) 0 (Nat.zero_le _) ?_ ?_);show SEnt _ (itE l [] 0);rw[oY];have:=(aG (iq l));exact s_f [];rintro i k;have j:(zE l).length=l.length:=by simp[zE]
 by_cases hlt:i< l.length
 ·obtain⟨n,g⟩:∃n,l[i]?=some n:=⟨_,List.getElem?_eq_getElem hlt⟩
  have a:(zE l)[((i:Nat):Int).toNat]?=some [i64 n]:=by
   show(zE l)[i]?=_;simp[zE,g]
  have d:=hb n (List.mem_of_getElem? g);have c:zR (l.take (i+1))=zR (l.take i)++[(n:Rat)]:=by rw[cw g];simp[zR]
  have b:(zR (l.take i)).length=i:=by simp[zR];omega
  cases hQ:zR (l.take i) with
  |nil=>
   simp only[oY];refine ae (r_z 4 ?_);refine ap rfl (fun h=>?_) (fun h=>?_);rotate_left;exact absurd h (by simp[zE];omega);refine am (ae (aj (r_m 9 ?_)));refine a_3 ?_;refine i_x a ?_;refine l_1 a ?_;refine c_s (dK n d) ?_;refine a_z ?_;refine r_m 3 ?_;refine a_z ?_;refine⟨i+1,by omega,hlt,?_⟩;simp only[c,hQ,List.nil_append,kf];have:=(aG (iq l));have:=(aL [(n:Rat)]);exact s_f [(1,3)]
  |cons q Q=>
   rw[hQ] at b;simp at b;simp only[kf];refine ae (r_z 4 ?_);refine ap rfl (fun h=>?_) (fun h=>?_);rotate_left;exact absurd h (by simp[zE];omega);refine am (ae (aj (r_m 9 ?_)));refine a_3 ?_;refine i_x a ?_;refine l_1 a ?_;refine c_s (dK n d) ?_;refine a_z ?_;refine r_m 3 ?_;refine a_z ?_;refine⟨i+1,by omega,hlt,?_⟩;simp only[c,hQ,List.cons_append,kf];have e:pE (q::Q)++[qC (n:Rat)]=pE (q::(Q++[(n:Rat)])):=by simp[pE]
   refine s_x [(1,3)] (fun hs=>?_) (fun hs=>?_) e_8
   ·repeat' (first|exact aK|refine az rfl ?_ ?_|exact ak hs (aG (iq l))|exact aW)
   ·repeat' (first|exact aE|refine h_c ?_ ?_|exact aI hs e (aL _)|exact bF|refine aC ?_|exact av|refine ah ?_ ?_|exact ak hs (aG (iq l))|exact aW)
 have f:i=l.length:=by omega
 subst f;simp only[List.take_length];cases hQ:zR l with
 |nil=>
  simp only[oY];refine ae (r_z 4 ?_);refine ap rfl (fun h=>?_) (fun h=>?_);exact absurd h (by simp[zE]);refine ay ⟨(),trivial,?_⟩;simp only[hQ,oY];have:=(aG (iq l));exact s_f []
 |cons q Q=>
  simp only[kf];refine ae (r_z 4 ?_);refine ap rfl (fun h=>?_) (fun h=>?_);exact absurd h (by simp[zE]);refine ay ⟨(),trivial,?_⟩;simp only[hQ,kf];have:=(aG (iq l));exact s_f []
 rintro _ _;cases hQ:zR l with
 |nil=>
  simp only[oY];refine r_z 2 ?_;exact ai (Fin.tmpN rfl)
 |cons q Q=>
  simp only[kf];refine r_z 2 ?_;exact ai (Fin.tmpS rfl rfl rfl (by simp) (aL _))
abbrev x1W:List Rat:=zR [0,1]
abbrev p1W:List Rat×List Rat:=(x1W,x1W)
abbrev o1W:List Rat:=zR [1]
abbrev p2W:List Rat×List Rat:=(o1W,o1W)
abbrev q3I:Rat:=((3:Int):Rat)
abbrev tnW:Rat:=((1:Int):Rat) / ((10:Int):Rat)
theorem wk_ma:OkMa [p1W] 0 q1I:=⟨by decide,fun p hp q a=>by
 rw[List.mem_singleton.1 hp,List.mem_singleton.1 a];exact⟨by decide+kernel,⟨by decide+kernel,by decide+kernel,by decide+kernel,by decide+kernel,by decide+kernel⟩⟩⟩
theorem wk_sy(l:Rat)(hl:qs l≤2):OkSy [p1W] l 0 q1I 100:=⟨wk_ma,fun i j b a=>by
 obtain rfl:i=0:=by simpa using b
 obtain rfl:j=0:=by simpa using a
 have:qs (maK [p1W] 0 q1I 0 0)≤10:=by decide+kernel
 omega,by decide⟩
theorem Cr(l:Rat)(hl:qs l≤2):OkTa [p1W] l x1W 0 q1I 100:=⟨vm (by decide) (fun p hp=>by rw[List.mem_singleton.1 hp];decide),by decide+kernel,by decide+kernel,by decide+kernel,by decide+kernel,by decide,wk_sy l hl,fun p hp=>by
 rw[List.mem_singleton.1 hp];exact⟨by decide+kernel,⟨by decide+kernel,by decide+kernel,by decide+kernel,by decide+kernel,by decide+kernel⟩,by decide+kernel⟩⟩
theorem wk_su:OkSu [p1W] q1I x1W 0 q1I:=⟨fun i p hp=>by
 have a:=(List.getElem?_eq_some_iff.1 hp).1;obtain rfl:i=0:=by simpa using a
 cases hp;exact⟨by decide+kernel,by decide+kernel,by decide+kernel,by decide+kernel,by decide+kernel,by decide+kernel,by decide+kernel⟩,by decide+kernel,by decide+kernel,by decide+kernel,by decide+kernel,by decide+kernel,by decide+kernel⟩
theorem wk_1:(syM [p1W] q1I (rhK [p1W] x1W 0 q1I) 0 q1I).2=[0]∧lN 1 (syM [p1W] q1I (rhK [p1W] x1W 0 q1I) 0 q1I).1 (syM [p1W] q1I (rhK [p1W] x1W 0 q1I) 0 q1I).2=false:=by decide+kernel
theorem wk_3:lN 1 (syM [p1W] q3I (rhK [p1W] x1W 0 q1I) 0 q1I).1 (syM [p1W] q3I (rhK [p1W] x1W 0 q1I) 0 q1I).2=true:=by decide+kernel
theorem wk_r:wR 40 40 x1W (0,q1I) 0=some (0,1)∧wR 40 40 (syU [p1W] q1I x1W 0 q1I) (0,q1I) 0=some (0,2)∧Cm (0,1)=1∧Cm (0,2)=2:=by decide+kernel
theorem wk_cl:OkCl p1W q1I x1W 0 q1I tnW 0 1 1 2:=⟨by decide+kernel,by decide+kernel,by decide+kernel,by decide+kernel,by decide+kernel,by decide+kernel,by decide+kernel,by decide+kernel,by decide+kernel,by decide+kernel,by decide+kernel,by decide+kernel,by decide+kernel,by decide+kernel,by decide+kernel,by decide+kernel⟩
theorem wk_t1:Cw (aq (deV (trQ (maK [p1W] 0 q1I) 1)))=[45,49,47,51,32,120,32,43,32,49]∧FV (aq (deV (trQ (maK [p1W] 0 q1I) 1))):=by decide+kernel
theorem wk_t2:Cw (aq (syU [p1W] q1I x1W 0 q1I))=[51,47,50,32,120]∧FV (aq (syU [p1W] q1I x1W 0 q1I)):=by decide+kernel
theorem wk_t3:Cw (seK (mvK 0 [p2W]) (b6 [0,1] o1W) q1I 3 4)=[49,47,54,32,120,94,51,32,43,32,49,47,50,32,120,94,50,32,43,32,120,32,43,32,49]∧FV (seK (mvK 0 [p2W]) (b6 [0,1] o1W) q1I 3 4):=by decide+kernel
theorem wk_t4:ld (Aa p1W q1I 0 q1I 1 1 tnW 0 2)=[50,47,51]∧okT (Aa p1W q1I 0 q1I 1 1 tnW 0 2)∧ld (clB p1W q1I 0 q1I 1 1)=[53,47,50]∧okT (clB p1W q1I 0 q1I 1 1):=by decide+kernel
theorem sp_01:([.arr [],bln false,.arr []]:List AV)++qC q1I=spC 0 q1I:=by unfold spC;rw[qC0]
theorem wk_i2:FS 33 [.arr (zE [0,1])] (.arr (pE x1W)):=vG [0,1] (by decide) (by decide)
theorem wk_i1:FS 33 [.arr (zE [1])] (.arr (pE o1W)):=vG [1] (by decide) (by decide)
theorem wk_det:FS 34 [.arr (kE [p1W]),.agg (spC 0 q1I)] (.tup [.arr (pE (aq (deV (trQ (maK [p1W] 0 q1I) 1)))),i64 0]):=
 fs_Det1 p1W 0 q1I (Cr q1I (by decide)).ke (by decide+kernel) (by decide+kernel) (by decide+kernel) wk_ma (by decide+kernel)
theorem wk_so:FS 19 [.agg (eqC [p1W] q1I x1W),.agg (spC 0 q1I)] (.tup [.arr (pE (aq (syU [p1W] q1I x1W 0 q1I))),.arr (mE []),i64 0]):=
 Ey [p1W] q1I x1W 0 q1I 100 (Cr q1I (by decide)) wk_su (fun f hf=>by
  obtain rfl:f=0:=by simpa using hf
  show(syM [p1W] q1I (rhK [p1W] x1W 0 q1I) 0 q1I).2.contains 0=true;rw[wk_1.1];rfl) wk_1.2 (by decide+kernel)
theorem wk_sv:FS 19 [.agg (eqC [p1W] q3I x1W),.agg (spC 0 q1I)] (.tup [.arr (pE []),.arr (mE []),i64 12]):=
 vI [p1W] q3I x1W 0 q1I 100 (Cr q3I (by decide)) wk_3
theorem wk_cs:FS 36 [.agg (eqC [p1W] q1I x1W),.agg (spC 0 q1I),.agg (qC tnW),.agg (qC 0),i64 0] (.tup [.agg (neC (syU [p1W] q1I x1W 0 q1I) (clB p1W q1I 0 q1I 1 1) (ur p1W q1I 0 q1I 1 1 tnW) (Aa p1W q1I 0 q1I 1 1 tnW 0 2)),i64 0]):=by
 obtain⟨c,b,a,d⟩:=wk_r;have s1:=zc x1W 0 q1I 0 (0,1) (zt 40 40 x1W (0,q1I) 0 _ c (by decide)) (by decide+kernel) (by decide+kernel);have s2:=zc (syU [p1W] q1I x1W 0 q1I) 0 q1I 0 (0,2) (zt 40 40 _ (0,q1I) 0 _ b (by decide)) (by decide+kernel) (by decide+kernel);rw[a] at s1;rw[d] at s2;exact EI p1W q1I x1W 0 q1I tnW 0 1 1 2 0 100 (Cr q1I (by decide)) wk_su (by decide) (by rw[wk_1.1];rfl) wk_cl s1 s1 s2
theorem wk_se:FS 9 [.agg (eqC [p2W] q1I o1W),.agg (qC 0),i64 3] (.tup [.arr (pE (seK (mvK 0 [p2W]) (b6 [0,1] o1W) q1I 3 4)),i64 0]):=
 EA [p2W] q1I o1W 0 3 (by decide) (EV (by decide) (by decide) (fun p hp=>by rw[List.mem_singleton.1 hp];decide) (fun p hp=>by rw[List.mem_singleton.1 hp];decide+kernel) (by decide) (by decide+kernel) (by decide) (by decide))
theorem wk_cb:∀c∈([.arr [],bln false,.arr []]:List AV)++qC q1I,Closed c:=by rw[sp_01];exact a6 0 q1I
theorem Bs:FS 7 [] (.v (.bool true)):=by
 have i2:=wk_i2;have i1:=wk_i1;have g:=wk_det;have d:=wk_so;have b:=wk_sv;have a:=wk_cs;have c:=wk_se;rw[←sp_01] at g d b a;rw[qC0] at a c;have e:=dK 1 (by decide);have l:=dK 3 (by decide);have f:=fs_Of 1 10 (by decide) (by decide) (by decide);have t1:=tU _ wk_t1.2;rw[wk_t1.1] at t1;have t2:=tU _ wk_t2.2;rw[wk_t2.1] at t2;have k:=tU _ wk_t3.2;rw[wk_t3.1] at k;have i:=tT _ wk_t4.2.1;rw[wk_t4.1] at i;have j:=tT _ wk_t4.2.2.2;rw[wk_t4.2.2.1] at j;refine f_c Tryz.func7 ?_;refine r_z 1 ?_;refine s_r 7 ?_;refine a_1 ?_;refine o_1 (.callS1 rfl rfl rfl (.shut rfl d_n (.nil)) rfl (i2)) ?_;refine a_1 ?_;refine o_1 (.callS1 rfl rfl rfl (.shut rfl d_n (.nil)) rfl (i2)) ?_;refine a_z ?_;refine AWp.ent (st':=⟨[(1,.arr (kE [p1W]))],[],1,130⟩) ?_ ?_;refine s_x [] (fun hs=>?_) (fun hs=>?_)
 ·repeat' (first|exact aK|refine az rfl ?_ ?_|(refine Cv.shut hs rfl (aM rfl) (nle rfl) ?_;exact aI hs rfl (dD [p1W]))|exact aW)
 ·repeat' (first|exact aE|refine h_c ?_ ?_|exact bF|refine aC ?_|exact av|refine ah ?_ ?_|(refine Cv.shut hs rfl (aM rfl) (nle rfl) ?_;exact aI hs rfl (dD [p1W]))|exact aW)
 refine r_c 4 (e) ?_;refine a_z ?_;refine AWp.ent (st':=⟨[(1,.arr (kE [p1W])),(2,.lptr 1 0 0)],[(1,some ⟨40,6,[[.arr [],bln false,.arr []]++qC q1I]⟩)],2,130⟩) ?_ ?_;refine s_x [(1,2)] (fun hs=>?_) (fun hs=>?_)
 ·repeat' (first|exact aK|refine az rfl ?_ ?_|exact ak hs (aV [p1W])|exact aW)
 ·repeat' (first|exact aE|refine h_c ?_ ?_|exact CvLL.cons (ah (Cv.emp _) (ah (ak hs (ag _)) (ah (Cv.emp _) (CvL.clo hs (a8 q1I))))) CvLL.nil|exact bF|refine aC ?_|exact av|refine ah ?_ ?_|exact ak hs (aV [p1W])|exact aW)
 refine AWp.ent (st':=⟨[(1,.arr (kE [p1W])),(2,.aptr [[.arr [],bln false,.arr []]++qC q1I] 0 0)],[],1,130⟩) ?_ ?_;refine s_x [] (fun hs=>?_) (fun hs=>?_)
 ·repeat' (first|exact aK|refine az rfl ?_ ?_|exact ak hs (aV [p1W])|exact Cv.boxp hs rfl (aM rfl) rfl wk_cb|exact aW)
 ·repeat' (first|exact aE|refine h_c ?_ ?_|exact bF|refine aC ?_|exact av|refine ah ?_ ?_|exact ak hs (aV [p1W])|exact Cv.boxp hs rfl (aM rfl) rfl wk_cb|exact aW)
 refine r_c 8 (g) ?_;refine a_z ?_;refine r_c 7 (e) ?_;refine a_1 ?_;refine o_1 (.callS1 rfl rfl rfl (.shut rfl d_n (.nil)) rfl (i2)) ?_;refine a_z ?_;refine r_c 10 (d) ?_;refine a_z ?_;refine r_c 7 (f) ?_;refine a_z ?_;refine r_c 11 (a) ?_;refine a_z ?_;refine r_c 3 (l) ?_;refine a_z ?_;refine r_c 10 (b) ?_;refine a_z ?_;refine AWp.ent (st':=⟨[(3,.arr (pE (aq (deV (trQ (maK [p1W] 0 q1I) 1))))),(4,i64 0),(6,.arr (pE (aq (syU [p1W] q1I x1W 0 q1I)))),(7,.arr (mE [])),(8,i64 0),(11,.aptr [neC (syU [p1W] q1I x1W 0 q1I) (clB p1W q1I 0 q1I 1 1) (ur p1W q1I 0 q1I 1 1 tnW) (Aa p1W q1I 0 q1I 1 1 tnW 0 2)] 0 0),(12,i64 0),(15,i64 12)],[],1,130⟩) ?_ ?_;refine s_x [] (fun hs=>?_) (fun hs=>?_)
 ·repeat' (first|exact aK|refine az rfl ?_ ?_|exact ak hs (ax _)|exact ak hs (closed_mA _)|exact Cv.boxp hs rfl (aM rfl) rfl (iv _ _ _ _)|exact aW)
 ·repeat' (first|exact aE|refine h_c ?_ ?_|exact bF|refine aC ?_|exact av|refine ah ?_ ?_|exact ak hs (ax _)|exact ak hs (closed_mA _)|exact Cv.boxp hs rfl (aM rfl) rfl (iv _ _ _ _)|exact aW)
 have m:=c.xs (B6 (ac (ax _) (ac (ag _) af)));refine ae (AWp.regX (fr2:=[(75,.agg (eqC [p2W] q1I o1W)),(76,.agg [.arr [],bln false,.arr []]),(3,.arr (pE (aq (deV (trQ (maK [p1W] 0 q1I) 1))))),(4,i64 0),(6,.arr (pE (aq (syU [p1W] q1I x1W 0 q1I)))),(7,.arr (mE [])),(8,i64 0),(11,.aptr [neC (syU [p1W] q1I x1W 0 q1I) (clB p1W q1I 0 q1I 1 1) (ur p1W q1I 0 q1I 1 1 tnW) (Aa p1W q1I 0 q1I 1 1 tnW 0 2)] 0 0),(12,i64 0),(15,i64 12)]) (hp2:=[]) (nx2:=1) (fr3:=[(3,.arr (pE (aq (deV (trQ (maK [p1W] 0 q1I) 1))))),(4,i64 0),(6,.arr (pE (aq (syU [p1W] q1I x1W 0 q1I)))),(7,.arr (mE [])),(8,i64 0),(11,.aptr [neC (syU [p1W] q1I x1W 0 q1I) (clB p1W q1I 0 q1I 1 1) (ur p1W q1I 0 q1I 1 1 tnW) (Aa p1W q1I 0 q1I 1 1 tnW 0 2)] 0 0),(12,i64 0),(15,i64 12)]) 11 rfl rfl rfl rfl rfl rfl ?_ rfl rfl rfl m (keepF ?_) (loF rfl) ?_)
 ·refine o_1 (.buildSlice te_150.h TZ.h rfl (by decide) rfl rfl rfl (by first|(simp;done)|(simp[b7,ofV];done)|rfl)) ?_
  refine o_1 (.callS1 rfl rfl rfl (.shut rfl d_n (.nil)) rfl (i1)) ?_;refine o_1 (.buildSlice te_150.h TZ.h rfl (by decide) rfl rfl rfl (by first|(simp;done)|(simp[b7,ofV];done)|rfl)) ?_;refine o_1 (.callS1 rfl rfl rfl (.shut rfl d_n (.nil)) rfl (i1)) ?_;refine o_0 (.build TZ.h tp_61.h rfl rfl) ?_;refine o_1 (.buildSlice te_27.h TZ.h rfl (by decide) rfl rfl rfl (by first|(simp;done)|(simp[b7,ofV];done)|rfl)) ?_;refine o_0 (.call rfl rfl rfl (e)) ?_;refine o_1 (.buildSlice te_150.h TZ.h rfl (by decide) rfl rfl rfl (by first|(simp;done)|(simp[b7,ofV];done)|rfl)) ?_;refine o_1 (.callS1 rfl rfl rfl (.shut rfl d_n (.nil)) rfl (i1)) ?_;refine o_0 (.build TZ.h tp_38.h rfl rfl) ?_;refine o_0 (.build TZ.h tp_34.h rfl rfl) ?_;refine ao ?_;refine s_y [] (fun hs=>?_) (fun hs=>?_)
  ·repeat' (first|exact aK|refine az rfl ?_ ?_|exact ak hs (ax _)|exact ak hs (closed_mA _)|exact ak hs (a7 (iv _ _ _ _))|exact Cv.agg (ah (Cv.shut hs rfl (aM rfl) (nle rfl) (aI hs rfl (dD [p2W]))) (CvL.clo hs (ct (a8 q1I) (ac (ax o1W) af))))|exact Cv.agg (ah (Cv.emp _) (ah (ak hs (ag _)) (ah (Cv.emp _) av)))|exact aW)
  ·repeat' (first|exact aE|refine h_c ?_ ?_|exact bF|refine aC ?_|exact av|refine ah ?_ ?_|exact ak hs (ax _)|exact ak hs (closed_mA _)|exact ak hs (a7 (iv _ _ _ _))|exact Cv.agg (ah (Cv.shut hs rfl (aM rfl) (nle rfl) (aI hs rfl (dD [p2W]))) (CvL.clo hs (ct (a8 q1I) (ac (ax o1W) af))))|exact Cv.agg (ah (Cv.emp _) (ah (ak hs (ag _)) (ah (Cv.emp _) av)))|exact aW)
 intro p hp;rcases List.mem_cons.1 hp with rfl|hp
 exact⟨rfl,ax _⟩;rcases List.mem_cons.1 hp with rfl|hp
 exact⟨rfl,ag _⟩;rcases List.mem_cons.1 hp with rfl|hp
 exact⟨rfl,ax _⟩;rcases List.mem_cons.1 hp with rfl|hp
 exact⟨rfl,closed_mA _⟩;rcases List.mem_cons.1 hp with rfl|hp
 exact⟨rfl,ag _⟩;rcases List.mem_cons.1 hp with rfl|hp
 exact⟨rfl,a7 (iv _ _ _ _)⟩;rcases List.mem_cons.1 hp with rfl|hp
 exact⟨rfl,ag _⟩;rcases List.mem_cons.1 hp with rfl|hp
 exact⟨rfl,ag _⟩;cases hp;refine o_0 (.move rfl) ?_;refine o_0 (.extract rfl rfl) ?_;refine o_0 (.extract rfl rfl) ?_;refine o_0 (.assign rfl) ?_;refine o_0 (.assign rfl) ?_;refine ao ?_;refine s_r 51 ?_;refine a_1 ?_;refine o_0 (.bin rfl rfl (vT cv (rfl))) ?_;refine e_s (t1) ?_;refine aF rfl rfl rfl (.bin rfl rfl (vT mJ rfl)) rfl rfl ?_;refine d_3 ?_;refine aF rfl rfl rfl (.bin rfl rfl (vT cv (rfl))) rfl rfl ?_;refine e_s (t2) ?_;refine aF rfl rfl rfl (.bin rfl rfl (vT mJ rfl)) rfl rfl ?_;refine d_4 ?_;refine aF rfl rfl rfl (.bin rfl rfl (vT cv (rfl))) rfl rfl ?_;refine d_3 ?_;refine aF rfl rfl rfl (.bin rfl rfl (vT cv (rfl))) rfl rfl ?_;refine e_s (i) ?_;refine aF rfl rfl rfl (.bin rfl rfl (vT mJ rfl)) rfl rfl ?_;refine e_s (j) ?_;refine aF rfl rfl rfl (.bin rfl rfl (vT mJ rfl)) rfl rfl ?_;refine d_3 ?_;refine aF rfl rfl rfl (.bin rfl rfl (vT cv (rfl))) rfl rfl ?_;refine d_3 ?_;refine aF rfl rfl rfl (.bin rfl rfl (vT cv (rfl))) rfl rfl ?_;refine e_s (k) ?_;refine aF rfl rfl rfl (.bin rfl rfl (vT mJ rfl)) rfl rfl ?_;refine a_z ?_;exact ai (t_e (ag _))
theorem F6{l:List gf}(ho:∀t∈l,w7 t)(h:rG l=true):(keM l).length≤1000∧(∀p∈keM l,p.1.length≤30∧p.2.length≤30)∧(vaB (keM l)=true→(keM l).length≤3∧(∀p∈keM l,p.1.length≤4∧p.2.length≤4)∧∀p∈keM l,bdL p.1 20∧bdL p.2 20):=by
 unfold rG at h;rw[Bool.and_eq_true,List.all_eq_true] at h;obtain⟨h1,n⟩:=h
 have g:l.length≤12∧(3< l.length→8< l.length):=by
  unfold vr at h1;simp only[Bool.not_eq_true',Bool.or_eq_false_iff,Bool.and_eq_false_iff,decide_eq_false_iff_not] at h1;omega
 have hp:∀p∈keM l,∃t∈l,p=(nL t.1,nL t.2):=fun p hp=>by
  obtain⟨t,ht,e⟩:=List.mem_map.1 hp;exact⟨t,ht,e.symm⟩
 have hs:∀t∈l,t.1.length≤30∧t.2.length≤30∧fe t.1=true∧fe t.2=true:=fun t ht=>by
  have f:=n t ht;unfold ic vp at f;simp only[Bool.and_eq_true,Bool.not_eq_true',Bool.or_eq_false_iff,decide_eq_false_iff_not] at f;exact⟨by omega,by omega,f.2.1,f.2.2⟩
 refine⟨by rw[fj];omega,fun p b=>?_,fun hv=>?_⟩;obtain⟨t,ht,rfl⟩:=hp p b;obtain⟨m,i,_,_⟩:=hs t ht;exact⟨by simpa[nL] using m,by simpa[nL] using i⟩;unfold vaB at hv;simp only[Bool.and_eq_true,Bool.not_eq_true',decide_eq_true_eq] at hv;obtain⟨v1,v2⟩:=hv;rw[fj] at v2
 have hb:∀t∈l,(bdL (nL t.1) 20∧(nL t.1).length≤4)∧bdL (nL t.2) 20∧(nL t.2).length≤4:=fun t ht=>by
  obtain⟨_,_,d,c⟩:=hs t ht
  have a:qS (nL t.1,nL t.2)=false:=by
   have:=List.any_eq_false.1 v1 (nL t.1,nL t.2) (List.mem_map.2 ⟨t,ht,rfl⟩);simpa using this
  unfold qS at a;rw[Bool.or_eq_false_iff] at a;unfold fe at d c
  have j:fc t.1 4=true:=by
   rw[Bool.or_eq_true] at d;rcases d with d|d
   exact d;rw[a.1] at d;cases d
  have k:fc t.2 4=true:=by
   rw[Bool.or_eq_true] at c;rcases c with c|c
   exact c;rw[a.2] at c;cases c
  exact⟨om j (ho t ht).1.1,om k (ho t ht).1.2⟩
 refine⟨by rw[fj];omega,fun p b=>?_,fun p b=>?_⟩;obtain⟨t,ht,rfl⟩:=hp p b;exact⟨(hb t ht).1.2,(hb t ht).2.2⟩;obtain⟨t,ht,rfl⟩:=hp p b;exact⟨(hb t ht).1.1,(hb t ht).2.1⟩
theorem eY(r:eM):∀c∈nuC r.1 r.2.1 r.2.2,Closed c:=ac (ag _) (ac (ag _) (ac (ag _) af))
theorem pE_get{p:List Rat}{i:Nat}{q:Rat}(h:p[i]?=some q):∀e,e=i→(pE p)[e]?=some (qC q):=fun e a=>by
 subst a;simp[pE,h]





def cR(l:List (List Rat)):List (List AV):=l.map fun p=>[.arr (rE (rP p))]
@[simp] theorem cR_length (l:List (List Rat)):(cR l).length=l.length:=by simp[cR]




def okW(m:List Rat)(l r:Bool)(a b:Rat):Prop:=1≤m.length∧m.length≤64∧(l=true→r=true→a< b)
instance (m:List Rat) (l r:Bool) (a b:Rat):Decidable (okW m l r a b):=inferInstanceAs (Decidable (_∧_∧_))
end Go.Proofs.YtkhclghbcicapaaGreatDoor
namespace Go.Proofs.YtkhclghbcicapaaGreatDoor
open Go.Abs Go.Deep Go.RowKit Go.WideShapes
set_option maxRecDepth 20000

end Go.Proofs.YtkhclghbcicapaaGreatDoor
namespace Go.Proofs.YtkhclghbcicapaaGreatDoor
open Go.Abs Go.ChangeShapes Go.Deep Go.RowKit Go.WideShapes
set_option maxRecDepth 20000
theorem tyG:∃f0 f1,(Tryz.prog).underlying 44=some (.struct #[f0,f1])∧f0.type=24∧f0.offset=0∧f1.type=24∧f1.offset=3:=
 ⟨{name:= "Low",type:=24,offset:=0,embedded:=false,tag:= "",pkgPath:= "",byteOffset:=0},{name:= "High",type:=24,offset:=3,embedded:=false,tag:= "",pkgPath:= "",byteOffset:=24},by kernel_rfl,rfl,rfl,rfl,rfl⟩
theorem tycG:(Tryz.prog).cellsOf 44=6:=by kernel_rfl
theorem gapP_of{H:Type}{enc:TypeId×Value→H}{W:World}{base:Nat}{v:Value}{d:DataW H}{ps:List MemPlace}(hv:Value.okWide Tryz.prog W .any base 44 v)(h:DataW.Trod enc Tryz.prog W 0 (fun _=>true) true 44 v d ps):
    ∃r:eM×eM,(okN r.1∧okN r.2)∧RV (fun _=>False) (fun _=>none) W (.agg (nuC r.1.1 r.1.2.1 r.1.2.2++nuC r.2.1 r.2.2.1 r.2.2.2)) v:=by
 obtain⟨A,B,j,h1,w,t,s⟩:=tyG
 obtain⟨cs,rfl,_⟩:∃cs,v= .agg cs∧True:=by
  unfold Value.okWide at hv;rw[j] at hv;obtain⟨cs,h1,_⟩:=hv;exact⟨cs,h1,trivial⟩
 obtain⟨o,hf⟩:=h;obtain⟨y,z,m,_,hl,n,k⟩:=trod_struct2 j hf;rw[h1,w,Cu] at n;rw[t,s,Cu] at k;rw[tycG] at hl;obtain⟨r,x,p,u,e⟩:=xa n;obtain⟨a,b,g,i,f⟩:=xa k
 have c:cs.toList=[.int .i64 r.1,.int .i64 r.2.1,.int .u8 r.2.2,.int .i64 a.1,.int .i64 a.2.1,.int .u8 a.2.2]:=by
  have q:(Value.agg cs).cells.toList=cs.toList:=by simp[Value.cells]
  rw[q] at e f hl;generalize cs.toList=l at *
  match l,hl with
  |[a0,a1,a2,a3,a4,a5],_=>
   simp at e f;obtain⟨rfl,rfl,rfl⟩:=e;obtain⟨rfl,rfl,rfl⟩:=f;rfl
 refine⟨(r,a),⟨⟨x,p,u⟩,⟨b,g,i⟩⟩,cs,rfl,?_⟩;rw[c];exact⟨_,_,rfl,rfl,_,_,rfl,rfl,_,_,rfl,rfl,_,_,rfl,rfl,_,_,rfl,rfl,_,_,rfl,rfl,rfl⟩
end Go.Proofs.YtkhclghbcicapaaGreatDoor
namespace Go.Proofs.YtkhclghbcicapaaGreatDoor
open Go.Abs
set_option maxRecDepth 20000
set_option maxHeartbeats 2000000


def bdN(n:Int):Prop:=n< 0∨63< n
def bdP(p:Int):Prop:=p< 0∨8< p
instance (n:Int):Decidable (bdN n):=inferInstanceAs (Decidable (_∨_))
instance (n:Int):Decidable (bdP n):=inferInstanceAs (Decidable (_∨_))








end Go.Proofs.YtkhclghbcicapaaGreatDoor
namespace Go.Proofs.YtkhclghbcicapaaGreatDoor
open Go.Abs Go.Deep Go.RowKit Go.WideShapes
set_option maxRecDepth 20000

end Go.Proofs.YtkhclghbcicapaaGreatDoor
namespace Go.Proofs.YtkhclghbcicapaaGreatDoor
open Go.Abs Go.ChangeShapes Go.Deep Go.RowKit Go.WideShapes
set_option maxRecDepth 20000

end Go.Proofs.YtkhclghbcicapaaGreatDoor
namespace Go.Proofs.YtkhclghbcicapaaGreatDoor
open Go.Abs
set_option maxRecDepth 20000
set_option maxHeartbeats 4000000

section
variable {T:List Rat}{n:Nat}(hn:1≤n∧n≤5)(hl:T.length=n+1)(ht:aq T=T)(hm:aR T=1)(hb:bdL T 20)
include hn hl ht hm hb
end


abbrev mrow(M:Mx)(n i:Nat):List (List AV):=rE (rP (aS (n+1) (M i)))
def mxW(M:Mx)(n c:Nat):List (List (List AV)):=(List.range c).map (mrow M n)
@[simp] theorem mxW_length (M:Mx)(n c:Nat):(mxW M n c).length=c:=by simp[mxW]
def svA(M:Mx)(n:Nat):List (List AV):=(List.range n).map fun i=>[.arr (rE (rP (aS n (M i))))]
@[simp] theorem svA_length (M:Mx)(n:Nat):(svA M n).length=n:=by simp[svA]
def svC(M:Mx)(n c:Nat):List (List AV):=(List.range c).map fun i=>[.arr (rE (rP (aS n (M i))))]
@[simp] theorem svC_length (M:Mx)(n c:Nat):(svC M n c).length=c:=by simp[svC]
theorem wl{r:Ren}{hp hp':Nat→Option ABlk}{x y:List AV}(h:CvL r hp hp' x y):∀{xs ys:List (List AV)},CvLL r hp hp' xs ys→CvLL r hp hp' (xs++[x]) (ys++[y])
 |[],ys,h'=>by cases (h':ys=[]);exact aC h
 |a::xs,ys,⟨b,ys',e,h1,h2⟩=>by
  subst e;exact CvLL.cons h1 (wl h h2)
theorem HQ{r:Ren}{hp hp':Nat→Option ABlk}{xs ys zs:List (List AV)}(h:CvLL r hp hp' xs ys)(e:ys=zs):CvLL r hp hp' xs zs:=e▸h
structure TmK (k:Ke):Prop where
 l:k.length≤3
 n:∀p∈k,p.1.length≤4∧p.2.length≤4
 b:∀p∈k,bdL p.1 20∧bdL p.2 20

end Go.Proofs.YtkhclghbcicapaaGreatDoor
