/- Part V33. -/
import Derived.Test.YtiodeiecpoopgaaGreatDoorV32
set_option linter.all false
namespace Go.Proofs.YtiodeiecpoopgaaGreatDoor
open Go.Abs
set_option maxRecDepth 100000
set_option maxHeartbeats 4000000
abbrev q1I:Rat:=((1:Int):Rat)
def clL(p:Lq×Lq)(l a b:Rat):Lq:=pj (syM [p] l [q1I] a b).1 1 (syM [p] l [q1I] a b).2
def clC(p:Lq×Lq)(l a b:Rat):Rat:=coP (clL p l a b) 0
def vX(p:Lq×Lq)(l a b vA vB:Rat):Rat:=0+vA* gi (clC p l a b) * vB
def clW(l a b:Rat):Rat:=gi l* (b- a)
def clB(p:Lq×Lq)(l a b vA vB:Rat):Rat:=q1I+clW l a b* vX p l a b vA vB
def vW(p:Lq×Lq)(l a b vA vB ep:Rat):Rat:=clW l a b* ep* clB p l a b vA vB
def D0(p:Lq×Lq)(l a b vA vB ep:Rat):Rat:=q1I- vW p l a b vA vB ep
def BP(p:Lq×Lq)(l a b vA vB ep de vU:Rat):Rat:=clB p l a b vA vB* (de+clW l a b* ep* vU) / D0 p l a b vA vB ep
def mxQ:Nat:=549755813888
structure OkCl (p:Lq×Lq)(l:Rat)(g:Lq)(a b ep de vA vB vU:Rat):Prop where
 e0:0<=ep
 d0:0<=de
 q1:qs vA+qs (gi (clC p l a b))<=mxQ
 q2:qs (vA* gi (clC p l a b))+qs vB<=mxQ
 q3:qs 0+qs (vA* gi (clC p l a b) * vB)<=mxQ
 q4:qs (gi l)+qs (b- a)<=mxQ
 q5:qs (clW l a b)+qs (vX p l a b vA vB)<=mxQ
 q6:qs q1I+qs (clW l a b* vX p l a b vA vB)<=mxQ
 q7:qs (clW l a b)+qs ep<=mxQ
 q8:qs (clW l a b* ep)+qs (clB p l a b vA vB)<=mxQ
 q9:qs q1I+qs (vW p l a b vA vB ep)<=mxQ
 r0:0< D0 p l a b vA vB ep
 qa:qs (clW l a b* ep)+qs vU<=mxQ
 qb:qs de+qs (clW l a b* ep* vU)<=mxQ
 qc:qs (clB p l a b vA vB)+qs (de+clW l a b* ep* vU)<=mxQ
 qd:qs (clB p l a b vA vB* (de+clW l a b* ep* vU))+qs (D0 p l a b vA vB ep)<=mxQ
def neC(U:Lq)(bo sh ra:Rat):La:= .arr (pE U)::(qC bo++(qC sh++qC ra))
theorem iR(U:Lq)(bo sh ra:Rat):∀c∈neC U bo sh ra,Closed c:=ac (az U) (cj (bi bo) (cj (bi sh) (bi ra)))
def nC1(U:Lq)(bo:Rat):La:= .arr (pE U)::(qC bo++(zC++zC))
theorem DZ(U:Lq)(bo:Rat):∀e∈[nC1 U bo],∀c∈e,Closed c:=fun e a=>by
 rw[List.mem_singleton.1 a];exact ac (az U) (cj (bi bo) (cj n6 n6))
def nC2(U:Lq)(bo sh:Rat):La:= .arr (pE U)::(qC bo++(qC sh++zC))
theorem DY(U:Lq)(bo sh:Rat):∀e∈[nC2 U bo sh],∀c∈e,Closed c:=fun e a=>by
 rw[List.mem_singleton.1 a];exact ac (az U) (cj (bi bo) (cj (bi sh) n6))
def zNe:La:=[.emp,.emp,bln false,.emp,.emp,bln false,.emp,.emp,bln false,.emp]
def clV(x y:Rat):Nat->Rat
 |0=>x
 |_+1=>y
def clO(p:Lq×Lq)(l:Rat)(g:Lq)(a b ep de vA vB:Rat)(gr:Int)(A:Mx)(L:Ln):Nat->AState
 |j=>⟨[(6,bSp a b),(7,bQ ep),(8,bQ de),(10,.lptr 1 0 0),(12,bTk [p] l g a b),(13,bSy 1 A L),(14,bSz a b gr),(15,.arr (pE [vA])),(16,.arr (pE [vB])),(17,.lptr 2 0 0),(67,i64 1),(68,i64 j)],[(1,some ⟨101,10,[zNe]⟩),(2,some ⟨48,3,[qC (clV 0 (vX p l a b vA vB) j)]⟩)],3,172⟩
def clI(p:Lq×Lq)(l:Rat)(g:Lq)(a b ep de vA vB:Rat)(gr:Int)(A:Mx)(L:Ln):Nat->AState
 |i=>⟨[(6,bSp a b),(7,bQ ep),(8,bQ de),(10,.lptr 1 0 0),(12,bTk [p] l g a b),(13,bSy 1 A L),(14,bSz a b gr),(15,.arr (pE [vA])),(16,.arr (pE [vB])),(17,.lptr 2 0 0),(67,i64 1),(68,i64 0),(18,i64 0),(90,.arr (pE (clL p l a b))),(91,i64 1),(92,i64 i)],[(1,some ⟨101,10,[zNe]⟩),(2,some ⟨48,3,[qC (clV 0 (vX p l a b vA vB) i)]⟩)],3,172⟩
theorem Ha (p:Lq×Lq) (l:Rat) (g:Lq) (a b ep de vA vB vU:Rat) (gr:Int) (s:Nat) (h:OkTa [p] l g a b s) (h2:OkSu [p] l g a b) (hs1:1<=s) (hL:(syM [p] l (rhK [p] g a b) a b).2.length=1) (ok:OkCl p l g a b ep de vA vB vU)
    (hzA:FS 69 [.agg (spC a b++[i64 gr]),.arr (pE p.1)] (.agg (qC vA))) (hzB:FS 69 [.agg (spC a b++[i64 gr]),.arr (pE p.2)] (.agg (qC vB))) (hzU:FS 69 [.agg (spC a b++[i64 gr]),.arr (pE (syU [p] l g a b))] (.agg (qC vU))):
    FS 29 [.agg (eqC [p] l g),.agg (spC a b),.agg (qC ep),.agg (qC de),i64 gr] (.tup [.agg (neC (syU [p] l g a b) (clB p l a b vA vB) (vW p l a b vA vB ep) (BP p l a b vA vB ep de vU)),i64 0]):=by
 have J:=ff [p] l g a b h.ke h.ha h.hb h.ab h.dg h.gl;have hs:=lu [p] l g a b s h.sy h.rh;have H:¬sgZ ep.num< 0:=fun e=>by have:=sgZ_num_lt.1 e;have:=ok.e0;grind
 have Q:¬sgZ de.num< 0:=fun e=>by have:=sgZ_num_lt.1 e;have:=ok.d0;grind
 have k:=pS [p] 70 [bSz a b gr] (fun _=>vA) (ac (du a b gr) af) (by simp) fun q o=>by
  rw[List.mem_singleton.1 o];exact fs_Clo1 p a b gr vA hzA
 have y:=pS [p] 71 [bSz a b gr] (fun _=>vB) (ac (du a b gr) af) (by simp) fun q o=>by
  rw[List.mem_singleton.1 o];exact fs_Clo2 p a b gr vB hzB
 have i1:=ei 1 (by decide);obtain⟨A,r⟩:∃A,A=(syM [p] l (rhK [p] g a b) a b).1:=⟨_,rfl⟩;obtain⟨L,c⟩:∃L,L=(syM [p] l (rhK [p] g a b) a b).2:=⟨_,rfl⟩;have z:syV 1 (A,L)=syV [p].length (syM [p] l (rhK [p] g a b) a b):=by rw[r,c];rfl
 rw[<-z] at hs;rw[<-c] at hL;have F:(kE [p]).length=1:=rfl;have E:(lvE L).length=1:=by rw[iI,hL]
 refine f_n Tryz.func29 ?_ ?_;exact ac (aD (cv [p] l g)) (ac (aD (bh a b)) (ac (aO ep) (ac (aO de) (ac (ag _) af))));refine r_z 6 ?_;refine AWp.ent (st':=⟨[(4,i64 gr),(5,.aptr [eqC [p] l g] 0 0),(6,bSp a b),(7,bQ ep),(8,bQ de),(10,.lptr 1 0 0)],[(1,some ⟨101,10,[zNe]⟩)],2,172⟩) ?_ ?_;refine s_x [(1,10)] (fun hs=>?_) (fun hs=>?_)
 ·repeat' (first|exact aI|refine au rfl ?_ ?_|exact Cv.boxp hs rfl (aH rfl) rfl (cv [p] l g)|exact Cv.boxp hs rfl (aH rfl) rfl (bh a b)|exact Cv.boxp hs rfl (aH rfl) rfl (bi _)|exact aS)
 ·repeat' (first|exact aA|refine h_c ?_ ?_|exact br|refine ay ?_|exact aq|refine ak ?_ ?_|exact Cv.boxp hs rfl (aH rfl) rfl (cv [p] l g)|exact Cv.boxp hs rfl (aH rfl) rfl (bh a b)|exact Cv.boxp hs rfl (aH rfl) rfl (bi _)|exact aS)
 refine r_z 5 ?_;refine AWp.ent (st':=⟨[(4,i64 gr),(6,bSp a b),(7,bQ ep),(8,bQ de),(10,.lptr 1 0 0),(12,bTk [p] l g a b)],[(1,some ⟨101,10,[zNe]⟩)],2,172⟩) ?_ ?_;refine s_x [(1,10)] (fun hs=>?_) (fun hs=>?_)
 ·repeat' (first|exact aI|refine au rfl ?_ ?_|exact ai hs (cx a b)|exact Cv.boxp hs rfl (aH rfl) rfl (dk [p] l g a b)|exact aS)
 ·repeat' (first|exact aA|refine h_c ?_ ?_|exact br|refine ay ?_|exact aq|refine ak ?_ ?_|exact ai hs (cx a b)|exact Cv.boxp hs rfl (aH rfl) rfl (dk [p] l g a b)|exact aS)
 refine ae (r_c 12 (J) ?_);refine c_s (cJ ep) ?_;refine e_s (cJ de) ?_;refine d_z ?_;refine cF (am (r_c 4 (hs) ?_));refine a_z ?_;refine AWp.ent (st':=⟨[(4,i64 gr),(6,bSp a b),(7,bQ ep),(8,bQ de),(10,.lptr 1 0 0),(12,bTk [p] l g a b),(13,bSy 1 A L)],[(1,some ⟨101,10,[zNe]⟩)],2,172⟩) ?_ ?_;refine s_x [(1,10)] (fun hs=>?_) (fun hs=>?_)
 ·repeat' (first|exact aI|refine au rfl ?_ ?_|exact ai hs (cx a b)|exact ai hs (cw [p] l g a b)|exact Cv.boxp hs rfl (aH rfl) rfl (dN 1 A L)|exact aS)
 ·repeat' (first|exact aA|refine h_c ?_ ?_|exact br|refine ay ?_|exact aq|refine ak ?_ ?_|exact ai hs (cx a b)|exact ai hs (cw [p] l g a b)|exact Cv.boxp hs rfl (aH rfl) rfl (dN 1 A L)|exact aS)
 refine ae (q_z 6 ?_);refine cF (am (r_z 6 ?_));refine AWp.ent (st':=⟨[(6,bSp a b),(7,bQ ep),(8,bQ de),(10,.lptr 1 0 0),(12,bTk [p] l g a b),(13,bSy 1 A L),(14,bSz a b gr)],[(1,some ⟨101,10,[zNe]⟩)],2,172⟩) ?_ ?_;refine s_x [(1,10)] (fun hs=>?_) (fun hs=>?_)
 ·repeat' (first|exact aI|refine au rfl ?_ ?_|exact ai hs (cx a b)|exact ai hs (cw [p] l g a b)|exact ai hs (bq 1 A L)|exact Cv.boxp hs rfl (aH rfl) rfl (ac (oO a b gr) af)|exact aS)
 ·repeat' (first|exact aA|refine h_c ?_ ?_|exact br|refine ay ?_|exact aq|refine ak ?_ ?_|exact ai hs (cx a b)|exact ai hs (cw [p] l g a b)|exact ai hs (bq 1 A L)|exact Cv.boxp hs rfl (aH rfl) rfl (ac (oO a b gr) af)|exact aS)
 refine r_c 6 (k) ?_;refine a_z ?_;refine r_c 6 (y) ?_;refine a_z ?_;refine r_z 1 ?_;refine ae (r_z 5 ?_);refine aC (fun _:Unit=>clO p l g a b ep de vA vB gr A L 1) (fun _=>True) ?_ ?_;refine ah (ax (clO p l g a b ep de vA vB gr A L) (fun j=>1- j) (fun j=>j<=1) 0 (Nat.zero_le _) ?_ ?_);rw[clO.eq_1];refine s_x [(1,10),(2,17)] (fun hs=>e_9) (fun hs=>?_)
 ·repeat' (first|exact aA|refine h_c ?_ ?_|exact CvLL.zeros hs 1|exact br|refine ay ?_|exact aq|refine ak ?_ ?_|exact ai hs (cx a b)|exact ai hs (cw [p] l g a b)|exact ai hs (bq 1 A L)|exact ai hs (du a b gr)|exact ai hs (cD _)|exact ai hs (az _)|exact aS)
 intro j T;by_cases h1:j< 1;obtain rfl:j=0:=by omega
 rw[clO.eq_1]
 have x:=ua [p] l a b s [q1I] h.sy rfl fun i C=>by
  obtain rfl:i=0:=by simpa using C
  exact Nat.le_trans (by decide:qs (coP [q1I] 0)<=1) hs1
 have f:=tJ (syM [p] l [q1I] a b).1 1 (syM [p] l [q1I] a b).2 (c8 _ _ _) (by decide);have w:Closed (syV [p].length (syM [p] l [q1I] a b)):=fS _ _ _;have B:(pE (clL p l a b)).length=1:=by simp[pE,clL]
 refine s_r 1 ?_;refine o_0 (.bin rfl rfl (vT ec (rfl))) ?_;refine ao ?_;refine ae (cT (am (ae (ah (r_z 2 ?_)))));refine r_z 6 ?_;refine r_c 5 (i1) ?_;refine a_z ?_;refine AWp.ent (st':=⟨[(6,bSp a b),(7,bQ ep),(8,bQ de),(10,.lptr 1 0 0),(12,bTk [p] l g a b),(13,bSy 1 A L),(14,bSz a b gr),(15,.arr (pE [vA])),(16,.arr (pE [vB])),(17,.lptr 2 0 0),(67,i64 1),(68,i64 0),(18,i64 0),(19,.arr (pE [q1I]))],[(1,some ⟨101,10,[zNe]⟩),(2,some ⟨48,3,[qC (clV 0 (vX p l a b vA vB) 0)]⟩)],3,172⟩) ?_ ?_;refine s_x [(1,10),(2,17)] (fun hs=>?_) (fun hs=>?_)
 ·repeat' (first|exact aI|refine au rfl ?_ ?_|exact ai hs (cx a b)|exact ai hs (cw [p] l g a b)|exact ai hs (bq 1 A L)|exact ai hs (du a b gr)|exact ai hs (cD _)|exact ai hs (az _)|(refine Cv.shut hs rfl (aH rfl) (nle rfl) ?_;exact aF hs rfl (aP [q1I]))|exact aS)
 ·repeat' (first|exact aA|refine h_c ?_ ?_|exact br|refine ay ?_|exact aq|refine ak ?_ ?_|exact ai hs (cx a b)|exact ai hs (cw [p] l g a b)|exact ai hs (bq 1 A L)|exact ai hs (du a b gr)|exact ai hs (cD _)|exact ai hs (az _)|(refine Cv.shut hs rfl (aH rfl) (nle rfl) ?_;exact aF hs rfl (aP [q1I]))|exact aS)
 refine ae (AWp.regAB 4 9 84 aT (qV [p] a b h.sy.m) (x) (w) rfl rfl rfl rfl rfl rfl rfl rfl rfl rfl (by kernel_rfl) rfl rfl rfl ?_);refine AY.op0 (.fieldAddr_a rfl TF.h (by decide)) rfl rfl ?_;refine AY.op0 (.fieldAddr_a rfl TF.h (by decide)) rfl rfl ?_;refine AY.op0 (.load_a1 rfl rfl TG.h rfl) rfl rfl ?_;refine AY.op0 (.load_a rfl rfl TG.h TS.h (nle rfl)) rfl rfl ?_;refine AY.sp rfl rfl (kAB.a rfl rfl rfl (ac (aN [p]) (ac (aD (bh a b)) af)) rfl) ?_;refine AY.op0 (.fieldAddr_a rfl TF.h (by decide)) rfl rfl ?_;refine AY.op0 (.fieldAddr_a rfl TF.h (by decide)) rfl rfl ?_;refine AY.op0 (.load_a rfl rfl TG.h TS.h (nle rfl)) rfl rfl ?_;refine AY.op0 (.move rfl) rfl rfl ?_;refine AY.sp rfl rfl (kAB.b rfl rfl (ArgsB.own (ArgsB.clo rfl (aD (bi l)) (ArgsB.clo rfl (az _) ArgsB.nil))) rfl) ?_;refine AY.op0 (.call rfl rfl rfl (f)) rfl rfl ?_;refine AY.op0 (.lenP rfl rfl rfl rfl te_34.h) rfl rfl ?_;refine AY.op0 (.move rfl) rfl rfl ?_;refine AY.nil ⟨by kernel_rfl,?_⟩;refine AWp.cutB (fun _:Unit=>clI p l g a b ep de vA vB gr A L 1) (fun _=>True) ?_ ?_;refine ah (ax (clI p l g a b ep de vA vB gr A L) (fun i=>1- i) (fun i=>i<=1) 0 (Nat.zero_le _) ?_ ?_);rw[clI.eq_1];exact s_x [] (fun hs=>e_9) (fun hs=>J9);intro i C;by_cases h1:i< 1;obtain rfl:i=0:=by omega
 rw[clI.eq_1]
 have d:(pE (clL p l a b))[((0:Nat):Int).toNat]?=some (qC (clC p l a b)):=by
  have:(clL p l a b).length=1:=by simp[clL]
  have:=ci (p:=clL p l a b) (i:=0) (by omega);simp[pE,clC,this]
 have m1:=da vA (gi (clC p l a b)) ok.q1;have m2:=da (vA* gi (clC p l a b)) vB ok.q2;have u:=fM 0 (vA* gi (clC p l a b) * vB) ok.q3;refine s_r 1 ?_;refine o_0 (.bin rfl rfl (vT ec (rfl))) ?_;refine ao ?_;refine ae (cT (am (ae (ah (s_r 6 ?_)))));refine a_1 ?_;refine i_x d ?_;refine l_x d ?_;refine a_z ?_;refine r_d aT 15 ?_;refine c_s (rX (clC p l a b)) ?_;refine c_s (m1) ?_;refine c_s (m2) ?_;refine c_s (u) ?_;refine a_1 ?_;refine ao (n_k ?_);refine r_m 2 ?_;refine a_z ?_;refine⟨1,by omega,by omega,?_⟩;rw[clI.eq_1];exact s_x [] (fun hs=>e_9) (fun hs=>J9);obtain rfl:i=1:=by omega
 rw[clI.eq_1];refine s_r 1 ?_;refine o_0 (.bin rfl rfl (vF ec (rfl))) ?_;refine ao ?_;refine ae (cF (aw ⟨(),trivial,?_⟩));exact s_x [] (fun hs=>e_9) (fun hs=>J9);rintro _ _;rw[clI.eq_1];refine r_m 2 ?_;refine a_z ?_;refine⟨1,by omega,by omega,?_⟩;rw[clO.eq_1];exact s_x [] (fun hs=>e_9) (fun hs=>J9);obtain rfl:j=1:=by omega
 rw[clO.eq_1];refine s_r 1 ?_;refine o_0 (.bin rfl rfl (vF ec (rfl))) ?_;refine ao ?_;refine ae (cF (aw ⟨(),trivial,?_⟩));exact s_x [] (fun hs=>e_9) (fun hs=>J9);rintro _ _;rw[clO.eq_1];have D:=xo a b h.ha h.hb;have S:=da (gi l) (b- a) ok.q4;have f:=tJ A 1 L (by rw[r,c];exact c8 _ _ _) (by decide);have t:=pO [p] (mK [p] l g a b) (by unfold mK;simp) (by simp) h2.ms;have v:=fk _ l h2.u1 h2.sl h2.u2;have n:=ma g _ h2.sg h2.v1 h.gl h2.v2;have M:pj A 1 L=mK [p] l g a b:=by rw[r,c];rfl
 rw[M] at f;have m1:=da (clW l a b) (vX p l a b vA vB) ok.q5;have u:=fM q1I (clW l a b* vX p l a b vA vB) ok.q6;have m2:=da (clW l a b) ep ok.q7;have G:=da (clW l a b* ep) (clB p l a b vA vB) ok.q8;have s1:=l8 q1I (vW p l a b vA vB ep) ok.q9;have R:=da (clW l a b* ep) vU ok.qa;have a2:=fM de (clW l a b* ep* vU) ok.qb;have N:=da (clB p l a b vA vB) (de+clW l a b* ep* vU) ok.qc;have O:=pR (clB p l a b vA vB* (de+clW l a b* ep* vU)) (D0 p l a b vA vB ep) (by have:=ok.r0;grind) ok.qd;have K:¬sgZ (D0 p l a b vA vB ep).num<=0:=by have:=sgZ_num_gt.2 ok.r0;omega
 refine ae (r_d aT 9 ?_);refine c_s (rX l) ?_;refine c_s (D) ?_;refine c_s (S) ?_;refine a_2 ?_;refine ao (n_k ?_);refine AWp.ent (st':=⟨[(7,bQ ep),(8,bQ de),(10,.lptr 1 0 0),(12,bTk [p] l g a b),(13,bSy 1 A L),(14,bSz a b gr),(17,bQ (vX p l a b vA vB)),(22,bQ (clW l a b))],[(1,some ⟨101,10,[zNe]⟩)],2,172⟩) ?_ ?_;refine s_x [(1,10)] (fun hs=>e_16) (fun hs=>?_)
 ·repeat' (first|exact aA|refine h_c ?_ ?_|exact br|refine ay ?_|exact aq|refine ak ?_ ?_|exact ai hs (cx a b)|exact ai hs (cw [p] l g a b)|exact ai hs (bq 1 A L)|exact ai hs (du a b gr)|exact ai hs (cD _)|exact ai hs (az _)|exact Cv.boxp hs rfl (aH rfl) rfl (bi _)|exact aS)
 refine ae (r_d aT 22 ?_);refine c_s (f) ?_;refine c_s (t) ?_;refine c_s (v) ?_;refine c_s (n) ?_;refine c_s (i1) ?_;refine c_s (m1) ?_;refine c_s (u) ?_;refine a_3 ?_;refine ao (n_k ?_);refine AWp.ent (st':=⟨[(7,bQ ep),(8,bQ de),(10,.lptr 1 0 0),(14,bSz a b gr),(22,bQ (clW l a b)),(23,.lptr 2 0 0)],[(1,some ⟨101,10,[zNe]⟩),(2,some ⟨101,10,[nC1 (syU [p] l g a b) (clB p l a b vA vB)]⟩)],3,172⟩) ?_ ?_;refine s_x [(1,10),(2,23)] (fun hs=>e_16) (fun hs=>?_)
 ·repeat' (first|exact aA|refine h_c ?_ ?_|exact aF hs rfl (DZ _ _)|exact br|refine ay ?_|exact aq|refine ak ?_ ?_|exact ai hs (cx a b)|exact ai hs (cw [p] l g a b)|exact ai hs (bq 1 A L)|exact ai hs (du a b gr)|exact ai hs (cD _)|exact ai hs (az _)|exact Cv.boxp hs rfl (aH rfl) rfl (bi _)|exact aS)
 refine ae (r_d aT 8 ?_);refine c_s (m2) ?_;refine c_s (G) ?_;refine a_2 ?_;refine ao (n_k ?_);refine AWp.ent (st':=⟨[(7,bQ ep),(8,bQ de),(10,.lptr 1 0 0),(14,bSz a b gr),(22,bQ (clW l a b)),(23,.lptr 2 0 0)],[(1,some ⟨101,10,[zNe]⟩),(2,some ⟨101,10,[nC2 (syU [p] l g a b) (clB p l a b vA vB) (vW p l a b vA vB ep)]⟩)],3,172⟩) ?_ ?_;exact s_x [(1,10),(2,23)] (fun hs=>e_16) (fun hs=>e_54);refine ae (r_d aT 6 ?_);refine c_s (i1) ?_;refine c_s (s1) ?_;refine a_2 ?_;refine ao (n_k ?_);refine AWp.ent (st':=⟨[(7,bQ ep),(8,bQ de),(10,.lptr 1 0 0),(14,bSz a b gr),(22,bQ (clW l a b)),(23,.lptr 2 0 0),(24,bQ (D0 p l a b vA vB ep))],[(1,some ⟨101,10,[zNe]⟩),(2,some ⟨101,10,[nC2 (syU [p] l g a b) (clB p l a b vA vB) (vW p l a b vA vB ep)]⟩)],3,172⟩) ?_ ?_;exact s_x [(1,10),(2,23)] (fun hs=>e_16) (fun hs=>e_54);refine ae (r_c 3 (cJ (D0 p l a b vA vB ep)) ?_);refine d_z ?_;refine cF (am (ae (r_d aT 17 ?_)));refine c_s (m2) ?_;refine c_s (hzU) ?_;refine c_s (R) ?_;refine c_s (a2) ?_;refine c_s (N) ?_;refine c_s (O) ?_;refine a_2 ?_;refine ao (n_k ?_);refine AWp.ent (st':=⟨[(10,.lptr 1 0 0),(23,.lptr 2 0 0)],[(1,some ⟨101,10,[zNe]⟩),(2,some ⟨101,10,[neC (syU [p] l g a b) (clB p l a b vA vB) (vW p l a b vA vB ep) (BP p l a b vA vB ep de vU)]⟩)],3,172⟩) ?_ ?_;exact s_f [(1,10),(2,23)];refine r_z 3 ?_;refine aj (Fin.many ⟨_,_,rfl,⟨_,_,_,_,_,rfl,rfl,rfl,.inl ⟨TG.h,_,TS.h,nle rfl,rfl⟩⟩,⟨_,_,rfl,rfl,rfl⟩⟩ (nle rfl) ?_);exact ak (ai aB (aD (iR _ _ _ _))) (ak (ai aB (ag _)) aq)
def itE(l:List Int):Lq->Nat->AState
 |[],i=>⟨[(0,.arr (zE l)),(3,.emp),(4,i64 i)],[],1,20⟩
 |q::Q,i=>⟨[(0,.arr (zE l)),(3,.lsl 1 0 (Q.length+1) none 3),(4,i64 i)],[(1,some ⟨48,3,pE (q::Q)⟩)],2,20⟩
theorem py(l:List Int)(i:Nat):itE l [] i=⟨[(0,.arr (zE l)),(3,.emp),(4,i64 i)],[],1,20⟩:=rfl
theorem lm(l:List Int)(q:Rat)(Q:Lq)(i:Nat):itE l (q::Q) i=⟨[(0,.arr (zE l)),(3,.lsl 1 0 (Q.length+1) none 3),(4,i64 i)],[(1,some ⟨48,3,pE (q::Q)⟩)],2,20⟩:=rfl
theorem xj(l:List Int)(hl:l.length<=1099511627776)(hb:∀n∈l,-9223372036854775808<=n/\n<=9223372036854775807):FS 25 [.arr (zE l)] (.arr (pE (zR l))):=by
 refine f_n Tryz.func25 ?_ ?_;exact ac (aG (iO l)) af;refine r_z 1 ?_;refine r_z 1 ?_;refine ae (r_z 1 ?_);refine aC (fun _:Unit=>itE l (zR l) l.length) (fun _=>True) ?_ ?_;refine ah (ax (fun i:Nat=>itE l (zR (l.take i)) i) (fun i=>l.length- i) (fun i=>i<=l.length) 0 (Nat.zero_le _) ?_ ?_);show SEnt _ (itE l [] 0);rw[py];have:=(aG (iO l));exact s_f [];rintro i k;have j:(zE l).length=l.length:=by simp[zE]
 by_cases hlt:i< l.length
 ·obtain⟨n,g⟩:∃n,l[i]?=some n:=⟨_,List.getElem?_eq_getElem hlt⟩
  have a:(zE l)[((i:Nat):Int).toNat]?=some [i64 n]:=by
   show(zE l)[i]?=_;simp[zE,g]
  have c:=hb n (List.mem_of_getElem? g);have d:zR (l.take (i+1))=zR (l.take i)++[(n:Rat)]:=by rw[cm g];simp[zR]
  have b:(zR (l.take i)).length=i:=by simp[zR];omega
  cases hQ:zR (l.take i) with
  |nil=>
   simp only[py];refine ae (r_z 4 ?_);refine ap rfl (fun h=>?_) (fun h=>?_);rotate_left;exact absurd h (by simp[zE];omega);refine am (ae (ah (r_m 9 ?_)));refine a_3 ?_;refine i_x a ?_;refine l_1 a ?_;refine c_s (ei n c) ?_;refine a_z ?_;refine r_m 3 ?_;refine a_z ?_;refine⟨i+1,by omega,hlt,?_⟩;simp only[d,hQ,List.nil_append,lm];have:=(aG (iO l));have:=(aP [(n:Rat)]);exact s_f [(1,3)]
  |cons q Q=>
   rw[hQ] at b;simp at b;simp only[lm];refine ae (r_z 4 ?_);refine ap rfl (fun h=>?_) (fun h=>?_);rotate_left;exact absurd h (by simp[zE];omega);refine am (ae (ah (r_m 9 ?_)));refine a_3 ?_;refine i_x a ?_;refine l_1 a ?_;refine c_s (ei n c) ?_;refine a_z ?_;refine r_m 3 ?_;refine a_z ?_;refine⟨i+1,by omega,hlt,?_⟩;simp only[d,hQ,List.cons_append,lm];have e:pE (q::Q)++[qC (n:Rat)]=pE (q::(Q++[(n:Rat)])):=by simp[pE]
   refine s_x [(1,3)] (fun hs=>?_) (fun hs=>?_) e_2
   ·repeat' (first|exact aI|refine au rfl ?_ ?_|exact ai hs (aG (iO l))|exact aS)
   ·repeat' (first|exact aA|refine h_c ?_ ?_|exact aF hs e (aP _)|exact br|refine ay ?_|exact aq|refine ak ?_ ?_|exact ai hs (aG (iO l))|exact aS)
 have f:i=l.length:=by omega
 subst f;simp only[List.take_length];cases hQ:zR l with
 |nil=>
  simp only[py];refine ae (r_z 4 ?_);refine ap rfl (fun h=>?_) (fun h=>?_);exact absurd h (by simp[zE]);refine aw ⟨(),trivial,?_⟩;simp only[hQ,py];have:=(aG (iO l));exact s_f []
 |cons q Q=>
  simp only[lm];refine ae (r_z 4 ?_);refine ap rfl (fun h=>?_) (fun h=>?_);exact absurd h (by simp[zE]);refine aw ⟨(),trivial,?_⟩;simp only[hQ,lm];have:=(aG (iO l));exact s_f []
 rintro _ _;cases hQ:zR l with
 |nil=>
  simp only[py];refine r_z 2 ?_;exact aj (Fin.tmpN rfl)
 |cons q Q=>
  simp only[lm];refine r_z 2 ?_;exact aj (Fin.tmpS rfl rfl rfl (by simp) (aP _))
abbrev x1W:Lq:=zR [0,1]
abbrev p1W:Lq×Lq:=(x1W,x1W)
abbrev o1W:Lq:=zR [1]
abbrev p2W:Lq×Lq:=(o1W,o1W)
abbrev q3I:Rat:=((3:Int):Rat)
abbrev tnW:Rat:=((1:Int):Rat) / ((10:Int):Rat)
theorem wk_ma:OkMa [p1W] 0 q1I:=⟨by decide,fun p hp q a=>by
 rw[List.mem_singleton.1 hp,List.mem_singleton.1 a];exact⟨by decide+kernel,⟨by decide+kernel,by decide+kernel,by decide+kernel,by decide+kernel,by decide+kernel⟩⟩⟩
theorem wk_sy(l:Rat)(hl:qs l<=2):OkSy [p1W] l 0 q1I 100:=⟨wk_ma,fun i j b a=>by
 obtain rfl:i=0:=by simpa using b
 obtain rfl:j=0:=by simpa using a
 have:qs (maK [p1W] 0 q1I 0 0)<=10:=by decide+kernel
 omega,by decide⟩
theorem Er(l:Rat)(hl:qs l<=2):OkTa [p1W] l x1W 0 q1I 100:=⟨wW (by decide) (fun p hp=>by rw[List.mem_singleton.1 hp];decide),by decide+kernel,by decide+kernel,by decide+kernel,by decide+kernel,by decide,wk_sy l hl,fun p hp=>by
 rw[List.mem_singleton.1 hp];exact⟨by decide+kernel,⟨by decide+kernel,by decide+kernel,by decide+kernel,by decide+kernel,by decide+kernel⟩,by decide+kernel⟩⟩
theorem wk_su:OkSu [p1W] q1I x1W 0 q1I:=⟨fun i p hp=>by
 have a:=(List.getElem?_eq_some_iff.1 hp).1;obtain rfl:i=0:=by simpa using a
 cases hp;exact⟨by decide+kernel,by decide+kernel,by decide+kernel,by decide+kernel,by decide+kernel,by decide+kernel,by decide+kernel⟩,by decide+kernel,by decide+kernel,by decide+kernel,by decide+kernel,by decide+kernel,by decide+kernel⟩
theorem wk_1:(syM [p1W] q1I (rhK [p1W] x1W 0 q1I) 0 q1I).2=[0]/\eA 1 (syM [p1W] q1I (rhK [p1W] x1W 0 q1I) 0 q1I).1 (syM [p1W] q1I (rhK [p1W] x1W 0 q1I) 0 q1I).2=false:=by decide+kernel
theorem wk_3:eA 1 (syM [p1W] q3I (rhK [p1W] x1W 0 q1I) 0 q1I).1 (syM [p1W] q3I (rhK [p1W] x1W 0 q1I) 0 q1I).2=true:=by decide+kernel
theorem wk_r:yw 40 40 x1W (0,q1I) 0=some (0,1)/\yw 40 40 (syU [p1W] q1I x1W 0 q1I) (0,q1I) 0=some (0,2)/\Ee (0,1)=1/\Ee (0,2)=2:=by decide+kernel
theorem wk_cl:OkCl p1W q1I x1W 0 q1I tnW 0 1 1 2:=⟨by decide+kernel,by decide+kernel,by decide+kernel,by decide+kernel,by decide+kernel,by decide+kernel,by decide+kernel,by decide+kernel,by decide+kernel,by decide+kernel,by decide+kernel,by decide+kernel,by decide+kernel,by decide+kernel,by decide+kernel,by decide+kernel⟩
theorem wk_t1:Ey (ar (deV (trQ (maK [p1W] 0 q1I) 1)))=[45,49,47,51,32,120,32,43,32,49]/\IV (ar (deV (trQ (maK [p1W] 0 q1I) 1))):=by decide+kernel
theorem wk_t2:Ey (ar (syU [p1W] q1I x1W 0 q1I))=[51,47,50,32,120]/\IV (ar (syU [p1W] q1I x1W 0 q1I)):=by decide+kernel
theorem wk_t3:Ey (seK (mvK 0 [p2W]) (cb [0,1] o1W) q1I 3 4)=[49,47,54,32,120,94,51,32,43,32,49,47,50,32,120,94,50,32,43,32,120,32,43,32,49]/\IV (seK (mvK 0 [p2W]) (cb [0,1] o1W) q1I 3 4):=by decide+kernel
theorem wk_t4:mu (BP p1W q1I 0 q1I 1 1 tnW 0 2)=[50,47,51]/\okT (BP p1W q1I 0 q1I 1 1 tnW 0 2)/\mu (clB p1W q1I 0 q1I 1 1)=[53,47,50]/\okT (clB p1W q1I 0 q1I 1 1):=by decide+kernel
theorem sp_01:([.arr [],bln false,.arr []]:La)++qC q1I=spC 0 q1I:=by unfold spC;rw[qC0]
theorem wk_i2:FS 25 [.arr (zE [0,1])] (.arr (pE x1W)):=xj [0,1] (by decide) (by decide)
theorem wk_i1:FS 25 [.arr (zE [1])] (.arr (pE o1W)):=xj [1] (by decide) (by decide)
theorem wk_det:FS 27 [.arr (kE [p1W]),.agg (spC 0 q1I)] (.tup [.arr (pE (ar (deV (trQ (maK [p1W] 0 q1I) 1)))),i64 0]):=
 fs_Det1 p1W 0 q1I (Er q1I (by decide)).ke (by decide+kernel) (by decide+kernel) (by decide+kernel) wk_ma (by decide+kernel)
theorem wk_so:FS 12 [.agg (eqC [p1W] q1I x1W),.agg (spC 0 q1I)] (.tup [.arr (pE (ar (syU [p1W] q1I x1W 0 q1I))),.arr (mE []),i64 0]):=
 GX [p1W] q1I x1W 0 q1I 100 (Er q1I (by decide)) wk_su (fun f a=>by
  obtain rfl:f=0:=by simpa using a
  show(syM [p1W] q1I (rhK [p1W] x1W 0 q1I) 0 q1I).2.contains 0=true;rw[wk_1.1];rfl) wk_1.2 (by decide+kernel)
theorem wk_sv:FS 12 [.agg (eqC [p1W] q3I x1W),.agg (spC 0 q1I)] (.tup [.arr (pE []),.arr (mE []),i64 12]):=
 xn [p1W] q3I x1W 0 q1I 100 (Er q3I (by decide)) wk_3
theorem wk_cs:FS 29 [.agg (eqC [p1W] q1I x1W),.agg (spC 0 q1I),.agg (qC tnW),.agg (qC 0),i64 0] (.tup [.agg (neC (syU [p1W] q1I x1W 0 q1I) (clB p1W q1I 0 q1I 1 1) (vW p1W q1I 0 q1I 1 1 tnW) (BP p1W q1I 0 q1I 1 1 tnW 0 2)),i64 0]):=by
 obtain⟨c,a,b,a2⟩:=wk_r;have s1:=Bc x1W 0 q1I 0 (0,1) (Bp 40 40 x1W (0,q1I) 0 _ c (by decide)) (by decide+kernel) (by decide+kernel);have s2:=Bc (syU [p1W] q1I x1W 0 q1I) 0 q1I 0 (0,2) (Bp 40 40 _ (0,q1I) 0 _ a (by decide)) (by decide+kernel) (by decide+kernel);rw[b] at s1;rw[a2] at s2;exact Ha p1W q1I x1W 0 q1I tnW 0 1 1 2 0 100 (Er q1I (by decide)) wk_su (by decide) (by rw[wk_1.1];rfl) wk_cl s1 s1 s2
theorem wk_se:FS 30 [.agg (eqC [p2W] q1I o1W),.agg (qC 0),i64 3] (.tup [.arr (pE (seK (mvK 0 [p2W]) (cb [0,1] o1W) q1I 3 4)),i64 0]):=
 GZ [p2W] q1I o1W 0 3 (by decide) (Hn (by decide) (by decide) (fun p hp=>by rw[List.mem_singleton.1 hp];decide) (fun p hp=>by rw[List.mem_singleton.1 hp];decide+kernel) (by decide) (by decide+kernel) (by decide) (by decide))
theorem wk_cb:∀c∈([.arr [],bln false,.arr []]:La)++qC q1I,Closed c:=by rw[sp_01];exact bh 0 q1I
theorem Dg:FS 7 [] (.v (.bool true)):=by
 have i2:=wk_i2;have i1:=wk_i1;have g:=wk_det;have d:=wk_so;have b:=wk_sv;have a:=wk_cs;have c:=wk_se;rw[<-sp_01] at g d b a;rw[qC0] at a c;have f:=ei 1 (by decide);have i:=ei 3 (by decide);have e:=fs_Of 1 10 (by decide) (by decide) (by decide);have t1:=vu _ wk_t1.2;rw[wk_t1.1] at t1;have t2:=vu _ wk_t2.2;rw[wk_t2.1] at t2;have t3:=vu _ wk_t3.2;rw[wk_t3.1] at t3;have t4:=vr _ wk_t4.2.1;rw[wk_t4.1] at t4;have t5:=vr _ wk_t4.2.2.2;rw[wk_t4.2.2.1] at t5;refine f_c Tryz.func7 ?_;refine r_z 1 ?_;refine s_r 7 ?_;refine a_1 ?_;refine o_1 (.callS1 rfl rfl rfl (.shut rfl d_n (.nil)) rfl (i2)) ?_;refine a_1 ?_;refine o_1 (.callS1 rfl rfl rfl (.shut rfl d_n (.nil)) rfl (i2)) ?_;refine a_z ?_;refine AWp.ent (st':=⟨[(1,.arr (kE [p1W]))],[],1,130⟩) ?_ ?_;refine s_x [] (fun hs=>?_) (fun hs=>?_)
 ·repeat' (first|exact aI|refine au rfl ?_ ?_|(refine Cv.shut hs rfl (aH rfl) (nle rfl) ?_;exact aF hs rfl (dW [p1W]))|exact aS)
 ·repeat' (first|exact aA|refine h_c ?_ ?_|exact br|refine ay ?_|exact aq|refine ak ?_ ?_|(refine Cv.shut hs rfl (aH rfl) (nle rfl) ?_;exact aF hs rfl (dW [p1W]))|exact aS)
 refine r_c 4 (f) ?_;refine a_z ?_;refine AWp.ent (st':=⟨[(1,.arr (kE [p1W])),(2,.lptr 1 0 0)],[(1,some ⟨50,6,[[.arr [],bln false,.arr []]++qC q1I]⟩)],2,130⟩) ?_ ?_;refine s_x [(1,2)] (fun hs=>?_) (fun hs=>?_)
 ·repeat' (first|exact aI|refine au rfl ?_ ?_|exact ai hs (aN [p1W])|exact aS)
 ·repeat' (first|exact aA|refine h_c ?_ ?_|exact CvLL.cons (ak (Cv.emp _) (ak (ai hs (ag _)) (ak (Cv.emp _) (CvL.clo hs (bi q1I))))) CvLL.nil|exact br|refine ay ?_|exact aq|refine ak ?_ ?_|exact ai hs (aN [p1W])|exact aS)
 refine AWp.ent (st':=⟨[(1,.arr (kE [p1W])),(2,.aptr [[.arr [],bln false,.arr []]++qC q1I] 0 0)],[],1,130⟩) ?_ ?_;refine s_x [] (fun hs=>?_) (fun hs=>?_)
 ·repeat' (first|exact aI|refine au rfl ?_ ?_|exact ai hs (aN [p1W])|exact Cv.boxp hs rfl (aH rfl) rfl wk_cb|exact aS)
 ·repeat' (first|exact aA|refine h_c ?_ ?_|exact br|refine ay ?_|exact aq|refine ak ?_ ?_|exact ai hs (aN [p1W])|exact Cv.boxp hs rfl (aH rfl) rfl wk_cb|exact aS)
 refine r_c 8 (g) ?_;refine a_z ?_;refine r_c 7 (f) ?_;refine a_1 ?_;refine o_1 (.callS1 rfl rfl rfl (.shut rfl d_n (.nil)) rfl (i2)) ?_;refine a_z ?_;refine r_c 10 (d) ?_;refine a_z ?_;refine r_c 7 (e) ?_;refine a_z ?_;refine r_c 11 (a) ?_;refine a_z ?_;refine r_c 3 (i) ?_;refine a_z ?_;refine r_c 10 (b) ?_;refine a_z ?_;refine AWp.ent (st':=⟨[(3,.arr (pE (ar (deV (trQ (maK [p1W] 0 q1I) 1))))),(4,i64 0),(6,.arr (pE (ar (syU [p1W] q1I x1W 0 q1I)))),(7,.arr (mE [])),(8,i64 0),(11,.aptr [neC (syU [p1W] q1I x1W 0 q1I) (clB p1W q1I 0 q1I 1 1) (vW p1W q1I 0 q1I 1 1 tnW) (BP p1W q1I 0 q1I 1 1 tnW 0 2)] 0 0),(12,i64 0),(15,i64 12)],[],1,130⟩) ?_ ?_;refine s_x [] (fun hs=>?_) (fun hs=>?_)
 ·repeat' (first|exact aI|refine au rfl ?_ ?_|exact ai hs (az _)|exact ai hs (closed_mA _)|exact Cv.boxp hs rfl (aH rfl) rfl (iR _ _ _ _)|exact aS)
 ·repeat' (first|exact aA|refine h_c ?_ ?_|exact br|refine ay ?_|exact aq|refine ak ?_ ?_|exact ai hs (az _)|exact ai hs (closed_mA _)|exact Cv.boxp hs rfl (aH rfl) rfl (iR _ _ _ _)|exact aS)
 have j:=c.xs (DW (ac (az _) (ac (ag _) af)));refine ae (AWp.regX (fr2:=[(75,.agg (eqC [p2W] q1I o1W)),(76,.agg [.arr [],bln false,.arr []]),(3,.arr (pE (ar (deV (trQ (maK [p1W] 0 q1I) 1))))),(4,i64 0),(6,.arr (pE (ar (syU [p1W] q1I x1W 0 q1I)))),(7,.arr (mE [])),(8,i64 0),(11,.aptr [neC (syU [p1W] q1I x1W 0 q1I) (clB p1W q1I 0 q1I 1 1) (vW p1W q1I 0 q1I 1 1 tnW) (BP p1W q1I 0 q1I 1 1 tnW 0 2)] 0 0),(12,i64 0),(15,i64 12)]) (hp2:=[]) (nx2:=1) (fr3:=[(3,.arr (pE (ar (deV (trQ (maK [p1W] 0 q1I) 1))))),(4,i64 0),(6,.arr (pE (ar (syU [p1W] q1I x1W 0 q1I)))),(7,.arr (mE [])),(8,i64 0),(11,.aptr [neC (syU [p1W] q1I x1W 0 q1I) (clB p1W q1I 0 q1I 1 1) (vW p1W q1I 0 q1I 1 1 tnW) (BP p1W q1I 0 q1I 1 1 tnW 0 2)] 0 0),(12,i64 0),(15,i64 12)]) 11 rfl rfl rfl rfl rfl rfl ?_ rfl rfl rfl j (keepF ?_) (loF rfl) ?_)
 ·refine o_1 (.buildSlice te_138.h TZ.h rfl (by decide) rfl rfl rfl (by first|(simp;done)|(simp[b7,ofV];done)|rfl)) ?_
  refine o_1 (.callS1 rfl rfl rfl (.shut rfl d_n (.nil)) rfl (i1)) ?_;refine o_1 (.buildSlice te_138.h TZ.h rfl (by decide) rfl rfl rfl (by first|(simp;done)|(simp[b7,ofV];done)|rfl)) ?_;refine o_1 (.callS1 rfl rfl rfl (.shut rfl d_n (.nil)) rfl (i1)) ?_;refine o_0 (.build TZ.h tp_91.h rfl rfl) ?_;refine o_1 (.buildSlice te_29.h TZ.h rfl (by decide) rfl rfl rfl (by first|(simp;done)|(simp[b7,ofV];done)|rfl)) ?_;refine o_0 (.call rfl rfl rfl (f)) ?_;refine o_1 (.buildSlice te_138.h TZ.h rfl (by decide) rfl rfl rfl (by first|(simp;done)|(simp[b7,ofV];done)|rfl)) ?_;refine o_1 (.callS1 rfl rfl rfl (.shut rfl d_n (.nil)) rfl (i1)) ?_;refine o_0 (.build TZ.h tp_65.h rfl rfl) ?_;refine o_0 (.build TZ.h tp_48.h rfl rfl) ?_;refine ao ?_;refine s_y [] (fun hs=>?_) (fun hs=>?_)
  ·repeat' (first|exact aI|refine au rfl ?_ ?_|exact ai hs (az _)|exact ai hs (closed_mA _)|exact ai hs (aU (iR _ _ _ _))|exact Cv.agg (ak (Cv.shut hs rfl (aH rfl) (nle rfl) (aF hs rfl (dW [p2W]))) (CvL.clo hs (cj (bi q1I) (ac (az o1W) af))))|exact Cv.agg (ak (Cv.emp _) (ak (ai hs (ag _)) (ak (Cv.emp _) aq)))|exact aS)
  ·repeat' (first|exact aA|refine h_c ?_ ?_|exact br|refine ay ?_|exact aq|refine ak ?_ ?_|exact ai hs (az _)|exact ai hs (closed_mA _)|exact ai hs (aU (iR _ _ _ _))|exact Cv.agg (ak (Cv.shut hs rfl (aH rfl) (nle rfl) (aF hs rfl (dW [p2W]))) (CvL.clo hs (cj (bi q1I) (ac (az o1W) af))))|exact Cv.agg (ak (Cv.emp _) (ak (ai hs (ag _)) (ak (Cv.emp _) aq)))|exact aS)
 intro p hp;rcases List.mem_cons.1 hp with rfl|hp
 exact⟨rfl,az _⟩;rcases List.mem_cons.1 hp with rfl|hp
 exact⟨rfl,ag _⟩;rcases List.mem_cons.1 hp with rfl|hp
 exact⟨rfl,az _⟩;rcases List.mem_cons.1 hp with rfl|hp
 exact⟨rfl,closed_mA _⟩;rcases List.mem_cons.1 hp with rfl|hp
 exact⟨rfl,ag _⟩;rcases List.mem_cons.1 hp with rfl|hp
 exact⟨rfl,aU (iR _ _ _ _)⟩;rcases List.mem_cons.1 hp with rfl|hp
 exact⟨rfl,ag _⟩;rcases List.mem_cons.1 hp with rfl|hp
 exact⟨rfl,ag _⟩;cases hp;refine o_0 (.move rfl) ?_;refine o_0 (.extract rfl rfl) ?_;refine o_0 (.extract rfl rfl) ?_;refine o_0 (.assign rfl) ?_;refine o_0 (.assign rfl) ?_;refine ao ?_;refine s_r 51 ?_;refine a_1 ?_;refine o_0 (.bin rfl rfl (vT bv (rfl))) ?_;refine e_s (t1) ?_;refine aW rfl rfl rfl (.bin rfl rfl (vT jk rfl)) rfl rfl ?_;refine d_3 ?_;refine aW rfl rfl rfl (.bin rfl rfl (vT bv (rfl))) rfl rfl ?_;refine e_s (t2) ?_;refine aW rfl rfl rfl (.bin rfl rfl (vT jk rfl)) rfl rfl ?_;refine d_4 ?_;refine aW rfl rfl rfl (.bin rfl rfl (vT bv (rfl))) rfl rfl ?_;refine d_3 ?_;refine aW rfl rfl rfl (.bin rfl rfl (vT bv (rfl))) rfl rfl ?_;refine e_s (t4) ?_;refine aW rfl rfl rfl (.bin rfl rfl (vT jk rfl)) rfl rfl ?_;refine e_s (t5) ?_;refine aW rfl rfl rfl (.bin rfl rfl (vT jk rfl)) rfl rfl ?_;refine d_3 ?_;refine aW rfl rfl rfl (.bin rfl rfl (vT bv (rfl))) rfl rfl ?_;refine d_3 ?_;refine aW rfl rfl rfl (.bin rfl rfl (vT bv (rfl))) rfl rfl ?_;refine e_s (t3) ?_;refine aW rfl rfl rfl (.bin rfl rfl (vT jk rfl)) rfl rfl ?_;refine a_z ?_;exact aj (t_e (ag _))
theorem Jb(l:List iu)(ho:∀t∈l,AG t)(hl:l.length<=9223372036854775807):∃k1 k2 b,FS 4 [.arr (twR l)] (.tup [k1,k2,bln b])/\Closed k1/\Closed k2/\(b=true->k1= .arr (kE (keM l))/\k2= .arr (keR (keM l))/\tg l=true):=by
 have h:=DC l ho hl;unfold keV at h;cases e:tg l with
 |true=>rw[e] at h;exact⟨_,_,true,h,aN _,b5 _,fun _=>⟨rfl,rfl,rfl⟩⟩
 |false=>rw[e] at h;exact⟨_,_,false,h,aN _,b5 _,fun h=>by cases h⟩
theorem Io(l:List fV)(ho:okR l)(hl:l.length<=9223372036854775807):∃k1 k2 b,FS 5 [.arr (nR l)] (.tup [k1,k2,bln b])/\Closed k1/\Closed k2/\(b=true->k1= .arr (pE (nL l))/\k2= .arr (rE (rP (nL l)))/\l.length<=40/\(fC l 5=true\/20< a8 (nL l))):=by
 have h:=G1 l ho hl;by_cases e:40< l.length;rw[if_pos e] at h;exact⟨_,_,false,h,az _,aY _,fun h=>by cases h⟩;rw[if_neg e] at h;exact⟨_,_,_,h,az _,aY _,fun h=>⟨rfl,rfl,by omega,by simpa using h⟩⟩
theorem Ja{l:List iu}(ho:∀t∈l,AG t)(h:tg l=true):(keM l).length<=1000/\(∀p∈keM l,p.1.length<=30/\p.2.length<=30)/\(vaB (keM l)=true->(keM l).length<=3/\(∀p∈keM l,p.1.length<=4/\p.2.length<=4)/\∀p∈keM l,bdL p.1 20/\bdL p.2 20):=by
 unfold tg at h;rw[Bool.and_eq_true,List.all_eq_true] at h;obtain⟨f,i⟩:=h
 have g:l.length<=12/\(3< l.length->8< l.length):=by
  unfold w9 at f;simp only[Bool.not_eq_true',Bool.or_eq_false_iff,Bool.and_eq_false_iff,decide_eq_false_iff_not] at f;omega
 have hp:∀p∈keM l,∃t∈l,p=(nL t.1,nL t.2):=fun p hp=>by
  obtain⟨t,a,e⟩:=List.mem_map.1 hp;exact⟨t,a,e.symm⟩
 have hs:∀t∈l,t.1.length<=30/\t.2.length<=30/\fD t.1=true/\fD t.2=true:=fun t a=>by
  have d:=i t a;unfold iF w8 at d;simp only[Bool.and_eq_true,Bool.not_eq_true',Bool.or_eq_false_iff,decide_eq_false_iff_not] at d;exact⟨by omega,by omega,d.2.1,d.2.2⟩
 refine⟨by rw[fJ];omega,fun p c=>?_,fun hv=>?_⟩;obtain⟨t,a,rfl⟩:=hp p c;obtain⟨m,a2,_,_⟩:=hs t a;exact⟨by simpa[nL] using m,by simpa[nL] using a2⟩;unfold vaB at hv;simp only[Bool.and_eq_true,Bool.not_eq_true',decide_eq_true_eq] at hv;obtain⟨v1,v2⟩:=hv;rw[fJ] at v2
 have hb:∀t∈l,(bdL (nL t.1) 20/\(nL t.1).length<=4)/\bdL (nL t.2) 20/\(nL t.2).length<=4:=fun t a=>by
  obtain⟨_,_,a3,a4⟩:=hs t a
  have b:sx (nL t.1,nL t.2)=false:=by
   have:=List.any_eq_false.1 v1 (nL t.1,nL t.2) (List.mem_map.2 ⟨t,a,rfl⟩);simpa using this
  unfold sx at b;rw[Bool.or_eq_false_iff] at b;unfold fD at a3 a4
  have k:fC t.1 4=true:=by
   rw[Bool.or_eq_true] at a3;rcases a3 with a3|a3
   exact a3;rw[b.1] at a3;cases a3
  have j:fC t.2 4=true:=by
   rw[Bool.or_eq_true] at a4;rcases a4 with a4|a4
   exact a4;rw[b.2] at a4;cases a4
  exact⟨oY k (ho t a).1.1,oY j (ho t a).1.2⟩
 refine⟨by rw[fJ];omega,fun p c=>?_,fun p c=>?_⟩;obtain⟨t,a,rfl⟩:=hp p c;exact⟨(hb t a).1.2,(hb t a).2.2⟩;obtain⟨t,a,rfl⟩:=hp p c;exact⟨(hb t a).1.1,(hb t a).2.1⟩
def bNu(r:fV):AV:= .aptr [nuC r.1 r.2.1 r.2.2] 0 0
theorem lI(r:fV):∀c∈nuC r.1 r.2.1 r.2.2,Closed c:=ac (ag _) (ac (ag _) (ac (ag _) af))


theorem xM{r:Ren}{hp hp':Hq}{x y:La}(h:CvL r hp hp' x y):∀{xs ys:Lc},CvLL r hp hp' xs ys->CvLL r hp hp' (xs++[x]) (ys++[y])
 |[],ys,h'=>by cases (h':ys=[]);exact ay h
 |a::xs,ys,⟨b,ys',e,h1,h2⟩=>by
  subst e;exact CvLL.cons h1 (xM h h2)
theorem KU{r:Ren}{hp hp':Hq}{xs ys zs:Lc}(h:CvLL r hp hp' xs ys)(e:ys=zs):CvLL r hp hp' xs zs:=e▸h
structure TmK (k:Ke):Prop where
 l:k.length<=3
 n:∀p∈k,p.1.length<=4/\p.2.length<=4
 b:∀p∈k,bdL p.1 20/\bdL p.2 20

theorem Dl(a b:Rat)(ha:qs a<=20)(hb:qs b<=20):FS 15 [.agg (rC (rq a)++rC (rq b))] (bln (decide (a<=b))):=by
 have d:=Fy (rq a) (rq b) (cK _) (cK _) (by show qs a+qs b<=_;omega);have f:∀c∈rC (rq a)++rC (rq b),Closed c:=fun c d=>(List.mem_append.1 d).elim (b6 _ c) (b6 _ c)
 have e:(decide (fl a b<=0))=decide (a<=b):=by
  unfold fl;by_cases h1:a< b;rw[if_pos h1,decide_eq_true (show a<=b by grind)];rfl;rw[if_neg h1];by_cases h2:a=b;rw[if_pos h2,decide_eq_true (show a<=b by grind)];rfl;rw[if_neg h2,decide_eq_false (show¬a<=b by grind)];rfl
 rw[<-e];refine f_c Tryz.func15 ?_;refine r_z 2 ?_;refine r_c 7 (d) ?_;refine a_z ?_;exact aj (t_e (ag _))
end Go.Proofs.YtiodeiecpoopgaaGreatDoor
