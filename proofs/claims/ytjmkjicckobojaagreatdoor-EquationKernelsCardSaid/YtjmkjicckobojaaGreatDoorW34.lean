/- Part W34 of the proof. -/
import Derived.Test.YtjmkjicckobojaaGreatDoorW33
import Derived.ChangeSame
import Derived.ProofKit
import Derived.OpenShut
import Derived.Carry
import Derived.Deep.Slices
import Derived.Deep.Strs
import Derived.ChangeArms
set_option linter.all false
namespace Go.Proofs.YtjmkjicckobojaaGreatDoor
open Go.Abs
set_option maxRecDepth 100000
set_option maxHeartbeats 4000000
abbrev q1I:Rat:=((1:Int):Rat)
def clL(p:Lq×Lq)(l a b:Rat):Lq:=z7 (syM [p] l [q1I] a b).1 1 (syM [p] l [q1I] a b).2
def clC(p:Lq×Lq)(l a b:Rat):Rat:=coP (clL p l a b) 0
def xp(p:Lq×Lq)(l a b vA vB:Rat):Rat:=0+vA* eH (clC p l a b) * vB
def clW(l a b:Rat):Rat:=eH l* (b- a)
def clB(p:Lq×Lq)(l a b vA vB:Rat):Rat:=q1I+clW l a b* xp p l a b vA vB
def xo(p:Lq×Lq)(l a b vA vB ep:Rat):Rat:=clW l a b* ep* clB p l a b vA vB
def E2(p:Lq×Lq)(l a b vA vB ep:Rat):Rat:=q1I- xo p l a b vA vB ep
def CV(p:Lq×Lq)(l a b vA vB ep de vU:Rat):Rat:=clB p l a b vA vB* (de+clW l a b* ep* vU) / E2 p l a b vA vB ep
def mxQ:Nat:=549755813888
structure OkCl (p:Lq×Lq)(l:Rat)(g:Lq)(a b ep de vA vB vU:Rat):Prop where
 e0:0<=ep
 d0:0<=de
 q1:qs vA+qs (eH (clC p l a b))<=mxQ
 q2:qs (vA* eH (clC p l a b))+qs vB<=mxQ
 q3:qs 0+qs (vA* eH (clC p l a b) * vB)<=mxQ
 q4:qs (eH l)+qs (b- a)<=mxQ
 q5:qs (clW l a b)+qs (xp p l a b vA vB)<=mxQ
 q6:qs q1I+qs (clW l a b* xp p l a b vA vB)<=mxQ
 q7:qs (clW l a b)+qs ep<=mxQ
 q8:qs (clW l a b* ep)+qs (clB p l a b vA vB)<=mxQ
 q9:qs q1I+qs (xo p l a b vA vB ep)<=mxQ
 r0:0< E2 p l a b vA vB ep
 qa:qs (clW l a b* ep)+qs vU<=mxQ
 qb:qs de+qs (clW l a b* ep* vU)<=mxQ
 qc:qs (clB p l a b vA vB)+qs (de+clW l a b* ep* vU)<=mxQ
 qd:qs (clB p l a b vA vB* (de+clW l a b* ep* vU))+qs (E2 p l a b vA vB ep)<=mxQ
def neC(U:Lq)(bo sh ra:Rat):La:= .arr (pE U)::(qC bo++(qC sh++qC ra))
theorem jx(U:Lq)(bo sh ra:Rat):∀c∈neC U bo sh ra,Closed c:=ae (aD U) (dI (bC bo) (dI (bC sh) (bC ra)))
def nC1(U:Lq)(bo:Rat):La:= .arr (pE U)::(qC bo++(zC++zC))
theorem E1(U:Lq)(bo:Rat):∀e∈[nC1 U bo],∀c∈e,Closed c:=λe a=>by
 rw[List.mem_singleton.1 a];exact ae (aD U) (dI (bC bo) (dI pi pi))
def nC2(U:Lq)(bo sh:Rat):La:= .arr (pE U)::(qC bo++(qC sh++zC))
theorem E0(U:Lq)(bo sh:Rat):∀e∈[nC2 U bo sh],∀c∈e,Closed c:=λe a=>by
 rw[List.mem_singleton.1 a];exact ae (aD U) (dI (bC bo) (dI (bC sh) pi))
def zNe:La:=[.emp,.emp,bln false,.emp,.emp,bln false,.emp,.emp,bln false,.emp]
def clV(x y:Rat):Nat->Rat
 |0=>x
 |_+1=>y
def clO(p:Lq×Lq)(l:Rat)(g:Lq)(a b ep de vA vB:Rat)(gr:Int)(A:Mx)(L:Ln):Nat->AState
 |j=>⟨[(6,bSp a b),(7,bQ ep),(8,bQ de),(10,.lptr 1 0 0),(12,bTk [p] l g a b),(13,bSy 1 A L),(14,bSz a b gr),(15,.arr (pE [vA])),(16,.arr (pE [vB])),(17,.lptr 2 0 0),(67,i64 1),(68,i64 j)],[(1,some ⟨121,10,[zNe]⟩),(2,some ⟨42,3,[qC (clV 0 (xp p l a b vA vB) j)]⟩)],3,172⟩
def clI(p:Lq×Lq)(l:Rat)(g:Lq)(a b ep de vA vB:Rat)(gr:Int)(A:Mx)(L:Ln):Nat->AState
 |i=>⟨[(6,bSp a b),(7,bQ ep),(8,bQ de),(10,.lptr 1 0 0),(12,bTk [p] l g a b),(13,bSy 1 A L),(14,bSz a b gr),(15,.arr (pE [vA])),(16,.arr (pE [vB])),(17,.lptr 2 0 0),(67,i64 1),(68,i64 0),(18,i64 0),(90,.arr (pE (clL p l a b))),(91,i64 1),(92,i64 i)],[(1,some ⟨121,10,[zNe]⟩),(2,some ⟨42,3,[qC (clV 0 (xp p l a b vA vB) i)]⟩)],3,172⟩
theorem Ig (p:Lq×Lq) (l:Rat) (g:Lq) (a b ep de vA vB vU:Rat) (gr:Int) (s:Nat) (h:OkTa [p] l g a b s) (h2:OkSu [p] l g a b) (hs1:1<=s) (hL:(syM [p] l (rhK [p] g a b) a b).2.length=1) (ok:OkCl p l g a b ep de vA vB vU)
    (hzA:FS 117 [.agg (spC a b++[i64 gr]),.arr (pE p.1)] (.agg (qC vA))) (hzB:FS 117 [.agg (spC a b++[i64 gr]),.arr (pE p.2)] (.agg (qC vB))) (hzU:FS 117 [.agg (spC a b++[i64 gr]),.arr (pE (syU [p] l g a b))] (.agg (qC vU))):
    FS 44 [.agg (eqC [p] l g),.agg (spC a b),.agg (qC ep),.agg (qC de),i64 gr] (.tup [.agg (neC (syU [p] l g a b) (clB p l a b vA vB) (xo p l a b vA vB ep) (CV p l a b vA vB ep de vU)),i64 0]):=by
 have J:=kg [p] l g a b h.ke h.ha h.hb h.ab h.dg h.gl;have hs:=tA [p] l g a b s h.sy h.rh;have H:¬sgZ ep.num< 0:=λe=>by have:=sgZ_num_lt.1 e;have:=ok.e0;grind
 have Q:¬sgZ de.num< 0:=λe=>by have:=sgZ_num_lt.1 e;have:=ok.d0;grind
 have k:=wU [p] 119 [bSz a b gr] (λ_=>vA) (ae (dZ a b gr) af) ψ λq o=>by
  rw[List.mem_singleton.1 o];exact fs_Clo1 p a b gr vA hzA
 have y:=wU [p] 120 [bSz a b gr] (λ_=>vB) (ae (dZ a b gr) af) ψ λq o=>by
  rw[List.mem_singleton.1 o];exact fs_Clo2 p a b gr vB hzB
 have i1:=eD 1 δ;obtain⟨A,r⟩:∃A,A=(syM [p] l (rhK [p] g a b) a b).1:=⟨_,rfl⟩;obtain⟨L,c⟩:∃L,L=(syM [p] l (rhK [p] g a b) a b).2:=⟨_,rfl⟩;have z:syV 1 (A,L)=syV [p].length (syM [p] l (rhK [p] g a b) a b):=by rw[r,c];rfl
 rw[<-z] at hs;rw[<-c] at hL;have F:(kE [p]).length=1:=rfl;have E:(lvE L).length=1:=by rw[mS,hL]
 refine f_n Tryz.func44 ?_ ?_;exact ae (aE (eP [p] l g)) (ae (aE (bt a b)) (ae (aP ep) (ae (aP de) (ae (ak _) af))));refine r_z 6 ?_;refine AWp.ent (st':=⟨[(4,i64 gr),(5,.aptr [eqC [p] l g] 0 0),(6,bSp a b),(7,bQ ep),(8,bQ de),(10,.lptr 1 0 0)],[(1,some ⟨121,10,[zNe]⟩)],2,172⟩) ?_ ?_;refine s_x [(1,10)] (λhs=>?_) (λhs=>?_)
 ·repeat' (first|exact aL|refine az rfl ?_ ?_|exact Cv.boxp hs rfl (aG rfl) rfl (eP [p] l g)|exact Cv.boxp hs rfl (aG rfl) rfl (bt a b)|exact Cv.boxp hs rfl (aG rfl) rfl (bC _)|exact aW)
 ·repeat' (first|exact aB|refine h_c ?_ ?_|exact bG|refine aA ?_|exact av|refine am ?_ ?_|exact Cv.boxp hs rfl (aG rfl) rfl (eP [p] l g)|exact Cv.boxp hs rfl (aG rfl) rfl (bt a b)|exact Cv.boxp hs rfl (aG rfl) rfl (bC _)|exact aW)
 refine r_z 5 ?_;refine AWp.ent (st':=⟨[(4,i64 gr),(6,bSp a b),(7,bQ ep),(8,bQ de),(10,.lptr 1 0 0),(12,bTk [p] l g a b)],[(1,some ⟨121,10,[zNe]⟩)],2,172⟩) ?_ ?_;refine s_x [(1,10)] (λhs=>?_) (λhs=>?_)
 ·repeat' (first|exact aL|refine az rfl ?_ ?_|exact ao hs (cW a b)|exact Cv.boxp hs rfl (aG rfl) rfl (fe [p] l g a b)|exact aW)
 ·repeat' (first|exact aB|refine h_c ?_ ?_|exact bG|refine aA ?_|exact av|refine am ?_ ?_|exact ao hs (cW a b)|exact Cv.boxp hs rfl (aG rfl) rfl (fe [p] l g a b)|exact aW)
 refine ac (r_c 12 (J) ?_);refine c_s (c6 ep) ?_;refine e_s (c6 de) ?_;refine d_z ?_;refine cF (aj (r_c 4 (hs) ?_));refine a_z ?_;refine AWp.ent (st':=⟨[(4,i64 gr),(6,bSp a b),(7,bQ ep),(8,bQ de),(10,.lptr 1 0 0),(12,bTk [p] l g a b),(13,bSy 1 A L)],[(1,some ⟨121,10,[zNe]⟩)],2,172⟩) ?_ ?_;refine s_x [(1,10)] (λhs=>?_) (λhs=>?_)
 ·repeat' (first|exact aL|refine az rfl ?_ ?_|exact ao hs (cW a b)|exact ao hs (dl [p] l g a b)|exact Cv.boxp hs rfl (aG rfl) rfl (eN 1 A L)|exact aW)
 ·repeat' (first|exact aB|refine h_c ?_ ?_|exact bG|refine aA ?_|exact av|refine am ?_ ?_|exact ao hs (cW a b)|exact ao hs (dl [p] l g a b)|exact Cv.boxp hs rfl (aG rfl) rfl (eN 1 A L)|exact aW)
 refine ac (q_z 6 ?_);refine cF (aj (r_z 6 ?_));refine AWp.ent (st':=⟨[(6,bSp a b),(7,bQ ep),(8,bQ de),(10,.lptr 1 0 0),(12,bTk [p] l g a b),(13,bSy 1 A L),(14,bSz a b gr)],[(1,some ⟨121,10,[zNe]⟩)],2,172⟩) ?_ ?_;refine s_x [(1,10)] (λhs=>?_) (λhs=>?_)
 ·repeat' (first|exact aL|refine az rfl ?_ ?_|exact ao hs (cW a b)|exact ao hs (dl [p] l g a b)|exact ao hs (db 1 A L)|exact Cv.boxp hs rfl (aG rfl) rfl (ae (qz a b gr) af)|exact aW)
 ·repeat' (first|exact aB|refine h_c ?_ ?_|exact bG|refine aA ?_|exact av|refine am ?_ ?_|exact ao hs (cW a b)|exact ao hs (dl [p] l g a b)|exact ao hs (db 1 A L)|exact Cv.boxp hs rfl (aG rfl) rfl (ae (qz a b gr) af)|exact aW)
 refine r_c 6 (k) ?_;refine a_z ?_;refine r_c 6 (y) ?_;refine a_z ?_;refine r_z 1 ?_;refine ac (r_z 5 ?_);refine aC (λ_:Unit=>clO p l g a b ep de vA vB gr A L 1) (λ_=>True) ?_ ?_;refine ah (ay (clO p l g a b ep de vA vB gr A L) (λj=>1- j) (λj=>j<=1) 0 (Nat.zero_le _) ?_ ?_);rw[clO.eq_1];refine s_x [(1,10),(2,17)] (λhs=>Ik) (λhs=>?_)
 ·repeat' (first|exact aB|refine h_c ?_ ?_|exact CvLL.zeros hs 1|exact bG|refine aA ?_|exact av|refine am ?_ ?_|exact ao hs (cW a b)|exact ao hs (dl [p] l g a b)|exact ao hs (db 1 A L)|exact ao hs (dZ a b gr)|exact ao hs (cL _)|exact ao hs (aD _)|exact aW)
 intro j T;by_cases h1:j< 1;obtain rfl:j=0:=ω
 rw[clO.eq_1]
 have x:=vw [p] l a b s [q1I] h.sy rfl λi C=>by
  obtain rfl:i=0:=by simpa using C
  exact Nat.le_trans (by decide:qs (coP [q1I] 0)<=1) hs1
 have f:=As (syM [p] l [q1I] a b).1 1 (syM [p] l [q1I] a b).2 (lf _ _ _) δ;have w:Closed (syV [p].length (syM [p] l [q1I] a b)):=jv _ _ _;have B:(pE (clL p l a b)).length=1:=by simp[pE,clL]
 refine s_r 1 ?_;refine o_0 (.bin rfl rfl (vT ei (rfl))) ?_;refine aq ?_;refine ac (cT (aj (ac (ah (r_z 2 ?_)))));refine r_z 6 ?_;refine r_c 5 (i1) ?_;refine a_z ?_;refine AWp.ent (st':=⟨[(6,bSp a b),(7,bQ ep),(8,bQ de),(10,.lptr 1 0 0),(12,bTk [p] l g a b),(13,bSy 1 A L),(14,bSz a b gr),(15,.arr (pE [vA])),(16,.arr (pE [vB])),(17,.lptr 2 0 0),(67,i64 1),(68,i64 0),(18,i64 0),(19,.arr (pE [q1I]))],[(1,some ⟨121,10,[zNe]⟩),(2,some ⟨42,3,[qC (clV 0 (xp p l a b vA vB) 0)]⟩)],3,172⟩) ?_ ?_;refine s_x [(1,10),(2,17)] (λhs=>?_) (λhs=>?_)
 ·repeat' (first|exact aL|refine az rfl ?_ ?_|exact ao hs (cW a b)|exact ao hs (dl [p] l g a b)|exact ao hs (db 1 A L)|exact ao hs (dZ a b gr)|exact ao hs (cL _)|exact ao hs (aD _)|(refine Cv.shut hs rfl (aG rfl) (nle rfl) ?_;exact aJ hs rfl (aQ [q1I]))|exact aW)
 ·repeat' (first|exact aB|refine h_c ?_ ?_|exact bG|refine aA ?_|exact av|refine am ?_ ?_|exact ao hs (cW a b)|exact ao hs (dl [p] l g a b)|exact ao hs (db 1 A L)|exact ao hs (dZ a b gr)|exact ao hs (cL _)|exact ao hs (aD _)|(refine Cv.shut hs rfl (aG rfl) (nle rfl) ?_;exact aJ hs rfl (aQ [q1I]))|exact aW)
 refine ac (AWp.regAB 4 9 84 aX (sK [p] a b h.sy.m) (x) (w) rfl rfl rfl rfl rfl rfl rfl rfl rfl rfl κ rfl rfl rfl ?_);refine AY.op0 (.fieldAddr_a rfl TF.h δ) rfl rfl ?_;refine AY.op0 (.fieldAddr_a rfl TF.h δ) rfl rfl ?_;refine AY.op0 (.load_a1 rfl rfl TG.h rfl) rfl rfl ?_;refine AY.op0 (.load_a rfl rfl TG.h TS.h (nle rfl)) rfl rfl ?_;refine AY.sp rfl rfl (kAB.a rfl rfl rfl (ae (aH [p]) (ae (aE (bt a b)) af)) rfl) ?_;refine AY.op0 (.fieldAddr_a rfl TF.h δ) rfl rfl ?_;refine AY.op0 (.fieldAddr_a rfl TF.h δ) rfl rfl ?_;refine AY.op0 (.load_a rfl rfl TG.h TS.h (nle rfl)) rfl rfl ?_;refine AY.op0 (.move rfl) rfl rfl ?_;refine AY.sp rfl rfl (kAB.b rfl rfl (ArgsB.own (ArgsB.clo rfl (aE (bC l)) (ArgsB.clo rfl (aD _) ArgsB.nil))) rfl) ?_;refine AY.op0 (.call rfl rfl rfl (f)) rfl rfl ?_;refine AY.op0 (.lenP rfl rfl rfl rfl te_61.h) rfl rfl ?_;refine AY.op0 (.move rfl) rfl rfl ?_;refine AY.nil ⟨by kernel_rfl,?_⟩;refine AWp.cutB (λ_:Unit=>clI p l g a b ep de vA vB gr A L 1) (λ_=>True) ?_ ?_;refine ah (ay (clI p l g a b ep de vA vB gr A L) (λi=>1- i) (λi=>i<=1) 0 (Nat.zero_le _) ?_ ?_);rw[clI.eq_1];exact s_x [] (λhs=>Ik) (λhs=>KP);intro i C;by_cases h1:i< 1;obtain rfl:i=0:=ω
 rw[clI.eq_1]
 have d:(pE (clL p l a b))[((0:Nat):Int).toNat]?=some (qC (clC p l a b)):=by
  have:(clL p l a b).length=1:=by simp[clL]
  have:=ci (p:=clL p l a b) (i:=0) ω;simp[pE,clC,this]
 have m1:=dk vA (eH (clC p l a b)) ok.q1;have m2:=dk (vA* eH (clC p l a b)) vB ok.q2;have u:=fD 0 (vA* eH (clC p l a b) * vB) ok.q3;refine s_r 1 ?_;refine o_0 (.bin rfl rfl (vT ei (rfl))) ?_;refine aq ?_;refine ac (cT (aj (ac (ah (s_r 6 ?_)))));refine a_1 ?_;refine i_x d ?_;refine l_x d ?_;refine a_z ?_;refine r_d aX 15 ?_;refine c_s (tF (clC p l a b)) ?_;refine c_s (m1) ?_;refine c_s (m2) ?_;refine c_s (u) ?_;refine a_1 ?_;refine aq (n_k ?_);refine r_m 2 ?_;refine a_z ?_;refine⟨1,ω,ω,?_⟩;rw[clI.eq_1];exact s_x [] (λhs=>Ik) (λhs=>KP);obtain rfl:i=1:=ω
 rw[clI.eq_1];refine s_r 1 ?_;refine o_0 (.bin rfl rfl (vF ei (rfl))) ?_;refine aq ?_;refine ac (cF (ax ⟨(),trivial,?_⟩));exact s_x [] (λhs=>Ik) (λhs=>KP);rintro _ _;rw[clI.eq_1];refine r_m 2 ?_;refine a_z ?_;refine⟨1,ω,ω,?_⟩;rw[clO.eq_1];exact s_x [] (λhs=>Ik) (λhs=>KP);obtain rfl:j=1:=ω
 rw[clO.eq_1];refine s_r 1 ?_;refine o_0 (.bin rfl rfl (vF ei (rfl))) ?_;refine aq ?_;refine ac (cF (ax ⟨(),trivial,?_⟩));exact s_x [] (λhs=>Ik) (λhs=>KP);rintro _ _;rw[clO.eq_1];have D:=yT a b h.ha h.hb;have S:=dk (eH l) (b- a) ok.q4;have f:=As A 1 L (by rw[r,c];exact lf _ _ _) δ;have t:=GA [p] (vH [p] l g a b) (by unfold vH;simp) ψ h2.ms;have v:=jO _ l h2.u1 h2.sl h2.u2;have n:=pS g _ h2.sg h2.v1 h.gl h2.v2;have M:z7 A 1 L=vH [p] l g a b:=by rw[r,c];rfl
 rw[M] at f;have m1:=dk (clW l a b) (xp p l a b vA vB) ok.q5;have u:=fD q1I (clW l a b* xp p l a b vA vB) ok.q6;have m2:=dk (clW l a b) ep ok.q7;have G:=dk (clW l a b* ep) (clB p l a b vA vB) ok.q8;have s1:=kU q1I (xo p l a b vA vB ep) ok.q9;have R:=dk (clW l a b* ep) vU ok.qa;have a2:=fD de (clW l a b* ep* vU) ok.qb;have N:=dk (clB p l a b vA vB) (de+clW l a b* ep* vU) ok.qc;have O:=oe (clB p l a b vA vB* (de+clW l a b* ep* vU)) (E2 p l a b vA vB ep) (by have:=ok.r0;grind) ok.qd;have K:¬sgZ (E2 p l a b vA vB ep).num<=0:=by have:=sgZ_num_gt.2 ok.r0;omega
 refine ac (r_d aX 9 ?_);refine c_s (tF l) ?_;refine c_s (D) ?_;refine c_s (S) ?_;refine a_2 ?_;refine aq (n_k ?_);refine AWp.ent (st':=⟨[(7,bQ ep),(8,bQ de),(10,.lptr 1 0 0),(12,bTk [p] l g a b),(13,bSy 1 A L),(14,bSz a b gr),(17,bQ (xp p l a b vA vB)),(22,bQ (clW l a b))],[(1,some ⟨121,10,[zNe]⟩)],2,172⟩) ?_ ?_;refine s_x [(1,10)] (λhs=>e_16) (λhs=>?_)
 ·repeat' (first|exact aB|refine h_c ?_ ?_|exact bG|refine aA ?_|exact av|refine am ?_ ?_|exact ao hs (cW a b)|exact ao hs (dl [p] l g a b)|exact ao hs (db 1 A L)|exact ao hs (dZ a b gr)|exact ao hs (cL _)|exact ao hs (aD _)|exact Cv.boxp hs rfl (aG rfl) rfl (bC _)|exact aW)
 refine ac (r_d aX 22 ?_);refine c_s (f) ?_;refine c_s (t) ?_;refine c_s (v) ?_;refine c_s (n) ?_;refine c_s (i1) ?_;refine c_s (m1) ?_;refine c_s (u) ?_;refine a_3 ?_;refine aq (n_k ?_);refine AWp.ent (st':=⟨[(7,bQ ep),(8,bQ de),(10,.lptr 1 0 0),(14,bSz a b gr),(22,bQ (clW l a b)),(23,.lptr 2 0 0)],[(1,some ⟨121,10,[zNe]⟩),(2,some ⟨121,10,[nC1 (syU [p] l g a b) (clB p l a b vA vB)]⟩)],3,172⟩) ?_ ?_;refine s_x [(1,10),(2,23)] (λhs=>e_16) (λhs=>?_)
 ·repeat' (first|exact aB|refine h_c ?_ ?_|exact aJ hs rfl (E1 _ _)|exact bG|refine aA ?_|exact av|refine am ?_ ?_|exact ao hs (cW a b)|exact ao hs (dl [p] l g a b)|exact ao hs (db 1 A L)|exact ao hs (dZ a b gr)|exact ao hs (cL _)|exact ao hs (aD _)|exact Cv.boxp hs rfl (aG rfl) rfl (bC _)|exact aW)
 refine ac (r_d aX 8 ?_);refine c_s (m2) ?_;refine c_s (G) ?_;refine a_2 ?_;refine aq (n_k ?_);refine AWp.ent (st':=⟨[(7,bQ ep),(8,bQ de),(10,.lptr 1 0 0),(14,bSz a b gr),(22,bQ (clW l a b)),(23,.lptr 2 0 0)],[(1,some ⟨121,10,[zNe]⟩),(2,some ⟨121,10,[nC2 (syU [p] l g a b) (clB p l a b vA vB) (xo p l a b vA vB ep)]⟩)],3,172⟩) ?_ ?_;exact s_x [(1,10),(2,23)] (λhs=>e_16) (λhs=>e_57);refine ac (r_d aX 6 ?_);refine c_s (i1) ?_;refine c_s (s1) ?_;refine a_2 ?_;refine aq (n_k ?_);refine AWp.ent (st':=⟨[(7,bQ ep),(8,bQ de),(10,.lptr 1 0 0),(14,bSz a b gr),(22,bQ (clW l a b)),(23,.lptr 2 0 0),(24,bQ (E2 p l a b vA vB ep))],[(1,some ⟨121,10,[zNe]⟩),(2,some ⟨121,10,[nC2 (syU [p] l g a b) (clB p l a b vA vB) (xo p l a b vA vB ep)]⟩)],3,172⟩) ?_ ?_;exact s_x [(1,10),(2,23)] (λhs=>e_16) (λhs=>e_57);refine ac (r_c 3 (c6 (E2 p l a b vA vB ep)) ?_);refine d_z ?_;refine cF (aj (ac (r_d aX 17 ?_)));refine c_s (m2) ?_;refine c_s (hzU) ?_;refine c_s (R) ?_;refine c_s (a2) ?_;refine c_s (N) ?_;refine c_s (O) ?_;refine a_2 ?_;refine aq (n_k ?_);refine AWp.ent (st':=⟨[(10,.lptr 1 0 0),(23,.lptr 2 0 0)],[(1,some ⟨121,10,[zNe]⟩),(2,some ⟨121,10,[neC (syU [p] l g a b) (clB p l a b vA vB) (xo p l a b vA vB ep) (CV p l a b vA vB ep de vU)]⟩)],3,172⟩) ?_ ?_;exact s_f [(1,10),(2,23)];refine r_z 3 ?_;refine ai (Fin.many ⟨_,_,rfl,⟨_,_,_,_,_,rfl,rfl,rfl,.inl ⟨TG.h,_,TS.h,nle rfl,rfl⟩⟩,⟨_,_,rfl,rfl,rfl⟩⟩ (nle rfl) ?_);exact am (ao aF (aE (jx _ _ _ _))) (am (ao aF (ak _)) av)
def itE(l:List Int):Lq->Nat->AState
 |[],i=>⟨[(0,.arr (zE l)),(3,.emp),(4,i64 i)],[],1,20⟩
 |q::Q,i=>⟨[(0,.arr (zE l)),(3,.lsl 1 0 (Q.length+1) none 3),(4,i64 i)],[(1,some ⟨42,3,pE (q::Q)⟩)],2,20⟩
theorem ry(l:List Int)(i:Nat):itE l [] i=⟨[(0,.arr (zE l)),(3,.emp),(4,i64 i)],[],1,20⟩:=rfl
theorem ma(l:List Int)(q:Rat)(Q:Lq)(i:Nat):itE l (q::Q) i=⟨[(0,.arr (zE l)),(3,.lsl 1 0 (Q.length+1) none 3),(4,i64 i)],[(1,some ⟨42,3,pE (q::Q)⟩)],2,20⟩:=rfl
theorem yR(l:List Int)(hl:l.length<=1099511627776)(hb:∀n∈l,-9223372036854775808<=n/\n<=9223372036854775807):FS 42 [.arr (zE l)] (.arr (pE (zR l))):=by
 refine f_n Tryz.func42 ?_ ?_;exact ae (aK (jt l)) af;refine r_z 1 ?_;refine r_z 1 ?_;refine ac (r_z 1 ?_);refine aC (λ_:Unit=>itE l (zR l) l.length) (λ_=>True) ?_ ?_;refine ah (ay (λi:Nat=>itE l (zR (l.take i)) i) (λi=>l.length- i) (λi=>i<=l.length) 0 (Nat.zero_le _) ?_ ?_);show SEnt _ (itE l [] 0);rw[ry];have:=(aK (jt l));exact s_f [];rintro i k;have j:(zE l).length=l.length:=by simp[zE]
 by_cases hlt:i< l.length
 ·obtain⟨n,g⟩:∃n,l[i]?=some n:=⟨_,List.getElem?_eq_getElem hlt⟩
  have a:(zE l)[((i:Nat):Int).toNat]?=some [i64 n]:=by
   show(zE l)[i]?=_;simp[zE,g]
  have c:=hb n (List.mem_of_getElem? g);have d:zR (l.take (i+1))=zR (l.take i)++[(n:Rat)]:=by rw[cO g];simp[zR]
  have b:(zR (l.take i)).length=i:=by simp[zR];omega
  cases hQ:zR (l.take i) with
  |nil=>
   simp only[ry];refine ac (r_z 4 ?_);refine ar rfl (λh=>?_) (λh=>?_);rotate_left;exact absurd h (by simp[zE];omega);refine aj (ac (ah (r_m 9 ?_)));refine a_3 ?_;refine i_x a ?_;refine l_1 a ?_;refine c_s (eD n c) ?_;refine a_z ?_;refine r_m 3 ?_;refine a_z ?_;refine⟨i+1,ω,hlt,?_⟩;simp only[d,hQ,List.nil_append,ma];have:=(aK (jt l));have:=(aQ [(n:Rat)]);exact s_f [(1,3)]
  |cons q Q=>
   rw[hQ] at b;simp at b;simp only[ma];refine ac (r_z 4 ?_);refine ar rfl (λh=>?_) (λh=>?_);rotate_left;exact absurd h (by simp[zE];omega);refine aj (ac (ah (r_m 9 ?_)));refine a_3 ?_;refine i_x a ?_;refine l_1 a ?_;refine c_s (eD n c) ?_;refine a_z ?_;refine r_m 3 ?_;refine a_z ?_;refine⟨i+1,ω,hlt,?_⟩;simp only[d,hQ,List.cons_append,ma];have e:pE (q::Q)++[qC (n:Rat)]=pE (q::(Q++[(n:Rat)])):=by simp[pE]
   refine s_x [(1,3)] (λhs=>?_) (λhs=>?_) e_1
   ·repeat' (first|exact aL|refine az rfl ?_ ?_|exact ao hs (aK (jt l))|exact aW)
   ·repeat' (first|exact aB|refine h_c ?_ ?_|exact aJ hs e (aQ _)|exact bG|refine aA ?_|exact av|refine am ?_ ?_|exact ao hs (aK (jt l))|exact aW)
 have f:i=l.length:=ω
 subst f;simp only[List.take_length];cases hQ:zR l with
 |nil=>
  simp only[ry];refine ac (r_z 4 ?_);refine ar rfl (λh=>?_) (λh=>?_);exact absurd h (by simp[zE]);refine ax ⟨(),trivial,?_⟩;simp only[hQ,ry];have:=(aK (jt l));exact s_f []
 |cons q Q=>
  simp only[ma];refine ac (r_z 4 ?_);refine ar rfl (λh=>?_) (λh=>?_);exact absurd h (by simp[zE]);refine ax ⟨(),trivial,?_⟩;simp only[hQ,ma];have:=(aK (jt l));exact s_f []
 rintro _ _;cases hQ:zR l with
 |nil=>
  simp only[ry];refine r_z 2 ?_;exact ai (Fin.tmpN rfl)
 |cons q Q=>
  simp only[ma];refine r_z 2 ?_;exact ai (Fin.tmpS rfl rfl rfl ψ (aQ _))
abbrev x1W:Lq:=zR [0,1]
abbrev p1W:Lq×Lq:=(x1W,x1W)
abbrev o1W:Lq:=zR [1]
abbrev p2W:Lq×Lq:=(o1W,o1W)
abbrev q3I:Rat:=((3:Int):Rat)
abbrev tnW:Rat:=((1:Int):Rat) / ((10:Int):Rat)
theorem wk_ma:OkMa [p1W] 0 q1I:=⟨δ,λp hp q a=>by
 rw[List.mem_singleton.1 hp,List.mem_singleton.1 a];exact⟨by decide+kernel,⟨by decide+kernel,by decide+kernel,by decide+kernel,by decide+kernel,by decide+kernel⟩⟩⟩
theorem wk_sy(l:Rat)(hl:qs l<=2):OkSy [p1W] l 0 q1I 100:=⟨wk_ma,λi j b a=>by
 obtain rfl:i=0:=by simpa using b
 obtain rfl:j=0:=by simpa using a
 have:qs (maK [p1W] 0 q1I 0 0)<=10:=by decide+kernel
 omega,δ⟩
theorem Ft(l:Rat)(hl:qs l<=2):OkTa [p1W] l x1W 0 q1I 100:=⟨yw δ (λp hp=>by rw[List.mem_singleton.1 hp];decide),by decide+kernel,by decide+kernel,by decide+kernel,by decide+kernel,δ,wk_sy l hl,λp hp=>by
 rw[List.mem_singleton.1 hp];exact⟨by decide+kernel,⟨by decide+kernel,by decide+kernel,by decide+kernel,by decide+kernel,by decide+kernel⟩,by decide+kernel⟩⟩
theorem wk_su:OkSu [p1W] q1I x1W 0 q1I:=⟨λi p hp=>by
 have a:=(List.getElem?_eq_some_iff.1 hp).1;obtain rfl:i=0:=by simpa using a
 cases hp;exact⟨by decide+kernel,by decide+kernel,by decide+kernel,by decide+kernel,by decide+kernel,by decide+kernel,by decide+kernel⟩,by decide+kernel,by decide+kernel,by decide+kernel,by decide+kernel,by decide+kernel,by decide+kernel⟩
theorem wk_1:(syM [p1W] q1I (rhK [p1W] x1W 0 q1I) 0 q1I).2=[0]/\yx 1 (syM [p1W] q1I (rhK [p1W] x1W 0 q1I) 0 q1I).1 (syM [p1W] q1I (rhK [p1W] x1W 0 q1I) 0 q1I).2=false:=by decide+kernel
theorem wk_3:yx 1 (syM [p1W] q3I (rhK [p1W] x1W 0 q1I) 0 q1I).1 (syM [p1W] q3I (rhK [p1W] x1W 0 q1I) 0 q1I).2=true:=by decide+kernel
theorem wk_r:zU 40 40 x1W (0,q1I) 0=some (0,1)/\zU 40 40 (syU [p1W] q1I x1W 0 q1I) (0,q1I) 0=some (0,2)/\Fg (0,1)=1/\Fg (0,2)=2:=by decide+kernel
theorem wk_cl:OkCl p1W q1I x1W 0 q1I tnW 0 1 1 2:=⟨by decide+kernel,by decide+kernel,by decide+kernel,by decide+kernel,by decide+kernel,by decide+kernel,by decide+kernel,by decide+kernel,by decide+kernel,by decide+kernel,by decide+kernel,by decide+kernel,by decide+kernel,by decide+kernel,by decide+kernel,by decide+kernel⟩
theorem wk_t1:Fz (ap (deV (trQ (maK [p1W] 0 q1I) 1)))=[45,49,47,51,32,120,32,43,32,49]/\JJ (ap (deV (trQ (maK [p1W] 0 q1I) 1))):=by decide+kernel
theorem wk_t2:Fz (ap (syU [p1W] q1I x1W 0 q1I))=[51,47,50,32,120]/\JJ (ap (syU [p1W] q1I x1W 0 q1I)):=by decide+kernel
theorem wk_t3:Fz (seK (mvK 0 [p2W]) (cw [0,1] o1W) q1I 3 4)=[49,47,54,32,120,94,51,32,43,32,49,47,50,32,120,94,50,32,43,32,120,32,43,32,49]/\JJ (seK (mvK 0 [p2W]) (cw [0,1] o1W) q1I 3 4):=by decide+kernel
theorem wk_t4:nw (CV p1W q1I 0 q1I 1 1 tnW 0 2)=[50,47,51]/\okT (CV p1W q1I 0 q1I 1 1 tnW 0 2)/\nw (clB p1W q1I 0 q1I 1 1)=[53,47,50]/\okT (clB p1W q1I 0 q1I 1 1):=by decide+kernel
theorem sp_01:([.arr [],bln false,.arr []]:La)++qC q1I=spC 0 q1I:=by unfold spC;rw[qC0]
theorem wk_i2:FS 42 [.arr (zE [0,1])] (.arr (pE x1W)):=yR [0,1] δ δ
theorem wk_i1:FS 42 [.arr (zE [1])] (.arr (pE o1W)):=yR [1] δ δ
theorem wk_det:FS 12 [.arr (kE [p1W]),.agg (spC 0 q1I)] (.tup [.arr (pE (ap (deV (trQ (maK [p1W] 0 q1I) 1)))),i64 0]):=
 fs_Det1 p1W 0 q1I (Ft q1I δ).ke (by decide+kernel) (by decide+kernel) (by decide+kernel) wk_ma (by decide+kernel)
theorem wk_so:FS 27 [.agg (eqC [p1W] q1I x1W),.agg (spC 0 q1I)] (.tup [.arr (pE (ap (syU [p1W] q1I x1W 0 q1I))),.arr (mE []),i64 0]):=
 H8 [p1W] q1I x1W 0 q1I 100 (Ft q1I δ) wk_su (λf a=>by
  obtain rfl:f=0:=by simpa using a
  show(syM [p1W] q1I (rhK [p1W] x1W 0 q1I) 0 q1I).2.contains 0=true;rw[wk_1.1];rfl) wk_1.2 (by decide+kernel)
theorem wk_sv:FS 27 [.agg (eqC [p1W] q3I x1W),.agg (spC 0 q1I)] (.tup [.arr (pE []),.arr (mE []),i64 12]):=
 H7 [p1W] q3I x1W 0 q1I 100 (Ft q3I δ) wk_3
theorem wk_cs:FS 44 [.agg (eqC [p1W] q1I x1W),.agg (spC 0 q1I),.agg (qC tnW),.agg (qC 0),i64 0] (.tup [.agg (neC (syU [p1W] q1I x1W 0 q1I) (clB p1W q1I 0 q1I 1 1) (xo p1W q1I 0 q1I 1 1 tnW) (CV p1W q1I 0 q1I 1 1 tnW 0 2)),i64 0]):=by
 obtain⟨c,a,b,a2⟩:=wk_r;have s1:=B3 x1W 0 q1I 0 (0,1) (Cg 40 40 x1W (0,q1I) 0 _ c δ) (by decide+kernel) (by decide+kernel);have s2:=B3 (syU [p1W] q1I x1W 0 q1I) 0 q1I 0 (0,2) (Cg 40 40 _ (0,q1I) 0 _ a δ) (by decide+kernel) (by decide+kernel);rw[b] at s1;rw[a2] at s2;exact Ig p1W q1I x1W 0 q1I tnW 0 1 1 2 0 100 (Ft q1I δ) wk_su δ (by rw[wk_1.1];rfl) wk_cl s1 s1 s2
theorem wk_se:FS 45 [.agg (eqC [p2W] q1I o1W),.agg (qC 0),i64 3] (.tup [.arr (pE (seK (mvK 0 [p2W]) (cw [0,1] o1W) q1I 3 4)),i64 0]):=
 H9 [p2W] q1I o1W 0 3 δ (Iy δ δ (λp hp=>by rw[List.mem_singleton.1 hp];decide) (λp hp=>by rw[List.mem_singleton.1 hp];decide+kernel) δ (by decide+kernel) δ δ)
theorem wk_cb:∀c∈([.arr [],bln false,.arr []]:La)++qC q1I,Closed c:=by rw[sp_01];exact bt 0 q1I
theorem Ea:FS 7 [] (.v (.bool true)):=by
 have i2:=wk_i2;have i1:=wk_i1;have g:=wk_det;have d:=wk_so;have b:=wk_sv;have a:=wk_cs;have c:=wk_se;rw[<-sp_01] at g d b a;rw[qC0] at a c;have f:=eD 1 δ;have i:=eD 3 δ;have e:=fs_Of 1 10 δ δ δ;have t1:=w7 _ wk_t1.2;rw[wk_t1.1] at t1;have t2:=w7 _ wk_t2.2;rw[wk_t2.1] at t2;have t3:=w7 _ wk_t3.2;rw[wk_t3.1] at t3;have t4:=w6 _ wk_t4.2.1;rw[wk_t4.1] at t4;have t5:=w6 _ wk_t4.2.2.2;rw[wk_t4.2.2.1] at t5;refine f_c Tryz.func7 ?_;refine r_z 1 ?_;refine s_r 7 ?_;refine a_1 ?_;refine o_1 (.callS1 rfl rfl rfl (.shut rfl d_n (.nil)) rfl (i2)) ?_;refine a_1 ?_;refine o_1 (.callS1 rfl rfl rfl (.shut rfl d_n (.nil)) rfl (i2)) ?_;refine a_z ?_;refine AWp.ent (st':=⟨[(1,.arr (kE [p1W]))],[],1,130⟩) ?_ ?_;refine s_x [] (λhs=>?_) (λhs=>?_)
 ·repeat' (first|exact aL|refine az rfl ?_ ?_|(refine Cv.shut hs rfl (aG rfl) (nle rfl) ?_;exact aJ hs rfl (eG [p1W]))|exact aW)
 ·repeat' (first|exact aB|refine h_c ?_ ?_|exact bG|refine aA ?_|exact av|refine am ?_ ?_|(refine Cv.shut hs rfl (aG rfl) (nle rfl) ?_;exact aJ hs rfl (eG [p1W]))|exact aW)
 refine r_c 4 (f) ?_;refine a_z ?_;refine AWp.ent (st':=⟨[(1,.arr (kE [p1W])),(2,.lptr 1 0 0)],[(1,some ⟨51,6,[[.arr [],bln false,.arr []]++qC q1I]⟩)],2,130⟩) ?_ ?_;refine s_x [(1,2)] (λhs=>?_) (λhs=>?_)
 ·repeat' (first|exact aL|refine az rfl ?_ ?_|exact ao hs (aH [p1W])|exact aW)
 ·repeat' (first|exact aB|refine h_c ?_ ?_|exact CvLL.cons (am (Cv.emp _) (am (ao hs (ak _)) (am (Cv.emp _) (CvL.clo hs (bC q1I))))) CvLL.nil|exact bG|refine aA ?_|exact av|refine am ?_ ?_|exact ao hs (aH [p1W])|exact aW)
 refine AWp.ent (st':=⟨[(1,.arr (kE [p1W])),(2,.aptr [[.arr [],bln false,.arr []]++qC q1I] 0 0)],[],1,130⟩) ?_ ?_;refine s_x [] (λhs=>?_) (λhs=>?_)
 ·repeat' (first|exact aL|refine az rfl ?_ ?_|exact ao hs (aH [p1W])|exact Cv.boxp hs rfl (aG rfl) rfl wk_cb|exact aW)
 ·repeat' (first|exact aB|refine h_c ?_ ?_|exact bG|refine aA ?_|exact av|refine am ?_ ?_|exact ao hs (aH [p1W])|exact Cv.boxp hs rfl (aG rfl) rfl wk_cb|exact aW)
 refine r_c 8 (g) ?_;refine a_z ?_;refine r_c 7 (f) ?_;refine a_1 ?_;refine o_1 (.callS1 rfl rfl rfl (.shut rfl d_n (.nil)) rfl (i2)) ?_;refine a_z ?_;refine r_c 10 (d) ?_;refine a_z ?_;refine r_c 7 (e) ?_;refine a_z ?_;refine r_c 11 (a) ?_;refine a_z ?_;refine r_c 3 (i) ?_;refine a_z ?_;refine r_c 10 (b) ?_;refine a_z ?_;refine AWp.ent (st':=⟨[(3,.arr (pE (ap (deV (trQ (maK [p1W] 0 q1I) 1))))),(4,i64 0),(6,.arr (pE (ap (syU [p1W] q1I x1W 0 q1I)))),(7,.arr (mE [])),(8,i64 0),(11,.aptr [neC (syU [p1W] q1I x1W 0 q1I) (clB p1W q1I 0 q1I 1 1) (xo p1W q1I 0 q1I 1 1 tnW) (CV p1W q1I 0 q1I 1 1 tnW 0 2)] 0 0),(12,i64 0),(15,i64 12)],[],1,130⟩) ?_ ?_;refine s_x [] (λhs=>?_) (λhs=>?_)
 ·repeat' (first|exact aL|refine az rfl ?_ ?_|exact ao hs (aD _)|exact ao hs (closed_mA _)|exact Cv.boxp hs rfl (aG rfl) rfl (jx _ _ _ _)|exact aW)
 ·repeat' (first|exact aB|refine h_c ?_ ?_|exact bG|refine aA ?_|exact av|refine am ?_ ?_|exact ao hs (aD _)|exact ao hs (closed_mA _)|exact Cv.boxp hs rfl (aG rfl) rfl (jx _ _ _ _)|exact aW)
 have j:=c.xs (EZ (ae (aD _) (ae (ak _) af)));refine ac (AWp.regX (fr2:=[(75,.agg (eqC [p2W] q1I o1W)),(76,.agg [.arr [],bln false,.arr []]),(3,.arr (pE (ap (deV (trQ (maK [p1W] 0 q1I) 1))))),(4,i64 0),(6,.arr (pE (ap (syU [p1W] q1I x1W 0 q1I)))),(7,.arr (mE [])),(8,i64 0),(11,.aptr [neC (syU [p1W] q1I x1W 0 q1I) (clB p1W q1I 0 q1I 1 1) (xo p1W q1I 0 q1I 1 1 tnW) (CV p1W q1I 0 q1I 1 1 tnW 0 2)] 0 0),(12,i64 0),(15,i64 12)]) (hp2:=[]) (nx2:=1) (fr3:=[(3,.arr (pE (ap (deV (trQ (maK [p1W] 0 q1I) 1))))),(4,i64 0),(6,.arr (pE (ap (syU [p1W] q1I x1W 0 q1I)))),(7,.arr (mE [])),(8,i64 0),(11,.aptr [neC (syU [p1W] q1I x1W 0 q1I) (clB p1W q1I 0 q1I 1 1) (xo p1W q1I 0 q1I 1 1 tnW) (CV p1W q1I 0 q1I 1 1 tnW 0 2)] 0 0),(12,i64 0),(15,i64 12)]) 11 rfl rfl rfl rfl rfl rfl ?_ rfl rfl rfl j (keepF ?_) (loF rfl) ?_)
 ·refine o_1 (.buildSlice te_193.h TZ.h rfl δ rfl rfl rfl ν) ?_
  refine o_1 (.callS1 rfl rfl rfl (.shut rfl d_n (.nil)) rfl (i1)) ?_;refine o_1 (.buildSlice te_193.h TZ.h rfl δ rfl rfl rfl ν) ?_;refine o_1 (.callS1 rfl rfl rfl (.shut rfl d_n (.nil)) rfl (i1)) ?_;refine o_0 (.build TZ.h tp_76.h rfl rfl) ?_;refine o_1 (.buildSlice te_28.h TZ.h rfl δ rfl rfl rfl ν) ?_;refine o_0 (.call rfl rfl rfl (f)) ?_;refine o_1 (.buildSlice te_193.h TZ.h rfl δ rfl rfl rfl ν) ?_;refine o_1 (.callS1 rfl rfl rfl (.shut rfl d_n (.nil)) rfl (i1)) ?_;refine o_0 (.build TZ.h tp_90.h rfl rfl) ?_;refine o_0 (.build TZ.h tp_42.h rfl rfl) ?_;refine aq ?_;refine s_y [] (λhs=>?_) (λhs=>?_)
  ·repeat' (first|exact aL|refine az rfl ?_ ?_|exact ao hs (aD _)|exact ao hs (closed_mA _)|exact ao hs (bi (jx _ _ _ _))|exact Cv.agg (am (Cv.shut hs rfl (aG rfl) (nle rfl) (aJ hs rfl (eG [p2W]))) (CvL.clo hs (dI (bC q1I) (ae (aD o1W) af))))|exact Cv.agg (am (Cv.emp _) (am (ao hs (ak _)) (am (Cv.emp _) av)))|exact aW)
  ·repeat' (first|exact aB|refine h_c ?_ ?_|exact bG|refine aA ?_|exact av|refine am ?_ ?_|exact ao hs (aD _)|exact ao hs (closed_mA _)|exact ao hs (bi (jx _ _ _ _))|exact Cv.agg (am (Cv.shut hs rfl (aG rfl) (nle rfl) (aJ hs rfl (eG [p2W]))) (CvL.clo hs (dI (bC q1I) (ae (aD o1W) af))))|exact Cv.agg (am (Cv.emp _) (am (ao hs (ak _)) (am (Cv.emp _) av)))|exact aW)
 intro p hp;rcases List.mem_cons.1 hp with rfl|hp
 exact⟨rfl,aD _⟩;rcases List.mem_cons.1 hp with rfl|hp
 exact⟨rfl,ak _⟩;rcases List.mem_cons.1 hp with rfl|hp
 exact⟨rfl,aD _⟩;rcases List.mem_cons.1 hp with rfl|hp
 exact⟨rfl,closed_mA _⟩;rcases List.mem_cons.1 hp with rfl|hp
 exact⟨rfl,ak _⟩;rcases List.mem_cons.1 hp with rfl|hp
 exact⟨rfl,bi (jx _ _ _ _)⟩;rcases List.mem_cons.1 hp with rfl|hp
 exact⟨rfl,ak _⟩;rcases List.mem_cons.1 hp with rfl|hp
 exact⟨rfl,ak _⟩;cases hp;refine o_0 (.move rfl) ?_;refine o_0 (.extract rfl rfl) ?_;refine o_0 (.extract rfl rfl) ?_;refine o_0 (.assign rfl) ?_;refine o_0 (.assign rfl) ?_;refine aq ?_;refine s_r 51 ?_;refine a_1 ?_;refine o_0 (.bin rfl rfl (vT bJ (rfl))) ?_;refine e_s (t1) ?_;refine br rfl rfl rfl (.bin rfl rfl (vT jW rfl)) rfl rfl ?_;refine d_3 ?_;refine br rfl rfl rfl (.bin rfl rfl (vT bJ (rfl))) rfl rfl ?_;refine e_s (t2) ?_;refine br rfl rfl rfl (.bin rfl rfl (vT jW rfl)) rfl rfl ?_;refine d_4 ?_;refine br rfl rfl rfl (.bin rfl rfl (vT bJ (rfl))) rfl rfl ?_;refine d_3 ?_;refine br rfl rfl rfl (.bin rfl rfl (vT bJ (rfl))) rfl rfl ?_;refine e_s (t4) ?_;refine br rfl rfl rfl (.bin rfl rfl (vT jW rfl)) rfl rfl ?_;refine e_s (t5) ?_;refine br rfl rfl rfl (.bin rfl rfl (vT jW rfl)) rfl rfl ?_;refine d_3 ?_;refine br rfl rfl rfl (.bin rfl rfl (vT bJ (rfl))) rfl rfl ?_;refine d_3 ?_;refine br rfl rfl rfl (.bin rfl rfl (vT bJ (rfl))) rfl rfl ?_;refine e_s (t3) ?_;refine br rfl rfl rfl (.bin rfl rfl (vT jW rfl)) rfl rfl ?_;refine a_z ?_;exact ai (t_e (ak _))
theorem JW(l:List jc)(ho:∀t∈l,BN t)(hl:l.length<=9223372036854775807):∃k1 k2 b,FS 5 [.arr (twR l)] (.tup [k1,k2,bln b])/\Closed k1/\Closed k2/\(b=true->k1= .arr (kE (keM l))/\k2= .arr (keR (keM l))/\uN l=true):=by
 have h:=Ez l ho hl;unfold keV at h;cases e:uN l with
 |true=>rw[e] at h;exact⟨_,_,true,h,aH _,aY _,λ_=>⟨rfl,rfl,rfl⟩⟩
 |false=>rw[e] at h;exact⟨_,_,false,h,aH _,aY _,λh=>by cases h⟩
theorem JV{l:List jc}(ho:∀t∈l,BN t)(h:uN l=true):(keM l).length<=1000/\(∀p∈keM l,p.1.length<=30/\p.2.length<=30)/\(vaB (keM l)=true->(keM l).length<=3/\(∀p∈keM l,p.1.length<=4/\p.2.length<=4)/\∀p∈keM l,bdL p.1 20/\bdL p.2 20):=by
 unfold uN at h;rw[Bool.and_eq_true,List.all_eq_true] at h;obtain⟨f,i⟩:=h
 have g:l.length<=12/\(3< l.length->8< l.length):=by
  unfold yE at f;simp only[Bool.not_eq_true',Bool.or_eq_false_iff,Bool.and_eq_false_iff,decide_eq_false_iff_not] at f;omega
 have hp:∀p∈keM l,∃t∈l,p=(nL t.1,nL t.2):=λp hp=>by
  obtain⟨t,a,e⟩:=List.mem_map.1 hp;exact⟨t,a,e.symm⟩
 have hs:∀t∈l,t.1.length<=30/\t.2.length<=30/\fS t.1=true/\fS t.2=true:=λt a=>by
  have d:=i t a;unfold jk yD at d;simp only[Bool.and_eq_true,Bool.not_eq_true',Bool.or_eq_false_iff,decide_eq_false_iff_not] at d;exact⟨ω,ω,d.2.1,d.2.2⟩
 refine⟨by rw[fY];omega,λp c=>?_,λhv=>?_⟩;obtain⟨t,a,rfl⟩:=hp p c;obtain⟨m,a2,_,_⟩:=hs t a;exact⟨by simpa[nL] using m,by simpa[nL] using a2⟩;unfold vaB at hv;simp only[Bool.and_eq_true,Bool.not_eq_true',decide_eq_true_eq] at hv;obtain⟨v1,v2⟩:=hv;rw[fY] at v2
 have hb:∀t∈l,(bdL (nL t.1) 20/\(nL t.1).length<=4)/\bdL (nL t.2) 20/\(nL t.2).length<=4:=λt a=>by
  obtain⟨_,_,a3,a4⟩:=hs t a
  have b:uc (nL t.1,nL t.2)=false:=by
   have:=List.any_eq_false.1 v1 (nL t.1,nL t.2) (List.mem_map.2 ⟨t,a,rfl⟩);simpa using this
  unfold uc at b;rw[Bool.or_eq_false_iff] at b;unfold fS at a3 a4
  have k:iD t.1 4=true:=by
   rw[Bool.or_eq_true] at a3;rcases a3 with a3|a3
   exact a3;rw[b.1] at a3;cases a3
  have j:iD t.2 4=true:=by
   rw[Bool.or_eq_true] at a4;rcases a4 with a4|a4
   exact a4;rw[b.2] at a4;cases a4
  exact⟨zt k (ho t a).1.1,zt j (ho t a).1.2⟩
 refine⟨by rw[fY];omega,λp c=>?_,λp c=>?_⟩;obtain⟨t,a,rfl⟩:=hp p c;exact⟨(hb t a).1.2,(hb t a).2.2⟩;obtain⟨t,a,rfl⟩:=hp p c;exact⟨(hb t a).1.1,(hb t a).2.1⟩
def bNu(r:iq):AV:= .aptr [nuC r.1 r.2.1 r.2.2] 0 0
theorem ky(r:iq):∀c∈nuC r.1 r.2.1 r.2.2,Closed c:=ae (ak _) (ae (ak _) (ae (ak _) af))
theorem pE_get{p:Lq}{i:Nat}{q:Rat}(h:p[i]?=some q):∀e,e=i->(pE p)[e]?=some (qC q):=λe a=>by
 subst a;simp[pE,h]
def atS(k:Ke)(x y:Rat)(i:Nat):Rat:=(k.take i).foldl (λs p=>s+an p.1 x* an p.2 y) 0
def atK(k:Ke)(x y:Rat):Rat:=atS k x y k.length
theorem LG(k:Ke)(x y:Rat):atS k x y 0=0:=rfl
theorem LF{k:Ke}{x y:Rat}{i:Nat}{p:Lq×Lq}(h:k[i]?=some p):atS k x y (i+1)=atS k x y i+an p.1 x* an p.2 y:=by
 unfold atS;rw[cO h,List.foldl_append];rfl
structure OkAt (k:Ke)(x y:Rat):Prop where
 ke:pp k
 e:∀p∈k,fM p.1 x/\fM p.2 y/\qs (an p.1 x)+qs (an p.2 y)<=549755813888
 a:∀i p,k[i]?=some p->qs (atS k x y i)+qs (an p.1 x* an p.2 y)<=549755813888
def atR(k:Ke)(x y:Rat):Nat->AState
 |i=>⟨[(4,bQ x),(5,bQ y),(6,.lptr 1 0 0),(9,.lptr 2 0 0),(18,.arr (kE k)),(19,i64 k.length),(20,i64 i)],[(2,some ⟨42,3,[qC (atS k x y i)]⟩),(1,some ⟨42,3,[qC 0]⟩)],3,37⟩
theorem fs_KAt(k:Ke)(x y:Rat)(h:OkAt k x y):FS 10 [.arr (kE k),.agg (qC x),.agg (qC y)] (.tup [.agg (qC (atK k x y)),i64 0]):=by
 have l:(kE k).length=k.length:=dP k;have o:=h.ke.1;have f:=kX k h.ke;refine f_n Tryz.func10 ?_ ?_;exact ae (aH k) (ae (aP x) (ae (aP y) af));refine r_z 4 ?_;refine ac (r_c 3 (f) ?_);refine a_z ?_;refine s_r 2 ?_;refine a_1 ?_;refine o_0 (.bin rfl rfl (vF cm (rfl))) ?_;refine aq ?_;refine cF (aj (r_z 1 ?_));refine ac (r_z 3 ?_);refine aC (λ_:Unit=>⟨[(6,.lptr 1 0 0),(9,.lptr 2 0 0)],[(2,some ⟨42,3,[qC (atK k x y)]⟩),(1,some ⟨42,3,[qC 0]⟩)],3,37⟩) (λ_=>True) ?_ ?_;refine ah (ay (atR k x y) (λi=>k.length- i) (λi=>i<=k.length) 0 (Nat.zero_le _) ?_ ?_);rw[atR.eq_1,LG,qC0];refine s_x [(1,6),(2,9)] (λhs=>?_) (λhs=>?_)
 ·repeat' (first|exact aL|refine az rfl ?_ ?_|exact ao hs (aH k)|exact Cv.boxp hs rfl (aG rfl) rfl (bC _)|exact aW)
 ·repeat' (first|exact aB|refine h_c ?_ ?_|exact ba hs (aQ [0])|exact bG|refine aA ?_|exact av|refine am ?_ ?_|exact ao hs (aH k)|exact Cv.boxp hs rfl (aG rfl) rfl (bC _)|exact aW)
 intro i q;rw[atR.eq_1];by_cases hlt:i< k.length;obtain⟨p,hp⟩:∃p,k[i]?=some p:=⟨_,List.getElem?_eq_getElem hlt⟩;have b:(kE k)[((i:Nat):Int).toNat]?=some (prC p):=jo hp _ ψ;have d:=List.mem_of_getElem? hp;have m:=jF p.1 x (h.e p d).1;have g:=jF p.2 y (h.e p d).2.1;have n:=dk _ _ (h.e p d).2.2;have j:=fD _ _ (h.a i p hp);refine q_z 1 ?_;refine ac (cT (aj (ac (ah (s_r 4 ?_)))));refine i_x b ?_;refine l_x b ?_;refine a_z ?_;refine r_d aX 12 ?_;refine c_s (m) ?_;refine c_s (g) ?_;refine c_s (n) ?_;refine c_s (j) ?_;refine a_1 ?_;refine aq (n_k ?_);refine r_m 2 ?_;refine a_z ?_;refine⟨i+1,ω,ω,?_⟩;rw[atR.eq_1,LF hp];refine s_x [(1,6),(2,9)] (λhs=>?_) (λhs=>?_)
 ·repeat' (first|exact aL|refine az rfl ?_ ?_|exact ao hs (aH k)|exact ao hs (cL _)|exact aW)
 ·repeat' (first|exact aB|refine h_c ?_ ?_|exact ba hs (aQ [_])|exact bG|refine aA ?_|exact av|refine am ?_ ?_|exact ao hs (aH k)|exact ao hs (cL _)|exact aW)
 have c:i=k.length:=ω
 refine q_z 1 ?_;refine ac (cF (ax ⟨(),trivial,?_⟩));rw[c];exact s_f [(1,6),(2,9)];rintro _ _;refine r_z 3 ?_;refine ai (Fin.many ⟨_,_,rfl,⟨_,_,_,_,_,rfl,rfl,rfl,.inl ⟨TG.h,_,TS.h,nle rfl,rfl⟩⟩,⟨_,_,rfl,rfl,rfl⟩⟩ (nle rfl) ?_);exact am (ao aF (aP _)) (am (ao aF (ak _)) av)




end Go.Proofs.YtjmkjicckobojaaGreatDoor
namespace Go.Proofs.YtjmkjicckobojaaGreatDoor
open Go.Abs Go.Deep Go.RowKit Go.WideShapes
set_option maxRecDepth 20000

end Go.Proofs.YtjmkjicckobojaaGreatDoor
namespace Go.Proofs.YtjmkjicckobojaaGreatDoor
open Go.Abs Go.ChangeShapes Go.Deep Go.RowKit Go.WideShapes
set_option maxRecDepth 20000
theorem tyG:∃f0 f1,(Tryz.prog).underlying 26=some (.struct #[f0,f1])/\f0.type=24/\f0.offset=0/\f1.type=24/\f1.offset=3:=
 ⟨{name:= "Low",type:=24,offset:=0,embedded:=false,tag:= "",pkgPath:= "",byteOffset:=0},{name:= "High",type:=24,offset:=3,embedded:=false,tag:= "",pkgPath:= "",byteOffset:=24},by kernel_rfl,rfl,rfl,rfl,rfl⟩
theorem tycG:(Tryz.prog).cellsOf 26=6:=by kernel_rfl
theorem gapP_of{H:Type}{enc:TypeId×Value->H}{W:World}{base:Nat}{v:Value}{d:DataW H}{ps:List MemPlace}(hv:Value.okWide Tryz.prog W .any base 26 v)(h:DataW.Trod enc Tryz.prog W 0 (λ_=>true) true 26 v d ps):
    ∃r:iq×iq,(okN r.1/\okN r.2)/\RV (λ_=>False) (λ_=>none) W (.agg (nuC r.1.1 r.1.2.1 r.1.2.2++nuC r.2.1 r.2.2.1 r.2.2.2)) v:=by
 obtain⟨C,D,p,c,t,z,x⟩:=tyG
 obtain⟨cs,rfl,_⟩:∃cs,v= .agg cs/\True:=by
  unfold Value.okWide at hv;rw[p] at hv;obtain⟨cs,c,_⟩:=hv;exact⟨cs,c,trivial⟩
 obtain⟨q,y⟩:=h;obtain⟨E,B,m,_,g,n,o⟩:=trod_struct2 p y;rw[c,t,Fw] at n;rw[z,x,Fw] at o;rw[tycG] at g;obtain⟨r,u,A,s,e⟩:=Aa n;obtain⟨a,k,b,i,f⟩:=Aa o
 have j:cs.toList=[.int .i64 r.1,.int .i64 r.2.1,.int .u8 r.2.2,.int .i64 a.1,.int .i64 a.2.1,.int .u8 a.2.2]:=by
  have w:(Value.agg cs).cells.toList=cs.toList:=by simp[Value.cells]
  rw[w] at e f g;generalize cs.toList=l at *
  match l,g with
  |[a0,a1,a2,a3,a4,a5],_=>
   simp at e f;obtain⟨rfl,rfl,rfl⟩:=e;obtain⟨rfl,rfl,rfl⟩:=f;rfl
 refine⟨(r,a),⟨⟨u,A,s⟩,⟨k,b,i⟩⟩,cs,rfl,?_⟩;rw[j];exact⟨_,_,rfl,rfl,_,_,rfl,rfl,_,_,rfl,rfl,_,_,rfl,rfl,_,_,rfl,rfl,_,_,rfl,rfl,rfl⟩
end Go.Proofs.YtjmkjicckobojaaGreatDoor
namespace Go.Proofs.YtjmkjicckobojaaGreatDoor
open Go.Abs
set_option maxRecDepth 20000
set_option maxHeartbeats 2000000







theorem Hn{f:Nat}{p s:Lq}(h:lT f p=some s):ap s=s:=by
 unfold lT at h;split at h;cases hg:ld f p (aV p) with
 |none=>rw[hg] at h;cases h
 |some g=>
  rw[hg,Option.bind_some] at h;split at h;cases h;exact jC _;cases h
 cases h

end Go.Proofs.YtjmkjicckobojaaGreatDoor
namespace Go.Proofs.YtjmkjicckobojaaGreatDoor
open Go.Abs Go.Deep Go.RowKit Go.WideShapes
set_option maxRecDepth 20000

end Go.Proofs.YtjmkjicckobojaaGreatDoor
namespace Go.Proofs.YtjmkjicckobojaaGreatDoor
open Go.Abs Go.ChangeShapes Go.Deep Go.RowKit Go.WideShapes
set_option maxRecDepth 20000

end Go.Proofs.YtjmkjicckobojaaGreatDoor
namespace Go.Proofs.YtjmkjicckobojaaGreatDoor
open Go.Abs
set_option maxRecDepth 20000
set_option maxHeartbeats 4000000

section
variable {T:Lq}{n:Nat}(hn:1<=n/\n<=5)(hl:T.length=n+1)(ht:ap T=T)(hm:aI T=1)(hb:bdL T 20)
include hn hl ht hm hb
end


theorem Hk(n:Nat)(f:Nat->Rat):aN (n+1) f=aN n f++[f n]:=by simp[aN,List.range_succ]
theorem fK{r:Ren}{hp hp':Hq}{id n:Nat}{cap:Option Nat}{B:ABlk}{L:List RQ}(h:Shr r hp hp')(hi:dS hp id=some B)(hi':uj r hp' id)(he:B.es=rE L)(hn:n=L.length):Cv r hp hp' (.lsl id 0 n cap 4) (.arr (rE L)):=
 Cv.shut h hi hi' (by rw[he,hn];simp) (aJ h (by rw[he,List.drop_zero];exact List.take_of_length_le (by simp[hn])) (cQ _))
def svC(M:Mx)(n c:Nat):Lc:=(List.range c).map λi=>[.arr (rE (rP (aN n (M i))))]
@[simp] theorem Dr (M:Mx)(n c:Nat):(svC M n c).length=c:=by simp[svC]
theorem vI(M:Mx)(n c:Nat):svC M n (c+1)=svC M n c++[[.arr (rE (rP (aN n (M c))))]]:=by simp[svC,List.range_succ]
theorem FC(M:Mx)(n c:Nat):(svC M n c).all (·.all AV.one)=true:=by
 unfold svC;rw[List.all_map,List.all_eq_true];intro i _;rfl
theorem dX(M:Mx)(n c:Nat):∀e∈svC M n c,∀x∈e,Closed x:=λe a x b=>by
 obtain⟨i,_,rfl⟩:=List.mem_map.1 a;rw[List.mem_singleton.1 b];exact ca _
theorem po{r:Ren}{hp hp':Hq}{x y:La}(h:CvL r hp hp' x y):∀{xs ys:Lc},CvLL r hp hp' xs ys->CvLL r hp hp' (xs++[x]) (ys++[y])
 |[],ys,h'=>by cases (h':ys=[]);exact aA h
 |a::xs,ys,⟨b,ys',e,h1,h2⟩=>by
  subst e;exact CvLL.cons h1 (po h h2)
theorem xQ{r:Ren}{hp hp':Hq}{xs ys zs:Lc}(h:CvLL r hp hp' xs ys)(e:ys=zs):CvLL r hp hp' xs zs:=e▸h
theorem mJ(n:Nat)(f:Nat->Rat):rE (rP (aN n f))++[rC (rq (f n))]=rE (rP (aN (n+1) f)):=by
 rw[Hk];unfold rP;rw[List.map_append,HC];rfl
end Go.Proofs.YtjmkjicckobojaaGreatDoor
