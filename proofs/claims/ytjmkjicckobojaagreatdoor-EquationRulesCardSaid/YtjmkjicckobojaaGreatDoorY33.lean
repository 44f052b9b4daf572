/- Part Y33 of the proof. -/
import Derived.Test.YtjmkjicckobojaaGreatDoorY32
set_option linter.all false
namespace Go.Proofs.YtjmkjicckobojaaGreatDoor
open Go.Abs
set_option maxRecDepth 100000
set_option maxHeartbeats 4000000
abbrev q1I:Rat:=((1:Int):Rat)
def clL(p:Lq×Lq)(l a b:Rat):Lq:=uo (syM [p] l [q1I] a b).1 1 (syM [p] l [q1I] a b).2
def clC(p:Lq×Lq)(l a b:Rat):Rat:=coP (clL p l a b) 0
def w9(p:Lq×Lq)(l a b vA vB:Rat):Rat:=0+vA* fN (clC p l a b) * vB
def clW(l a b:Rat):Rat:=fN l* (b- a)
def clB(p:Lq×Lq)(l a b vA vB:Rat):Rat:=q1I+clW l a b* w9 p l a b vA vB
def w8(p:Lq×Lq)(l a b vA vB ep:Rat):Rat:=clW l a b* ep* clB p l a b vA vB
def Fu(p:Lq×Lq)(l a b vA vB ep:Rat):Rat:=q1I- w8 p l a b vA vB ep
def Da(p:Lq×Lq)(l a b vA vB ep de vU:Rat):Rat:=clB p l a b vA vB* (de+clW l a b* ep* vU) / Fu p l a b vA vB ep
def mxQ:Nat:=549755813888
structure OkCl (p:Lq×Lq)(l:Rat)(g:Lq)(a b ep de vA vB vU:Rat):Prop where
 e0:0<=ep
 d0:0<=de
 q1:qs vA+qs (fN (clC p l a b))<=mxQ
 q2:qs (vA* fN (clC p l a b))+qs vB<=mxQ
 q3:qs 0+qs (vA* fN (clC p l a b) * vB)<=mxQ
 q4:qs (fN l)+qs (b- a)<=mxQ
 q5:qs (clW l a b)+qs (w9 p l a b vA vB)<=mxQ
 q6:qs q1I+qs (clW l a b* w9 p l a b vA vB)<=mxQ
 q7:qs (clW l a b)+qs ep<=mxQ
 q8:qs (clW l a b* ep)+qs (clB p l a b vA vB)<=mxQ
 q9:qs q1I+qs (w8 p l a b vA vB ep)<=mxQ
 r0:0< Fu p l a b vA vB ep
 qa:qs (clW l a b* ep)+qs vU<=mxQ
 qb:qs de+qs (clW l a b* ep* vU)<=mxQ
 qc:qs (clB p l a b vA vB)+qs (de+clW l a b* ep* vU)<=mxQ
 qd:qs (clB p l a b vA vB* (de+clW l a b* ep* vU))+qs (Fu p l a b vA vB ep)<=mxQ
def neC(U:Lq)(bo sh ra:Rat):La:= .arr (pE U)::(qC bo++(qC sh++qC ra))
theorem jw(U:Lq)(bo sh ra:Rat):∀c∈neC U bo sh ra,Closed c:=ac (aw U) (dD (bi bo) (dD (bi sh) (bi ra)))
def nC1(U:Lq)(bo:Rat):La:= .arr (pE U)::(qC bo++(zC++zC))
theorem Ft(U:Lq)(bo:Rat):∀e∈[nC1 U bo],∀c∈e,Closed c:=λe a=>by
 rw[kI.1 a];exact ac (aw U) (dD (bi bo) (dD gM gM))
def nC2(U:Lq)(bo sh:Rat):La:= .arr (pE U)::(qC bo++(qC sh++zC))
theorem Fs(U:Lq)(bo sh:Rat):∀e∈[nC2 U bo sh],∀c∈e,Closed c:=λe a=>by
 rw[kI.1 a];exact ac (aw U) (dD (bi bo) (dD (bi sh) gM))
def zNe:La:=[.emp,.emp,bln false,.emp,.emp,bln false,.emp,.emp,bln false,.emp]
def clV(x y:Rat):Nat->Rat
 |0=>x
 |_+1=>y
def clO(p:Lq×Lq)(l:Rat)(g:Lq)(a b ep de vA vB:Rat)(gr:Int)(A:Mx)(L:Ln):Nat->AState
 |j=>⟨[(6,bSp a b),(7,bQ ep),(8,bQ de),(10,.lptr 1 0 0),(12,bTk [p] l g a b),(13,bSy 1 A L),(14,bSz a b gr),(15,.arr (pE [vA])),(16,.arr (pE [vB])),(17,.lptr 2 0 0),(67,i64 1),(68,i64 j)],[(1,some ⟨121,10,[zNe]⟩),(2,some ⟨42,3,[qC (clV 0 (w9 p l a b vA vB) j)]⟩)],3,172⟩
def clI(p:Lq×Lq)(l:Rat)(g:Lq)(a b ep de vA vB:Rat)(gr:Int)(A:Mx)(L:Ln):Nat->AState
 |i=>⟨[(6,bSp a b),(7,bQ ep),(8,bQ de),(10,.lptr 1 0 0),(12,bTk [p] l g a b),(13,bSy 1 A L),(14,bSz a b gr),(15,.arr (pE [vA])),(16,.arr (pE [vB])),(17,.lptr 2 0 0),(67,i64 1),(68,i64 0),(18,i64 0),(90,.arr (pE (clL p l a b))),(91,i64 1),(92,i64 i)],[(1,some ⟨121,10,[zNe]⟩),(2,some ⟨42,3,[qC (clV 0 (w9 p l a b vA vB) i)]⟩)],3,172⟩
theorem ID (p:Lq×Lq) (l:Rat) (g:Lq) (a b ep de vA vB vU:Rat) (gr:Int) (s:Nat) (h:OkTa [p] l g a b s) (h2:OkSu [p] l g a b) (hs1:1<=s) (hL:(syM [p] l (rhK [p] g a b) a b).2.length=1) (ok:OkCl p l g a b ep de vA vB vU)
    (hzA:FS 117 [.agg (spC a b++[i64 gr]),.arr (pE p.1)] (.agg (qC vA))) (hzB:FS 117 [.agg (spC a b++[i64 gr]),.arr (pE p.2)] (.agg (qC vB))) (hzU:FS 117 [.agg (spC a b++[i64 gr]),.arr (pE (syU [p] l g a b))] (.agg (qC vU))):
    FS 44 [.agg (eqC [p] l g),.agg (spC a b),.agg (qC ep),.agg (qC de),i64 gr] (.tup [.agg (neC (syU [p] l g a b) (clB p l a b vA vB) (w8 p l a b vA vB ep) (Da p l a b vA vB ep de vU)),i64 0]):=by
 have J:=iO [p] l g a b h.ke h.ha h.hb h.ab h.dg h.gl;have hs:=oH [p] l g a b s h.sy h.rh;have H:¬sgZ ep.num< 0:=λe=>by have:=sgZ_num_lt.1 e;have:=ok.e0;grind
 have R:¬sgZ de.num< 0:=λe=>by have:=sgZ_num_lt.1 e;have:=ok.d0;grind
 have k:=wy [p] 119 [bSz a b gr] (λ_=>vA) (ac (dX a b gr) af) ψ λq o=>by
  rw[kI.1 o];exact fs_Clo1 p a b gr vA hzA
 have y:=wy [p] 120 [bSz a b gr] (λ_=>vB) (ac (dX a b gr) af) ψ λq o=>by
  rw[kI.1 o];exact fs_Clo2 p a b gr vB hzB
 have i1:=dM 1 δ;obtain⟨A,r⟩:∃A,A=(syM [p] l (rhK [p] g a b) a b).1:=⟨_,rfl⟩;obtain⟨L,c⟩:∃L,L=(syM [p] l (rhK [p] g a b) a b).2:=⟨_,rfl⟩;have z:syV 1 (A,L)=syV [p].length (syM [p] l (rhK [p] g a b) a b):=by rw[r,c];rfl
 rw[<-z] at hs;rw[<-c] at hL;have F:(kE [p]).length=1:=rfl;have E:(lvE L).length=1:=by rw[jm,hL]
 refine f_n Tryz.func44 ?_ ?_;exact ac (aD (bt [p] l g)) (ac (aD (bh a b)) (ac (aU ep) (ac (aU de) (ac (ah _) af))));refine r_z 6 ?_;refine AWp.ent (st':=⟨[(4,i64 gr),(5,.aptr [eqC [p] l g] 0 0),(6,bSp a b),(7,bQ ep),(8,bQ de),(10,.lptr 1 0 0)],[(1,some ⟨121,10,[zNe]⟩)],2,172⟩) ?_ ?_;refine s_x [(1,10)] (λhs=>?_) (λhs=>?_)
 ·repeat' (first|exact aV|refine aA rfl ?_ ?_|exact Cv.boxp hs rfl (aR rfl) rfl (bt [p] l g)|exact Cv.boxp hs rfl (aR rfl) rfl (bh a b)|exact Cv.boxp hs rfl (aR rfl) rfl (bi _)|exact aZ)
 ·repeat' (first|exact aF|refine h_c ?_ ?_|exact bG|refine aB ?_|exact av|refine ai ?_ ?_|exact Cv.boxp hs rfl (aR rfl) rfl (bt [p] l g)|exact Cv.boxp hs rfl (aR rfl) rfl (bh a b)|exact Cv.boxp hs rfl (aR rfl) rfl (bi _)|exact aZ)
 refine r_z 5 ?_;refine AWp.ent (st':=⟨[(4,i64 gr),(6,bSp a b),(7,bQ ep),(8,bQ de),(10,.lptr 1 0 0),(12,bTk [p] l g a b)],[(1,some ⟨121,10,[zNe]⟩)],2,172⟩) ?_ ?_;refine s_x [(1,10)] (λhs=>?_) (λhs=>?_)
 ·repeat' (first|exact aV|refine aA rfl ?_ ?_|exact ao hs (cY a b)|exact Cv.boxp hs rfl (aR rfl) rfl (dT [p] l g a b)|exact aZ)
 ·repeat' (first|exact aF|refine h_c ?_ ?_|exact bG|refine aB ?_|exact av|refine ai ?_ ?_|exact ao hs (cY a b)|exact Cv.boxp hs rfl (aR rfl) rfl (dT [p] l g a b)|exact aZ)
 refine ae (r_c 12 (J) ?_);refine c_s (cX ep) ?_;refine e_s (cX de) ?_;refine d_z ?_;refine cF (an (r_c 4 (hs) ?_));refine a_z ?_;refine AWp.ent (st':=⟨[(4,i64 gr),(6,bSp a b),(7,bQ ep),(8,bQ de),(10,.lptr 1 0 0),(12,bTk [p] l g a b),(13,bSy 1 A L)],[(1,some ⟨121,10,[zNe]⟩)],2,172⟩) ?_ ?_;refine s_x [(1,10)] (λhs=>?_) (λhs=>?_)
 ·repeat' (first|exact aV|refine aA rfl ?_ ?_|exact ao hs (cY a b)|exact ao hs (cj [p] l g a b)|exact Cv.boxp hs rfl (aR rfl) rfl (ew 1 A L)|exact aZ)
 ·repeat' (first|exact aF|refine h_c ?_ ?_|exact bG|refine aB ?_|exact av|refine ai ?_ ?_|exact ao hs (cY a b)|exact ao hs (cj [p] l g a b)|exact Cv.boxp hs rfl (aR rfl) rfl (ew 1 A L)|exact aZ)
 refine ae (q_z 6 ?_);refine cF (an (r_z 6 ?_));refine AWp.ent (st':=⟨[(6,bSp a b),(7,bQ ep),(8,bQ de),(10,.lptr 1 0 0),(12,bTk [p] l g a b),(13,bSy 1 A L),(14,bSz a b gr)],[(1,some ⟨121,10,[zNe]⟩)],2,172⟩) ?_ ?_;refine s_x [(1,10)] (λhs=>?_) (λhs=>?_)
 ·repeat' (first|exact aV|refine aA rfl ?_ ?_|exact ao hs (cY a b)|exact ao hs (cj [p] l g a b)|exact ao hs (bC 1 A L)|exact Cv.boxp hs rfl (aR rfl) rfl (ac (pN a b gr) af)|exact aZ)
 ·repeat' (first|exact aF|refine h_c ?_ ?_|exact bG|refine aB ?_|exact av|refine ai ?_ ?_|exact ao hs (cY a b)|exact ao hs (cj [p] l g a b)|exact ao hs (bC 1 A L)|exact Cv.boxp hs rfl (aR rfl) rfl (ac (pN a b gr) af)|exact aZ)
 refine r_c 6 (k) ?_;refine a_z ?_;refine r_c 6 (y) ?_;refine a_z ?_;refine r_z 1 ?_;refine ae (r_z 5 ?_);refine aJ (λ_:Unit=>clO p l g a b ep de vA vB gr A L 1) (λ_=>True) ?_ ?_;refine aj (aC (clO p l g a b ep de vA vB gr A L) (λj=>1- j) (λj=>j<=1) 0 (mN _) ?_ ?_);rw[clO.eq_1];refine s_x [(1,10),(2,17)] (λhs=>e_5) (λhs=>?_)
 ·repeat' (first|exact aF|refine h_c ?_ ?_|exact CvLL.zeros hs 1|exact bG|refine aB ?_|exact av|refine ai ?_ ?_|exact ao hs (cY a b)|exact ao hs (cj [p] l g a b)|exact ao hs (bC 1 A L)|exact ao hs (dX a b gr)|exact ao hs (cO _)|exact ao hs (aw _)|exact aZ)
 intro j U;by_cases h1:j< 1;obtain rfl:j=0:=ω
 rw[clO.eq_1]
 have x:=vf [p] l a b s [q1I] h.sy rfl λi C=>by
  obtain rfl:i=0:=by simpa using C
  exact fo (by decide:qs (coP [q1I] 0)<=1) hs1
 have f:=qZ (syM [p] l [q1I] a b).1 1 (syM [p] l [q1I] a b).2 (eA _ _ _) δ;have w:Closed (syV [p].length (syM [p] l [q1I] a b)):=fH _ _ _;have B:(pE (clL p l a b)).length=1:=by simp[pE,clL]
 refine s_r 1 ?_;refine o_0 (.bin rfl rfl (vT fz (rfl))) ?_;refine aq ?_;refine ae (cT (an (ae (aj (r_z 2 ?_)))));refine r_z 6 ?_;refine r_c 5 (i1) ?_;refine a_z ?_;refine AWp.ent (st':=⟨[(6,bSp a b),(7,bQ ep),(8,bQ de),(10,.lptr 1 0 0),(12,bTk [p] l g a b),(13,bSy 1 A L),(14,bSz a b gr),(15,.arr (pE [vA])),(16,.arr (pE [vB])),(17,.lptr 2 0 0),(67,i64 1),(68,i64 0),(18,i64 0),(19,.arr (pE [q1I]))],[(1,some ⟨121,10,[zNe]⟩),(2,some ⟨42,3,[qC (clV 0 (w9 p l a b vA vB) 0)]⟩)],3,172⟩) ?_ ?_;refine s_x [(1,10),(2,17)] (λhs=>?_) (λhs=>?_)
 ·repeat' (first|exact aV|refine aA rfl ?_ ?_|exact ao hs (cY a b)|exact ao hs (cj [p] l g a b)|exact ao hs (bC 1 A L)|exact ao hs (dX a b gr)|exact ao hs (cO _)|exact ao hs (aw _)|(refine Cv.shut hs rfl (aR rfl) (nle rfl) ?_;exact aM hs rfl (aK [q1I]))|exact aZ)
 ·repeat' (first|exact aF|refine h_c ?_ ?_|exact bG|refine aB ?_|exact av|refine ai ?_ ?_|exact ao hs (cY a b)|exact ao hs (cj [p] l g a b)|exact ao hs (bC 1 A L)|exact ao hs (dX a b gr)|exact ao hs (cO _)|exact ao hs (aw _)|(refine Cv.shut hs rfl (aR rfl) (nle rfl) ?_;exact aM hs rfl (aK [q1I]))|exact aZ)
 refine ae (AWp.regAB 4 9 84 ba (rZ [p] a b h.sy.m) (x) (w) rfl rfl rfl rfl rfl rfl rfl rfl rfl rfl ξ rfl rfl rfl ?_);refine AY.op0 (.fieldAddr_a rfl TF.h δ) rfl rfl ?_;refine AY.op0 (.fieldAddr_a rfl TF.h δ) rfl rfl ?_;refine AY.op0 (.load_a1 rfl rfl TG.h rfl) rfl rfl ?_;refine AY.op0 (.load_a rfl rfl TG.h TS.h (nle rfl)) rfl rfl ?_;refine AY.sp rfl rfl (kAB.a rfl rfl rfl (ac (a6 [p]) (ac (aD (bh a b)) af)) rfl) ?_;refine AY.op0 (.fieldAddr_a rfl TF.h δ) rfl rfl ?_;refine AY.op0 (.fieldAddr_a rfl TF.h δ) rfl rfl ?_;refine AY.op0 (.load_a rfl rfl TG.h TS.h (nle rfl)) rfl rfl ?_;refine AY.op0 (.move rfl) rfl rfl ?_;refine AY.sp rfl rfl (kAB.b rfl rfl (ArgsB.own (ArgsB.clo rfl (aD (bi l)) (ArgsB.clo rfl (aw _) ArgsB.nil))) rfl) ?_;refine AY.op0 (.call rfl rfl rfl (f)) rfl rfl ?_;refine AY.op0 (.lenP rfl rfl rfl rfl te_61.h) rfl rfl ?_;refine AY.op0 (.move rfl) rfl rfl ?_;refine AY.nil ⟨by kernel_rfl,?_⟩;refine AWp.cutB (λ_:Unit=>clI p l g a b ep de vA vB gr A L 1) (λ_=>True) ?_ ?_;refine aj (aC (clI p l g a b ep de vA vB gr A L) (λi=>1- i) (λi=>i<=1) 0 (mN _) ?_ ?_);rw[clI.eq_1];exact s_x [] (λhs=>e_5) (λhs=>LR);intro i C;by_cases h1:i< 1;obtain rfl:i=0:=ω
 rw[clI.eq_1]
 have d:(pE (clL p l a b))[((0:Nat):Int).toNat]?=some (qC (clC p l a b)):=by
  have:(clL p l a b).length=1:=by simp[clL]
  have:=cm (p:=clL p l a b) (i:=0) ω;simp[pE,clC,this]
 have m1:=cQ vA (fN (clC p l a b)) ok.q1;have m2:=cQ (vA* fN (clC p l a b)) vB ok.q2;have u:=eS 0 (vA* fN (clC p l a b) * vB) ok.q3;refine s_r 1 ?_;refine o_0 (.bin rfl rfl (vT fz (rfl))) ?_;refine aq ?_;refine ae (cT (an (ae (aj (s_r 6 ?_)))));refine a_1 ?_;refine i_x d ?_;refine l_x d ?_;refine a_z ?_;refine r_d ba 15 ?_;refine c_s (sR (clC p l a b)) ?_;refine c_s (m1) ?_;refine c_s (m2) ?_;refine c_s (u) ?_;refine a_1 ?_;refine aq (n_k ?_);refine r_m 2 ?_;refine a_z ?_;refine⟨1,ω,ω,?_⟩;rw[clI.eq_1];exact s_x [] (λhs=>e_5) (λhs=>LR);obtain rfl:i=1:=ω
 rw[clI.eq_1];refine s_r 1 ?_;refine o_0 (.bin rfl rfl (vF fz (rfl))) ?_;refine aq ?_;refine ae (cF (ay ⟨(),trivial,?_⟩));exact s_x [] (λhs=>e_5) (λhs=>LR);rintro _ _;rw[clI.eq_1];refine r_m 2 ?_;refine a_z ?_;refine⟨1,ω,ω,?_⟩;rw[clO.eq_1];exact s_x [] (λhs=>e_5) (λhs=>LR);obtain rfl:j=1:=ω
 rw[clO.eq_1];refine s_r 1 ?_;refine o_0 (.bin rfl rfl (vF fz (rfl))) ?_;refine aq ?_;refine ae (cF (ay ⟨(),trivial,?_⟩));exact s_x [] (λhs=>e_5) (λhs=>LR);rintro _ _;rw[clO.eq_1];have D:=oJ a b h.ha h.hb;have T:=cQ (fN l) (b- a) ok.q4;have f:=qZ A 1 L (by rw[r,c];exact eA _ _ _) δ;have t:=uQ [p] (nr [p] l g a b) (by unfold nr;simp) ψ h2.ms;have v:=eY _ l h2.u1 h2.sl h2.u2;have n:=nU g _ h2.sg h2.v1 h.gl h2.v2;have M:uo A 1 L=nr [p] l g a b:=by rw[r,c];rfl
 rw[M] at f;have m1:=cQ (clW l a b) (w9 p l a b vA vB) ok.q5;have u:=eS q1I (clW l a b* w9 p l a b vA vB) ok.q6;have m2:=cQ (clW l a b) ep ok.q7;have G:=cQ (clW l a b* ep) (clB p l a b vA vB) ok.q8;have s1:=lC q1I (w8 p l a b vA vB ep) ok.q9;have S:=cQ (clW l a b* ep) vU ok.qa;have Q:=eS de (clW l a b* ep* vU) ok.qb;have N:=cQ (clB p l a b vA vB) (de+clW l a b* ep* vU) ok.qc;have O:=rf (clB p l a b vA vB* (de+clW l a b* ep* vU)) (Fu p l a b vA vB ep) (by have:=ok.r0;grind) ok.qd;have K:¬sgZ (Fu p l a b vA vB ep).num<=0:=by have:=sgZ_num_gt.2 ok.r0;omega
 refine ae (r_d ba 9 ?_);refine c_s (sR l) ?_;refine c_s (D) ?_;refine c_s (T) ?_;refine a_2 ?_;refine aq (n_k ?_);refine AWp.ent (st':=⟨[(7,bQ ep),(8,bQ de),(10,.lptr 1 0 0),(12,bTk [p] l g a b),(13,bSy 1 A L),(14,bSz a b gr),(17,bQ (w9 p l a b vA vB)),(22,bQ (clW l a b))],[(1,some ⟨121,10,[zNe]⟩)],2,172⟩) ?_ ?_;refine s_x [(1,10)] (λhs=>e_17) (λhs=>?_)
 ·repeat' (first|exact aF|refine h_c ?_ ?_|exact bG|refine aB ?_|exact av|refine ai ?_ ?_|exact ao hs (cY a b)|exact ao hs (cj [p] l g a b)|exact ao hs (bC 1 A L)|exact ao hs (dX a b gr)|exact ao hs (cO _)|exact ao hs (aw _)|exact Cv.boxp hs rfl (aR rfl) rfl (bi _)|exact aZ)
 refine ae (r_d ba 22 ?_);refine c_s (f) ?_;refine c_s (t) ?_;refine c_s (v) ?_;refine c_s (n) ?_;refine c_s (i1) ?_;refine c_s (m1) ?_;refine c_s (u) ?_;refine a_3 ?_;refine aq (n_k ?_);refine AWp.ent (st':=⟨[(7,bQ ep),(8,bQ de),(10,.lptr 1 0 0),(14,bSz a b gr),(22,bQ (clW l a b)),(23,.lptr 2 0 0)],[(1,some ⟨121,10,[zNe]⟩),(2,some ⟨121,10,[nC1 (syU [p] l g a b) (clB p l a b vA vB)]⟩)],3,172⟩) ?_ ?_;refine s_x [(1,10),(2,23)] (λhs=>e_17) (λhs=>?_)
 ·repeat' (first|exact aF|refine h_c ?_ ?_|exact aM hs rfl (Ft _ _)|exact bG|refine aB ?_|exact av|refine ai ?_ ?_|exact ao hs (cY a b)|exact ao hs (cj [p] l g a b)|exact ao hs (bC 1 A L)|exact ao hs (dX a b gr)|exact ao hs (cO _)|exact ao hs (aw _)|exact Cv.boxp hs rfl (aR rfl) rfl (bi _)|exact aZ)
 refine ae (r_d ba 8 ?_);refine c_s (m2) ?_;refine c_s (G) ?_;refine a_2 ?_;refine aq (n_k ?_);refine AWp.ent (st':=⟨[(7,bQ ep),(8,bQ de),(10,.lptr 1 0 0),(14,bSz a b gr),(22,bQ (clW l a b)),(23,.lptr 2 0 0)],[(1,some ⟨121,10,[zNe]⟩),(2,some ⟨121,10,[nC2 (syU [p] l g a b) (clB p l a b vA vB) (w8 p l a b vA vB ep)]⟩)],3,172⟩) ?_ ?_;exact s_x [(1,10),(2,23)] (λhs=>e_17) (λhs=>e_56);refine ae (r_d ba 6 ?_);refine c_s (i1) ?_;refine c_s (s1) ?_;refine a_2 ?_;refine aq (n_k ?_);refine AWp.ent (st':=⟨[(7,bQ ep),(8,bQ de),(10,.lptr 1 0 0),(14,bSz a b gr),(22,bQ (clW l a b)),(23,.lptr 2 0 0),(24,bQ (Fu p l a b vA vB ep))],[(1,some ⟨121,10,[zNe]⟩),(2,some ⟨121,10,[nC2 (syU [p] l g a b) (clB p l a b vA vB) (w8 p l a b vA vB ep)]⟩)],3,172⟩) ?_ ?_;exact s_x [(1,10),(2,23)] (λhs=>e_17) (λhs=>e_56);refine ae (r_c 3 (cX (Fu p l a b vA vB ep)) ?_);refine d_z ?_;refine cF (an (ae (r_d ba 17 ?_)));refine c_s (m2) ?_;refine c_s (hzU) ?_;refine c_s (S) ?_;refine c_s (Q) ?_;refine c_s (N) ?_;refine c_s (O) ?_;refine a_2 ?_;refine aq (n_k ?_);refine AWp.ent (st':=⟨[(10,.lptr 1 0 0),(23,.lptr 2 0 0)],[(1,some ⟨121,10,[zNe]⟩),(2,some ⟨121,10,[neC (syU [p] l g a b) (clB p l a b vA vB) (w8 p l a b vA vB ep) (Da p l a b vA vB ep de vU)]⟩)],3,172⟩) ?_ ?_;exact s_f [(1,10),(2,23)];refine r_z 3 ?_;refine ak (Fin.many ⟨_,_,rfl,⟨_,_,_,_,_,rfl,rfl,rfl,.inl ⟨TG.h,_,TS.h,nle rfl,rfl⟩⟩,⟨_,_,rfl,rfl,rfl⟩⟩ (nle rfl) ?_);exact ai (ao aE (aD (jw _ _ _ _))) (ai (ao aE (ah _)) av)
def itE(l:List Int):Lq->Nat->AState
 |[],i=>⟨[(0,.arr (zE l)),(3,.emp),(4,i64 i)],[],1,20⟩
 |q::Q,i=>⟨[(0,.arr (zE l)),(3,.lsl 1 0 (Q.length+1) none 3),(4,i64 i)],[(1,some ⟨42,3,pE (q::Q)⟩)],2,20⟩
theorem qJ(l:List Int)(i:Nat):itE l [] i=⟨[(0,.arr (zE l)),(3,.emp),(4,i64 i)],[],1,20⟩:=rfl
theorem l7(l:List Int)(q:Rat)(Q:Lq)(i:Nat):itE l (q::Q) i=⟨[(0,.arr (zE l)),(3,.lsl 1 0 (Q.length+1) none 3),(4,i64 i)],[(1,some ⟨42,3,pE (q::Q)⟩)],2,20⟩:=rfl
theorem yn(l:List Int)(hl:l.length<=1099511627776)(hb:∀n∈l,-9223372036854775808<=n/\n<=9223372036854775807):FS 42 [.arr (zE l)] (.arr (pE (zR l))):=by
 refine f_n Tryz.func42 ?_ ?_;exact ac (aP (js l)) af;refine r_z 1 ?_;refine r_z 1 ?_;refine ae (r_z 1 ?_);refine aJ (λ_:Unit=>itE l (zR l) l.length) (λ_=>True) ?_ ?_;refine aj (aC (λi:Nat=>itE l (zR (l.take i)) i) (λi=>l.length- i) (λi=>i<=l.length) 0 (mN _) ?_ ?_);show SEnt _ (itE l [] 0);rw[qJ];have:=(aP (js l));exact s_f [];rintro i k;have j:(zE l).length=l.length:=by simp[zE]
 by_cases hlt:i< l.length
 ·obtain⟨n,g⟩:∃n,l[i]?=some n:=⟨_,eT hlt⟩
  have a:(zE l)[((i:Nat):Int).toNat]?=some [i64 n]:=by
   show(zE l)[i]?=_;simp[zE,g]
  have c:=hb n (mc g);have d:zR (l.take (i+1))=zR (l.take i)++[(n:Rat)]:=by rw[cZ g];simp[zR]
  have b:(zR (l.take i)).length=i:=by simp[zR];omega
  cases hQ:zR (l.take i) with
  |nil=>
   simp only[qJ];refine ae (r_z 4 ?_);refine au rfl (λh=>?_) (λh=>?_);rotate_left;exact absurd h (by simp[zE];omega);refine an (ae (aj (r_m 9 ?_)));refine a_3 ?_;refine i_x a ?_;refine l_1 a ?_;refine c_s (dM n c) ?_;refine a_z ?_;refine r_m 3 ?_;refine a_z ?_;refine⟨i+1,ω,hlt,?_⟩;simp only[d,hQ,Nf,l7];have:=(aP (js l));have:=(aK [(n:Rat)]);exact s_f [(1,3)]
  |cons q Q=>
   rw[hQ] at b;simp at b;simp only[l7];refine ae (r_z 4 ?_);refine au rfl (λh=>?_) (λh=>?_);rotate_left;exact absurd h (by simp[zE];omega);refine an (ae (aj (r_m 9 ?_)));refine a_3 ?_;refine i_x a ?_;refine l_1 a ?_;refine c_s (dM n c) ?_;refine a_z ?_;refine r_m 3 ?_;refine a_z ?_;refine⟨i+1,ω,hlt,?_⟩;simp only[d,hQ,LJ,l7];have e:pE (q::Q)++[qC (n:Rat)]=pE (q::(Q++[(n:Rat)])):=by simp[pE]
   refine s_x [(1,3)] (λhs=>?_) (λhs=>?_) e_9
   ·repeat' (first|exact aV|refine aA rfl ?_ ?_|exact ao hs (aP (js l))|exact aZ)
   ·repeat' (first|exact aF|refine h_c ?_ ?_|exact aM hs e (aK _)|exact bG|refine aB ?_|exact av|refine ai ?_ ?_|exact ao hs (aP (js l))|exact aZ)
 have f:i=l.length:=ω
 subst f;simp only[qj];cases hQ:zR l with
 |nil=>
  simp only[qJ];refine ae (r_z 4 ?_);refine au rfl (λh=>?_) (λh=>?_);exact absurd h (by simp[zE]);refine ay ⟨(),trivial,?_⟩;simp only[hQ,qJ];have:=(aP (js l));exact s_f []
 |cons q Q=>
  simp only[l7];refine ae (r_z 4 ?_);refine au rfl (λh=>?_) (λh=>?_);exact absurd h (by simp[zE]);refine ay ⟨(),trivial,?_⟩;simp only[hQ,l7];have:=(aP (js l));exact s_f []
 rintro _ _;cases hQ:zR l with
 |nil=>
  simp only[qJ];refine r_z 2 ?_;exact ak (Fin.tmpN rfl)
 |cons q Q=>
  simp only[l7];refine r_z 2 ?_;exact ak (Fin.tmpS rfl rfl rfl ψ (aK _))
abbrev x1W:Lq:=zR [0,1]
abbrev p1W:Lq×Lq:=(x1W,x1W)
abbrev o1W:Lq:=zR [1]
abbrev p2W:Lq×Lq:=(o1W,o1W)
abbrev q3I:Rat:=((3:Int):Rat)
abbrev tnW:Rat:=((1:Int):Rat) / ((10:Int):Rat)
theorem wk_ma:OkMa [p1W] 0 q1I:=⟨δ,λp hp q a=>by
 rw[kI.1 hp,kI.1 a];exact⟨by decide+kernel,⟨by decide+kernel,by decide+kernel,by decide+kernel,by decide+kernel,by decide+kernel⟩⟩⟩
theorem wk_sy(l:Rat)(hl:qs l<=2):OkSy [p1W] l 0 q1I 100:=⟨wk_ma,λi j b a=>by
 obtain rfl:i=0:=by simpa using b
 obtain rfl:j=0:=by simpa using a
 have:qs (maK [p1W] 0 q1I 0 0)<=10:=by decide+kernel
 omega,δ⟩
theorem FT(l:Rat)(hl:qs l<=2):OkTa [p1W] l x1W 0 q1I 100:=⟨x9 δ (λp hp=>by rw[kI.1 hp];decide),by decide+kernel,by decide+kernel,by decide+kernel,by decide+kernel,δ,wk_sy l hl,λp hp=>by
 rw[kI.1 hp];exact⟨by decide+kernel,⟨by decide+kernel,by decide+kernel,by decide+kernel,by decide+kernel,by decide+kernel⟩,by decide+kernel⟩⟩
theorem wk_su:OkSu [p1W] q1I x1W 0 q1I:=⟨λi p hp=>by
 have a:=(jY.1 hp).1;obtain rfl:i=0:=by simpa using a
 cases hp;exact⟨by decide+kernel,by decide+kernel,by decide+kernel,by decide+kernel,by decide+kernel,by decide+kernel,by decide+kernel⟩,by decide+kernel,by decide+kernel,by decide+kernel,by decide+kernel,by decide+kernel,by decide+kernel⟩
theorem wk_1:(syM [p1W] q1I (rhK [p1W] x1W 0 q1I) 0 q1I).2=[0]/\lU 1 (syM [p1W] q1I (rhK [p1W] x1W 0 q1I) 0 q1I).1 (syM [p1W] q1I (rhK [p1W] x1W 0 q1I) 0 q1I).2=false:=by decide+kernel
theorem wk_3:lU 1 (syM [p1W] q3I (rhK [p1W] x1W 0 q1I) 0 q1I).1 (syM [p1W] q3I (rhK [p1W] x1W 0 q1I) 0 q1I).2=true:=by decide+kernel
theorem wk_r:zA 40 40 x1W (0,q1I) 0=some (0,1)/\zA 40 40 (syU [p1W] q1I x1W 0 q1I) (0,q1I) 0=some (0,2)/\FL (0,1)=1/\FL (0,2)=2:=by decide+kernel
theorem wk_cl:OkCl p1W q1I x1W 0 q1I tnW 0 1 1 2:=⟨by decide+kernel,by decide+kernel,by decide+kernel,by decide+kernel,by decide+kernel,by decide+kernel,by decide+kernel,by decide+kernel,by decide+kernel,by decide+kernel,by decide+kernel,by decide+kernel,by decide+kernel,by decide+kernel,by decide+kernel,by decide+kernel⟩
theorem wk_t1:F0 (am (deV (trQ (maK [p1W] 0 q1I) 1)))=[45,49,47,51,32,120,32,43,32,49]/\Kd (am (deV (trQ (maK [p1W] 0 q1I) 1))):=by decide+kernel
theorem wk_t2:F0 (am (syU [p1W] q1I x1W 0 q1I))=[51,47,50,32,120]/\Kd (am (syU [p1W] q1I x1W 0 q1I)):=by decide+kernel
theorem wk_t3:F0 (seK (mvK 0 [p2W]) (cJ [0,1] o1W) q1I 3 4)=[49,47,54,32,120,94,51,32,43,32,49,47,50,32,120,94,50,32,43,32,120,32,43,32,49]/\Kd (seK (mvK 0 [p2W]) (cJ [0,1] o1W) q1I 3 4):=by decide+kernel
theorem wk_t4:mZ (Da p1W q1I 0 q1I 1 1 tnW 0 2)=[50,47,51]/\okT (Da p1W q1I 0 q1I 1 1 tnW 0 2)/\mZ (clB p1W q1I 0 q1I 1 1)=[53,47,50]/\okT (clB p1W q1I 0 q1I 1 1):=by decide+kernel
theorem sp_01:([.arr [],bln false,.arr []]:La)++qC q1I=spC 0 q1I:=by unfold spC;rw[qC0]
theorem wk_i2:FS 42 [.arr (zE [0,1])] (.arr (pE x1W)):=yn [0,1] δ δ
theorem wk_i1:FS 42 [.arr (zE [1])] (.arr (pE o1W)):=yn [1] δ δ
theorem wk_det:FS 12 [.arr (kE [p1W]),.agg (spC 0 q1I)] (.tup [.arr (pE (am (deV (trQ (maK [p1W] 0 q1I) 1)))),i64 0]):=
 fs_Det1 p1W 0 q1I (FT q1I δ).ke (by decide+kernel) (by decide+kernel) (by decide+kernel) wk_ma (by decide+kernel)
theorem wk_so:FS 27 [.agg (eqC [p1W] q1I x1W),.agg (spC 0 q1I)] (.tup [.arr (pE (am (syU [p1W] q1I x1W 0 q1I))),.arr (mE []),i64 0]):=
 Iq [p1W] q1I x1W 0 q1I 100 (FT q1I δ) wk_su (λf a=>by
  obtain rfl:f=0:=by simpa using a
  show(syM [p1W] q1I (rhK [p1W] x1W 0 q1I) 0 q1I).2.contains 0=true;rw[wk_1.1];rfl) wk_1.2 (by decide+kernel)
theorem wk_sv:FS 27 [.agg (eqC [p1W] q3I x1W),.agg (spC 0 q1I)] (.tup [.arr (pE []),.arr (mE []),i64 12]):=
 yp [p1W] q3I x1W 0 q1I 100 (FT q3I δ) wk_3
theorem wk_cs:FS 44 [.agg (eqC [p1W] q1I x1W),.agg (spC 0 q1I),.agg (qC tnW),.agg (qC 0),i64 0] (.tup [.agg (neC (syU [p1W] q1I x1W 0 q1I) (clB p1W q1I 0 q1I 1 1) (w8 p1W q1I 0 q1I 1 1 tnW) (Da p1W q1I 0 q1I 1 1 tnW 0 2)),i64 0]):=by
 obtain⟨d,a,b,c⟩:=wk_r;have s1:=Cj x1W 0 q1I 0 (0,1) (Cz 40 40 x1W (0,q1I) 0 _ d δ) (by decide+kernel) (by decide+kernel);have s2:=Cj (syU [p1W] q1I x1W 0 q1I) 0 q1I 0 (0,2) (Cz 40 40 _ (0,q1I) 0 _ a δ) (by decide+kernel) (by decide+kernel);rw[b] at s1;rw[c] at s2;exact ID p1W q1I x1W 0 q1I tnW 0 1 1 2 0 100 (FT q1I δ) wk_su δ (by rw[wk_1.1];rfl) wk_cl s1 s1 s2
theorem wk_se:FS 45 [.agg (eqC [p2W] q1I o1W),.agg (qC 0),i64 3] (.tup [.arr (pE (seK (mvK 0 [p2W]) (cJ [0,1] o1W) q1I 3 4)),i64 0]):=
 Is [p2W] q1I o1W 0 3 δ (I1 δ δ (λp hp=>by rw[kI.1 hp];decide) (λp hp=>by rw[kI.1 hp];decide+kernel) δ (by decide+kernel) δ δ)
theorem wk_cb:∀c∈([.arr [],bln false,.arr []]:La)++qC q1I,Closed c:=by rw[sp_01];exact bh 0 q1I
theorem EJ:FS 7 [] (.v (.bool true)):=by
 have i2:=wk_i2;have i1:=wk_i1;have g:=wk_det;have d:=wk_so;have b:=wk_sv;have a:=wk_cs;have c:=wk_se;rw[<-sp_01] at g d b a;rw[qC0] at a c;have f:=dM 1 δ;have l:=dM 3 δ;have e:=fs_Of 1 10 δ δ δ;have t1:=wG _ wk_t1.2;rw[wk_t1.1] at t1;have t2:=wG _ wk_t2.2;rw[wk_t2.1] at t2;have i:=wG _ wk_t3.2;rw[wk_t3.1] at i;have j:=wF _ wk_t4.2.1;rw[wk_t4.1] at j;have k:=wF _ wk_t4.2.2.2;rw[wk_t4.2.2.1] at k;refine f_c Tryz.func7 ?_;refine r_z 1 ?_;refine s_r 7 ?_;refine a_1 ?_;refine o_1 (.callS1 rfl rfl rfl (.shut rfl d_n (.nil)) rfl (i2)) ?_;refine a_1 ?_;refine o_1 (.callS1 rfl rfl rfl (.shut rfl d_n (.nil)) rfl (i2)) ?_;refine a_z ?_;refine AWp.ent (st':=⟨[(1,.arr (kE [p1W]))],[],1,130⟩) ?_ ?_;refine s_x [] (λhs=>?_) (λhs=>?_)
 ·repeat' (first|exact aV|refine aA rfl ?_ ?_|(refine Cv.shut hs rfl (aR rfl) (nle rfl) ?_;exact aM hs rfl (eH [p1W]))|exact aZ)
 ·repeat' (first|exact aF|refine h_c ?_ ?_|exact bG|refine aB ?_|exact av|refine ai ?_ ?_|(refine Cv.shut hs rfl (aR rfl) (nle rfl) ?_;exact aM hs rfl (eH [p1W]))|exact aZ)
 refine r_c 4 (f) ?_;refine a_z ?_;refine AWp.ent (st':=⟨[(1,.arr (kE [p1W])),(2,.lptr 1 0 0)],[(1,some ⟨51,6,[[.arr [],bln false,.arr []]++qC q1I]⟩)],2,130⟩) ?_ ?_;refine s_x [(1,2)] (λhs=>?_) (λhs=>?_)
 ·repeat' (first|exact aV|refine aA rfl ?_ ?_|exact ao hs (a6 [p1W])|exact aZ)
 ·repeat' (first|exact aF|refine h_c ?_ ?_|exact CvLL.cons (ai (Cv.emp _) (ai (ao hs (ah _)) (ai (Cv.emp _) (CvL.clo hs (bi q1I))))) CvLL.nil|exact bG|refine aB ?_|exact av|refine ai ?_ ?_|exact ao hs (a6 [p1W])|exact aZ)
 refine AWp.ent (st':=⟨[(1,.arr (kE [p1W])),(2,.aptr [[.arr [],bln false,.arr []]++qC q1I] 0 0)],[],1,130⟩) ?_ ?_;refine s_x [] (λhs=>?_) (λhs=>?_)
 ·repeat' (first|exact aV|refine aA rfl ?_ ?_|exact ao hs (a6 [p1W])|exact Cv.boxp hs rfl (aR rfl) rfl wk_cb|exact aZ)
 ·repeat' (first|exact aF|refine h_c ?_ ?_|exact bG|refine aB ?_|exact av|refine ai ?_ ?_|exact ao hs (a6 [p1W])|exact Cv.boxp hs rfl (aR rfl) rfl wk_cb|exact aZ)
 refine r_c 8 (g) ?_;refine a_z ?_;refine r_c 7 (f) ?_;refine a_1 ?_;refine o_1 (.callS1 rfl rfl rfl (.shut rfl d_n (.nil)) rfl (i2)) ?_;refine a_z ?_;refine r_c 10 (d) ?_;refine a_z ?_;refine r_c 7 (e) ?_;refine a_z ?_;refine r_c 11 (a) ?_;refine a_z ?_;refine r_c 3 (l) ?_;refine a_z ?_;refine r_c 10 (b) ?_;refine a_z ?_;refine AWp.ent (st':=⟨[(3,.arr (pE (am (deV (trQ (maK [p1W] 0 q1I) 1))))),(4,i64 0),(6,.arr (pE (am (syU [p1W] q1I x1W 0 q1I)))),(7,.arr (mE [])),(8,i64 0),(11,.aptr [neC (syU [p1W] q1I x1W 0 q1I) (clB p1W q1I 0 q1I 1 1) (w8 p1W q1I 0 q1I 1 1 tnW) (Da p1W q1I 0 q1I 1 1 tnW 0 2)] 0 0),(12,i64 0),(15,i64 12)],[],1,130⟩) ?_ ?_;refine s_x [] (λhs=>?_) (λhs=>?_)
 ·repeat' (first|exact aV|refine aA rfl ?_ ?_|exact ao hs (aw _)|exact ao hs (closed_mA _)|exact Cv.boxp hs rfl (aR rfl) rfl (jw _ _ _ _)|exact aZ)
 ·repeat' (first|exact aF|refine h_c ?_ ?_|exact bG|refine aB ?_|exact av|refine ai ?_ ?_|exact ao hs (aw _)|exact ao hs (closed_mA _)|exact Cv.boxp hs rfl (aR rfl) rfl (jw _ _ _ _)|exact aZ)
 have m:=c.xs (Fq (ac (aw _) (ac (ah _) af)));refine ae (AWp.regX (fr2:=[(75,.agg (eqC [p2W] q1I o1W)),(76,.agg [.arr [],bln false,.arr []]),(3,.arr (pE (am (deV (trQ (maK [p1W] 0 q1I) 1))))),(4,i64 0),(6,.arr (pE (am (syU [p1W] q1I x1W 0 q1I)))),(7,.arr (mE [])),(8,i64 0),(11,.aptr [neC (syU [p1W] q1I x1W 0 q1I) (clB p1W q1I 0 q1I 1 1) (w8 p1W q1I 0 q1I 1 1 tnW) (Da p1W q1I 0 q1I 1 1 tnW 0 2)] 0 0),(12,i64 0),(15,i64 12)]) (hp2:=[]) (nx2:=1) (fr3:=[(3,.arr (pE (am (deV (trQ (maK [p1W] 0 q1I) 1))))),(4,i64 0),(6,.arr (pE (am (syU [p1W] q1I x1W 0 q1I)))),(7,.arr (mE [])),(8,i64 0),(11,.aptr [neC (syU [p1W] q1I x1W 0 q1I) (clB p1W q1I 0 q1I 1 1) (w8 p1W q1I 0 q1I 1 1 tnW) (Da p1W q1I 0 q1I 1 1 tnW 0 2)] 0 0),(12,i64 0),(15,i64 12)]) 11 rfl rfl rfl rfl rfl rfl ?_ rfl rfl rfl m (keepF ?_) (loF rfl) ?_)
 ·refine o_1 (.buildSlice te_193.h TZ.h rfl δ rfl rfl rfl υ) ?_
  refine o_1 (.callS1 rfl rfl rfl (.shut rfl d_n (.nil)) rfl (i1)) ?_;refine o_1 (.buildSlice te_193.h TZ.h rfl δ rfl rfl rfl υ) ?_;refine o_1 (.callS1 rfl rfl rfl (.shut rfl d_n (.nil)) rfl (i1)) ?_;refine o_0 (.build TZ.h tp_76.h rfl rfl) ?_;refine o_1 (.buildSlice te_28.h TZ.h rfl δ rfl rfl rfl υ) ?_;refine o_0 (.call rfl rfl rfl (f)) ?_;refine o_1 (.buildSlice te_193.h TZ.h rfl δ rfl rfl rfl υ) ?_;refine o_1 (.callS1 rfl rfl rfl (.shut rfl d_n (.nil)) rfl (i1)) ?_;refine o_0 (.build TZ.h tp_90.h rfl rfl) ?_;refine o_0 (.build TZ.h tp_42.h rfl rfl) ?_;refine aq ?_;refine s_y [] (λhs=>?_) (λhs=>?_)
  ·repeat' (first|exact aV|refine aA rfl ?_ ?_|exact ao hs (aw _)|exact ao hs (closed_mA _)|exact ao hs (aN (jw _ _ _ _))|exact Cv.agg (ai (Cv.shut hs rfl (aR rfl) (nle rfl) (aM hs rfl (eH [p2W]))) (CvL.clo hs (dD (bi q1I) (ac (aw o1W) af))))|exact Cv.agg (ai (Cv.emp _) (ai (ao hs (ah _)) (ai (Cv.emp _) av)))|exact aZ)
  ·repeat' (first|exact aF|refine h_c ?_ ?_|exact bG|refine aB ?_|exact av|refine ai ?_ ?_|exact ao hs (aw _)|exact ao hs (closed_mA _)|exact ao hs (aN (jw _ _ _ _))|exact Cv.agg (ai (Cv.shut hs rfl (aR rfl) (nle rfl) (aM hs rfl (eH [p2W]))) (CvL.clo hs (dD (bi q1I) (ac (aw o1W) af))))|exact Cv.agg (ai (Cv.emp _) (ai (ao hs (ah _)) (ai (Cv.emp _) av)))|exact aZ)
 intro p hp;rcases pY.1 hp with rfl|hp
 exact⟨rfl,aw _⟩;rcases pY.1 hp with rfl|hp
 exact⟨rfl,ah _⟩;rcases pY.1 hp with rfl|hp
 exact⟨rfl,aw _⟩;rcases pY.1 hp with rfl|hp
 exact⟨rfl,closed_mA _⟩;rcases pY.1 hp with rfl|hp
 exact⟨rfl,ah _⟩;rcases pY.1 hp with rfl|hp
 exact⟨rfl,aN (jw _ _ _ _)⟩;rcases pY.1 hp with rfl|hp
 exact⟨rfl,ah _⟩;rcases pY.1 hp with rfl|hp
 exact⟨rfl,ah _⟩;cases hp;refine o_0 (.move rfl) ?_;refine o_0 (.extract rfl rfl) ?_;refine o_0 (.extract rfl rfl) ?_;refine o_0 (.assign rfl) ?_;refine o_0 (.assign rfl) ?_;refine aq ?_;refine s_r 51 ?_;refine a_1 ?_;refine o_0 (.bin rfl rfl (vT cK (rfl))) ?_;refine e_s (t1) ?_;refine bF rfl rfl rfl (.bin rfl rfl (vT ob rfl)) rfl rfl ?_;refine d_3 ?_;refine bF rfl rfl rfl (.bin rfl rfl (vT cK (rfl))) rfl rfl ?_;refine e_s (t2) ?_;refine bF rfl rfl rfl (.bin rfl rfl (vT ob rfl)) rfl rfl ?_;refine d_4 ?_;refine bF rfl rfl rfl (.bin rfl rfl (vT cK (rfl))) rfl rfl ?_;refine d_3 ?_;refine bF rfl rfl rfl (.bin rfl rfl (vT cK (rfl))) rfl rfl ?_;refine e_s (j) ?_;refine bF rfl rfl rfl (.bin rfl rfl (vT ob rfl)) rfl rfl ?_;refine e_s (k) ?_;refine bF rfl rfl rfl (.bin rfl rfl (vT ob rfl)) rfl rfl ?_;refine d_3 ?_;refine bF rfl rfl rfl (.bin rfl rfl (vT cK (rfl))) rfl rfl ?_;refine d_3 ?_;refine bF rfl rfl rfl (.bin rfl rfl (vT cK (rfl))) rfl rfl ?_;refine e_s (i) ?_;refine bF rfl rfl rfl (.bin rfl rfl (vT ob rfl)) rfl rfl ?_;refine a_z ?_;exact ak (t_e (ah _))
theorem KD{l:List iu}(ho:∀t∈l,zO t)(h:ur l=true):(keM l).length<=1000/\(∀p∈keM l,p.1.length<=30/\p.2.length<=30)/\(vaB (keM l)=true->(keM l).length<=3/\(∀p∈keM l,p.1.length<=4/\p.2.length<=4)/\∀p∈keM l,bdL p.1 20/\bdL p.2 20):=by
 unfold ur at h;rw[sj,pZ] at h;obtain⟨i,k⟩:=h
 have j:l.length<=12/\(3< l.length->8< l.length):=by
  unfold ye at i;simp only[MU,JP,OH,decide_eq_false_iff_not] at i;omega
 have hp:∀p∈keM l,∃t∈l,p=(nL t.1,nL t.2):=λp hp=>by
  obtain⟨t,a,e⟩:=sd.1 hp;exact⟨t,a,e.symm⟩
 have hs:∀t∈l,t.1.length<=30/\t.2.length<=30/\fZ t.1=true/\fZ t.2=true:=λt a=>by
  have g:=k t a;unfold jf yd at g;simp only[sj,MU,JP,decide_eq_false_iff_not] at g;exact⟨ω,ω,g.2.1,g.2.2⟩
 refine⟨by rw[gj];omega,λp c=>?_,λhv=>?_⟩;obtain⟨t,a,rfl⟩:=hp p c;obtain⟨o,q,_,_⟩:=hs t a;exact⟨by simpa[nL] using o,by simpa[nL] using q⟩;unfold vaB at hv;simp only[sj,MU,decide_eq_true_eq] at hv;obtain⟨v1,v2⟩:=hv;rw[gj] at v2
 have hb:∀t∈l,(bdL (nL t.1) 20/\(nL t.1).length<=4)/\bdL (nL t.2) 20/\(nL t.2).length<=4:=λt a=>by
  obtain⟨_,_,d,f⟩:=hs t a
  have b:tQ (nL t.1,nL t.2)=false:=by
   have:=OX.1 v1 (nL t.1,nL t.2) (sd.2 ⟨t,a,rfl⟩);simpa using this
  unfold tQ at b;rw[JP] at b;unfold fZ at d f
  have n:gP t.1 4=true:=by
   rw[Nu] at d;rcases d with d|d
   exact d;rw[b.1] at d;cases d
  have m:gP t.2 4=true:=by
   rw[Nu] at f;rcases f with f|f
   exact f;rw[b.2] at f;cases f
  exact⟨uy n (ho t a).1.1,uy m (ho t a).1.2⟩
 refine⟨by rw[gj];omega,λp c=>?_,λp c=>?_⟩;obtain⟨t,a,rfl⟩:=hp p c;exact⟨(hb t a).1.2,(hb t a).2.2⟩;obtain⟨t,a,rfl⟩:=hp p c;exact⟨(hb t a).1.1,(hb t a).2.1⟩
theorem fQ(r:fO):∀c∈nuC r.1 r.2.1 r.2.2,Closed c:=ac (ah _) (ac (ah _) (ac (ah _) af))
theorem pE_get{p:Lq}{i:Nat}{q:Rat}(h:p[i]?=some q):∀e,e=i->(pE p)[e]?=some (qC q):=λe a=>by
 subst a;simp[pE,h]
def nqS(k:Lq)(g:Nat)(fst:La)(f:Rat->Rat):Nat->AState
 |0=>⟨[(1,.clos g fst []),(8,.arr (pE k)),(9,i64 k.length),(10,i64 0),(5,.emp)],[],1,22⟩
 |i+1=>⟨[(1,.clos g fst []),(8,.arr (pE k)),(9,i64 k.length),(10,i64 ((i+1:Nat):Int)),(5,.lsl 1 0 (i+1) none 3)],[(1,some ⟨42,3,pE ((k.take (i+1)).map f)⟩)],2,22⟩
theorem Ll(k:Lq)(g:Nat)(fst:La)(f:Rat->Rat)(hfst:∀c∈fst,Closed c)(hl:k.length<=1000)(hg:∀p∈k,FS g ((fst++[AV.agg (qC p)]++[]).map coe) (.agg (qC (f p)))):FS 114 [.arr (pE k),.clos g fst []] (.arr (pE (k.map f))):=by
 have n:(pE k).length=k.length:=(by simp[pE]:(pE k).length=k.length);have hcc:Closed (.clos g fst []):=aX hfst af;refine f_c Tryz.func114 ?_;refine r_z 1 ?_;refine r_z 1 ?_;refine ae (r_z 3 ?_);refine aJ (λ_:Unit=>⟨[(5,.arr (pE (k.map f)))],[],1,22⟩) (λ_=>True) ?_ ?_;refine aj (aC (nqS k g fst f) (λi=>k.length- i) (λi=>i<=k.length) 0 (mN _) ?_ ?_);rw[nqS.eq_1];refine s_x [] (λhs=>e_27) (λhs=>?_)
 ·repeat' (first|exact aF|refine h_c ?_ ?_|exact bG|refine aB ?_|exact av|refine ai ?_ ?_|exact ao hs (aw k)|exact ao hs hcc|exact aZ)
 intro i o;by_cases hlt:i< k.length;obtain⟨p,hp⟩:∃p,k[i]?=some p:=⟨_,eT hlt⟩;have h:=hg p (mc hp);have l:(k.take (i+1)).length=i+1:=by rw[yv];omega
 have b:pE ((k.take i).map f)++[qC (f p)]=pE ((k.take (i+1)).map f):=by rw[cZ hp,N7,Oj,ki];rfl
 cases i with
 |zero=>
  have a:(pE k)[((0:Int)).toNat]?=some (qC p):=pE_get hp _ rfl;rw[nqS.eq_1];refine q_z 1 ?_;refine ae (cT (an (ae (aj (s_r 4 ?_)))));refine i_x a ?_;refine l_x a ?_;refine a_z ?_;refine r_m 7 ?_;refine c_s (h) ?_;refine a_z ?_;refine r_m 2 ?_;refine a_z ?_;refine⟨0+1,ω,ω,?_⟩;rw[nqS.eq_2];rw[<-b];refine s_x [(1,5)] (λhs=>e_27) (λhs=>?_)
  ·repeat' (first|exact aF|refine h_c ?_ ?_|exact bv hs (aK [f p])|exact bG|refine aB ?_|exact av|refine ai ?_ ?_|exact ao hs (aw k)|exact ao hs hcc|exact aZ)
 |succ i=>
  have a:(pE k)[(((i+1:Nat):Int)).toNat]?=some (qC p):=pE_get hp _ ψ;have m:=eR ((k.take (i+1)).map f);have d:(pE ((k.take (i+1)).map f)).length=i+1:=by simp[pE];omega
  rw[nqS.eq_2];refine q_z 1 ?_;refine ae (cT (an (ae (aj (s_r 4 ?_)))));refine i_x a ?_;refine l_x a ?_;refine a_z ?_;refine r_m 7 ?_;refine c_s (h) ?_;refine a_z ?_;refine r_m 2 ?_;refine a_z ?_;refine⟨i+1+1,ω,ω,?_⟩;rw[nqS.eq_2];refine s_x [(1,5)] (λhs=>e_27) (λhs=>?_)
  ·repeat' (first|exact aF|refine h_c ?_ ?_|exact aM hs b (aK _)|exact bG|refine aB ?_|exact av|refine ai ?_ ?_|exact ao hs (aw k)|exact ao hs hcc|exact aZ)
 have e:i=k.length:=ω
 cases i with
 |zero=>
  have j:k=[]:=xi e.symm;subst j;rw[nqS.eq_1];refine q_z 1 ?_;refine ae (cF (ay ⟨(),trivial,?_⟩));exact s_e []
 |succ i=>
  have d:(pE (k.map f)).length=i+1:=by simp[pE];omega
  rw[nqS.eq_2,e,qj];refine q_z 1 ?_;refine ae (cF (ay ⟨(),trivial,?_⟩));exact s_x [] (λhs=>e_51) (λhs=>e_52)
 rintro _ _;refine r_z 2 ?_;exact ak (t_e (aw _))
def atS(k:Ke)(x y:Rat)(i:Nat):Rat:=(k.take i).foldl (λs p=>s+ag p.1 x* ag p.2 y) 0
def atK(k:Ke)(x y:Rat):Rat:=atS k x y k.length
theorem atS_0(k:Ke)(x y:Rat):atS k x y 0=0:=rfl
theorem atS_s{k:Ke}{x y:Rat}{i:Nat}{p:Lq×Lq}(h:k[i]?=some p):atS k x y (i+1)=atS k x y i+ag p.1 x* ag p.2 y:=by
 unfold atS;rw[cZ h,Ot];rfl
structure OkAt (k:Ke)(x y:Rat):Prop where
 ke:qw k
 e:∀p∈k,eg p.1 x/\eg p.2 y/\qs (ag p.1 x)+qs (ag p.2 y)<=549755813888
 a:∀i p,k[i]?=some p->qs (atS k x y i)+qs (ag p.1 x* ag p.2 y)<=549755813888
def atR(k:Ke)(x y:Rat):Nat->AState
 |i=>⟨[(4,bQ x),(5,bQ y),(6,.lptr 1 0 0),(9,.lptr 2 0 0),(18,.arr (kE k)),(19,i64 k.length),(20,i64 i)],[(2,some ⟨42,3,[qC (atS k x y i)]⟩),(1,some ⟨42,3,[qC 0]⟩)],3,37⟩
theorem Ly(k:Ke)(x y:Rat)(h:OkAt k x y):FS 10 [.arr (kE k),.agg (qC x),.agg (qC y)] (.tup [.agg (qC (atK k x y)),i64 0]):=by
 have l:(kE k).length=k.length:=em k;have o:=h.ke.1;have f:=wH k h.ke;refine f_n Tryz.func10 ?_ ?_;exact ac (a6 k) (ac (aU x) (ac (aU y) af));refine r_z 4 ?_;refine ae (r_c 3 (f) ?_);refine a_z ?_;refine s_r 2 ?_;refine a_1 ?_;refine o_0 (.bin rfl rfl (vF cx (rfl))) ?_;refine aq ?_;refine cF (an (r_z 1 ?_));refine ae (r_z 3 ?_);refine aJ (λ_:Unit=>⟨[(6,.lptr 1 0 0),(9,.lptr 2 0 0)],[(2,some ⟨42,3,[qC (atK k x y)]⟩),(1,some ⟨42,3,[qC 0]⟩)],3,37⟩) (λ_=>True) ?_ ?_;refine aj (aC (atR k x y) (λi=>k.length- i) (λi=>i<=k.length) 0 (mN _) ?_ ?_);rw[atR.eq_1,atS_0,qC0];refine s_x [(1,6),(2,9)] (λhs=>?_) (λhs=>?_)
 ·repeat' (first|exact aV|refine aA rfl ?_ ?_|exact ao hs (a6 k)|exact Cv.boxp hs rfl (aR rfl) rfl (bi _)|exact aZ)
 ·repeat' (first|exact aF|refine h_c ?_ ?_|exact bv hs (aK [0])|exact bG|refine aB ?_|exact av|refine ai ?_ ?_|exact ao hs (a6 k)|exact Cv.boxp hs rfl (aR rfl) rfl (bi _)|exact aZ)
 intro i q;rw[atR.eq_1];by_cases hlt:i< k.length;obtain⟨p,hp⟩:∃p,k[i]?=some p:=⟨_,eT hlt⟩;have b:(kE k)[((i:Nat):Int).toNat]?=some (prC p):=kR hp _ ψ;have d:=mc hp;have m:=fg p.1 x (h.e p d).1;have g:=fg p.2 y (h.e p d).2.1;have n:=cQ _ _ (h.e p d).2.2;have j:=eS _ _ (h.a i p hp);refine q_z 1 ?_;refine ae (cT (an (ae (aj (s_r 4 ?_)))));refine i_x b ?_;refine l_x b ?_;refine a_z ?_;refine r_d ba 12 ?_;refine c_s (m) ?_;refine c_s (g) ?_;refine c_s (n) ?_;refine c_s (j) ?_;refine a_1 ?_;refine aq (n_k ?_);refine r_m 2 ?_;refine a_z ?_;refine⟨i+1,ω,ω,?_⟩;rw[atR.eq_1,atS_s hp];refine s_x [(1,6),(2,9)] (λhs=>?_) (λhs=>?_)
 ·repeat' (first|exact aV|refine aA rfl ?_ ?_|exact ao hs (a6 k)|exact ao hs (cO _)|exact aZ)
 ·repeat' (first|exact aF|refine h_c ?_ ?_|exact bv hs (aK [_])|exact bG|refine aB ?_|exact av|refine ai ?_ ?_|exact ao hs (a6 k)|exact ao hs (cO _)|exact aZ)
 have c:i=k.length:=ω
 refine q_z 1 ?_;refine ae (cF (ay ⟨(),trivial,?_⟩));rw[c];exact s_f [(1,6),(2,9)];rintro _ _;refine r_z 3 ?_;refine ak (Fin.many ⟨_,_,rfl,⟨_,_,_,_,_,rfl,rfl,rfl,.inl ⟨TG.h,_,TS.h,nle rfl,rfl⟩⟩,⟨_,_,rfl,rfl,rfl⟩⟩ (nle rfl) ?_);exact ai (ao aE (aU _)) (ai (ao aE (ah _)) av)
def noA(k:Ke)(x v:Lq)(i j:Nat):Rat:=atK k (coP x i) (coP x j) * coP v j
theorem CB(k:Ke)(l:Rat)(g x v:Lq)(i j:Nat)(hi:i< x.length)(hj:j< x.length)(hv:v.length=x.length)(hxl:x.length<=1000)(h:OkAt k (coP x i) (coP x j))(hm:qs (atK k (coP x i) (coP x j))+qs (coP v j)<=549755813888):
    FS 112 ((i64 i::i64 j::[bTk k l g 0 0,bP x,bP v]).map coe) (.agg (qC (noA k x v i j))):=by
 have m:=Ly k _ _ h;have f:=cQ _ _ hm;have d:(pE x).length=x.length:=by simp[pE]
 have c:(pE v).length=v.length:=by simp[pE]
 have b:(pE x)[((i:Nat):Int).toNat]?=some (qC (coP x i)):=by
  have:=cm (p:=x) (i:=i) hi;simp[pE,this]
 have a:(pE x)[((j:Nat):Int).toNat]?=some (qC (coP x j)):=by
  have:=cm (p:=x) (i:=j) hj;simp[pE,this]
 have e:(pE v)[((j:Nat):Int).toNat]?=some (qC (coP v j)):=by
  have:=cm (p:=v) (i:=j) ω;simp[pE,this]
 refine f_n Tryz.func112 ?_ ?_;exact ac (ah _) (ac (ah _) (ac (cj k l g 0 0) (ac (b9 x) (ac (b9 v) af))));refine r_z 1 ?_;refine ae (r_d ba 18 ?_);refine a_5 ?_;refine i_x b ?_;refine l_x b ?_;refine a_2 ?_;refine i_x a ?_;refine l_x a ?_;refine c_s (m) ?_;refine a_6 ?_;refine aq (n_k ?_);refine ae (r_d ba 7 ?_);refine a_3 ?_;refine i_x e ?_;refine l_x e ?_;refine c_s (f) ?_;refine a_1 ?_;refine aq (n_k ?_);exact ak (c_e (aU _))
end Go.Proofs.YtjmkjicckobojaaGreatDoor
