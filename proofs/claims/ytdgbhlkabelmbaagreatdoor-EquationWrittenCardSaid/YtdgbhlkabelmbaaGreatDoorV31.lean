/- Part V31 of the proof. -/
import Derived.Test.YtdgbhlkabelmbaaGreatDoorV30
import Derived.ChangeSame
import Derived.ProofKit
import Derived.OpenShut
import Derived.Carry
import Derived.Deep.Slices
import Derived.Deep.Strs
import Derived.ChangeArms
set_option linter.all false
namespace Go.Proofs.YtdgbhlkabelmbaaGreatDoor
open Go.Abs
set_option maxRecDepth 100000
set_option maxHeartbeats 4000000
abbrev q1I:Rat:=((1:Int):Rat)
def clL(p:List Rat×List Rat)(l a b:Rat):List Rat:=xt (syM [p] l [q1I] a b).1 1 (syM [p] l [q1I] a b).2
def clC(p:List Rat×List Rat)(l a b:Rat):Rat:=coP (clL p l a b) 0
def uU(p:List Rat×List Rat)(l a b vA vB:Rat):Rat:=0+vA* fS (clC p l a b) * vB
def clW(l a b:Rat):Rat:=fS l* (b- a)
def clB(p:List Rat×List Rat)(l a b vA vB:Rat):Rat:=q1I+clW l a b* uU p l a b vA vB
def uT(p:List Rat×List Rat)(l a b vA vB ep:Rat):Rat:=clW l a b* ep* clB p l a b vA vB
def CU(p:List Rat×List Rat)(l a b vA vB ep:Rat):Rat:=q1I- uT p l a b vA vB ep
def AG(p:List Rat×List Rat)(l a b vA vB ep de vU:Rat):Rat:=clB p l a b vA vB* (de+clW l a b* ep* vU) / CU p l a b vA vB ep
def mxQ:Nat:=549755813888
structure OkCl (p:List Rat×List Rat)(l:Rat)(g:List Rat)(a b ep de vA vB vU:Rat):Prop where
 e0:0≤ep
 d0:0≤de
 q1:qs vA+qs (fS (clC p l a b))≤mxQ
 q2:qs (vA* fS (clC p l a b))+qs vB≤mxQ
 q3:qs 0+qs (vA* fS (clC p l a b) * vB)≤mxQ
 q4:qs (fS l)+qs (b- a)≤mxQ
 q5:qs (clW l a b)+qs (uU p l a b vA vB)≤mxQ
 q6:qs q1I+qs (clW l a b* uU p l a b vA vB)≤mxQ
 q7:qs (clW l a b)+qs ep≤mxQ
 q8:qs (clW l a b* ep)+qs (clB p l a b vA vB)≤mxQ
 q9:qs q1I+qs (uT p l a b vA vB ep)≤mxQ
 r0:0< CU p l a b vA vB ep
 qa:qs (clW l a b* ep)+qs vU≤mxQ
 qb:qs de+qs (clW l a b* ep* vU)≤mxQ
 qc:qs (clB p l a b vA vB)+qs (de+clW l a b* ep* vU)≤mxQ
 qd:qs (clB p l a b vA vB* (de+clW l a b* ep* vU))+qs (CU p l a b vA vB ep)≤mxQ
def neC(U:List Rat)(bo sh ra:Rat):List AV:= .arr (pE U)::(qC bo++(qC sh++qC ra))
theorem iG(U:List Rat)(bo sh ra:Rat):∀c∈neC U bo sh ra,Closed c:=ac (ax U) (b8 (aZ bo) (b8 (aZ sh) (aZ ra)))
def nC1(U:List Rat)(bo:Rat):List AV:= .arr (pE U)::(qC bo++(zC++zC))
theorem CT(U:List Rat)(bo:Rat):∀e∈[nC1 U bo],∀c∈e,Closed c:=fun e a=>by
 rw[List.mem_singleton.1 a];exact ac (ax U) (b8 (aZ bo) (b8 nh nh))
def nC2(U:List Rat)(bo sh:Rat):List AV:= .arr (pE U)::(qC bo++(qC sh++zC))
theorem CS(U:List Rat)(bo sh:Rat):∀e∈[nC2 U bo sh],∀c∈e,Closed c:=fun e a=>by
 rw[List.mem_singleton.1 a];exact ac (ax U) (b8 (aZ bo) (b8 (aZ sh) nh))
def zNe:List AV:=[.emp,.emp,bln false,.emp,.emp,bln false,.emp,.emp,bln false,.emp]
def clV(x y:Rat):Nat→Rat
 |0=>x
 |_+1=>y
def clO(p:List Rat×List Rat)(l:Rat)(g:List Rat)(a b ep de vA vB:Rat)(gr:Int)(A:Mx)(L:List Nat):Nat→AState
 |j=>⟨[(6,bSp a b),(7,bQ ep),(8,bQ de),(10,.lptr 1 0 0),(12,bTk [p] l g a b),(13,bSy 1 A L),(14,bSz a b gr),(15,.arr (pE [vA])),(16,.arr (pE [vB])),(17,.lptr 2 0 0),(67,i64 1),(68,i64 j)],[(1,some ⟨87,10,[zNe]⟩),(2,some ⟨36,3,[qC (clV 0 (uU p l a b vA vB) j)]⟩)],3,172⟩
def clI(p:List Rat×List Rat)(l:Rat)(g:List Rat)(a b ep de vA vB:Rat)(gr:Int)(A:Mx)(L:List Nat):Nat→AState
 |i=>⟨[(6,bSp a b),(7,bQ ep),(8,bQ de),(10,.lptr 1 0 0),(12,bTk [p] l g a b),(13,bSy 1 A L),(14,bSz a b gr),(15,.arr (pE [vA])),(16,.arr (pE [vB])),(17,.lptr 2 0 0),(67,i64 1),(68,i64 0),(18,i64 0),(90,.arr (pE (clL p l a b))),(91,i64 1),(92,i64 i)],[(1,some ⟨87,10,[zNe]⟩),(2,some ⟨36,3,[qC (clV 0 (uU p l a b vA vB) i)]⟩)],3,172⟩
theorem Fl (p:List Rat×List Rat) (l:Rat) (g:List Rat) (a b ep de vA vB vU:Rat) (gr:Int) (s:Nat) (h:OkTa [p] l g a b s) (h2:OkSu [p] l g a b) (hs1:1≤s) (hL:(syM [p] l (rhK [p] g a b) a b).2.length=1) (ok:OkCl p l g a b ep de vA vB vU)
    (hzA:FS 53 [.agg (spC a b++[i64 gr]),.arr (pE p.1)] (.agg (qC vA))) (hzB:FS 53 [.agg (spC a b++[i64 gr]),.arr (pE p.2)] (.agg (qC vB))) (hzU:FS 53 [.agg (spC a b++[i64 gr]),.arr (pE (syU [p] l g a b))] (.agg (qC vU))):
    FS 22 [.agg (eqC [p] l g),.agg (spC a b),.agg (qC ep),.agg (qC de),i64 gr] (.tup [.agg (neC (syU [p] l g a b) (clB p l a b vA vB) (uT p l a b vA vB ep) (AG p l a b vA vB ep de vU)),i64 0]):=by
 have G:=gT [p] l g a b h.ke h.ha h.hb h.ab h.dg h.gl;have hs:=mY [p] l g a b s h.sy h.rh;have N:¬sgZ ep.num< 0:=fun e=>by have:=sgZ_num_lt.1 e;have:=ok.e0;grind
 have O:¬sgZ de.num< 0:=fun e=>by have:=sgZ_num_lt.1 e;have:=ok.d0;grind
 have k:=uo [p] 55 [bSz a b gr] (fun _=>vA) (ac (dx a b gr) af) (by simp) fun q x=>by
  rw[List.mem_singleton.1 x];exact fs_Clo1 p a b gr vA hzA
 have n:=uo [p] 56 [bSz a b gr] (fun _=>vB) (ac (dx a b gr) af) (by simp) fun q x=>by
  rw[List.mem_singleton.1 x];exact fs_Clo2 p a b gr vB hzB
 have i1:=du 1 (by decide);obtain⟨A,hA⟩:∃A,A=(syM [p] l (rhK [p] g a b) a b).1:=⟨_,rfl⟩;obtain⟨L,c⟩:∃L,L=(syM [p] l (rhK [p] g a b) a b).2:=⟨_,rfl⟩;have w:syV 1 (A,L)=syV [p].length (syM [p] l (rhK [p] g a b) a b):=by rw[hA,c];rfl
 rw[←w] at hs;rw[←c] at hL;have R:(kE [p]).length=1:=rfl;have E:(lvE L).length=1:=by rw[jH,hL]
 refine f_n Tryz.func22 ?_ ?_;exact ac (aC (cZ [p] l g)) (ac (aC (aY a b)) (ac (aT ep) (ac (aT de) (ac (ag _) af))));refine r_z 6 ?_;refine AWp.ent (st':=⟨[(4,i64 gr),(5,.aptr [eqC [p] l g] 0 0),(6,bSp a b),(7,bQ ep),(8,bQ de),(10,.lptr 1 0 0)],[(1,some ⟨87,10,[zNe]⟩)],2,172⟩) ?_ ?_;refine s_x [(1,10)] (fun hs=>?_) (fun hs=>?_)
 ·repeat' (first|exact aN|refine aA rfl ?_ ?_|exact Cv.boxp hs rfl (aM rfl) rfl (cZ [p] l g)|exact Cv.boxp hs rfl (aM rfl) rfl (aY a b)|exact Cv.boxp hs rfl (aM rfl) rfl (aZ _)|exact aV)
 ·repeat' (first|exact aE|refine h_c ?_ ?_|exact bC|refine az ?_|exact av|refine ah ?_ ?_|exact Cv.boxp hs rfl (aM rfl) rfl (cZ [p] l g)|exact Cv.boxp hs rfl (aM rfl) rfl (aY a b)|exact Cv.boxp hs rfl (aM rfl) rfl (aZ _)|exact aV)
 refine r_z 5 ?_;refine AWp.ent (st':=⟨[(4,i64 gr),(6,bSp a b),(7,bQ ep),(8,bQ de),(10,.lptr 1 0 0),(12,bTk [p] l g a b)],[(1,some ⟨87,10,[zNe]⟩)],2,172⟩) ?_ ?_;refine s_x [(1,10)] (fun hs=>?_) (fun hs=>?_)
 ·repeat' (first|exact aN|refine aA rfl ?_ ?_|exact am hs (bJ a b)|exact Cv.boxp hs rfl (aM rfl) rfl (dN [p] l g a b)|exact aV)
 ·repeat' (first|exact aE|refine h_c ?_ ?_|exact bC|refine az ?_|exact av|refine ah ?_ ?_|exact am hs (bJ a b)|exact Cv.boxp hs rfl (aM rfl) rfl (dN [p] l g a b)|exact aV)
 refine ae (r_c 12 (G) ?_);refine c_s (cw ep) ?_;refine e_s (cw de) ?_;refine d_z ?_;refine cF (ak (r_c 4 (hs) ?_));refine a_z ?_;refine AWp.ent (st':=⟨[(4,i64 gr),(6,bSp a b),(7,bQ ep),(8,bQ de),(10,.lptr 1 0 0),(12,bTk [p] l g a b),(13,bSy 1 A L)],[(1,some ⟨87,10,[zNe]⟩)],2,172⟩) ?_ ?_;refine s_x [(1,10)] (fun hs=>?_) (fun hs=>?_)
 ·repeat' (first|exact aN|refine aA rfl ?_ ?_|exact am hs (bJ a b)|exact am hs (cy [p] l g a b)|exact Cv.boxp hs rfl (aM rfl) rfl (dO 1 A L)|exact aV)
 ·repeat' (first|exact aE|refine h_c ?_ ?_|exact bC|refine az ?_|exact av|refine ah ?_ ?_|exact am hs (bJ a b)|exact am hs (cy [p] l g a b)|exact Cv.boxp hs rfl (aM rfl) rfl (dO 1 A L)|exact aV)
 refine ae (q_z 6 ?_);refine cF (ak (r_z 6 ?_));refine AWp.ent (st':=⟨[(6,bSp a b),(7,bQ ep),(8,bQ de),(10,.lptr 1 0 0),(12,bTk [p] l g a b),(13,bSy 1 A L),(14,bSz a b gr)],[(1,some ⟨87,10,[zNe]⟩)],2,172⟩) ?_ ?_;refine s_x [(1,10)] (fun hs=>?_) (fun hs=>?_)
 ·repeat' (first|exact aN|refine aA rfl ?_ ?_|exact am hs (bJ a b)|exact am hs (cy [p] l g a b)|exact am hs (bm 1 A L)|exact Cv.boxp hs rfl (aM rfl) rfl (ac (oz a b gr) af)|exact aV)
 ·repeat' (first|exact aE|refine h_c ?_ ?_|exact bC|refine az ?_|exact av|refine ah ?_ ?_|exact am hs (bJ a b)|exact am hs (cy [p] l g a b)|exact am hs (bm 1 A L)|exact Cv.boxp hs rfl (aM rfl) rfl (ac (oz a b gr) af)|exact aV)
 refine r_c 6 (k) ?_;refine a_z ?_;refine r_c 6 (n) ?_;refine a_z ?_;refine r_z 1 ?_;refine ae (r_z 5 ?_);refine aG (fun _:Unit=>clO p l g a b ep de vA vB gr A L 1) (fun _=>True) ?_ ?_;refine aj (aB (clO p l g a b ep de vA vB gr A L) (fun j=>1- j) (fun j=>j≤1) 0 (Nat.zero_le _) ?_ ?_);rw[clO.eq_1];refine s_x [(1,10),(2,17)] (fun hs=>e_7) (fun hs=>?_)
 ·repeat' (first|exact aE|refine h_c ?_ ?_|exact CvLL.zeros hs 1|exact bC|refine az ?_|exact av|refine ah ?_ ?_|exact am hs (bJ a b)|exact am hs (cy [p] l g a b)|exact am hs (bm 1 A L)|exact am hs (dx a b gr)|exact am hs (cu _)|exact am hs (ax _)|exact aV)
 intro j T;by_cases h1:j< 1;obtain rfl:j=0:=by omega
 rw[clO.eq_1]
 have r:=s8 [p] l a b s [q1I] h.sy rfl fun i B=>by
  obtain rfl:i=0:=by simpa using B
  exact Nat.le_trans (by decide:qs (coP [q1I] 0)≤1) hs1
 have f:=sI (syM [p] l [q1I] a b).1 1 (syM [p] l [q1I] a b).2 (dY _ _ _) (by decide);have u:Closed (syV [p].length (syM [p] l [q1I] a b)):=fz _ _ _;have z:(pE (clL p l a b)).length=1:=by simp[pE,clL]
 refine s_r 1 ?_;refine o_0 (.bin rfl rfl (vT eN (rfl))) ?_;refine ao ?_;refine ae (cT (ak (ae (aj (r_z 2 ?_)))));refine r_z 6 ?_;refine r_c 5 (i1) ?_;refine a_z ?_;refine AWp.ent (st':=⟨[(6,bSp a b),(7,bQ ep),(8,bQ de),(10,.lptr 1 0 0),(12,bTk [p] l g a b),(13,bSy 1 A L),(14,bSz a b gr),(15,.arr (pE [vA])),(16,.arr (pE [vB])),(17,.lptr 2 0 0),(67,i64 1),(68,i64 0),(18,i64 0),(19,.arr (pE [q1I]))],[(1,some ⟨87,10,[zNe]⟩),(2,some ⟨36,3,[qC (clV 0 (uU p l a b vA vB) 0)]⟩)],3,172⟩) ?_ ?_;refine s_x [(1,10),(2,17)] (fun hs=>?_) (fun hs=>?_)
 ·repeat' (first|exact aN|refine aA rfl ?_ ?_|exact am hs (bJ a b)|exact am hs (cy [p] l g a b)|exact am hs (bm 1 A L)|exact am hs (dx a b gr)|exact am hs (cu _)|exact am hs (ax _)|(refine Cv.shut hs rfl (aM rfl) (nle rfl) ?_;exact aI hs rfl (aJ [q1I]))|exact aV)
 ·repeat' (first|exact aE|refine h_c ?_ ?_|exact bC|refine az ?_|exact av|refine ah ?_ ?_|exact am hs (bJ a b)|exact am hs (cy [p] l g a b)|exact am hs (bm 1 A L)|exact am hs (dx a b gr)|exact am hs (cu _)|exact am hs (ax _)|(refine Cv.shut hs rfl (aM rfl) (nle rfl) ?_;exact aI hs rfl (aJ [q1I]))|exact aV)
 refine ae (AWp.regAB 4 9 84 a6 (qk [p] a b h.sy.m) (r) (u) rfl rfl rfl rfl rfl rfl rfl rfl rfl rfl (by kernel_rfl) rfl rfl rfl ?_)
 first|refine AY.op0 (.fieldAddr_l rfl TF.h (by decide)) rfl rfl ?_|refine AY.op0 (.fieldAddr_a rfl TF.h (by decide)) rfl rfl ?_
 first|refine AY.op0 (.fieldAddr_l rfl TF.h (by decide)) rfl rfl ?_|refine AY.op0 (.fieldAddr_a rfl TF.h (by decide)) rfl rfl ?_
 first|refine AY.op0 (.load_l1 rfl rfl rfl TG.h rfl) rfl rfl ?_|refine AY.op0 (.load_a1 rfl rfl TG.h rfl) rfl rfl ?_
 first|refine AY.op0 (.load_l rfl rfl rfl TG.h TS.h (nle rfl)) rfl rfl ?_|refine AY.op0 (.load_a rfl rfl TG.h TS.h (nle rfl)) rfl rfl ?_
 refine AY.sp rfl rfl (kAB.a rfl rfl rfl (ac (aU [p]) (ac (aC (aY a b)) af)) rfl) ?_
 first|refine AY.op0 (.fieldAddr_l rfl TF.h (by decide)) rfl rfl ?_|refine AY.op0 (.fieldAddr_a rfl TF.h (by decide)) rfl rfl ?_
 first|refine AY.op0 (.fieldAddr_l rfl TF.h (by decide)) rfl rfl ?_|refine AY.op0 (.fieldAddr_a rfl TF.h (by decide)) rfl rfl ?_
 first|refine AY.op0 (.load_l rfl rfl rfl TG.h TS.h (nle rfl)) rfl rfl ?_|refine AY.op0 (.load_a rfl rfl TG.h TS.h (nle rfl)) rfl rfl ?_
 refine AY.op0 (.move rfl) rfl rfl ?_;refine AY.sp rfl rfl (kAB.b rfl rfl (ArgsB.own (ArgsB.clo rfl (aC (aZ l)) (ArgsB.clo rfl (ax _) ArgsB.nil))) rfl) ?_;refine AY.op0 (.call rfl rfl rfl (f)) rfl rfl ?_
 first|refine AY.op0 (.lenD rfl rfl rfl rfl te_37.h) rfl rfl ?_|refine AY.op0 (.lenI rfl rfl rfl rfl te_37.h) rfl rfl ?_|refine AY.op0 (.lenP rfl rfl rfl rfl te_37.h) rfl rfl ?_|refine AY.op0 (.lenC rfl rfl rfl rfl te_37.h) rfl rfl ?_|refine AY.op0 (.lenR rfl rfl rfl rfl te_37.h) rfl rfl ?_|refine AY.op0 (.len rfl rfl rfl rfl rfl te_37.h) rfl rfl ?_
 refine AY.op0 (.move rfl) rfl rfl ?_;refine AY.nil ⟨by kernel_rfl,?_⟩;refine AWp.cutB (fun _:Unit=>clI p l g a b ep de vA vB gr A L 1) (fun _=>True) ?_ ?_;refine aj (aB (clI p l g a b ep de vA vB gr A L) (fun i=>1- i) (fun i=>i≤1) 0 (Nat.zero_le _) ?_ ?_);rw[clI.eq_1];exact s_x [] (fun hs=>e_7) (fun hs=>H2);intro i B;by_cases h1:i< 1;obtain rfl:i=0:=by omega
 rw[clI.eq_1]
 have d:(pE (clL p l a b))[((0:Nat):Int).toNat]?=some (qC (clC p l a b)):=by
  have:(clL p l a b).length=1:=by simp[clL]
  have:=ca (p:=clL p l a b) (i:=0) (by omega);simp[pE,clC,this]
 have m1:=cJ vA (fS (clC p l a b)) ok.q1;have m2:=cJ (vA* fS (clC p l a b)) vB ok.q2;have v:=fh 0 (vA* fS (clC p l a b) * vB) ok.q3;refine s_r 1 ?_;refine o_0 (.bin rfl rfl (vT eN (rfl))) ?_;refine ao ?_;refine ae (cT (ak (ae (aj (s_r 6 ?_)))));refine a_1 ?_;refine i_x d ?_;refine l_x d ?_;refine a_z ?_;refine r_d a6 15 ?_;refine c_s (qR (clC p l a b)) ?_;refine c_s (m1) ?_;refine c_s (m2) ?_;refine c_s (v) ?_;refine a_1 ?_;refine ao (n_k ?_);refine r_m 2 ?_;refine a_z ?_;refine⟨1,by omega,by omega,?_⟩;rw[clI.eq_1];exact s_x [] (fun hs=>e_7) (fun hs=>H2);obtain rfl:i=1:=by omega
 rw[clI.eq_1];refine s_r 1 ?_;refine o_0 (.bin rfl rfl (vF eN (rfl))) ?_;refine ao ?_;refine ae (cF (ay ⟨(),trivial,?_⟩));exact s_x [] (fun hs=>e_7) (fun hs=>H2);rintro _ _;rw[clI.eq_1];refine r_m 2 ?_;refine a_z ?_;refine⟨1,by omega,by omega,?_⟩;rw[clO.eq_1];exact s_x [] (fun hs=>e_7) (fun hs=>H2);obtain rfl:j=1:=by omega
 rw[clO.eq_1];refine s_r 1 ?_;refine o_0 (.bin rfl rfl (vF eN (rfl))) ?_;refine ao ?_;refine ae (cF (ay ⟨(),trivial,?_⟩));exact s_x [] (fun hs=>e_7) (fun hs=>H2);rintro _ _;rw[clO.eq_1];have S:=wr a b h.ha h.hb;have D:=cJ (fS l) (b- a) ok.q4;have f:=sI A 1 L (by rw[hA,c];exact dY _ _ _) (by decide);have y:=sJ [p] (lN [p] l g a b) (by unfold lN;simp) (by simp) h2.ms;have t:=eI _ l h2.u1 h2.sl h2.u2;have o:=mh g _ h2.sg h2.v1 h.gl h2.v2;have F:xt A 1 L=lN [p] l g a b:=by rw[hA,c];rfl
 rw[F] at f;have m1:=cJ (clW l a b) (uU p l a b vA vB) ok.q5;have v:=fh q1I (clW l a b* uU p l a b vA vB) ok.q6;have m2:=cJ (clW l a b) ep ok.q7;have C:=cJ (clW l a b* ep) (clB p l a b vA vB) ok.q8;have s1:=jL q1I (uT p l a b vA vB ep) ok.q9;have J:=cJ (clW l a b* ep) vU ok.qa;have H:=fh de (clW l a b* ep* vU) ok.qb;have K:=cJ (clB p l a b vA vB) (de+clW l a b* ep* vU) ok.qc;have Q:=kN (clB p l a b vA vB* (de+clW l a b* ep* vU)) (CU p l a b vA vB ep) (by have:=ok.r0;grind) ok.qd;have M:¬sgZ (CU p l a b vA vB ep).num≤0:=by have:=sgZ_num_gt.2 ok.r0;omega
 refine ae (r_d a6 9 ?_);refine c_s (qR l) ?_;refine c_s (S) ?_;refine c_s (D) ?_;refine a_2 ?_;refine ao (n_k ?_);refine AWp.ent (st':=⟨[(7,bQ ep),(8,bQ de),(10,.lptr 1 0 0),(12,bTk [p] l g a b),(13,bSy 1 A L),(14,bSz a b gr),(17,bQ (uU p l a b vA vB)),(22,bQ (clW l a b))],[(1,some ⟨87,10,[zNe]⟩)],2,172⟩) ?_ ?_;refine s_x [(1,10)] (fun hs=>e_16) (fun hs=>?_)
 ·repeat' (first|exact aE|refine h_c ?_ ?_|exact bC|refine az ?_|exact av|refine ah ?_ ?_|exact am hs (bJ a b)|exact am hs (cy [p] l g a b)|exact am hs (bm 1 A L)|exact am hs (dx a b gr)|exact am hs (cu _)|exact am hs (ax _)|exact Cv.boxp hs rfl (aM rfl) rfl (aZ _)|exact aV)
 refine ae (r_d a6 22 ?_);refine c_s (f) ?_;refine c_s (y) ?_;refine c_s (t) ?_;refine c_s (o) ?_;refine c_s (i1) ?_;refine c_s (m1) ?_;refine c_s (v) ?_;refine a_3 ?_;refine ao (n_k ?_);refine AWp.ent (st':=⟨[(7,bQ ep),(8,bQ de),(10,.lptr 1 0 0),(14,bSz a b gr),(22,bQ (clW l a b)),(23,.lptr 2 0 0)],[(1,some ⟨87,10,[zNe]⟩),(2,some ⟨87,10,[nC1 (syU [p] l g a b) (clB p l a b vA vB)]⟩)],3,172⟩) ?_ ?_;refine s_x [(1,10),(2,23)] (fun hs=>e_16) (fun hs=>?_)
 ·repeat' (first|exact aE|refine h_c ?_ ?_|exact aI hs rfl (CT _ _)|exact bC|refine az ?_|exact av|refine ah ?_ ?_|exact am hs (bJ a b)|exact am hs (cy [p] l g a b)|exact am hs (bm 1 A L)|exact am hs (dx a b gr)|exact am hs (cu _)|exact am hs (ax _)|exact Cv.boxp hs rfl (aM rfl) rfl (aZ _)|exact aV)
 refine ae (r_d a6 8 ?_);refine c_s (m2) ?_;refine c_s (C) ?_;refine a_2 ?_;refine ao (n_k ?_);refine AWp.ent (st':=⟨[(7,bQ ep),(8,bQ de),(10,.lptr 1 0 0),(14,bSz a b gr),(22,bQ (clW l a b)),(23,.lptr 2 0 0)],[(1,some ⟨87,10,[zNe]⟩),(2,some ⟨87,10,[nC2 (syU [p] l g a b) (clB p l a b vA vB) (uT p l a b vA vB ep)]⟩)],3,172⟩) ?_ ?_;exact s_x [(1,10),(2,23)] (fun hs=>e_16) (fun hs=>e_52);refine ae (r_d a6 6 ?_);refine c_s (i1) ?_;refine c_s (s1) ?_;refine a_2 ?_;refine ao (n_k ?_);refine AWp.ent (st':=⟨[(7,bQ ep),(8,bQ de),(10,.lptr 1 0 0),(14,bSz a b gr),(22,bQ (clW l a b)),(23,.lptr 2 0 0),(24,bQ (CU p l a b vA vB ep))],[(1,some ⟨87,10,[zNe]⟩),(2,some ⟨87,10,[nC2 (syU [p] l g a b) (clB p l a b vA vB) (uT p l a b vA vB ep)]⟩)],3,172⟩) ?_ ?_;exact s_x [(1,10),(2,23)] (fun hs=>e_16) (fun hs=>e_52);refine ae (r_c 3 (cw (CU p l a b vA vB ep)) ?_);refine d_z ?_;refine cF (ak (ae (r_d a6 17 ?_)));refine c_s (m2) ?_;refine c_s (hzU) ?_;refine c_s (J) ?_;refine c_s (H) ?_;refine c_s (K) ?_;refine c_s (Q) ?_;refine a_2 ?_;refine ao (n_k ?_);refine AWp.ent (st':=⟨[(10,.lptr 1 0 0),(23,.lptr 2 0 0)],[(1,some ⟨87,10,[zNe]⟩),(2,some ⟨87,10,[neC (syU [p] l g a b) (clB p l a b vA vB) (uT p l a b vA vB ep) (AG p l a b vA vB ep de vU)]⟩)],3,172⟩) ?_ ?_;exact s_f [(1,10),(2,23)];refine r_z 3 ?_;refine ai (Fin.many ⟨_,_,rfl,⟨_,_,_,_,_,rfl,rfl,rfl,.inl ⟨TG.h,_,TS.h,nle rfl,rfl⟩⟩,⟨_,_,rfl,rfl,rfl⟩⟩ (nle rfl) ?_);exact ah (am aD (aC (iG _ _ _ _))) (ah (am aD (ag _)) av)
def itE(l:List Int):List Rat→Nat→AState
 |[],i=>⟨[(0,.arr (zE l)),(3,.emp),(4,i64 i)],[],1,20⟩
 |q::Q,i=>⟨[(0,.arr (zE l)),(3,.lsl 1 0 (Q.length+1) none 3),(4,i64 i)],[(1,some ⟨36,3,pE (q::Q)⟩)],2,20⟩
theorem po(l:List Int)(i:Nat):itE l [] i=⟨[(0,.arr (zE l)),(3,.emp),(4,i64 i)],[],1,20⟩:=rfl
theorem kJ(l:List Int)(q:Rat)(Q:List Rat)(i:Nat):itE l (q::Q) i=⟨[(0,.arr (zE l)),(3,.lsl 1 0 (Q.length+1) none 3),(4,i64 i)],[(1,some ⟨36,3,pE (q::Q)⟩)],2,20⟩:=rfl
theorem wm(l:List Int)(hl:l.length≤1099511627776)(hb:∀n∈l,-9223372036854775808≤n∧n≤9223372036854775807):FS 20 [.arr (zE l)] (.arr (pE (zR l))):=by
 refine f_n Tryz.func20 ?_ ?_;exact ac (aH (iC l)) af;refine r_z 1 ?_;refine r_z 1 ?_;refine ae (r_z 1 ?_);refine aG (fun _:Unit=>itE l (zR l) l.length) (fun _=>True) ?_ ?_;refine aj (aB (fun i:Nat=>itE l (zR (l.take i)) i) (fun i=>l.length- i) (fun i=>i≤l.length) 0 (Nat.zero_le _) ?_ ?_);show SEnt _ (itE l [] 0);rw[po];have:=(aH (iC l));exact s_f [];rintro i k;have j:(zE l).length=l.length:=by simp[zE]
 by_cases hlt:i< l.length
 ·obtain⟨n,f⟩:∃n,l[i]?=some n:=⟨_,List.getElem?_eq_getElem hlt⟩
  have a:(zE l)[((i:Nat):Int).toNat]?=some [i64 n]:=by
   show(zE l)[i]?=_;simp[zE,f]
  have b:=hb n (List.mem_of_getElem? f);have d:zR (l.take (i+1))=zR (l.take i)++[(n:Rat)]:=by rw[cx f];simp[zR]
  have c:(zR (l.take i)).length=i:=by simp[zR];omega
  cases hQ:zR (l.take i) with
  |nil=>
   simp only[po];refine ae (r_z 4 ?_);refine ap rfl (fun h=>?_) (fun h=>?_);rotate_left;exact absurd h (by simp[zE];omega);refine ak (ae (aj (r_m 9 ?_)));refine a_3 ?_;refine i_x a ?_;refine l_1 a ?_;refine c_s (du n b) ?_;refine a_z ?_;refine r_m 3 ?_;refine a_z ?_;refine⟨i+1,by omega,hlt,?_⟩;simp only[d,hQ,List.nil_append,kJ];have:=(aH (iC l));have:=(aJ [(n:Rat)]);exact s_f [(1,3)]
  |cons q Q=>
   rw[hQ] at c;simp at c;simp only[kJ];refine ae (r_z 4 ?_);refine ap rfl (fun h=>?_) (fun h=>?_);rotate_left;exact absurd h (by simp[zE];omega);refine ak (ae (aj (r_m 9 ?_)));refine a_3 ?_;refine i_x a ?_;refine l_1 a ?_;refine c_s (du n b) ?_;refine a_z ?_;refine r_m 3 ?_;refine a_z ?_;refine⟨i+1,by omega,hlt,?_⟩;simp only[d,hQ,List.cons_append,kJ];have e:pE (q::Q)++[qC (n:Rat)]=pE (q::(Q++[(n:Rat)])):=by simp[pE]
   refine s_x [(1,3)] (fun hs=>?_) (fun hs=>?_) e_8
   ·repeat' (first|exact aN|refine aA rfl ?_ ?_|exact am hs (aH (iC l))|exact aV)
   ·repeat' (first|exact aE|refine h_c ?_ ?_|exact aI hs e (aJ _)|exact bC|refine az ?_|exact av|refine ah ?_ ?_|exact am hs (aH (iC l))|exact aV)
 have g:i=l.length:=by omega
 subst g;simp only[List.take_length];cases hQ:zR l with
 |nil=>
  simp only[po];refine ae (r_z 4 ?_);refine ap rfl (fun h=>?_) (fun h=>?_);exact absurd h (by simp[zE]);refine ay ⟨(),trivial,?_⟩;simp only[hQ,po];have:=(aH (iC l));exact s_f []
 |cons q Q=>
  simp only[kJ];refine ae (r_z 4 ?_);refine ap rfl (fun h=>?_) (fun h=>?_);exact absurd h (by simp[zE]);refine ay ⟨(),trivial,?_⟩;simp only[hQ,kJ];have:=(aH (iC l));exact s_f []
 rintro _ _;cases hQ:zR l with
 |nil=>
  simp only[po];refine r_z 2 ?_;exact ai (Fin.tmpN rfl)
 |cons q Q=>
  simp only[kJ];refine r_z 2 ?_;exact ai (Fin.tmpS rfl rfl rfl (by simp) (aJ _))
abbrev x1W:List Rat:=zR [0,1]
abbrev p1W:List Rat×List Rat:=(x1W,x1W)
abbrev o1W:List Rat:=zR [1]
abbrev p2W:List Rat×List Rat:=(o1W,o1W)
abbrev q3I:Rat:=((3:Int):Rat)
abbrev tnW:Rat:=((1:Int):Rat) / ((10:Int):Rat)
theorem wk_ma:OkMa [p1W] 0 q1I:=⟨by decide,fun p hp q a=>by
 rw[List.mem_singleton.1 hp,List.mem_singleton.1 a];exact⟨by decide+kernel,⟨by decide+kernel,by decide+kernel,by decide+kernel,by decide+kernel,by decide+kernel⟩⟩⟩
theorem wk_sy(l:Rat)(hl:qs l≤2):OkSy [p1W] l 0 q1I 100:=⟨wk_ma,fun i j b a=>by
 obtain rfl:i=0:=by simpa using b
 obtain rfl:j=0:=by simpa using a
 have:qs (maK [p1W] 0 q1I 0 0)≤10:=by decide+kernel
 omega,by decide⟩
theorem Da(l:Rat)(hl:qs l≤2):OkTa [p1W] l x1W 0 q1I 100:=⟨vV (by decide) (fun p hp=>by rw[List.mem_singleton.1 hp];decide),by decide+kernel,by decide+kernel,by decide+kernel,by decide+kernel,by decide,wk_sy l hl,fun p hp=>by
 rw[List.mem_singleton.1 hp];exact⟨by decide+kernel,⟨by decide+kernel,by decide+kernel,by decide+kernel,by decide+kernel,by decide+kernel⟩,by decide+kernel⟩⟩
theorem wk_su:OkSu [p1W] q1I x1W 0 q1I:=⟨fun i p hp=>by
 have a:=(List.getElem?_eq_some_iff.1 hp).1;obtain rfl:i=0:=by simpa using a
 cases hp;exact⟨by decide+kernel,by decide+kernel,by decide+kernel,by decide+kernel,by decide+kernel,by decide+kernel,by decide+kernel⟩,by decide+kernel,by decide+kernel,by decide+kernel,by decide+kernel,by decide+kernel,by decide+kernel⟩
theorem wk_1:(syM [p1W] q1I (rhK [p1W] x1W 0 q1I) 0 q1I).2=[0]∧jG 1 (syM [p1W] q1I (rhK [p1W] x1W 0 q1I) 0 q1I).1 (syM [p1W] q1I (rhK [p1W] x1W 0 q1I) 0 q1I).2=false:=by decide+kernel
theorem wk_3:jG 1 (syM [p1W] q3I (rhK [p1W] x1W 0 q1I) 0 q1I).1 (syM [p1W] q3I (rhK [p1W] x1W 0 q1I) 0 q1I).2=true:=by decide+kernel
theorem wk_r:xm 40 40 x1W (0,q1I) 0=some (0,1)∧xm 40 40 (syU [p1W] q1I x1W 0 q1I) (0,q1I) 0=some (0,2)∧C4 (0,1)=1∧C4 (0,2)=2:=by decide+kernel
theorem wk_cl:OkCl p1W q1I x1W 0 q1I tnW 0 1 1 2:=⟨by decide+kernel,by decide+kernel,by decide+kernel,by decide+kernel,by decide+kernel,by decide+kernel,by decide+kernel,by decide+kernel,by decide+kernel,by decide+kernel,by decide+kernel,by decide+kernel,by decide+kernel,by decide+kernel,by decide+kernel,by decide+kernel⟩
theorem wk_t1:Dd (aq (deV (trQ (maK [p1W] 0 q1I) 1)))=[45,49,47,51,32,120,32,43,32,49]∧GM (aq (deV (trQ (maK [p1W] 0 q1I) 1))):=by decide+kernel
theorem wk_t2:Dd (aq (syU [p1W] q1I x1W 0 q1I))=[51,47,50,32,120]∧GM (aq (syU [p1W] q1I x1W 0 q1I)):=by decide+kernel
theorem wk_t3:Dd (seK (mvK 0 [p2W]) (ce [0,1] o1W) q1I 3 4)=[49,47,54,32,120,94,51,32,43,32,49,47,50,32,120,94,50,32,43,32,120,32,43,32,49]∧GM (seK (mvK 0 [p2W]) (ce [0,1] o1W) q1I 3 4):=by decide+kernel
theorem wk_t4:lD (AG p1W q1I 0 q1I 1 1 tnW 0 2)=[50,47,51]∧okT (AG p1W q1I 0 q1I 1 1 tnW 0 2)∧lD (clB p1W q1I 0 q1I 1 1)=[53,47,50]∧okT (clB p1W q1I 0 q1I 1 1):=by decide+kernel
theorem sp_01:([.arr [],bln false,.arr []]:List AV)++qC q1I=spC 0 q1I:=by unfold spC;rw[qC0]
theorem wk_i2:FS 20 [.arr (zE [0,1])] (.arr (pE x1W)):=wm [0,1] (by decide) (by decide)
theorem wk_i1:FS 20 [.arr (zE [1])] (.arr (pE o1W)):=wm [1] (by decide) (by decide)
theorem wk_det:FS 11 [.arr (kE [p1W]),.agg (spC 0 q1I)] (.tup [.arr (pE (aq (deV (trQ (maK [p1W] 0 q1I) 1)))),i64 0]):=
 fs_Det1 p1W 0 q1I (Da q1I (by decide)).ke (by decide+kernel) (by decide+kernel) (by decide+kernel) wk_ma (by decide+kernel)
theorem wk_so:FS 12 [.agg (eqC [p1W] q1I x1W),.agg (spC 0 q1I)] (.tup [.arr (pE (aq (syU [p1W] q1I x1W 0 q1I))),.arr (mE []),i64 0]):=
 Fb [p1W] q1I x1W 0 q1I 100 (Da q1I (by decide)) wk_su (fun f hf=>by
  obtain rfl:f=0:=by simpa using hf
  show(syM [p1W] q1I (rhK [p1W] x1W 0 q1I) 0 q1I).2.contains 0=true;rw[wk_1.1];rfl) wk_1.2 (by decide+kernel)
theorem wk_sv:FS 12 [.agg (eqC [p1W] q3I x1W),.agg (spC 0 q1I)] (.tup [.arr (pE []),.arr (mE []),i64 12]):=
 wo [p1W] q3I x1W 0 q1I 100 (Da q3I (by decide)) wk_3
theorem wk_cs:FS 22 [.agg (eqC [p1W] q1I x1W),.agg (spC 0 q1I),.agg (qC tnW),.agg (qC 0),i64 0] (.tup [.agg (neC (syU [p1W] q1I x1W 0 q1I) (clB p1W q1I 0 q1I 1 1) (uT p1W q1I 0 q1I 1 1 tnW) (AG p1W q1I 0 q1I 1 1 tnW 0 2)),i64 0]):=by
 obtain⟨d,b,c,a⟩:=wk_r;have s1:=zV x1W 0 q1I 0 (0,1) (Ae 40 40 x1W (0,q1I) 0 _ d (by decide)) (by decide+kernel) (by decide+kernel);have s2:=zV (syU [p1W] q1I x1W 0 q1I) 0 q1I 0 (0,2) (Ae 40 40 _ (0,q1I) 0 _ b (by decide)) (by decide+kernel) (by decide+kernel);rw[c] at s1;rw[a] at s2;exact Fl p1W q1I x1W 0 q1I tnW 0 1 1 2 0 100 (Da q1I (by decide)) wk_su (by decide) (by rw[wk_1.1];rfl) wk_cl s1 s1 s2
theorem wk_se:FS 23 [.agg (eqC [p2W] q1I o1W),.agg (qC 0),i64 3] (.tup [.arr (pE (seK (mvK 0 [p2W]) (ce [0,1] o1W) q1I 3 4)),i64 0]):=
 Fe [p2W] q1I o1W 0 3 (by decide) (FC (by decide) (by decide) (fun p hp=>by rw[List.mem_singleton.1 hp];decide) (fun p hp=>by rw[List.mem_singleton.1 hp];decide+kernel) (by decide) (by decide+kernel) (by decide) (by decide))
theorem wk_cb:∀c∈([.arr [],bln false,.arr []]:List AV)++qC q1I,Closed c:=by rw[sp_01];exact aY 0 q1I
theorem B8:FS 6 [] (.v (.bool true)):=by
 have i2:=wk_i2;have i1:=wk_i1;have k:=wk_det;have d:=wk_so;have c:=wk_sv;have a:=wk_cs;have b:=wk_se;rw[←sp_01] at k d c a;rw[qC0] at a b;have e:=du 1 (by decide);have m:=du 3 (by decide);have f:=fs_Of 1 10 (by decide) (by decide) (by decide);have t1:=uy _ wk_t1.2;rw[wk_t1.1] at t1;have t2:=uy _ wk_t2.2;rw[wk_t2.1] at t2;have g:=uy _ wk_t3.2;rw[wk_t3.1] at g;have i:=ux _ wk_t4.2.1;rw[wk_t4.1] at i;have j:=ux _ wk_t4.2.2.2;rw[wk_t4.2.2.1] at j;refine f_c Tryz.func6 ?_;refine r_z 1 ?_;refine s_r 7 ?_;refine a_1 ?_;refine o_1 (.callS1 rfl rfl rfl (.shut rfl d_n (.nil)) rfl (i2)) ?_;refine a_1 ?_;refine o_1 (.callS1 rfl rfl rfl (.shut rfl d_n (.nil)) rfl (i2)) ?_;refine a_z ?_;refine AWp.ent (st':=⟨[(1,.arr (kE [p1W]))],[],1,130⟩) ?_ ?_;refine s_x [] (fun hs=>?_) (fun hs=>?_)
 ·repeat' (first|exact aN|refine aA rfl ?_ ?_|(refine Cv.shut hs rfl (aM rfl) (nle rfl) ?_;exact aI hs rfl (cU [p1W]))|exact aV)
 ·repeat' (first|exact aE|refine h_c ?_ ?_|exact bC|refine az ?_|exact av|refine ah ?_ ?_|(refine Cv.shut hs rfl (aM rfl) (nle rfl) ?_;exact aI hs rfl (cU [p1W]))|exact aV)
 refine r_c 4 (e) ?_;refine a_z ?_;refine AWp.ent (st':=⟨[(1,.arr (kE [p1W])),(2,.lptr 1 0 0)],[(1,some ⟨42,6,[[.arr [],bln false,.arr []]++qC q1I]⟩)],2,130⟩) ?_ ?_;refine s_x [(1,2)] (fun hs=>?_) (fun hs=>?_)
 ·repeat' (first|exact aN|refine aA rfl ?_ ?_|exact am hs (aU [p1W])|exact aV)
 ·repeat' (first|exact aE|refine h_c ?_ ?_|exact CvLL.cons (ah (Cv.emp _) (ah (am hs (ag _)) (ah (Cv.emp _) (CvL.clo hs (aZ q1I))))) CvLL.nil|exact bC|refine az ?_|exact av|refine ah ?_ ?_|exact am hs (aU [p1W])|exact aV)
 refine AWp.ent (st':=⟨[(1,.arr (kE [p1W])),(2,.aptr [[.arr [],bln false,.arr []]++qC q1I] 0 0)],[],1,130⟩) ?_ ?_;refine s_x [] (fun hs=>?_) (fun hs=>?_)
 ·repeat' (first|exact aN|refine aA rfl ?_ ?_|exact am hs (aU [p1W])|exact Cv.boxp hs rfl (aM rfl) rfl wk_cb|exact aV)
 ·repeat' (first|exact aE|refine h_c ?_ ?_|exact bC|refine az ?_|exact av|refine ah ?_ ?_|exact am hs (aU [p1W])|exact Cv.boxp hs rfl (aM rfl) rfl wk_cb|exact aV)
 refine r_c 8 (k) ?_;refine a_z ?_;refine r_c 7 (e) ?_;refine a_1 ?_;refine o_1 (.callS1 rfl rfl rfl (.shut rfl d_n (.nil)) rfl (i2)) ?_;refine a_z ?_;refine r_c 10 (d) ?_;refine a_z ?_;refine r_c 7 (f) ?_;refine a_z ?_;refine r_c 11 (a) ?_;refine a_z ?_;refine r_c 3 (m) ?_;refine a_z ?_;refine r_c 10 (c) ?_;refine a_z ?_;refine AWp.ent (st':=⟨[(3,.arr (pE (aq (deV (trQ (maK [p1W] 0 q1I) 1))))),(4,i64 0),(6,.arr (pE (aq (syU [p1W] q1I x1W 0 q1I)))),(7,.arr (mE [])),(8,i64 0),(11,.aptr [neC (syU [p1W] q1I x1W 0 q1I) (clB p1W q1I 0 q1I 1 1) (uT p1W q1I 0 q1I 1 1 tnW) (AG p1W q1I 0 q1I 1 1 tnW 0 2)] 0 0),(12,i64 0),(15,i64 12)],[],1,130⟩) ?_ ?_;refine s_x [] (fun hs=>?_) (fun hs=>?_)
 ·repeat' (first|exact aN|refine aA rfl ?_ ?_|exact am hs (ax _)|exact am hs (closed_mA _)|exact Cv.boxp hs rfl (aM rfl) rfl (iG _ _ _ _)|exact aV)
 ·repeat' (first|exact aE|refine h_c ?_ ?_|exact bC|refine az ?_|exact av|refine ah ?_ ?_|exact am hs (ax _)|exact am hs (closed_mA _)|exact Cv.boxp hs rfl (aM rfl) rfl (iG _ _ _ _)|exact aV)
 have l:=b.xs (CR (ac (ax _) (ac (ag _) af)));refine ae (AWp.regX (fr2:=[(75,.agg (eqC [p2W] q1I o1W)),(76,.agg [.arr [],bln false,.arr []]),(3,.arr (pE (aq (deV (trQ (maK [p1W] 0 q1I) 1))))),(4,i64 0),(6,.arr (pE (aq (syU [p1W] q1I x1W 0 q1I)))),(7,.arr (mE [])),(8,i64 0),(11,.aptr [neC (syU [p1W] q1I x1W 0 q1I) (clB p1W q1I 0 q1I 1 1) (uT p1W q1I 0 q1I 1 1 tnW) (AG p1W q1I 0 q1I 1 1 tnW 0 2)] 0 0),(12,i64 0),(15,i64 12)]) (hp2:=[]) (nx2:=1) (fr3:=[(3,.arr (pE (aq (deV (trQ (maK [p1W] 0 q1I) 1))))),(4,i64 0),(6,.arr (pE (aq (syU [p1W] q1I x1W 0 q1I)))),(7,.arr (mE [])),(8,i64 0),(11,.aptr [neC (syU [p1W] q1I x1W 0 q1I) (clB p1W q1I 0 q1I 1 1) (uT p1W q1I 0 q1I 1 1 tnW) (AG p1W q1I 0 q1I 1 1 tnW 0 2)] 0 0),(12,i64 0),(15,i64 12)]) 11 rfl rfl rfl rfl rfl rfl ?_ rfl rfl rfl l (keepF ?_) (loF rfl) ?_)
 ·refine o_1 (.buildSlice te_125.h TZ.h rfl (by decide) rfl rfl rfl (by first|(simp;done)|(simp[bZ,ofV];done)|rfl)) ?_
  refine o_1 (.callS1 rfl rfl rfl (.shut rfl d_n (.nil)) rfl (i1)) ?_;refine o_1 (.buildSlice te_125.h TZ.h rfl (by decide) rfl rfl rfl (by first|(simp;done)|(simp[bZ,ofV];done)|rfl)) ?_;refine o_1 (.callS1 rfl rfl rfl (.shut rfl d_n (.nil)) rfl (i1)) ?_;refine o_0 (.build TZ.h tp_52.h rfl rfl) ?_;refine o_1 (.buildSlice te_29.h TZ.h rfl (by decide) rfl rfl rfl (by first|(simp;done)|(simp[bZ,ofV];done)|rfl)) ?_;refine o_0 (.call rfl rfl rfl (e)) ?_;refine o_1 (.buildSlice te_125.h TZ.h rfl (by decide) rfl rfl rfl (by first|(simp;done)|(simp[bZ,ofV];done)|rfl)) ?_;refine o_1 (.callS1 rfl rfl rfl (.shut rfl d_n (.nil)) rfl (i1)) ?_;refine o_0 (.build TZ.h tp_40.h rfl rfl) ?_;refine o_0 (.build TZ.h tp_36.h rfl rfl) ?_;refine ao ?_;refine s_y [] (fun hs=>?_) (fun hs=>?_)
  ·repeat' (first|exact aN|refine aA rfl ?_ ?_|exact am hs (ax _)|exact am hs (closed_mA _)|exact am hs (ba (iG _ _ _ _))|exact Cv.agg (ah (Cv.shut hs rfl (aM rfl) (nle rfl) (aI hs rfl (cU [p2W]))) (CvL.clo hs (b8 (aZ q1I) (ac (ax o1W) af))))|exact Cv.agg (ah (Cv.emp _) (ah (am hs (ag _)) (ah (Cv.emp _) av)))|exact aV)
  ·repeat' (first|exact aE|refine h_c ?_ ?_|exact bC|refine az ?_|exact av|refine ah ?_ ?_|exact am hs (ax _)|exact am hs (closed_mA _)|exact am hs (ba (iG _ _ _ _))|exact Cv.agg (ah (Cv.shut hs rfl (aM rfl) (nle rfl) (aI hs rfl (cU [p2W]))) (CvL.clo hs (b8 (aZ q1I) (ac (ax o1W) af))))|exact Cv.agg (ah (Cv.emp _) (ah (am hs (ag _)) (ah (Cv.emp _) av)))|exact aV)
 intro p hp;rcases List.mem_cons.1 hp with rfl|hp
 exact⟨rfl,ax _⟩;rcases List.mem_cons.1 hp with rfl|hp
 exact⟨rfl,ag _⟩;rcases List.mem_cons.1 hp with rfl|hp
 exact⟨rfl,ax _⟩;rcases List.mem_cons.1 hp with rfl|hp
 exact⟨rfl,closed_mA _⟩;rcases List.mem_cons.1 hp with rfl|hp
 exact⟨rfl,ag _⟩;rcases List.mem_cons.1 hp with rfl|hp
 exact⟨rfl,ba (iG _ _ _ _)⟩;rcases List.mem_cons.1 hp with rfl|hp
 exact⟨rfl,ag _⟩;rcases List.mem_cons.1 hp with rfl|hp
 exact⟨rfl,ag _⟩;cases hp;refine o_0 (.move rfl) ?_;refine o_0 (.extract rfl rfl) ?_;refine o_0 (.extract rfl rfl) ?_;refine o_0 (.assign rfl) ?_;refine o_0 (.assign rfl) ?_;refine ao ?_;refine s_r 51 ?_;refine a_1 ?_;refine o_0 (.bin rfl rfl (vT ci (rfl))) ?_;refine e_s (t1) ?_;refine aQ rfl rfl rfl (.bin rfl rfl (vT mC rfl)) rfl rfl ?_;refine d_3 ?_;refine aQ rfl rfl rfl (.bin rfl rfl (vT ci (rfl))) rfl rfl ?_;refine e_s (t2) ?_;refine aQ rfl rfl rfl (.bin rfl rfl (vT mC rfl)) rfl rfl ?_;refine d_4 ?_;refine aQ rfl rfl rfl (.bin rfl rfl (vT ci (rfl))) rfl rfl ?_;refine d_3 ?_;refine aQ rfl rfl rfl (.bin rfl rfl (vT ci (rfl))) rfl rfl ?_;refine e_s (i) ?_;refine aQ rfl rfl rfl (.bin rfl rfl (vT mC rfl)) rfl rfl ?_;refine e_s (j) ?_;refine aQ rfl rfl rfl (.bin rfl rfl (vT mC rfl)) rfl rfl ?_;refine d_3 ?_;refine aQ rfl rfl rfl (.bin rfl rfl (vT ci (rfl))) rfl rfl ?_;refine d_3 ?_;refine aQ rfl rfl rfl (.bin rfl rfl (vT ci (rfl))) rfl rfl ?_;refine e_s (g) ?_;refine aQ rfl rfl rfl (.bin rfl rfl (vT mC rfl)) rfl rfl ?_;refine a_z ?_;exact ai (t_e (ag _))
theorem G5{l:List gD}(ho:∀t∈l,xu t)(h:rY l=true):(keM l).length≤1000∧(∀p∈keM l,p.1.length≤30∧p.2.length≤30)∧(vaB (keM l)=true→(keM l).length≤3∧(∀p∈keM l,p.1.length≤4∧p.2.length≤4)∧∀p∈keM l,bdL p.1 20∧bdL p.2 20):=by
 unfold rY at h;rw[Bool.and_eq_true,List.all_eq_true] at h;obtain⟨h1,n⟩:=h
 have g:l.length≤12∧(3< l.length→8< l.length):=by
  unfold vZ at h1;simp only[Bool.not_eq_true',Bool.or_eq_false_iff,Bool.and_eq_false_iff,decide_eq_false_iff_not] at h1;omega
 have hp:∀p∈keM l,∃t∈l,p=(nL t.1,nL t.2):=fun p hp=>by
  obtain⟨t,ht,e⟩:=List.mem_map.1 hp;exact⟨t,ht,e.symm⟩
 have hs:∀t∈l,t.1.length≤30∧t.2.length≤30∧fk t.1=true∧fk t.2=true:=fun t ht=>by
  have f:=n t ht;unfold io vY at f;simp only[Bool.and_eq_true,Bool.not_eq_true',Bool.or_eq_false_iff,decide_eq_false_iff_not] at f;exact⟨by omega,by omega,f.2.1,f.2.2⟩
 refine⟨by rw[ft];omega,fun p b=>?_,fun hv=>?_⟩;obtain⟨t,ht,rfl⟩:=hp p b;obtain⟨m,j,_,_⟩:=hs t ht;exact⟨by simpa[nL] using m,by simpa[nL] using j⟩;unfold vaB at hv;simp only[Bool.and_eq_true,Bool.not_eq_true',decide_eq_true_eq] at hv;obtain⟨v1,v2⟩:=hv;rw[ft] at v2
 have hb:∀t∈l,(bdL (nL t.1) 20∧(nL t.1).length≤4)∧bdL (nL t.2) 20∧(nL t.2).length≤4:=fun t ht=>by
  obtain⟨_,_,c,d⟩:=hs t ht
  have a:rm (nL t.1,nL t.2)=false:=by
   have:=List.any_eq_false.1 v1 (nL t.1,nL t.2) (List.mem_map.2 ⟨t,ht,rfl⟩);simpa using this
  unfold rm at a;rw[Bool.or_eq_false_iff] at a;unfold fk at c d
  have i:fj t.1 4=true:=by
   rw[Bool.or_eq_true] at c;rcases c with c|c
   exact c;rw[a.1] at c;cases c
  have k:fj t.2 4=true:=by
   rw[Bool.or_eq_true] at d;rcases d with d|d
   exact d;rw[a.2] at d;cases d
  exact⟨oJ i (ho t ht).1.1,oJ k (ho t ht).1.2⟩
 refine⟨by rw[ft];omega,fun p b=>?_,fun p b=>?_⟩;obtain⟨t,ht,rfl⟩:=hp p b;exact⟨(hb t ht).1.2,(hb t ht).2.2⟩;obtain⟨t,ht,rfl⟩:=hp p b;exact⟨(hb t ht).1.1,(hb t ht).2.1⟩
theorem fe(r:fc):∀c∈nuC r.1 r.2.1 r.2.2,Closed c:=ac (ag _) (ac (ag _) (ac (ag _) af))
theorem pE_get{p:List Rat}{i:Nat}{q:Rat}(h:p[i]?=some q):∀e,e=i→(pE p)[e]?=some (qC q):=fun e a=>by
 subst a;simp[pE,h]





def cR(l:List (List Rat)):List (List AV):=l.map fun p=>[.arr (rE (rP p))]
@[simp] theorem cR_length (l:List (List Rat)):(cR l).length=l.length:=by simp[cR]




def okW(m:List Rat)(l r:Bool)(a b:Rat):Prop:=1≤m.length∧m.length≤64∧(l=true→r=true→a< b)
instance (m:List Rat) (l r:Bool) (a b:Rat):Decidable (okW m l r a b):=inferInstanceAs (Decidable (_∧_∧_))
end Go.Proofs.YtdgbhlkabelmbaaGreatDoor
namespace Go.Proofs.YtdgbhlkabelmbaaGreatDoor
open Go.Abs Go.Deep Go.RowKit Go.WideShapes
set_option maxRecDepth 20000

end Go.Proofs.YtdgbhlkabelmbaaGreatDoor
namespace Go.Proofs.YtdgbhlkabelmbaaGreatDoor
open Go.Abs Go.ChangeShapes Go.Deep Go.RowKit Go.WideShapes
set_option maxRecDepth 20000
theorem tyG:∃f0 f1,(Tryz.prog).underlying 26=some (.struct #[f0,f1])∧f0.type=24∧f0.offset=0∧f1.type=24∧f1.offset=3:=
 ⟨{name:= "Low",type:=24,offset:=0,embedded:=false,tag:= "",pkgPath:= "",byteOffset:=0},{name:= "High",type:=24,offset:=3,embedded:=false,tag:= "",pkgPath:= "",byteOffset:=24},by kernel_rfl,rfl,rfl,rfl,rfl⟩
theorem tycG:(Tryz.prog).cellsOf 26=6:=by kernel_rfl
theorem gapP_of{H:Type}{enc:TypeId×Value→H}{W:World}{base:Nat}{v:Value}{d:DataW H}{ps:List MemPlace}(hv:Value.okWide Tryz.prog W .any base 26 v)(h:DataW.Trod enc Tryz.prog W 0 (fun _=>true) true 26 v d ps):
    ∃r:fc×fc,(okN r.1∧okN r.2)∧RV (fun _=>False) (fun _=>none) W (.agg (nuC r.1.1 r.1.2.1 r.1.2.2++nuC r.2.1 r.2.2.1 r.2.2.2)) v:=by
 obtain⟨C,A,o,h1,w,s,u⟩:=tyG
 obtain⟨cs,rfl,_⟩:∃cs,v= .agg cs∧True:=by
  unfold Value.okWide at hv;rw[o] at hv;obtain⟨cs,h1,_⟩:=hv;exact⟨cs,h1,trivial⟩
 obtain⟨p,hf⟩:=h;obtain⟨z,B,m,_,j,k,n⟩:=trod_struct2 o hf;rw[h1,w,Dc] at k;rw[s,u,Dc] at n;rw[tycG] at j;obtain⟨r,y,t,x,e⟩:=xC k;obtain⟨a,f,b,c,i⟩:=xC n
 have g:cs.toList=[.int .i64 r.1,.int .i64 r.2.1,.int .u8 r.2.2,.int .i64 a.1,.int .i64 a.2.1,.int .u8 a.2.2]:=by
  have q:(Value.agg cs).cells.toList=cs.toList:=by simp[Value.cells]
  rw[q] at e i j;generalize cs.toList=l at *
  match l,j with
  |[a0,a1,a2,a3,a4,a5],_=>
   simp at e i;obtain⟨rfl,rfl,rfl⟩:=e;obtain⟨rfl,rfl,rfl⟩:=i;rfl
 refine⟨(r,a),⟨⟨y,t,x⟩,⟨f,b,c⟩⟩,cs,rfl,?_⟩;rw[g];exact⟨_,_,rfl,rfl,_,_,rfl,rfl,_,_,rfl,rfl,_,_,rfl,rfl,_,_,rfl,rfl,_,_,rfl,rfl,rfl⟩
end Go.Proofs.YtdgbhlkabelmbaaGreatDoor
namespace Go.Proofs.YtdgbhlkabelmbaaGreatDoor
open Go.Abs
set_option maxRecDepth 20000
set_option maxHeartbeats 2000000


def bdN(n:Int):Prop:=n< 0∨63< n
def bdP(p:Int):Prop:=p< 0∨8< p
instance (n:Int):Decidable (bdN n):=inferInstanceAs (Decidable (_∨_))
instance (n:Int):Decidable (bdP n):=inferInstanceAs (Decidable (_∨_))








end Go.Proofs.YtdgbhlkabelmbaaGreatDoor
namespace Go.Proofs.YtdgbhlkabelmbaaGreatDoor
open Go.Abs Go.Deep Go.RowKit Go.WideShapes
set_option maxRecDepth 20000
theorem tyu8:(Tryz.prog).underlying 5=some (.int .u8):=by kernel_rfl
theorem u8P_of{H:Type}{enc:TypeId×Value→H}{W:World}{base:Nat}{v:Value}{d:DataW H}{ps:List MemPlace}(hv:Value.okWide Tryz.prog W .any base 5 v)(h:DataW.Trod enc Tryz.prog W 0 (fun _=>true) true 5 v d ps):
    ∃r:Nat,r≤255∧RV (fun _=>False) (fun _=>none) W (.v (.int .u8 r)) v:=by
 obtain⟨n,rfl⟩:∃n,v= .int .u8 n:=by
  unfold Value.okWide at hv;rw[tyu8] at hv;cases v with
  |int k n=>obtain⟨rfl,_⟩:=hv;exact⟨n,rfl⟩
  |_=>exact False.elim hv
 obtain⟨a,hf⟩:=h;obtain⟨c,e0,_,f⟩:=DataW.trod_int tyu8 hf;have e:n=c:=by simpa[Value.cells] using e0
 subst e;have b:=bounds_u8 f;refine⟨n.toNat,by omega,?_⟩;show _=Value.int .u8 ((n.toNat:Nat):Int);rw[Int.toNat_of_nonneg b.1]
end Go.Proofs.YtdgbhlkabelmbaaGreatDoor
namespace Go.Proofs.YtdgbhlkabelmbaaGreatDoor
open Go.Abs Go.ChangeShapes Go.Deep Go.RowKit Go.WideShapes
set_option maxRecDepth 20000

end Go.Proofs.YtdgbhlkabelmbaaGreatDoor
namespace Go.Proofs.YtdgbhlkabelmbaaGreatDoor
open Go.Abs
set_option maxRecDepth 20000
set_option maxHeartbeats 4000000

section
variable {T:List Rat}{n:Nat}(hn:1≤n∧n≤5)(hl:T.length=n+1)(ht:aq T=T)(hm:aS T=1)(hb:bdL T 20)
include hn hl ht hm hb
end


abbrev mrow(M:Mx)(n i:Nat):List (List AV):=rE (rP (aO (n+1) (M i)))
def mxW(M:Mx)(n c:Nat):List (List (List AV)):=(List.range c).map (mrow M n)
@[simp] theorem mxW_length (M:Mx)(n c:Nat):(mxW M n c).length=c:=by simp[mxW]
def svA(M:Mx)(n:Nat):List (List AV):=(List.range n).map fun i=>[.arr (rE (rP (aO n (M i))))]
@[simp] theorem svA_length (M:Mx)(n:Nat):(svA M n).length=n:=by simp[svA]
def svC(M:Mx)(n c:Nat):List (List AV):=(List.range c).map fun i=>[.arr (rE (rP (aO n (M i))))]
@[simp] theorem svC_length (M:Mx)(n c:Nat):(svC M n c).length=c:=by simp[svC]
theorem wO{r:Ren}{hp hp':Nat→Option ABlk}{x y:List AV}(h:CvL r hp hp' x y):∀{xs ys:List (List AV)},CvLL r hp hp' xs ys→CvLL r hp hp' (xs++[x]) (ys++[y])
 |[],ys,h'=>by cases (h':ys=[]);exact az h
 |a::xs,ys,⟨b,ys',e,h1,h2⟩=>by
  subst e;exact CvLL.cons h1 (wO h h2)
theorem IL{r:Ren}{hp hp':Nat→Option ABlk}{xs ys zs:List (List AV)}(h:CvLL r hp hp' xs ys)(e:ys=zs):CvLL r hp hp' xs zs:=e▸h
structure TmK (k:Ke):Prop where
 l:k.length≤3
 n:∀p∈k,p.1.length≤4∧p.2.length≤4
 b:∀p∈k,bdL p.1 20∧bdL p.2 20

end Go.Proofs.YtdgbhlkabelmbaaGreatDoor
