/- ApproxEconomizes: the first members of a polynomial's expansion in Chebyshev's polynomials, and the bound, are the document's, or the error is, at every input of the kinds that the law takes. -/
import Derived.Test.YtjgokhkahkmpbaaGreatDoorX30
import Derived.ProofKit
import Derived.OpenShut
import Derived.Carry
import Derived.Deep.Slices
import Derived.Deep.Strs
import Derived.Test.YtjgokhkahkmpbaaGreatDoorRows
import Derived.JoinedOf
import Derived.SevenTiedAt
import Derived.Lib.LaidTab
import Derived.Test.YtjgokhkahkmpbaaGreatDoorTie
import Derived.Test.YtjgokhkahkmpbaaGreatDoorCards
import Derived.LaidMore
import Derived.Stop.Joined
import Derived.MakeChecks
set_option linter.all false
namespace Go.Proofs.YtjgokhkahkmpbaaGreatDoor
open Go.Abs
set_option maxRecDepth 100000
set_option maxHeartbeats 8000000
theorem Es:([.arr [],bln false,.arr []]:La)++qC ((1:Int):Rat)=spC 0 1:=by
 rw[show((1:Int):Rat)=1 from rfl];unfold spC;rw[qC0]
theorem pO:∀c∈([.arr [],bln false,.arr []]:La)++qC ((1:Int):Rat),Closed c:=by rw[Es];exact cf 0 1
abbrev bSp8:AV:= .aptr [[.arr [],bln false,.arr []]++qC ((1:Int):Rat)] 0 0
abbrev D4:AV:= .aptr [beC [-1/2,2] (1/2) [0,1,2]] 0 0
theorem fx:FS 7 [] (.v (.bool true)):=by
 have hda:FS 28 [.arr (zE [0,1,4])] (.agg (dC dtW)):=DH [0,1,4] (by decide) (by decide) (by decide);have hi2:FS 31 [.arr (zE [0,0,1])] (.arr (pE fW)):=vg [0,0,1] (by decide) (by decide);have hi3:FS 31 [.arr (zE [0,0,0,1])] (.arr (pE cuW)):=vg [0,0,0,1] (by decide) (by decide);have hft:=wk8_fit;have hgr:=Ec;have hmi:=Eb;have hpt:=zN;have hpf:=zO;have hec:=wk8_eco;rw[←Es] at hmi hpt hpf;have n1:=da 1 (by decide);have nm:=da (-1) (by decide);have hfi:=jc 10;rw[show wi 10 256=10 by decide] at hfi;obtain⟨t1,o1,t2,o2,t3,o3,t4,o4,t5,o5,t6,o6⟩:=w8_t1;have x1:=tJ _ o1;rw[t1] at x1;have x2:=pr _ o2;rw[t2] at x2;have x3:=tJ _ o3;rw[t3] at x3;have x4:=pr _ o4;rw[t4] at x4;have x5:=tJ _ o5;rw[t5] at x5;have x6:=pr _ o6;rw[t6] at x6;refine f_c Tryz.func7 ?_;refine r_z 1 ?_;refine s_r 9 ?_;refine a_1 ?_;refine o_1 (.callS1 rfl rfl rfl (.shut rfl d_n (.nil)) rfl (hda)) ?_;refine c_s (hft) ?_;refine a_z ?_;refine AWp.ent (st':=⟨[(1,D4),(2,i64 0)],[],1,112⟩) ?_ ?_;refine s_x [] (fun hs=>?_) (fun hs=>?_)
 ·repeat' (first|exact aH|refine ao rfl ?_ ?_|exact Cv.boxp hs rfl (aP rfl) rfl (de _ _ _)|exact aY)
 ·repeat' (first|exact aD|refine h_c ?_ ?_|exact bG|refine aw ?_|exact ax|refine af ?_ ?_|exact Cv.boxp hs rfl (aP rfl) rfl (de _ _ _)|exact aY)
 refine s_r 11 ?_;refine a_1 ?_;refine o_1 (.callS1 rfl rfl rfl (.shut rfl d_n (.nil)) rfl (hda)) ?_;refine c_s (hgr) ?_;refine a_z ?_;refine AWp.ent (st':=⟨[(1,D4),(2,i64 0),(3,.arr (pE [1,1])),(4,bQ 1),(5,i64 0)],[],1,112⟩) ?_ ?_;refine s_x [] (fun hs=>?_) (fun hs=>?_)
 ·repeat' (first|exact aH|refine ao rfl ?_ ?_|exact ah hs (ba (de _ _ _))|exact ah hs (ap _)|exact Cv.boxp hs rfl (aP rfl) rfl (aZ _)|exact aY)
 ·repeat' (first|exact aD|refine h_c ?_ ?_|exact bG|refine aw ?_|exact ax|refine af ?_ ?_|exact ah hs (ba (de _ _ _))|exact ah hs (ap _)|exact Cv.boxp hs rfl (aP rfl) rfl (aZ _)|exact aY)
 refine r_c 4 (n1) ?_;refine a_z ?_;refine AWp.ent (st':=⟨[(1,D4),(2,i64 0),(3,.arr (pE [1,1])),(4,bQ 1),(5,i64 0),(6,.lptr 1 0 0)],[(1,some ⟨44,6,[[.arr [],bln false,.arr []]++qC ((1:Int):Rat)]⟩)],2,112⟩) ?_ ?_;refine s_x [(1,6)] (fun hs=>?_) (fun hs=>?_)
 ·repeat' (first|exact aH|refine ao rfl ?_ ?_|exact ah hs (ba (de _ _ _))|exact ah hs (ap _)|exact ah hs (aQ _)|exact aY)
 ·repeat' (first|exact aD|refine h_c ?_ ?_|exact CvLL.cons (af (Cv.emp _) (af (ah hs (ag _)) (af (Cv.emp _) (CvL.clo hs (aZ _))))) CvLL.nil|exact bG|refine aw ?_|exact ax|refine af ?_ ?_|exact ah hs (ba (de _ _ _))|exact ah hs (ap _)|exact ah hs (aQ _)|exact aY)
 refine AWp.ent (st':=⟨[(1,D4),(2,i64 0),(3,.arr (pE [1,1])),(4,bQ 1),(5,i64 0),(6,bSp8)],[],1,112⟩) ?_ ?_;refine s_x [] (fun hs=>?_) (fun hs=>?_)
 ·repeat' (first|exact aH|refine ao rfl ?_ ?_|exact ah hs (ba (de _ _ _))|exact ah hs (ap _)|exact ah hs (aQ _)|exact Cv.boxp hs rfl (aP rfl) rfl pO|exact aY)
 ·repeat' (first|exact aD|refine h_c ?_ ?_|exact bG|refine aw ?_|exact ax|refine af ?_ ?_|exact ah hs (ba (de _ _ _))|exact ah hs (ap _)|exact ah hs (aQ _)|exact Cv.boxp hs rfl (aP rfl) rfl pO|exact aY)
 refine ac (r_d hmix 11 ?_);refine a_1 ?_;refine o_1 (.callS1 rfl rfl rfl (.shut rfl d_n (.nil)) rfl (hi2)) ?_;refine c_s (hfi) ?_;refine c_s (hmi) ?_;refine a_6 ?_;refine an (n_k ?_);refine AWp.ent (st':=⟨[(1,D4),(2,i64 0),(3,.arr (pE [1,1])),(4,bQ 1),(5,i64 0),(6,bSp8),(7,bNa [-1/8,1] [0,1/2,1] (1/8) (1/8)),(8,i64 0)],[],1,112⟩) ?_ ?_;refine s_x [] (fun hs=>?_) (fun hs=>?_)
 ·repeat' (first|exact aH|refine ao rfl ?_ ?_|exact ah hs (ba (de _ _ _))|exact ah hs (ap _)|exact ah hs (aQ _)|exact ah hs (ba pO)|exact Cv.boxp hs rfl (aP rfl) rfl (ff _ _ _ _)|exact aY)
 ·repeat' (first|exact aD|refine h_c ?_ ?_|exact bG|refine aw ?_|exact ax|refine af ?_ ?_|exact ah hs (ba (de _ _ _))|exact ah hs (ap _)|exact ah hs (aQ _)|exact ah hs (ba pO)|exact Cv.boxp hs rfl (aP rfl) rfl (ff _ _ _ _)|exact aY)
 refine s_r 14 ?_;refine a_1 ?_;refine o_1 (.callS1 rfl rfl rfl (.shut rfl d_n (.nil)) rfl (hi3)) ?_;refine c_s (nm) ?_;refine c_s (n1) ?_;refine c_s (hec) ?_;refine a_z ?_;refine AWp.ent (st':=⟨[(1,D4),(2,i64 0),(3,.arr (pE [1,1])),(4,bQ 1),(5,i64 0),(6,bSp8),(7,bNa [-1/8,1] [0,1/2,1] (1/8) (1/8)),(8,i64 0),(9,.arr (pE [0,3/4])),(10,bQ (1/4)),(11,i64 0)],[],1,112⟩) ?_ ?_;refine s_x [] (fun hs=>?_) (fun hs=>?_)
 ·repeat' (first|exact aH|refine ao rfl ?_ ?_|exact ah hs (ba (de _ _ _))|exact ah hs (ap _)|exact ah hs (aQ _)|exact ah hs (ba pO)|exact ah hs (lJ _ _ _ _)|exact Cv.boxp hs rfl (aP rfl) rfl (aZ _)|exact aY)
 ·repeat' (first|exact aD|refine h_c ?_ ?_|exact bG|refine aw ?_|exact ax|refine af ?_ ?_|exact ah hs (ba (de _ _ _))|exact ah hs (ap _)|exact ah hs (aQ _)|exact ah hs (ba pO)|exact ah hs (lJ _ _ _ _)|exact Cv.boxp hs rfl (aP rfl) rfl (aZ _)|exact aY)
 refine ac (r_d hmix 68 ?_);refine a_1 ?_;refine o_0 (.bin rfl rfl (vT aJ (rfl))) ?_;refine e_s (x1) ?_;refine aE rfl rfl rfl (.bin rfl rfl (vT gU rfl)) rfl rfl ?_;refine e_s (x2) ?_;refine aE rfl rfl rfl (.bin rfl rfl (vT gU rfl)) rfl rfl ?_;refine d_5 ?_;refine aE rfl rfl rfl (.bin rfl rfl (vT aJ (rfl))) rfl rfl ?_;refine d_3 ?_;refine aE rfl rfl rfl (.bin rfl rfl (vT aJ (rfl))) rfl rfl ?_;refine e_s (x3) ?_;refine aE rfl rfl rfl (.bin rfl rfl (vT gU rfl)) rfl rfl ?_;refine e_s (x4) ?_;refine aE rfl rfl rfl (.bin rfl rfl (vT gU rfl)) rfl rfl ?_;refine d_3 ?_;refine aE rfl rfl rfl (.bin rfl rfl (vT aJ (rfl))) rfl rfl ?_;refine d_3 ?_;refine AR.op1y rfl rfl rfl (.callS1 rfl rfl rfl (.shut rfl d_n (.nil)) rfl (hi2)) rfl rfl ?_;refine e_s (hpt) ?_;refine d_3 ?_;refine AR.op1y rfl rfl rfl (.callS1 rfl rfl rfl (.shut rfl d_n (.nil)) rfl (hi2)) rfl rfl ?_;refine e_s (hpf) ?_;refine d_4 ?_;refine aE rfl rfl rfl (.bin rfl rfl (vT aJ (rfl))) rfl rfl ?_;refine e_s (x5) ?_;refine aE rfl rfl rfl (.bin rfl rfl (vT gU rfl)) rfl rfl ?_;refine e_s (x6) ?_;refine aE rfl rfl rfl (.bin rfl rfl (vT gU rfl)) rfl rfl ?_;refine a_2 ?_;refine an (n_k ?_);exact aj (t_e (ag _))
theorem wW (F:Lq) (s:Sp) (n e:Int) (h1:sm s.1) (h2:sm s.2) (hl:F.length≤1000000)
    (h:(¬s.1< s.2∧e=2)∨(s.1< s.2∧(n< 0∨40< n)∧e=3)∨(s.1< s.2∧0≤n∧n≤40∧40< cC F∧e=5)):FS 11 [.arr (pE F),.agg (spC s.1 s.2),i64 n] (.tup [.arr [],.agg (qC 0),i64 e]):=by
 have hv:=gq s.1 s.2 h1 h2;have hwd:=kD s.1 s.2 h1 h2;have hsw:=bY (s.2- s.1);have hdg:=cr F (by omega);rw[qC0];refine f_c Tryz.func11 ?_;refine r_z 4 ?_;refine aU (fun _:Unit=>⟨[],[],1,106⟩) (fun _=>False) ?_ (fun _ h=>h.elim);refine am ?_;rcases h with⟨ha,rfl⟩|⟨ha,hb,rfl⟩|⟨ha,hb,hc,hd,rfl⟩
 by_cases hc:s.1=s.2;have e0:sgZ (s.2- s.1).num=0:=sgZ_num_eq.2 (by grind);rw[decide_eq_true (show cZ s.1 s.2≤0 by rw[cq_eq.2 hc];decide)] at hv;refine r_c 10 (hv) ?_;refine c_s (hwd) ?_;refine c_s (hsw) ?_;refine aE rfl rfl rfl (.bin rfl rfl (vT aJ (eqI e0))) rfl rfl ?_;refine a_z ?_;refine cT (r_z 4 ?_);refine aj (Fin.many ⟨_,_,rfl,rfl,⟨_,_,rfl,⟨_,_,_,_,_,rfl,rfl,rfl,.inl ⟨TG.h,_,TS.h,nle rfl,rfl⟩⟩,⟨_,_,rfl,rfl,rfl⟩⟩⟩ (nle rfl) ?_);exact af (Cv.emp _) (af (Cv.agg (af (Cv.emp _) (af (ah aB (ag _)) (af (Cv.emp _) ax)))) (af (ah aB (ag _)) ax));rw[decide_eq_false (show¬cZ s.1 s.2≤0 by have:=cq_gt.2 (show s.2< s.1 by grind);omega)] at hv;refine r_c 10 (hv) ?_;refine a_z ?_;refine cT (r_z 4 ?_);refine aj (Fin.many ⟨_,_,rfl,rfl,⟨_,_,rfl,⟨_,_,_,_,_,rfl,rfl,rfl,.inl ⟨TG.h,_,TS.h,nle rfl,rfl⟩⟩,⟨_,_,rfl,rfl,rfl⟩⟩⟩ (nle rfl) ?_);exact af (Cv.emp _) (af (Cv.agg (af (Cv.emp _) (af (ah aB (ag _)) (af (Cv.emp _) ax)))) (af (ah aB (ag _)) ax));rw[decide_eq_true (show cZ s.1 s.2≤0 by have:=cq_lt.2 ha;omega)] at hv;have e0:sgZ (s.2- s.1).num≠0:=fun e=>by have:=sgZ_num_eq.1 e;grind
 refine r_c 10 (hv) ?_;refine c_s (hwd) ?_;refine c_s (hsw) ?_;refine aE rfl rfl rfl (.bin rfl rfl (vF aJ (neI e0))) rfl rfl ?_;refine a_z ?_;refine cF ?_;by_cases hn:n< 0;refine s_r 7 ?_;refine a_1 ?_;refine o_0 (.bin rfl rfl (vT cw (decide_eq_true (by omega)))) ?_;refine a_z ?_;refine cT (r_z 4 ?_);refine aj (Fin.many ⟨_,_,rfl,rfl,⟨_,_,rfl,⟨_,_,_,_,_,rfl,rfl,rfl,.inl ⟨TG.h,_,TS.h,nle rfl,rfl⟩⟩,⟨_,_,rfl,rfl,rfl⟩⟩⟩ (nle rfl) ?_);exact af (Cv.emp _) (af (Cv.agg (af (Cv.emp _) (af (ah aB (ag _)) (af (Cv.emp _) ax)))) (af (ah aB (ag _)) ax))
 ·refine s_r 7 ?_
  refine a_1 ?_;refine o_0 (.bin rfl rfl (vF cw (decide_eq_false (by omega)))) ?_;refine a_1 ?_
  first|refine aE rfl rfl rfl (.move rfl) rfl rfl ?_|refine dM rfl rfl (by first|(simp[cD];done)|exact nofun) rfl rfl ?_
  refine aE rfl rfl rfl (.bin rfl rfl (vT cS (decide_eq_true (by omega)))) rfl rfl ?_;refine a_z ?_;refine cT (r_z 4 ?_);refine aj (Fin.many ⟨_,_,rfl,rfl,⟨_,_,rfl,⟨_,_,_,_,_,rfl,rfl,rfl,.inl ⟨TG.h,_,TS.h,nle rfl,rfl⟩⟩,⟨_,_,rfl,rfl,rfl⟩⟩⟩ (nle rfl) ?_);exact af (Cv.emp _) (af (Cv.agg (af (Cv.emp _) (af (ah aB (ag _)) (af (Cv.emp _) ax)))) (af (ah aB (ag _)) ax))
 ·rw[decide_eq_true (show cZ s.1 s.2≤0 by have:=cq_lt.2 ha;omega)] at hv
  have e0:sgZ (s.2- s.1).num≠0:=fun e=>by have:=sgZ_num_eq.1 e;grind
  refine r_c 10 (hv) ?_;refine c_s (hwd) ?_;refine c_s (hsw) ?_;refine aE rfl rfl rfl (.bin rfl rfl (vF aJ (neI e0))) rfl rfl ?_;refine a_z ?_;refine cF (s_r 7 ?_);refine a_1 ?_;refine o_0 (.bin rfl rfl (vF cw (decide_eq_false (by omega)))) ?_;refine a_1 ?_
  first|refine aE rfl rfl rfl (.move rfl) rfl rfl ?_|refine dM rfl rfl (by first|(simp[cD];done)|exact nofun) rfl rfl ?_
  refine aE rfl rfl rfl (.bin rfl rfl (vF cS (decide_eq_false (by omega)))) rfl rfl ?_;refine a_z ?_;refine cF (r_c 4 (hdg) ?_);refine o_0 (.bin rfl rfl (vT cS (decide_eq_true (by omega)))) ?_;refine a_z ?_;refine cT (r_z 4 ?_);refine aj (Fin.many ⟨_,_,rfl,rfl,⟨_,_,rfl,⟨_,_,_,_,_,rfl,rfl,rfl,.inl ⟨TG.h,_,TS.h,nle rfl,rfl⟩⟩,⟨_,_,rfl,rfl,rfl⟩⟩⟩ (nle rfl) ?_);exact af (Cv.emp _) (af (Cv.agg (af (Cv.emp _) (af (ah aB (ag _)) (af (Cv.emp _) ax)))) (af (ah aB (ag _)) ax))
theorem ng(ar:List iH)(g:iH×iH)(n:Int)(ha:okR ar)(hal:ar.length≤9223372036854775807)(hg:okN g.1∧okN g.2)(hn:jF n):
    FS 3 [.arr (nR ar),.agg (nuC g.1.1 g.1.2.1 g.1.2.2++nuC g.2.1 g.2.2.1 g.2.2.2),i64 n] (bln true):=by
 obtain⟨r1,r2⟩:=g;obtain⟨g1,g2⟩:=hg;simp only at g1 g2⊢;have ca:=aR (dU ar);have cG:∀c∈nuC r1.1 r1.2.1 r1.2.2++nuC r2.1 r2.2.1 r2.2.2,Closed c:=fun c hc=>(List.mem_append.1 hc).elim (fD _ _ _ c) (fD _ _ _ c);have hnl:(nR ar).length=ar.length:=by simp[nR]
 have h2r:okR [r1,r2]:=fun r hr=>by
  simp only[List.mem_cons,List.not_mem_nil,or_false] at hr;rcases hr with rfl|rfl
  exact g1;exact g2
 have ht:=CQ [r1,r2] 2 (by show 2≤_;decide) (by decide);have t8:=CQ ar 8 hal (by decide);refine f_c Tryz.func3 ?_;refine r_z 2 ?_;by_cases hlen:60< ar.length;refine ac (s_r 12 ?_);refine a_2 ?_;refine o_0 (.bin rfl rfl (vT cS (decide_eq_true (by omega)))) ?_;refine a_z ?_;refine cT (r_c 2 (fx) ?_);refine a_z ?_;exact aj (t_e (ag _));cases et:lM [r1,r2] 2 with
 |false=>
  rw[et] at ht;refine ac (s_r 12 ?_);refine a_2 ?_;refine o_0 (.bin rfl rfl (vF cS (decide_eq_false (by omega)))) ?_;refine a_1 ?_
  first|refine aE rfl rfl rfl (.fieldAddr_l rfl TF.h (by decide)) rfl rfl ?_|refine aE rfl rfl rfl (.fieldAddr_a rfl TF.h (by decide)) rfl rfl ?_|refine dM rfl rfl (by first|(simp[cD];done)|exact nofun) rfl rfl ?_
  first|refine aE rfl rfl rfl (.load_l rfl rfl rfl TG.h TS.h (nle rfl)) rfl rfl ?_|refine aE rfl rfl rfl (.load_a rfl rfl TG.h TS.h (nle rfl)) rfl rfl ?_|refine dM rfl rfl (by first|(simp[cD];done)|exact nofun) rfl rfl ?_
  first|refine aE rfl rfl rfl (.fieldAddr_l rfl TF.h (by decide)) rfl rfl ?_|refine aE rfl rfl rfl (.fieldAddr_a rfl TF.h (by decide)) rfl rfl ?_|refine dM rfl rfl (by first|(simp[cD];done)|exact nofun) rfl rfl ?_
  first|refine aE rfl rfl rfl (.load_l rfl rfl rfl TG.h TS.h (nle rfl)) rfl rfl ?_|refine aE rfl rfl rfl (.load_a rfl rfl TG.h TS.h (nle rfl)) rfl rfl ?_|refine dM rfl rfl (by first|(simp[cD];done)|exact nofun) rfl rfl ?_
  refine AR.op1y rfl rfl rfl (.buildSlice te_22.h TZ.h rfl (by decide) rfl rfl rfl (by simp[nuC])) rfl rfl ?_;refine AR.op1y rfl rfl rfl (.callS1 rfl rfl rfl (.shut rfl d_n (.keep (.nil))) rfl (ht)) rfl rfl ?_;refine a_z ?_;refine cT (r_c 2 (fx) ?_);refine a_z ?_;exact aj (t_e (ag _))
 |true=>
 rw[et] at ht;obtain⟨bn,_⟩:=BV et h2r;have qv:qs (lT r1.1 r1.2.1 r1.2.2)≤20:=bn _ (by simp[nL,nV]);have qw:qs (lT r2.1 r2.2.1 r2.2.2)≤20:=bn _ (by simp[nL,nV]);have bo:=FE ar (by omega) ha;have bs:=wP r1.1 r1.2.1 r2.1 r2.2.1 r1.2.2 r2.2.2 g1.1 g1.2.1 g1.2.2 g2.1 g2.2.1 g2.2.2;have hd8:lM ar 8=true→bdL (nL ar) 20∧(nL ar).length≤8:=fun h=>BV h ha;have lp:(nL ar).length≤60:=by simp[nL];omega
 obtain⟨v,hv⟩:∃v,v=lT r1.1 r1.2.1 r1.2.2:=⟨_,rfl⟩;obtain⟨w,hw⟩:∃w,w=lT r2.1 r2.2.1 r2.2.2:=⟨_,rfl⟩;rw[←hv] at bs qv;rw[←hw] at bs qw;obtain⟨p,hp⟩:∃p,p=nL ar:=⟨_,rfl⟩;rw[←hp] at bo lp hd8;have bo':FS 8 [.arr (nR ar)] (.tup [.arr (pE p),.arr (rE (rP p))]):=bo;have hdg:=tz (rP p) (by simp[rP];omega);rw[cW] at hdg;refine ac (s_r 12 ?_);refine a_2 ?_;refine o_0 (.bin rfl rfl (vF cS (decide_eq_false (by omega)))) ?_;refine a_1 ?_
 first|refine aE rfl rfl rfl (.fieldAddr_l rfl TF.h (by decide)) rfl rfl ?_|refine aE rfl rfl rfl (.fieldAddr_a rfl TF.h (by decide)) rfl rfl ?_|refine dM rfl rfl (by first|(simp[cD];done)|exact nofun) rfl rfl ?_
 first|refine aE rfl rfl rfl (.load_l rfl rfl rfl TG.h TS.h (nle rfl)) rfl rfl ?_|refine aE rfl rfl rfl (.load_a rfl rfl TG.h TS.h (nle rfl)) rfl rfl ?_|refine dM rfl rfl (by first|(simp[cD];done)|exact nofun) rfl rfl ?_
 first|refine aE rfl rfl rfl (.fieldAddr_l rfl TF.h (by decide)) rfl rfl ?_|refine aE rfl rfl rfl (.fieldAddr_a rfl TF.h (by decide)) rfl rfl ?_|refine dM rfl rfl (by first|(simp[cD];done)|exact nofun) rfl rfl ?_
 first|refine aE rfl rfl rfl (.load_l rfl rfl rfl TG.h TS.h (nle rfl)) rfl rfl ?_|refine aE rfl rfl rfl (.load_a rfl rfl TG.h TS.h (nle rfl)) rfl rfl ?_|refine dM rfl rfl (by first|(simp[cD];done)|exact nofun) rfl rfl ?_
 refine AR.op1y rfl rfl rfl (.buildSlice te_22.h TZ.h rfl (by decide) rfl rfl rfl (by simp[nuC])) rfl rfl ?_;refine AR.op1y rfl rfl rfl (.callS1 rfl rfl rfl (.shut rfl d_n (.keep (.nil))) rfl (ht)) rfl rfl ?_;refine a_z ?_;refine cF (ak (r_c 7 (bo') ?_));refine a_z ?_;by_cases hw8:cC p≤40∧lM ar 8=false;rw[hw8.2] at t8;refine ac (r_c 8 (hdg) ?_);refine o_0 (.bin rfl rfl (vT dY (decide_eq_true hw8.1))) ?_;refine c_s (t8) ?_;refine a_z ?_;refine cT (r_c 2 (fx) ?_);refine a_z ?_;exact aj (t_e (ag _));have hcm:=fs_rCmp (rq v) (rq w) (cY _) (cY _) (by show qs v+qs w≤_;omega);rw[show cZ (rq v).1 (rq w).1=cZ v w from rfl] at hcm;have sg0:=bY 0;have cp:=ap p;have crp:=b8 (rP p)
 have clf:∀(h:cC p≤40),lM ar 8=true:=fun h=>by
  cases e:lM ar 8 with
  |true=>rfl
  |false=>exact absurd ⟨h,e⟩ hw8
 refine aU (fun _:Unit=>⟨[(0,.arr (nR ar)),(2,i64 n),(4,.aptr [nuC r1.1 r1.2.1 r1.2.2++nuC r2.1 r2.2.1 r2.2.2] 0 0),(7,.arr (pE p)),(8,.arr (rE (rP p)))],[],1,112⟩) (fun _=>True) ?_ ?_;by_cases h40:cC p≤40;rw[clf h40] at t8;refine r_c 8 (hdg) ?_;refine o_0 (.bin rfl rfl (vT dY (decide_eq_true h40))) ?_;refine c_s (t8) ?_;refine a_z ?_;refine cF (ak ⟨(),trivial,?_⟩);exact s_x [] (fun hs=>e_57) (fun hs=>e_58);refine r_c 8 (hdg) ?_;refine o_0 (.bin rfl rfl (vF dY (decide_eq_false h40))) ?_;refine a_z ?_;refine cF (ak ⟨(),trivial,?_⟩);exact s_x [] (fun hs=>e_57) (fun hs=>e_58);rintro _ _;refine r_c 9 (bs) ?_;refine a_z ?_;by_cases hvw:v< w;rotate_left
 ·have hE:=wW p (v,w) n 2 (Nat.le_trans qv (by decide)) (Nat.le_trans qw (by decide)) (by omega) (.inl ⟨hvw,rfl⟩)
  have hge:0≤cZ v w:=by
   by_cases h:cZ v w< 0;exact absurd (cq_lt.1 h) hvw;omega
  refine r_c 12 (hE) ?_;refine a_z ?_;refine r_z 1 ?_;refine ac (r_c 6 (hcm) ?_);refine o_0 (.bin rfl rfl (vT ei (decide_eq_true (by omega)))) ?_;refine an ?_;refine cT (r_m 1 ?_);refine a_z ?_;refine ac (s_r 2 ?_);refine a_1 ?_;refine o_0 (.bin rfl rfl (vT cv (rfl))) ?_;refine an ?_;refine cT (s_r 17 ?_);refine a_2 ?_;refine o_0 (.bin rfl rfl (vT aJ (rfl))) ?_;refine a_1 ?_
  first|refine aE rfl rfl rfl (.move rfl) rfl rfl ?_|refine dM rfl rfl (by first|(simp[cD];done)|exact nofun) rfl rfl ?_
  first|refine aE rfl rfl rfl (.lenD rfl rfl rfl rfl te_30.h) rfl rfl ?_|refine aE rfl rfl rfl (.lenI rfl rfl rfl rfl te_30.h) rfl rfl ?_|refine aE rfl rfl rfl (.lenP rfl rfl rfl rfl te_30.h) rfl rfl ?_|refine aE rfl rfl rfl (.lenC rfl rfl rfl rfl te_30.h) rfl rfl ?_|refine aE rfl rfl rfl (.lenR rfl rfl rfl rfl te_30.h) rfl rfl ?_|refine aE rfl rfl rfl (.len rfl rfl rfl rfl rfl te_30.h) rfl rfl ?_|refine dM rfl rfl (by first|(simp[cD];done)|exact nofun) rfl rfl ?_
  refine aE rfl rfl rfl (.bin rfl rfl (vT aJ (rfl))) rfl rfl ?_;refine c_s (sg0) ?_;refine aE rfl rfl rfl (.bin rfl rfl (vT aJ (rfl))) rfl rfl ?_;refine c_s (fx) ?_;refine a_z ?_;exact aj (t_e (ag _))
 have hlt:=cq_lt.2 hvw;by_cases hn1:n< 0
 ·have hE:=wW p (v,w) n 3 (Nat.le_trans qv (by decide)) (Nat.le_trans qw (by decide)) (by omega) (.inr (.inl ⟨hvw,.inl hn1,rfl⟩))
  refine r_c 12 (hE) ?_;refine a_z ?_;refine r_z 1 ?_;refine ac (r_c 6 (hcm) ?_);refine o_0 (.bin rfl rfl (vF ei (decide_eq_false (by omega)))) ?_;refine an ?_;refine cF (s_r 6 ?_);refine a_1 ?_;refine o_0 (.bin rfl rfl (vT cw (decide_eq_true (by omega)))) ?_;refine a_z ?_;refine cT (r_m 1 ?_);refine a_z ?_;refine ac (s_r 2 ?_);refine a_1 ?_;refine o_0 (.bin rfl rfl (vT cv (rfl))) ?_;refine an ?_;refine cT (s_r 17 ?_);refine a_2 ?_;refine o_0 (.bin rfl rfl (vT aJ (rfl))) ?_;refine a_1 ?_
  first|refine aE rfl rfl rfl (.move rfl) rfl rfl ?_|refine dM rfl rfl (by first|(simp[cD];done)|exact nofun) rfl rfl ?_
  first|refine aE rfl rfl rfl (.lenD rfl rfl rfl rfl te_30.h) rfl rfl ?_|refine aE rfl rfl rfl (.lenI rfl rfl rfl rfl te_30.h) rfl rfl ?_|refine aE rfl rfl rfl (.lenP rfl rfl rfl rfl te_30.h) rfl rfl ?_|refine aE rfl rfl rfl (.lenC rfl rfl rfl rfl te_30.h) rfl rfl ?_|refine aE rfl rfl rfl (.lenR rfl rfl rfl rfl te_30.h) rfl rfl ?_|refine aE rfl rfl rfl (.len rfl rfl rfl rfl rfl te_30.h) rfl rfl ?_|refine dM rfl rfl (by first|(simp[cD];done)|exact nofun) rfl rfl ?_
  refine aE rfl rfl rfl (.bin rfl rfl (vT aJ (rfl))) rfl rfl ?_;refine c_s (sg0) ?_;refine aE rfl rfl rfl (.bin rfl rfl (vT aJ (rfl))) rfl rfl ?_;refine c_s (fx) ?_;refine a_z ?_;exact aj (t_e (ag _))
 by_cases hn2:40< n
 ·have hE:=wW p (v,w) n 3 (Nat.le_trans qv (by decide)) (Nat.le_trans qw (by decide)) (by omega) (.inr (.inl ⟨hvw,.inr hn2,rfl⟩))
  refine r_c 12 (hE) ?_;refine a_z ?_;refine r_z 1 ?_;refine ac (r_c 6 (hcm) ?_);refine o_0 (.bin rfl rfl (vF ei (decide_eq_false (by omega)))) ?_;refine an ?_;refine cF (s_r 6 ?_);refine a_1 ?_;refine o_0 (.bin rfl rfl (vF cw (decide_eq_false (by omega)))) ?_;refine a_1 ?_
  first|refine aE rfl rfl rfl (.move rfl) rfl rfl ?_|refine dM rfl rfl (by first|(simp[cD];done)|exact nofun) rfl rfl ?_
  refine aE rfl rfl rfl (.bin rfl rfl (vT cS (decide_eq_true (by omega)))) rfl rfl ?_;refine a_z ?_;refine cT (r_m 1 ?_);refine a_z ?_;refine ac (s_r 2 ?_);refine a_1 ?_;refine o_0 (.bin rfl rfl (vT cv (rfl))) ?_;refine an ?_;refine cT (s_r 17 ?_);refine a_2 ?_;refine o_0 (.bin rfl rfl (vT aJ (rfl))) ?_;refine a_1 ?_
  first|refine aE rfl rfl rfl (.move rfl) rfl rfl ?_|refine dM rfl rfl (by first|(simp[cD];done)|exact nofun) rfl rfl ?_
  first|refine aE rfl rfl rfl (.lenD rfl rfl rfl rfl te_30.h) rfl rfl ?_|refine aE rfl rfl rfl (.lenI rfl rfl rfl rfl te_30.h) rfl rfl ?_|refine aE rfl rfl rfl (.lenP rfl rfl rfl rfl te_30.h) rfl rfl ?_|refine aE rfl rfl rfl (.lenC rfl rfl rfl rfl te_30.h) rfl rfl ?_|refine aE rfl rfl rfl (.lenR rfl rfl rfl rfl te_30.h) rfl rfl ?_|refine aE rfl rfl rfl (.len rfl rfl rfl rfl rfl te_30.h) rfl rfl ?_|refine dM rfl rfl (by first|(simp[cD];done)|exact nofun) rfl rfl ?_
  refine aE rfl rfl rfl (.bin rfl rfl (vT aJ (rfl))) rfl rfl ?_;refine c_s (sg0) ?_;refine aE rfl rfl rfl (.bin rfl rfl (vT aJ (rfl))) rfl rfl ?_;refine c_s (fx) ?_;refine a_z ?_;exact aj (t_e (ag _))
 by_cases h40:40< cC p
 ·have hE:=wW p (v,w) n 5 (Nat.le_trans qv (by decide)) (Nat.le_trans qw (by decide)) (by omega) (.inr (.inr ⟨hvw,by omega,by omega,h40,rfl⟩))
  refine r_c 12 (hE) ?_;refine a_z ?_;refine r_z 1 ?_;refine ac (r_c 6 (hcm) ?_);refine o_0 (.bin rfl rfl (vF ei (decide_eq_false (by omega)))) ?_;refine an ?_;refine cF (s_r 6 ?_);refine a_1 ?_;refine o_0 (.bin rfl rfl (vF cw (decide_eq_false (by omega)))) ?_;refine a_1 ?_
  first|refine aE rfl rfl rfl (.move rfl) rfl rfl ?_|refine dM rfl rfl (by first|(simp[cD];done)|exact nofun) rfl rfl ?_
  refine aE rfl rfl rfl (.bin rfl rfl (vF cS (decide_eq_false (by omega)))) rfl rfl ?_;refine a_z ?_;refine cF (r_c 3 (hdg) ?_);refine o_0 (.bin rfl rfl (vT cS (decide_eq_true (by omega)))) ?_;refine an ?_;refine cT (r_m 1 ?_);refine a_z ?_;refine ac (s_r 2 ?_);refine a_1 ?_;refine o_0 (.bin rfl rfl (vT cv (rfl))) ?_;refine an ?_;refine cT (s_r 17 ?_);refine a_2 ?_;refine o_0 (.bin rfl rfl (vT aJ (rfl))) ?_;refine a_1 ?_
  first|refine aE rfl rfl rfl (.move rfl) rfl rfl ?_|refine dM rfl rfl (by first|(simp[cD];done)|exact nofun) rfl rfl ?_
  first|refine aE rfl rfl rfl (.lenD rfl rfl rfl rfl te_30.h) rfl rfl ?_|refine aE rfl rfl rfl (.lenI rfl rfl rfl rfl te_30.h) rfl rfl ?_|refine aE rfl rfl rfl (.lenP rfl rfl rfl rfl te_30.h) rfl rfl ?_|refine aE rfl rfl rfl (.lenC rfl rfl rfl rfl te_30.h) rfl rfl ?_|refine aE rfl rfl rfl (.lenR rfl rfl rfl rfl te_30.h) rfl rfl ?_|refine aE rfl rfl rfl (.len rfl rfl rfl rfl rfl te_30.h) rfl rfl ?_|refine dM rfl rfl (by first|(simp[cD];done)|exact nofun) rfl rfl ?_
  refine aE rfl rfl rfl (.bin rfl rfl (vT aJ (rfl))) rfl rfl ?_;refine c_s (sg0) ?_;refine aE rfl rfl rfl (.bin rfl rfl (vT aJ (rfl))) rfl rfl ?_;refine c_s (fx) ?_;refine a_z ?_;exact aj (t_e (ag _))
 obtain⟨N,rfl⟩:∃N:Nat,n=N:=⟨n.toNat,by omega⟩;obtain⟨bp,lp8⟩:=hd8 (clf (by omega));obtain⟨r,P,b,x1,x2,x3,x4,x5,x6,x7,x8⟩:=ec_same p (v,w) N lp8 bp qv qw hvw (by omega);have hE:=pt 9 p (v,w) N r x2 x1;rw[←x3,←x4] at hE;have hrE:=uD p (v,w) N 9 (P,b) lp8 bp qv qw hvw x5;have sP:=Fy P (rP P) (eD _) (by rw[cW,x3,qH]) (dN x6 (by decide)) (by simp[rP];omega);have sN:=yR b (rq b) (cY _) rfl (by omega);refine r_c 12 (hE) ?_;refine a_z ?_;refine r_z 1 ?_;refine ac (r_c 6 (hcm) ?_);refine o_0 (.bin rfl rfl (vF ei (decide_eq_false (by omega)))) ?_;refine an ?_;refine cF (s_r 6 ?_);refine a_1 ?_;refine o_0 (.bin rfl rfl (vF cw (decide_eq_false (by omega)))) ?_;refine a_1 ?_
 first|refine aE rfl rfl rfl (.move rfl) rfl rfl ?_|refine dM rfl rfl (by first|(simp[cD];done)|exact nofun) rfl rfl ?_
 refine aE rfl rfl rfl (.bin rfl rfl (vF cS (decide_eq_false (by omega)))) rfl rfl ?_;refine a_z ?_;refine cF (r_c 3 (hdg) ?_);refine o_0 (.bin rfl rfl (vF cS (decide_eq_false (by omega)))) ?_;refine an ?_;refine cF (ak (ac (s_r 2 ?_)));refine a_1 ?_;refine o_0 (.bin rfl rfl (vF cv (rfl))) ?_;refine an ?_;refine cF (ak (r_c 10 (hrE) ?_));refine a_z ?_;refine s_r 16 ?_;refine a_1 ?_;refine o_0 (.bin rfl rfl (vT aJ (rfl))) ?_;refine c_s (sP) ?_;refine c_s (sN) ?_;refine c_s (fx) ?_;refine a_z ?_;exact aj (t_e (ag _))
end Go.Proofs.YtjgokhkahkmpbaaGreatDoor
namespace Go.Proofs.YtjgokhkahkmpbaaGreatDoor
open Go.Abs Go.Deep Go.RowKit Go.WideShapes
set_option maxRecDepth 20000

end Go.Proofs.YtjgokhkahkmpbaaGreatDoor
namespace Go.Proofs.YtjgokhkahkmpbaaGreatDoor
open Go
def mkF(P:Program)(fn:Func)(c:OpenClaim):Bool:=(P.make==some c.make) && (c.kinds==(if c.domain.isEmpty then [] else fn.params.toList.map fun t=>match P.underlying t with|some (.int k)=>some k|_=>none)) && (c.pinned==c.pinnedBy)
section
variable {P:Program}{f:FuncId}{fn:Func}{s:ChangeSpec}{c:OpenClaim}
theorem Dy (h1:c.wf (OpenSpec.ofChange s)=true) (h2:laidOutB P=true) (h3:mapsRowed P=true)
    (h4:fn.params.all (P.readableRec ·)=true) (h5:namedTie P c.named s.vars=true)
    (h6:((c.stops==[]) && (P.stops==[]) && (c.knobs==[]) && (P.stopKnobs==[]))=true)
    (h7:(c.inPlace==P.inPlace f)=true) (h8:(c.unfollowed==P.unfollowed f)=true) (h9:(c.recurses==P.recurses f)=true) (h10:(c.named==P.varsNamed f)=true)
    (h11:((c.maps==(fn.params.toList++s.plain.varTypes P).any (P.mapsRec ·)) && (c.ifaces==(fn.params.toList++s.plain.varTypes P).any (P.ifacesRec ·)) && (c.mapsOut==P.mapsAmong fn.resultTypes.toList))=true)
    (h12:((c.loops==(fn.params.toList++s.plain.varTypes P).any (P.loopsFrom ·)) && (c.wideKeys==(fn.params.toList++s.plain.varTypes P++fn.resultTypes.toList).any (P.wideKeysFrom ·)))=true)
    (h13:(s.vars.all (P.varReadable ·) && fn.resultTypes.all (fun t=>P.readableRec t && decide (t< P.types.size)) && (c.ifacesOut==fn.resultTypes.toList.any (P.ifacesRec ·)) && (c.loopsOut==fn.resultTypes.toList.any (P.loopsFrom ·)) && (c.plainKeys==P.plainKeys) && c.shortTexts.isNone)=true)
    (h14:P.stopsHeard=true) (h15:P.mayEnter=true) (h16:(c.lifted==P.liftsFinal)=true)
    (h17:mkF P fn c=true)
    (h18:((c.veiled==(fn.params.toList++s.plain.varTypes P++fn.resultTypes.toList).any (P.veiledRec ·)) && c.veiledFits P fn.params.toList (fn.params.toList++s.plain.varTypes P++fn.resultTypes.toList))=true):
    joinedFacts P f fn s c=true:=by
 unfold mkF at h17;simp only[Bool.and_eq_true] at h6 h11 h12 h13 h17 h18;simp only[joinedFacts,Bool.and_eq_true]
 and_intros
 all_goals first|assumption|exact h6.1.1.1|exact h6.1.1.2|exact h6.1.2|exact h6.2|exact h11.1.1|exact h11.1.2|exact h11.2|exact h12.1|exact h12.2|exact h13.1.1.1.1.1|exact h13.1.1.1.1.2|exact h13.1.1.1.2|exact h13.1.1.2|exact h13.1.2|exact h13.2|exact h17.1.1|exact h17.1.2|exact h17.2|exact h18.1|exact h18.2
end
theorem xu:laidOutB Tryz.prog=true:=by kernel_rfl
theorem all_mr:mapsRowed Tryz.prog=true:=by kernel_rfl
theorem all_sh:Tryz.prog.stopsHeard=true:=by kernel_rfl
theorem all_me:Tryz.prog.mayEnter=true:=by kernel_rfl
theorem all_lk:false=Tryz.prog.looks []:=by kernel_rfl
theorem all_mi:Tryz.prog.mainIs=some (true,("70a96ca732a625b64e2cc30d8b2ff4a1e0277bc946d2166fe72dcd27bb40609a" :String).toList):=by kernel_rfl
theorem all_lf:Tryz.prog.liftsFinal=Rows.approxSeriesRow.lifted:=by kernel_rfl
theorem nj:Rows.approxEconomizesRow.wf (OpenSpec.ofChange Rows.approxEconomizesSpec)=true:=by kernel_rfl
theorem nw:Tryz.f3.params.all (Tryz.prog.readableRec ·)=true:=by kernel_rfl
theorem nA:namedTie Tryz.prog Rows.approxEconomizesRow.named Rows.approxEconomizesSpec.vars=true:=by kernel_rfl
theorem nu:((Rows.approxEconomizesRow.stops==[]) && (Tryz.prog.stops==[]) && (Rows.approxEconomizesRow.knobs==[]) && (Tryz.prog.stopKnobs==[]))=true:=by kernel_rfl
theorem nJ:(Rows.approxEconomizesRow.inPlace==Tryz.prog.inPlace 3)=true:=by kernel_rfl
theorem ns:(Rows.approxEconomizesRow.unfollowed==Tryz.prog.unfollowed 3)=true:=by kernel_rfl
theorem ny:(Rows.approxEconomizesRow.recurses==Tryz.prog.recurses 3)=true:=by kernel_rfl
theorem nn:(Rows.approxEconomizesRow.named==Tryz.prog.varsNamed 3)=true:=by kernel_rfl
theorem nB:((Rows.approxEconomizesRow.maps==(Tryz.f3.params.toList++Rows.approxEconomizesSpec.plain.varTypes Tryz.prog).any (Tryz.prog.mapsRec ·)) && (Rows.approxEconomizesRow.ifaces==(Tryz.f3.params.toList++Rows.approxEconomizesSpec.plain.varTypes Tryz.prog).any (Tryz.prog.ifacesRec ·)) && (Rows.approxEconomizesRow.mapsOut==Tryz.prog.mapsAmong Tryz.f3.resultTypes.toList))=true:=by kernel_rfl
theorem nF:((Rows.approxEconomizesRow.loops==(Tryz.f3.params.toList++Rows.approxEconomizesSpec.plain.varTypes Tryz.prog).any (Tryz.prog.loopsFrom ·)) && (Rows.approxEconomizesRow.wideKeys==(Tryz.f3.params.toList++Rows.approxEconomizesSpec.plain.varTypes Tryz.prog++Tryz.f3.resultTypes.toList).any (Tryz.prog.wideKeysFrom ·)))=true:=by kernel_rfl
theorem nk:(Rows.approxEconomizesSpec.vars.all (Tryz.prog.varReadable ·) && Tryz.f3.resultTypes.all (fun t=>Tryz.prog.readableRec t && decide (t< Tryz.prog.types.size)) && (Rows.approxEconomizesRow.ifacesOut==Tryz.f3.resultTypes.toList.any (Tryz.prog.ifacesRec ·)) && (Rows.approxEconomizesRow.loopsOut==Tryz.f3.resultTypes.toList.any (Tryz.prog.loopsFrom ·)) && (Rows.approxEconomizesRow.plainKeys==Tryz.prog.plainKeys) && Rows.approxEconomizesRow.shortTexts.isNone)=true:=by kernel_rfl
theorem nr:((Rows.approxEconomizesRow.veiled==(Tryz.f3.params.toList++Rows.approxEconomizesSpec.plain.varTypes Tryz.prog++Tryz.f3.resultTypes.toList).any (Tryz.prog.veiledRec ·)) && Rows.approxEconomizesRow.veiledFits Tryz.prog Tryz.f3.params.toList (Tryz.f3.params.toList++Rows.approxEconomizesSpec.plain.varTypes Tryz.prog++Tryz.f3.resultTypes.toList))=true:=by kernel_rfl
theorem nh:Rows.approxEconomizesRow.wfByText (OpenSpec.ofChange Rows.approxEconomizesSpec)=true:=by kernel_rfl
theorem nN:false=Rows.approxEconomizesRow.goesBy Tryz.prog:=by kernel_rfl
theorem approxEconomizes_fn:Tryz.prog.funcNamed Rows.approxEconomizesRow.func=some 3:=by kernel_rfl
theorem nI:decide (Tryz.f3.isInstance Tryz.prog Rows.approxEconomizesRow.origin Rows.approxEconomizesRow.targs)=true:=by kernel_rfl
theorem ni:(Tryz.f3.params.toList.all fun u=>!Tryz.prog.wantsStandIn u)=true:=by kernel_rfl
theorem nC:mkF Tryz.prog Tryz.f3 Rows.approxEconomizesRow=true:=by kernel_rfl
theorem nH:(Rows.approxEconomizesRow.lifted==Tryz.prog.liftsFinal)=true:=by rw[all_lf];kernel_rfl
theorem kQ:joinedFacts Tryz.prog 3 Tryz.f3 Rows.approxEconomizesSpec Rows.approxEconomizesRow=true:=
 Dy nj xu all_mr nw nA nu nJ ns ny nn nB nF nk all_sh all_me nH nC nr
theorem lU:Tryz.f3.isWrapper Tryz.prog Rows.approxEconomizesRow.wrapper Rows.approxEconomizesRow.mainSum:=by
 unfold Func.isWrapper;first|(rw[if_pos (by decide+kernel)];kernel_rfl)|(rw[if_neg (by decide+kernel)];exact⟨rfl,rfl⟩)
end Go.Proofs.YtjgokhkahkmpbaaGreatDoor
namespace Go.Proofs.YtjgokhkahkmpbaaGreatDoor
open Go.Abs Go.RowKit
theorem tab_glb:(Tryz.prog).globalNamed "internal/strconv.uint64pow10" =some GT:=by kernel_rfl
theorem tab_of{n1 n2:String}{a b:DataW Unit}{W:World}(h:laidMet Tryz.prog [(n1,a),(n2,b),("internal/strconv.uint64pow10",Lib.tabData .u64 Lib.pow10Tab)] W):TabW W:=by
 obtain⟨ps,⟨g1,t1,c1,u1,p1,q1,_,_,_,_,⟨g2,t2,c2,u2,p2,q2,_,_,_,_,⟨g,t,cs,fuel,p,q,hg,ht,hv,hd,_,_⟩,_⟩,_⟩,_,_⟩:=h;obtain rfl:=Option.some.inj (tab_glb.symm.trans hg);have hT:((Tryz.prog).globals[GT]?).map (·.type)=some 293:=by kernel_rfl
 have hu:(Tryz.prog).underlying 293=some (.array 20 173):=by kernel_rfl
 have he:(Tryz.prog).underlying 173=some (.int .u64):=by kernel_rfl
 have hce:(Tryz.prog).cellsOf 173=1:=by kernel_rfl
 have hct:(Tryz.prog).cellsOf 293=20:=by kernel_rfl
 obtain rfl:=Option.some.inj (hT.symm.trans ht);have hc:=Lib.cells_of_tab (zs:=Lib.pow10Tab) hu he hce hct hd;unfold World.var? at hv;rw[tab_glb] at hv;have hv':(match W.heap[GT]? with|some (.cells cs _ _)=>some cs|_=>none)=some cs:=hv;cases hh:W.heap[GT]? with
 |none=>rw[hh] at hv';cases hv'
 |some o=>
  rw[hh] at hv';cases o with
  |cells a b c=>
   obtain rfl:a=cs:=Option.some.inj hv';refine⟨b,c,?_⟩;rw[hh]
   have:a=tabA:=by
    unfold tabA;rw[←hc]
   rw[this]
  |_=>cases hv'
end Go.Proofs.YtjgokhkahkmpbaaGreatDoor
namespace Go.Proofs.YtjgokhkahkmpbaaGreatDoor
open Go.Abs Go.ChangeAt Go.ChangeShapes Go.RowKit Go.WideShapes
theorem own:ownKnob Tryz.prog.godebug=none:=by kernel_rfl
theorem und4:Tryz.prog.underlying 4=some .bool:=by kernel_rfl
abbrev CA:List (String×DataW Unit):=Rows.approxEconomizesRow.laid
theorem FP(os:Os)(args:Array Value):laidMetH Tryz.prog CA ((World.doorLaid Tryz.prog 24 os).forCall (fun _ _=>0) ⟨#[],args,[]⟩).memory:=
 laidMetH_of_parts3 (fuel:=8) (laidMet_of_run' 8 (by kernel_rfl) (by kernel_rfl)) (by kernel_rfl) (by kernel_rfl)
set_option maxRecDepth 100000 in
theorem kP(os:Os)(started:os.Started)(H:Type)(enc:TypeId×Value→H):
    ReturnsInHanded {} Tryz.checked os 3 .any (fun w args=>(Rows.approxEconomizesSpec.pre enc Tryz.prog Tryz.f3 [] false w args∧laidMetH Tryz.prog CA w)∧sizedMet enc Tryz.prog Tryz.f3 (OpenSpec.ofChange Rows.approxEconomizesSpec) false w args)
     (Rows.approxEconomizesSpec.post enc Tryz.prog Tryz.f3 false true false false):=by
 refine returnsInHanded_of_change_and (C:=Tryz.checked) (X:=fun w _=>laidMetH Tryz.prog CA w) (fun _ _ _ hh h=>h.of_heap hh) own started (by kernel_rfl) Tryz.func3
  (ChangeSpec.witness_shaped (enc:=enc) (C:=Tryz.checked) (os:=os) (X:=fun w _=>laidMetH Tryz.prog CA w) false (World.doorLaid Tryz.prog 24 os) #[.slice none 0 0,(.agg #[.int .i64 0,.int .i64 0,.int .u8 0,.int .i64 0,.int .i64 0,.int .u8 0]),(.int .i64 0)] 8 rfl (World.shaped_of_RefB (by kernel_rfl) (by kernel_rfl)) (by kernel_rfl) (by kernel_rfl) (by kernel_rfl) (FP os _)) ?_
 intro W base args ds gs before hval0 hW _ _ hX _;have hval:∀(j:Nat) t v,Tryz.f3.params[j]?=some t→args[j]?=some v→Value.okWide Tryz.prog W .any base t v:=hval0;have hW':=hW;obtain⟨p,q,hA0,hV,rfl,hfz,hnd⟩:=hW;have hA:DataW.TrodAll enc Tryz.prog W 0 (fun _=>true) true Tryz.f3.params.toList args.toList ds p:=hA0;rw[Tryz.params3] at hA hval;obtain⟨v0,vs0,d0,ds0,p0,q0,hargs,rfl,rfl,h0,r0⟩:=trodAll_cons hA;obtain⟨v1,vs1,d1,ds1,p1,q1,rfl,rfl,rfl,h1,r1⟩:=trodAll_cons r0;obtain⟨v2,vs2,d2,ds2,p2,q2,rfl,rfl,rfl,h2,r2⟩:=trodAll_cons r1;obtain⟨rfl,rfl,rfl⟩:=trodAll_nil r2;obtain rfl:args= #[v0,v1,v2]:=by cases args;simp_all
 obtain⟨rfl,rfl⟩:=trodVars_none hV;obtain⟨a0,len0,cap0,rfl⟩:=okWide_slice tyS (hval 0 22 v0 rfl rfl);have lt0:∀x∈p0,x.block< W.heap.size:=by obtain⟨m,hm⟩:=h0;exact DataW.trod_lt m _ _ _ hm
 have lt1:∀x∈p1,x.block< W.heap.size:=by obtain⟨m,hm⟩:=h1;exact DataW.trod_lt m _ _ _ hm
 have lt2:∀x∈p2,x.block< W.heap.size:=by obtain⟨m,hm⟩:=h2;exact DataW.trod_lt m _ _ _ hm
 obtain⟨l0,o0,g0⟩:=rows_of h0;obtain⟨l1,o1,g1⟩:=gapP_of (hval 1 26 v1 rfl rfl) h1;obtain⟨l2,o2,g2⟩:=intP_of (hval 2 3 v2 rfl rfl) h2;clear hA0 hval0;refine((ng l0 l1 l2 o0 (rvlen g0) o1 o2).calls (fun _=>False) W [.slice a0 len0 cap0,v1,v2] ⟨fun _ h=>h.elim,fun h=>h,tab_of (by rw[MakeChecks.laidMetH_plain _ _ _ (by kernel_rfl)] at hX;exact hX)⟩ ⟨_,_,rfl,g0,⟨_,_,rfl,g1,⟨_,_,rfl,g2,rfl⟩⟩⟩).mono fun e W' ⟨y,he,hy,bel⟩=>?_;have hy':y= .bool true:=hy;subst he;subst hy';exact⟨_,rfl,_,_,_,[],_,[],hW',trodAll_mk1 (shut_bool und4 _),(trodAll_cons_mk (Below.trod xu (by kernel_rfl) (of_decide_eq_true (by kernel_rfl)) h0 bel lt0) (trodAll_cons_mk (Below.trod xu (by kernel_rfl) (of_decide_eq_true (by kernel_rfl)) h1 bel lt1) (trodAll_cons_mk (Below.trod xu (by kernel_rfl) (of_decide_eq_true (by kernel_rfl)) h2 bel lt2) trodAll_mk0))),rfl,bel.frame _,fun h=>by cases h⟩
theorem mu:Rows.ApproxEconomizesSaid:=
 OpenClaim.holds_of_wide 3 Tryz.f3 rfl rfl rfl rfl rfl rfl rfl ⟨rfl,rfl,rfl,rfl,rfl⟩ rfl rfl rfl rfl rfl approxEconomizes_fn Tryz.func3 kQ
  (of_decide_eq_true nI) lU
  (fun os started H enc _=>kP os started H enc)
theorem approxEconomizes_card:Rows.ApproxEconomizesCardSaid:=
 Claim7.holds_tied_plain_at .later [] [.data,.data,.data] true (true, "70a96ca732a625b64e2cc30d8b2ff4a1e0277bc946d2166fe72dcd27bb40609a") false
  mu (fun _ h=>by cases h) nh (fun _ h=>by cases h) approxEconomizes_row_tie rfl ⟨rfl,rfl⟩ all_mi rfl
  (fun f fn hf hfn=>by
   obtain rfl:f=3:=Option.some.inj (approxEconomizes_fn.symm.trans hf)|>.symm;obtain rfl:fn=Tryz.f3:=(Option.some.inj (Tryz.func3.symm.trans hfn)).symm
   exact⟨all_lk,fun j t ht=>by
    have hm:t∈Tryz.f3.params.toList:=by simpa using Array.mem_of_getElem? ht
    exact(show Tryz.prog.wantsStandIn t=false by simpa using List.all_eq_true.1 ni t hm)⟩)
  nN
#print axioms approxEconomizes_card
end Go.Proofs.YtjgokhkahkmpbaaGreatDoor
