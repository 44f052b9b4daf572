/- ApproxSeries: the quotient that is found from the series of a quotient of two polynomials is that quotient, at every input of the kinds that the law takes. -/
import Derived.Test.YtjgokhkahkmpbaaGreatDoorZ30
import Derived.ProofKit
import Derived.OpenShut
import Derived.Carry
import Derived.Deep.Slices
import Derived.Deep.Strs
import Derived.ChangeSame
import Derived.Test.YtjgokhkahkmpbaaGreatDoorRows
import Derived.JoinedOf
import Derived.SevenTiedAt
import Derived.Lib.LaidTab
import Derived.Test.YtjgokhkahkmpbaaGreatDoorTie
import Derived.Test.YtjgokhkahkmpbaaGreatDoorCards
import Derived.LaidMore
import Derived.Stop.Joined
import Derived.MakeChecks
set_option linter.all false
namespace Go.Proofs.YtjgokhkahkmpbaaGreatDoor
open Go.Abs
set_option maxRecDepth 100000
set_option maxHeartbeats 8000000
theorem Ef:([.arr [],bln false,.arr []]:La)++qC ((1:Int):Rat)=spC 0 1:=by
 rw[show((1:Int):Rat)=1 from rfl];unfold spC;rw[qC0]
theorem pc:∀c∈([.arr [],bln false,.arr []]:La)++qC ((1:Int):Rat),Closed c:=by rw[Ef];exact cf 0 1
abbrev bSp8:AV:= .aptr [[.arr [],bln false,.arr []]++qC ((1:Int):Rat)] 0 0
abbrev DT:AV:= .aptr [beC [-1/2,2] (1/2) [0,1,2]] 0 0
theorem je:FS 7 [] (.v (.bool true)):=by
 have hda:FS 28 [.arr (zE [0,1,4])] (.agg (dC dtW)):=Dp [0,1,4] (by decide) (by decide) (by decide);have hi2:FS 31 [.arr (zE [0,0,1])] (.arr (pE fW)):=uR [0,0,1] (by decide) (by decide);have hi3:FS 31 [.arr (zE [0,0,0,1])] (.arr (pE cuW)):=uR [0,0,0,1] (by decide) (by decide);have hft:=wk8_fit;have hgr:=D2;have hmi:=D1;have hpt:=zx;have hpf:=zy;have hec:=wk8_eco;rw[←Ef] at hmi hpt hpf;have n1:=cN 1 (by decide);have nm:=cN (-1) (by decide);have hfi:=iK 10;rw[show wi 10 256=10 by decide] at hfi;obtain⟨t1,o1,t2,o2,t3,o3,t4,o4,t5,o5,t6,o6⟩:=w8_t1;have x1:=tl _ o1;rw[t1] at x1;have x2:=oF _ o2;rw[t2] at x2;have x3:=tl _ o3;rw[t3] at x3;have x4:=oF _ o4;rw[t4] at x4;have x5:=tl _ o5;rw[t5] at x5;have x6:=oF _ o6;rw[t6] at x6;refine f_c Tryz.func7 ?_;refine r_z 1 ?_;refine s_r 9 ?_;refine a_1 ?_;refine o_1 (.callS1 rfl rfl rfl (.shut rfl d_n (.nil)) rfl (hda)) ?_;refine c_s (hft) ?_;refine a_z ?_;refine AWp.ent (st':=⟨[(1,DT),(2,i64 0)],[],1,112⟩) ?_ ?_;refine s_x [] (fun hs=>?_) (fun hs=>?_)
 ·repeat' (first|exact aG|refine aj rfl ?_ ?_|exact Cv.boxp hs rfl (aQ rfl) rfl (c8 _ _ _)|exact aW)
 ·repeat' (first|exact aD|refine h_c ?_ ?_|exact bC|refine aw ?_|exact ay|refine af ?_ ?_|exact Cv.boxp hs rfl (aQ rfl) rfl (c8 _ _ _)|exact aW)
 refine s_r 11 ?_;refine a_1 ?_;refine o_1 (.callS1 rfl rfl rfl (.shut rfl d_n (.nil)) rfl (hda)) ?_;refine c_s (hgr) ?_;refine a_z ?_;refine AWp.ent (st':=⟨[(1,DT),(2,i64 0),(3,.arr (pE [1,1])),(4,bQ 1),(5,i64 0)],[],1,112⟩) ?_ ?_;refine s_x [] (fun hs=>?_) (fun hs=>?_)
 ·repeat' (first|exact aG|refine aj rfl ?_ ?_|exact ah hs (aX (c8 _ _ _))|exact ah hs (ao _)|exact Cv.boxp hs rfl (aQ rfl) rfl (aU _)|exact aW)
 ·repeat' (first|exact aD|refine h_c ?_ ?_|exact bC|refine aw ?_|exact ay|refine af ?_ ?_|exact ah hs (aX (c8 _ _ _))|exact ah hs (ao _)|exact Cv.boxp hs rfl (aQ rfl) rfl (aU _)|exact aW)
 refine r_c 4 (n1) ?_;refine a_z ?_;refine AWp.ent (st':=⟨[(1,DT),(2,i64 0),(3,.arr (pE [1,1])),(4,bQ 1),(5,i64 0),(6,.lptr 1 0 0)],[(1,some ⟨44,6,[[.arr [],bln false,.arr []]++qC ((1:Int):Rat)]⟩)],2,112⟩) ?_ ?_;refine s_x [(1,6)] (fun hs=>?_) (fun hs=>?_)
 ·repeat' (first|exact aG|refine aj rfl ?_ ?_|exact ah hs (aX (c8 _ _ _))|exact ah hs (ao _)|exact ah hs (aO _)|exact aW)
 ·repeat' (first|exact aD|refine h_c ?_ ?_|exact CvLL.cons (af (Cv.emp _) (af (ah hs (ag _)) (af (Cv.emp _) (CvL.clo hs (aU _))))) CvLL.nil|exact bC|refine aw ?_|exact ay|refine af ?_ ?_|exact ah hs (aX (c8 _ _ _))|exact ah hs (ao _)|exact ah hs (aO _)|exact aW)
 refine AWp.ent (st':=⟨[(1,DT),(2,i64 0),(3,.arr (pE [1,1])),(4,bQ 1),(5,i64 0),(6,bSp8)],[],1,112⟩) ?_ ?_;refine s_x [] (fun hs=>?_) (fun hs=>?_)
 ·repeat' (first|exact aG|refine aj rfl ?_ ?_|exact ah hs (aX (c8 _ _ _))|exact ah hs (ao _)|exact ah hs (aO _)|exact Cv.boxp hs rfl (aQ rfl) rfl pc|exact aW)
 ·repeat' (first|exact aD|refine h_c ?_ ?_|exact bC|refine aw ?_|exact ay|refine af ?_ ?_|exact ah hs (aX (c8 _ _ _))|exact ah hs (ao _)|exact ah hs (aO _)|exact Cv.boxp hs rfl (aQ rfl) rfl pc|exact aW)
 refine ae (r_d hmix 11 ?_);refine a_1 ?_;refine o_1 (.callS1 rfl rfl rfl (.shut rfl d_n (.nil)) rfl (hi2)) ?_;refine c_s (hfi) ?_;refine c_s (hmi) ?_;refine a_6 ?_;refine aq (n_k ?_);refine AWp.ent (st':=⟨[(1,DT),(2,i64 0),(3,.arr (pE [1,1])),(4,bQ 1),(5,i64 0),(6,bSp8),(7,bNa [-1/8,1] [0,1/2,1] (1/8) (1/8)),(8,i64 0)],[],1,112⟩) ?_ ?_;refine s_x [] (fun hs=>?_) (fun hs=>?_)
 ·repeat' (first|exact aG|refine aj rfl ?_ ?_|exact ah hs (aX (c8 _ _ _))|exact ah hs (ao _)|exact ah hs (aO _)|exact ah hs (aX pc)|exact Cv.boxp hs rfl (aQ rfl) rfl (eM _ _ _ _)|exact aW)
 ·repeat' (first|exact aD|refine h_c ?_ ?_|exact bC|refine aw ?_|exact ay|refine af ?_ ?_|exact ah hs (aX (c8 _ _ _))|exact ah hs (ao _)|exact ah hs (aO _)|exact ah hs (aX pc)|exact Cv.boxp hs rfl (aQ rfl) rfl (eM _ _ _ _)|exact aW)
 refine s_r 14 ?_;refine a_1 ?_;refine o_1 (.callS1 rfl rfl rfl (.shut rfl d_n (.nil)) rfl (hi3)) ?_;refine c_s (nm) ?_;refine c_s (n1) ?_;refine c_s (hec) ?_;refine a_z ?_;refine AWp.ent (st':=⟨[(1,DT),(2,i64 0),(3,.arr (pE [1,1])),(4,bQ 1),(5,i64 0),(6,bSp8),(7,bNa [-1/8,1] [0,1/2,1] (1/8) (1/8)),(8,i64 0),(9,.arr (pE [0,3/4])),(10,bQ (1/4)),(11,i64 0)],[],1,112⟩) ?_ ?_;refine s_x [] (fun hs=>?_) (fun hs=>?_)
 ·repeat' (first|exact aG|refine aj rfl ?_ ?_|exact ah hs (aX (c8 _ _ _))|exact ah hs (ao _)|exact ah hs (aO _)|exact ah hs (aX pc)|exact ah hs (kO _ _ _ _)|exact Cv.boxp hs rfl (aQ rfl) rfl (aU _)|exact aW)
 ·repeat' (first|exact aD|refine h_c ?_ ?_|exact bC|refine aw ?_|exact ay|refine af ?_ ?_|exact ah hs (aX (c8 _ _ _))|exact ah hs (ao _)|exact ah hs (aO _)|exact ah hs (aX pc)|exact ah hs (kO _ _ _ _)|exact Cv.boxp hs rfl (aQ rfl) rfl (aU _)|exact aW)
 refine ae (r_d hmix 68 ?_);refine a_1 ?_;refine o_0 (.bin rfl rfl (vT aV (rfl))) ?_;refine e_s (x1) ?_;refine bv rfl rfl rfl (.bin rfl rfl (vT kf rfl)) rfl rfl ?_;refine e_s (x2) ?_;refine bv rfl rfl rfl (.bin rfl rfl (vT kf rfl)) rfl rfl ?_;refine d_5 ?_;refine bv rfl rfl rfl (.bin rfl rfl (vT aV (rfl))) rfl rfl ?_;refine d_3 ?_;refine bv rfl rfl rfl (.bin rfl rfl (vT aV (rfl))) rfl rfl ?_;refine e_s (x3) ?_;refine bv rfl rfl rfl (.bin rfl rfl (vT kf rfl)) rfl rfl ?_;refine e_s (x4) ?_;refine bv rfl rfl rfl (.bin rfl rfl (vT kf rfl)) rfl rfl ?_;refine d_3 ?_;refine bv rfl rfl rfl (.bin rfl rfl (vT aV (rfl))) rfl rfl ?_;refine d_3 ?_;refine AR.op1y rfl rfl rfl (.callS1 rfl rfl rfl (.shut rfl d_n (.nil)) rfl (hi2)) rfl rfl ?_;refine e_s (hpt) ?_;refine d_3 ?_;refine AR.op1y rfl rfl rfl (.callS1 rfl rfl rfl (.shut rfl d_n (.nil)) rfl (hi2)) rfl rfl ?_;refine e_s (hpf) ?_;refine d_4 ?_;refine bv rfl rfl rfl (.bin rfl rfl (vT aV (rfl))) rfl rfl ?_;refine e_s (x5) ?_;refine bv rfl rfl rfl (.bin rfl rfl (vT kf rfl)) rfl rfl ?_;refine e_s (x6) ?_;refine bv rfl rfl rfl (.bin rfl rfl (vT kf rfl)) rfl rfl ?_;refine a_2 ?_;refine aq (n_k ?_);exact am (t_e (ag _))
def asV:Nat→AV
 |0=> .emp
 |i+1=> .lsl 1 0 (i+1) none 3
def asH(p q:Lq):Nat→Hp
 |0=>[]
 |i+1=>[(1,some ⟨42,3,pE (srC p q (i+1))⟩)]
def asS(p q:Lq)(n:Nat):Nat→AState
 |i=>⟨[(5,.arr (pE p)),(7,.arr (pE q)),(9,asV i),(10,i64 n),(11,i64 i)],asH p q i,2,127⟩
def asT(p q:Lq)(n i:Nat):Nat→AState
 |j=>⟨[(5,.arr (pE p)),(7,.arr (pE q)),(9,asV i),(10,i64 n),(11,i64 i),(12,.lptr 3 0 0),(13,i64 ((j+1:Nat):Int))],(3,some ⟨42,3,[qC (srX p q (srC p q i) i j)]⟩)::asH p q i,4,127⟩
noncomputable def asRest:Code:=match Tryz.f5.body with|some (.seq _ (.seq _ (.seq _ (.seq _ (.seq _ (.seq _ (.seq _ (.seq _ (.seq _ y)))))))))=>y|_=> .skip
noncomputable def asEnd:Code:=match asRest with| .seq _ y=>y|_=> .skip
theorem as_walk (p q g:Lq) (np:nz p) (nq:nz q) (hq0:coP q 0=1) (tp:av p=p) (tq:av q=q) (hg:mu 20 p q=some g) (hd:¬ct g> 0) (hpl0:p.length≤4) (hql0:q.length≤4) (bp:bdL p 20) (bq:bdL q 20) (n:Nat) (hn:n=dg p+dg q+1) (Q:Exit→AState→Prop)
    (hrest:AWp none Tryz.prog asEnd Q ⟨[(5,.arr (pE p)),(7,.arr (pE q)),(9,.arr (pE (srC p q n)))],[],1,127⟩):AWp none Tryz.prog asRest Q ⟨[(5,.arr (pE p)),(7,.arr (pE q)),(9,.emp),(10,i64 n)],[],1,127⟩:=by
 have hpl:(pE p).length=p.length:=by simp[pE]
 have hql:(pE q).length=q.length:=by simp[pE]
 have hdp:dg p≤3:=by unfold dg;rw[tp];omega
 have hdq:dg q≤3:=by unfold dg;rw[tq];omega
 have hB:∀i,i≤7→srB 20 i≤100000:=by decide
 have hcb:=fun i=>zO bp bq (by decide) hql0 i;have hcq:∀i,i≤7→∀k,qs (coP (srC p q i) k)≤100000:=fun i hi k=>eO (oW (hcb i) (hB i hi)) (by decide) k;have hqq:∀k,qs (coP q k)≤20:=fun k=>eO bq (by decide) k
 have hxq:∀i,i≤7→∀j,j≤7→qs (srX p q (srC p q i) i j)≤1000000:=fun i hi j hj=>by
  have h1:=zN bp bq (by decide) (hcq i hi) i j;have h2:j* (20+100000+1)≤7* (20+100000+1):=Nat.mul_le_mul_right _ hj;omega
 unfold asRest;refine ae (r_z 1 ?_);refine aH (fun _:Unit=>⟨[(5,.arr (pE p)),(7,.arr (pE q)),(9,.arr (pE (srC p q n)))],[],1,127⟩) (fun _=>True) ?_ ?_
 ·refine ak (aC (asS p q n) (fun i=>n- i) (fun i=>i≤n) 0 (Nat.zero_le _) ?_ ?_)
  rw[asS.eq_1];simp only[asV,asH];exact s_x [] (fun hs=>e_58) (fun hs=>e_59);intro i hi;rw[asS.eq_1];by_cases hin:i< n;rotate_left;have hge:i=n:=by omega
  rw[hge];obtain⟨n',hn'⟩:∃n',n=n'+1:=⟨n- 1,by omega⟩;rw[hn'];simp only[asV,asH];refine ae (q_z 3 ?_);refine cF (aB ⟨(),trivial,?_⟩);refine s_x [] (fun hs=>?_) (fun hs=>?_)
  ·repeat' (first|exact aG|refine aj rfl ?_ ?_|exact ah hs (ao _)|(refine Cv.shut hs rfl (aQ rfl) (by simp) ?_;exact aI hs (by rw[List.drop_zero];exact List.take_of_length_le (by simp)) (aF _))|exact aW)
  ·repeat' (first|exact aD|refine h_c ?_ ?_|exact bC|refine aw ?_|exact ay|refine af ?_ ?_|exact ah hs (ao _)|(refine Cv.shut hs rfl (aQ rfl) (by simp) ?_;exact aI hs (by rw[List.drop_zero];exact List.take_of_length_le (by simp)) (aF _))|exact aW)
  cases i with
  |zero=>
   simp only[asV,asH];refine ae (q_z 3 ?_);refine cT (an (ae (ak (r_z 3 ?_))));refine aZ (fun _:Unit=>⟨[(5,.arr (pE p)),(7,.arr (pE q)),(9,asV 0),(10,i64 n),(11,i64 (0:Nat)),(12,.lptr 3 0 0)],(3,some ⟨42,3,[qC (coP p 0)]⟩)::asH p q 0,4,127⟩) (fun _=>True) ?_ ?_;by_cases hlp:0< p.length;have hg:(pE p)[((0:Nat):Int).toNat]?=some (qC (coP p 0)):=bK (bm (by simpa using hlp));refine q_z 4 ?_;refine cT (r_m 5 ?_);refine a_2 ?_;refine i_x hg ?_;refine l_x hg ?_;refine a_z ?_;refine⟨(),trivial,?_⟩;simp only[asV,asH];exact s_x [(3,12)] (fun hs=>e_1) (fun hs=>e_3);have hz:coP p 0=0:=eK (by omega);refine q_z 4 ?_;refine cF (an ⟨(),trivial,?_⟩);rw[hz,qC0];simp only[asV,asH];exact s_x [(3,12)] (fun hs=>e_1) (fun hs=>e_60);rintro _ _;refine ae (r_z 1 ?_);refine aH (fun _:Unit=>asT p q n 0 0) (fun _=>True) ?_ ?_;refine ak (aC (asT p q n 0) (fun _=>0) (fun j=>j=0) 0 rfl ?_ ?_);rw[asT.eq_1];simp only[asV,asH,srX];exact s_x [(3,12)] (fun hs=>e_1) (fun hs=>e_3);rintro j rfl;rw[asT.eq_1];simp only[asV,asH];by_cases hlq:1< q.length;refine ae (q_z 9 ?_);refine cF (aB ⟨(),trivial,?_⟩);show SEnt _ (asT p q n 0 0);rw[asT.eq_1];simp only[asV,asH];exact s_x [(3,12)] (fun hs=>e_1) (fun hs=>e_3);refine ae (q_z 9 ?_);refine cF (aB ⟨(),trivial,?_⟩);show SEnt _ (asT p q n 0 0);rw[asT.eq_1];simp only[asV,asH];exact s_x [(3,12)] (fun hs=>e_1) (fun hs=>e_3);rintro _ _;show AWp _ _ _ _ (asT p q n 0 0);rw[asT.eq_1];simp only[asV,asH]
   have hnew:[qC (srX p q (srC p q 0) 0 0)]=pE (srC p q (0+1)):=by rw[show srC p q (0+1)=[srX p q [] 0 (min 0 (q.length- 1))] from rfl,Nat.zero_min];rfl
   refine r_m 5 ?_;refine a_z ?_;refine r_m 3 ?_;refine a_z ?_;refine⟨0+1,by omega,by omega,?_⟩;rw[asS.eq_1];simp only[asV,asH];exact s_x [(1,9)] (fun hs=>e_1) (fun hs=>e_61)
  |succ i=>
   simp only[asV,asH];refine ae (q_z 3 ?_);refine cT (an (ae (ak (r_z 3 ?_))));refine aZ (fun _:Unit=>⟨[(5,.arr (pE p)),(7,.arr (pE q)),(9,asV (i+1)),(10,i64 n),(11,i64 ((i+1):Nat)),(12,.lptr 3 0 0)],(3,some ⟨42,3,[qC (coP p (i+1))]⟩)::asH p q (i+1),4,127⟩) (fun _=>True) ?_ ?_;by_cases hlp:(i+1)< p.length;have hg:(pE p)[(((i+1):Nat):Int).toNat]?=some (qC (coP p (i+1))):=bK (bm (by simpa using hlp));refine q_z 4 ?_;refine cT (r_m 5 ?_);refine a_2 ?_;refine i_x hg ?_;refine l_x hg ?_;refine a_z ?_;refine⟨(),trivial,?_⟩;simp only[asV,asH];exact s_x [(1,9),(3,12)] (fun hs=>e_1) (fun hs=>e_3);have hz:coP p (i+1)=0:=eK (by omega);refine q_z 4 ?_;refine cF (an ⟨(),trivial,?_⟩);rw[hz,qC0];simp only[asV,asH];exact s_x [(1,9),(3,12)] (fun hs=>e_1) (fun hs=>e_60);rintro _ _;refine ae (r_z 1 ?_);refine aH (fun _:Unit=>asT p q n (i+1) (min (i+1) (q.length- 1))) (fun _=>True) ?_ ?_;refine ak (aC (asT p q n (i+1)) (fun j=>min (i+1) (q.length- 1)- j) (fun j=>j≤min (i+1) (q.length- 1)) 0 (Nat.zero_le _) ?_ ?_);rw[asT.eq_1];simp only[asV,asH,srX];exact s_x [(1,9),(3,12)] (fun hs=>e_1) (fun hs=>e_3);intro j hj;rw[asT.eq_1];simp only[asV,asH];have hm1:=Nat.min_le_left (i+1) (q.length- 1);have hm2:=Nat.min_le_right (i+1) (q.length- 1);by_cases hlt:j< min (i+1) (q.length- 1);have hgq:(pE q)[((j+1:Nat):Int).toNat]?=some (qC (coP q (j+1))):=bK (bm (by simp;omega))
   have hgc:∀e,e=i+1- (j+1)→(pE (srC p q (i+1)))[e]?=some (qC (coP (srC p q (i+1)) (i+1- (j+1)))):=fun e he=>by rw[he];exact bK (bm (by simp;omega))
   have b1:=hcq (i+1) (by omega) (i+1- (j+1));have b2:=hqq (j+1);have b3:=hxq (i+1) (by omega) j (by omega);have hmu:=c7 (coP q (j+1)) (coP (srC p q (i+1)) (i+1- (j+1))) (by omega);have b4:=e8 (coP q (j+1)) (coP (srC p q (i+1)) (i+1- (j+1)));have hsu:=gx (srX p q (srC p q (i+1)) (i+1) j) (coP q (j+1) * coP (srC p q (i+1)) (i+1- (j+1))) (by omega);refine ae (q_z 9 ?_);refine cT (an (ae (ak (r_d hmix 14 ?_))));refine a_3 ?_;refine i_x hgq ?_;refine l_x hgq ?_;refine a_5 ?_;refine o_0 (.load_l rfl rfl (hgc _ (by omega)) TG.h TS.h (nle rfl)) ?_;refine c_s (hmu) ?_;refine c_s (hsu) ?_;refine a_1 ?_;refine aq (n_k ?_);refine r_m 3 ?_;refine a_z ?_;refine⟨j+1,by omega,by omega,?_⟩;rw[asT.eq_1];simp only[asV,asH,srX];exact s_x [(1,9),(3,12)] (fun hs=>e_1) (fun hs=>e_3);have hge:j=min (i+1) (q.length- 1):=by omega
   by_cases hlq:j+1< q.length;refine ae (q_z 9 ?_);refine cF (aB ⟨(),trivial,?_⟩);show SEnt _ (asT p q n (i+1) (min (i+1) (q.length- 1)));rw[asT.eq_1,←hge];simp only[asV,asH];exact s_x [(1,9),(3,12)] (fun hs=>e_1) (fun hs=>e_3);refine ae (q_z 9 ?_);refine cF (aB ⟨(),trivial,?_⟩);show SEnt _ (asT p q n (i+1) (min (i+1) (q.length- 1)));rw[asT.eq_1,←hge];simp only[asV,asH];exact s_x [(1,9),(3,12)] (fun hs=>e_1) (fun hs=>e_3);rintro _ _;show AWp _ _ _ _ (asT p q n (i+1) (min (i+1) (q.length- 1)));rw[asT.eq_1];simp only[asV,asH];have hlen:(pE (srC p q (i+1))).length=i+1:=by simp
   have hone:=cL (srC p q (i+1));have hnew:pE (srC p q (i+1))++[qC (srX p q (srC p q (i+1)) (i+1) (min (i+1) (q.length- 1)))]=pE (srC p q (i+1+1)):=by rw[show srC p q (i+1+1)=srC p q (i+1)++[srX p q (srC p q (i+1)) (i+1) (min (i+1) (q.length- 1))] from rfl,pj];rfl
   refine r_m 5 ?_;refine a_z ?_;refine r_m 3 ?_;refine a_z ?_;refine⟨i+1+1,by omega,by omega,?_⟩;rw[asS.eq_1];simp only[asV,asH];exact s_x [(1,9)] (fun hs=>e_1) (fun hs=>e_61) e_5
 rintro _ _;exact hrest
end Go.Proofs.YtjgokhkahkmpbaaGreatDoor
namespace Go.Proofs.YtjgokhkahkmpbaaGreatDoor
open Go.Abs Go.Deep Go.RowKit
set_option maxRecDepth 20000
theorem FJ{M:Nat→Prop}{β:Bq}{w:World}{b s off:Nat}{f:Nat→La}:∀(n j:Nat),(∀i,i< j+n→(f i).length=s∧RVcs M β w b (f i) (off+i* s))→RVess M β w b s ((List.range' j n).map f) (off+j* s)
 |0,_,_=>trivial
 |n+1,j,h=>by
  rw[List.range'_succ,List.map_cons];refine⟨(h j (by omega)).1,(h j (by omega)).2,?_⟩;have:=FJ (M:=M) (β:=β) (w:=w) (b:=b) (s:=s) (off:=off) n (j+1) (fun i hi=>h i (by omega));rwa[Nat.add_mul,Nat.one_mul,←Nat.add_assoc] at this
theorem vE{w:World}{b o:Nat}{v:Value}(h:w.cell? ⟨b,o,none⟩=some v):∃N,aJ w b=some N:=by
 unfold World.cell? at h;unfold aJ;split at h
 ·rename_i c _ _ e;rw[show w.heap[b]?=_ from e];exact⟨c.size,rfl⟩
 cases h
theorem tyS:(Tryz.prog).underlying 22=some (.slice 24):=by kernel_rfl
theorem tyN:∃f0 f1 f2,(Tryz.prog).underlying 24=some (.struct #[f0,f1,f2])∧f0.type=2∧f0.offset=0∧f1.type=2∧f1.offset=1∧f2.type=5∧f2.offset=2:=
 ⟨{name:= "N",type:=2,offset:=0,embedded:=false,tag:= "",pkgPath:= "",byteOffset:=0},{name:= "D",type:=2,offset:=1,embedded:=false,tag:= "",pkgPath:= "",byteOffset:=8},{name:= "Pow",type:=5,offset:=2,embedded:=false,tag:= "",pkgPath:= "",byteOffset:=16},by kernel_rfl,rfl,rfl,rfl,rfl,rfl,rfl⟩
theorem tyc82:(Tryz.prog).cellsOf 24=3:=by kernel_rfl
theorem tyc2:(Tryz.prog).cellsOf 2=1:=by kernel_rfl
theorem tyc5:(Tryz.prog).cellsOf 5=1:=by kernel_rfl
theorem tyu2:(Tryz.prog).underlying 2=some (.int .i64):=by kernel_rfl
theorem tyu5:(Tryz.prog).underlying 5=some (.int .u8):=by kernel_rfl
theorem num_of{H:Type}{enc:TypeId×Value→H}{W:World}{base n:Nat}{spare:Nat→Bool}{held:Bool}{cs:List Value}{x:DataW H×List MemPlace}(h:DataW.trod enc Tryz.prog W base spare held n 24 cs=some x):
    ∃r:jK,oi r.1∧oi r.2.1∧r.2.2≤255∧cs=[.int .i64 r.1,.int .i64 r.2.1,.int .u8 r.2.2]:=by
 obtain⟨f0,f1,f2,hu,h1,h2,h3,h4,h5,h6⟩:=tyN;obtain⟨y0,y1,y2,m,_,hl,g0,g1,g2⟩:=trod_struct3 hu h;rw[h1,h2,tyc2] at g0;rw[h3,h4,tyc2] at g1;rw[h5,h6,tyc5] at g2;rw[tyc82] at hl;obtain⟨n0,e0,_,w0⟩:=DataW.trod_int tyu2 g0;obtain⟨n1,e1,_,w1⟩:=DataW.trod_int tyu2 g1;obtain⟨n2,e2,_,w2⟩:=DataW.trod_int tyu5 g2
 match cs,hl with
 |[c0,c1,c2],_=>
  simp at e0 e1 e2;subst e0;subst e1;subst e2;have b2:=bounds_u8 w2;refine⟨(n0,n1,n2.toNat),bounds_i64 w0,bounds_i64 w1,?_,?_⟩;show n2.toNat≤255;omega;show _=[_,_,Value.int .u8 ((n2.toNat:Nat):Int)];rw[Int.toNat_of_nonneg b2.1]
theorem BQ{H:Type}{enc:TypeId×Value→H}{W:World}{a:Option Addr}{len cap:Nat}{d:DataW H}{ps:List MemPlace}(h:DataW.Trod enc Tryz.prog W 0 (fun _=>true) true 22 (.slice a len cap) d ps):
    ∃l:List jK,okR l∧RV (fun _=>False) (fun _=>none) W (.arr (nR l)) (.slice a len cap):=by
 obtain⟨fuel,hf⟩:=h;rcases open_slice tyS hf with⟨hcs,_⟩|⟨x,len',cap',m,n,D,Pl,hcs,_,hl,hm,hmm,_,hx⟩
 simp[Value.cells] at hcs;obtain⟨rfl,rfl,rfl⟩:=hcs;exact⟨[],(fun r hr=>by cases hr),none,0,rfl,Nat.le_refl _,by decide,.inl rfl⟩;simp[Value.cells] at hcs;obtain⟨rfl,rfl,rfl⟩:=hcs;simp only[if_true] at hmm;have hmc:m=cap:=hmm;rw[hmc] at hx;rw[tyc82] at hx
 have hx':∀i,i< len→∃r:jK,(oi r.1∧oi r.2.1∧r.2.2≤255)∧W.cells? 0 (x.add (i* 3)) 3=some [.int .i64 r.1,.int .i64 r.2.1,.int .u8 r.2.2]:=fun i hi=>by
  obtain⟨cs',g1,g2⟩:=hx i (by omega);obtain⟨r,r1,r2,r3,e⟩:=num_of g2;exact⟨r,⟨r1,r2,r3⟩,by rw[g1,e]⟩
 obtain⟨R,hR⟩:=choose_lt (α:=jK) hx';refine⟨(List.range len).map R,?_,some x,cap,by simp[nR],by simpa[nR] using hl,hm,?_⟩;intro r hr;obtain⟨i,hi,rfl⟩:=List.mem_map.1 hr;exact(hR i (List.mem_range.1 hi)).1;by_cases h0:len=0;subst h0;exact .inl rfl;right
 have c:∀i,i< len→∀j (v:Value),[.int .i64 (R i).1,.int .i64 (R i).2.1,.int .u8 (R i).2.2][j]?=some v→W.cell? (x.add (i* 3+j))=some v:=fun i hi j v hv=>by
  have hj:j< 3:=by
   have:=(List.getElem?_eq_some_iff.1 hv).1;simpa using this
  have:=(World.cells?_some (hR i hi).2).2.2 j hj;rw[hv,Go.Deep.add_add] at this;exact this
 have c0:=c 0 (by omega) 0 _ rfl;obtain⟨b,off,spot⟩:=x;have hspot:spot=none:=by simpa[Addr.add] using World.cell?_spot c0
 subst hspot
 have hadd:∀k,Addr.add ⟨b,off,none⟩ k=⟨b,off+k,none⟩:=fun k=>by
  unfold Addr.add;by_cases hk:k=0;simp[hk];simp[hk]
 refine⟨b,off,3,rfl,vE (by rw[hadd] at c0;exact c0),(fun h=>h),?_⟩;have:=FJ (M:=fun _=>False) (β:=fun _=>none) (w:=W) (b:=b) (s:=3) (off:=off) (f:=fun i=>nuC (R i).1 (R i).2.1 (R i).2.2) len 0 (fun i hi=>⟨rfl,?_⟩);rw[Nat.zero_mul,Nat.add_zero,←List.range_eq_range'] at this;rw[nR,List.map_map];exact this;have hi':i< len:=by omega
 refine⟨⟨_,?_,rfl⟩,⟨_,?_,rfl⟩,⟨_,?_,rfl⟩,trivial⟩;have:=c i hi' 0 _ rfl;rw[hadd] at this;exact this;have:=c i hi' 1 _ rfl;rw[hadd] at this;rw[Nat.add_assoc];exact this;have:=c i hi' 2 _ rfl;rw[hadd] at this;rw[Nat.add_assoc,Nat.add_assoc];exact this
end Go.Proofs.YtjgokhkahkmpbaaGreatDoor
namespace Go.Proofs.YtjgokhkahkmpbaaGreatDoor
open Go.Abs Go.Deep Go.RowKit Go.WideShapes
set_option maxRecDepth 20000

end Go.Proofs.YtjgokhkahkmpbaaGreatDoor
namespace Go.Proofs.YtjgokhkahkmpbaaGreatDoor
open Go.Abs
set_option maxRecDepth 20000
set_option maxHeartbeats 4000000
def lJ(r:jK):Bool:=decide (¬((r.2.2:Int) % 4≠0)∧¬r.1> 999999∧¬r.1< -999999∧¬r.2.1> 999999∧¬r.2.1< -999999)
def nJ(l:List jK)(k:Nat):Bool:=l.all lJ && decide (l.length≤k)
theorem Cs(l:List jK)(k:Nat)(hl:l.length≤9223372036854775807)(hk:k≤1000000):FS 6 [.arr (nR l),i64 k] (bln (nJ l k)):=by
 have hnl:(nR l).length=l.length:=by simp[nR]
 refine f_n Tryz.func6 ?_ ?_;exact ac (aP (dD l)) (ac (ag _) ai);refine r_z 1 ?_;refine ae (r_z 1 ?_);refine aH (fun _:Unit=>⟨[(0,.arr (nR l)),(1,i64 k)],[],1,45⟩) (fun _=>l.all lJ=true) ?_ ?_;refine ak (aC (fun j:Nat=>⟨[(5,i64 ((j:Nat):Int)),(0,.arr (nR l)),(1,i64 k)],[],1,45⟩) (fun j=>l.length- j) (fun j=>j≤l.length∧(l.take j).all lJ=true) 0 ⟨Nat.zero_le _,rfl⟩ ?_ ?_);have:=(aP (dD l));exact s_f [];rintro j ⟨hj,hg⟩;by_cases hlt:j< l.length;obtain⟨r,hr⟩:∃r,l[j]?=some r:=⟨_,List.getElem?_eq_getElem hlt⟩
 have hgt:(nR l)[((j:Nat):Int).toNat]?=some (nuC r.1 r.2.1 r.2.2):=by
  rw[Int.toNat_natCast,nR,List.getElem?_map,hr];rfl
 have hbad:lJ r=false→nJ l k=false:=fun h=>by
  unfold nJ;rw[Bool.and_eq_false_iff];exact .inl (List.all_eq_false.2 ⟨r,List.mem_of_getElem? hr,by rw[h];decide⟩)
 refine ae (q_z 4 ?_);refine cT (an (ae (ak (s_r 6 ?_))));refine a_2 ?_;refine i_x hgt ?_;refine l_x hgt ?_;refine a_z ?_;by_cases c0:((r.2.2:Int) % 4≠0);have hgd:lJ r=false:=decide_eq_false (by rintro⟨e0,e1,e2,e3,e4⟩;exact e0 c0);rw[hbad hgd];refine s_r 24 ?_;refine a_3 ?_;refine o_0 (.bin rfl rfl (vT cu ((by simpa using c0)))) ?_;refine d_z ?_;refine cT (r_z 1 ?_);exact am (t_e (ag _));by_cases c1:r.1> 999999;have hgd:lJ r=false:=decide_eq_false (by rintro⟨e0,e1,e2,e3,e4⟩;exact e1 c1);rw[hbad hgd];refine s_r 24 ?_;refine a_3 ?_;refine o_0 (.bin rfl rfl (vF cu ((by simpa using c0)))) ?_;refine d_z ?_;refine cT (r_z 1 ?_);exact am (t_e (ag _));by_cases c2:r.1< -999999;have hgd:lJ r=false:=decide_eq_false (by rintro⟨e0,e1,e2,e3,e4⟩;exact e2 c2);rw[hbad hgd];refine s_r 24 ?_;refine a_3 ?_;refine o_0 (.bin rfl rfl (vF cu ((by simpa using c0)))) ?_;refine d_z ?_;refine cT (r_z 1 ?_);exact am (t_e (ag _));by_cases c3:r.2.1> 999999;have hgd:lJ r=false:=decide_eq_false (by rintro⟨e0,e1,e2,e3,e4⟩;exact e3 c3);rw[hbad hgd];refine s_r 24 ?_;refine a_3 ?_;refine o_0 (.bin rfl rfl (vF cu ((by simpa using c0)))) ?_;refine d_z ?_;refine cT (r_z 1 ?_);exact am (t_e (ag _));by_cases c4:r.2.1< -999999;have hgd:lJ r=false:=decide_eq_false (by rintro⟨e0,e1,e2,e3,e4⟩;exact e4 c4);rw[hbad hgd];refine s_r 24 ?_;refine a_3 ?_;refine o_0 (.bin rfl rfl (vF cu ((by simpa using c0)))) ?_;refine d_z ?_;refine cT (r_z 1 ?_);exact am (t_e (ag _));have hgd:lJ r=true:=decide_eq_true ⟨c0,c1,c2,c3,c4⟩
 refine s_r 24 ?_;refine a_3 ?_;refine o_0 (.bin rfl rfl (vF cu ((by simpa using c0)))) ?_;refine d_z ?_;refine cF (an (r_m 3 ?_));refine a_z ?_;refine⟨j+1,by omega,⟨hlt,?_⟩,?_⟩;rw[dx hr,List.all_append,hg];simp[hgd];have:=(aP (dD l));exact s_f [];have hge:l.take j=l:=List.take_of_length_le (by omega);rw[hge] at hg;refine ae (q_z 4 ?_);refine cF (aB ⟨(),hg,?_⟩);have:=(aP (dD l));exact s_f [];rintro _ hg
 have e:nJ l k=decide ((((nR l).length:Nat):Int)≤(k:Int)):=by
  unfold nJ;rw[hg,Bool.true_and,hnl];exact decide_eq_decide.2 (by omega)
 rw[e];refine r_z 5 ?_;exact am (t_e (ag _))
theorem good_qs{r:jK}(h:lJ r=true)(hb:oi r.1)(hd:oi r.2.1):qs (xZ r.1 r.2.1 r.2.2)≤20:=by
 obtain⟨h0,h1,h2,h3,h4⟩:=of_decide_eq_true h;have hp:r.2.2 % 4=0:=by omega
 have hN:bl r.1.natAbs≤20:=iG (by omega);unfold xZ;rw[hp];show qs (Rat.divInt r.1 (um r.2.1))≤20;obtain⟨d,hde⟩:∃d,d=um r.2.1:=⟨_,rfl⟩;have hd0:d≠0:=by rw[hde];unfold um;split <;> omega
 have hdb:bl d.natAbs≤20:=by rw[hde];unfold um;split <;> exact iG (by omega)
 rw[←hde];by_cases hn:d< 0;rw[ns _ d hn];exact gf (by omega) (by rw[Int.natAbs_neg];exact hN) (by omega);rw[nr _ d (by omega)];exact gf (by omega) hN (by omega)
theorem BD{l:List jK}{k:Nat}(h:nJ l k=true)(ho:okR l):bdL (nL l) 20∧(nL l).length≤k:=by
 unfold nJ at h;rw[Bool.and_eq_true,List.all_eq_true] at h;refine⟨fun q hq=>?_,by simpa[nL] using h.2⟩;obtain⟨r,hr,rfl⟩:=List.mem_map.1 hq;exact good_qs (h.1 r hr) (ho r hr).1 (ho r hr).2.1
theorem rvlen{W:World}{l:List jK}{v:Value}(h:RV (fun _=>False) (fun _=>none) W (.arr (nR l)) v):l.length≤9223372036854775807:=by
 obtain⟨_,_,_,hle,hcap,_⟩:=h;have h1:(nR l).length=l.length:=by simp[nR]
 have hm:maxLen=9223372036854775807:=by decide
 omega
theorem as_quot(p q g:Lq)(np:nz p)(nq:nz q)(hq0:coP q 0=1)(tp:av p=p)(tq:av q=q)(hg:mu 20 p q=some g)(hd:¬ct g> 0)(hpl0:p.length≤4)(hql0:q.length≤4)(bp:bdL p 20)(bq:bdL q 20):
    FS 18 [.arr (pE (srC p q (dg p+dg q+1))),i64 (dg p),i64 (dg q)] (.tup [.arr (pE p),.arr (pE q),i64 0]):=by
 have hdp:dg p≤3:=by unfold dg;rw[tp];omega
 have hdq:dg q≤3:=by unfold dg;rw[tq];omega
 have hB:∀i,i≤7→srB 20 i≤100000:=by decide
 have hcb:bdL (srC p q (dg p+dg q+1)) 100000:=oW (zO bp bq (by decide) hql0 _) (hB _ (by omega));obtain⟨s1,s2,s3⟩:=qu_same np nq hq0 tp tq hg hd;have hlen:(srC p q (dg p+dg q+1)).length=dg p+dg q+1:=kq _ _ _
 have hsz:∀k,k≤dg q→∀i j,i< dg q→j≤dg q→qs ((slM (quM (srC p q (dg p+dg q+1)) (dg p) (dg q)) (dg q) k).1 i j)≤10000000:=fun k hk i j hi hj=>by
  have h1:=Ga (quM_bd (m:=dg p) (n:=dg q) hcb (by decide)) k hk i j hi hj;have h2:slB 100000 k≤slB 100000 3:=Ek (by omega);have h3:slB 100000 3≤10000000:=by decide
  omega
 have o:lD ((srC p q (dg p+dg q+1)).take (dg p+1)) (quD (slM (quM (srC p q (dg p+dg q+1)) (dg p) (dg q)) (dg q) (dg q)).1 (dg q)):=by
  rw[s2];have m1:mxL ((srC p q (dg p+dg q+1)).take (dg p+1))≤100000:=wb (fun x hx=>hcb x (List.mem_of_mem_take hx)) (by decide);have m2:=wb bq (by decide);have l1:((srC p q (dg p+dg q+1)).take (dg p+1)).length≤4:=by rw[List.length_take];omega
  have m3:((srC p q (dg p+dg q+1)).take (dg p+1)).length* (mxL ((srC p q (dg p+dg q+1)).take (dg p+1))+mxL q+1)≤4* 100021:=Nat.mul_le_mul l1 (by omega);exact⟨by omega,by omega,by omega,by omega⟩
 have h:=yG (srC p q (dg p+dg q+1)) (dg p) (dg q) 10000000 (by omega) (by omega) (by omega) (by omega) (by omega) s1 (by decide) hsz o;rwa[s2,s3] at h
theorem as_end(p q g:Lq)(np:nz p)(nq:nz q)(hq0:coP q 0=1)(tp:av p=p)(tq:av q=q)(hg:mu 20 p q=some g)(hd:¬ct g> 0)(hpl0:p.length≤4)(hql0:q.length≤4)(bp:bdL p 20)(bq:bdL q 20):
    AWp none Tryz.prog asEnd (Fin Tryz.prog Tryz.f5.results.toList (bln true)) ⟨[(5,.arr (pE p)),(7,.arr (pE q)),(9,.arr (pE (srC p q (dg p+dg q+1))))],[],1,127⟩:=by
 have hQ:=as_quot p q g np nq hq0 tp tq hg hd hpl0 hql0 bp bq;have d1:=bZ p (by omega);have d2:=bZ q (by omega);rw[oJ np] at d1;rw[oJ nq] at d2;have sp:=Ct p p (jJ bp (by decide)) (jJ bp (by decide)) (by omega) (by omega);have sq:=Ct q q (jJ bq (by decide)) (jJ bq (by decide)) (by omega) (by omega);rw[show El p p=true from decide_eq_true rfl] at sp;rw[show El q q=true from decide_eq_true rfl] at sq;unfold asEnd;refine r_c 13 (d1) ?_;refine c_s (d2) ?_;refine c_s (hQ) ?_;refine a_z ?_;refine s_r 16 ?_;refine a_1 ?_;refine o_0 (.bin rfl rfl (vT aV (rfl))) ?_;refine e_s (sp) ?_;refine e_s (sq) ?_;refine c_s (je) ?_;refine a_z ?_;exact am (t_e (ag _))
theorem qE(ar br:List jK)(ha:okR ar)(hal:ar.length≤9223372036854775807)(hb:okR br)(hbl:br.length≤9223372036854775807):
    FS 5 [.arr (nR ar),.arr (nR br)] (bln true):=by
 have ca:=aP (dD ar);have cb:=aP (dD br);have t1:=Cs ar 4 hal (by decide);have t2:=Cs br 3 hbl (by decide);refine f_c Tryz.func5 ?_;refine r_z 1 ?_;cases e1:nJ ar 4 with
 |false=>
  rw[e1] at t1;refine ae (r_c 8 (t1) ?_);refine d_z ?_;refine cT (r_c 2 (je) ?_);refine a_z ?_;exact am (t_e (ag _))
 |true=>
 rw[e1] at t1;cases e2:nJ br 3 with
 |false=>
  rw[e2] at t2;refine ae (r_c 8 (t1) ?_);refine e_s (t2) ?_;refine d_z ?_;refine cT (r_c 2 (je) ?_);refine a_z ?_;exact am (t_e (ag _))
 |true=>
 rw[e2] at t2;refine ae (r_c 8 (t1) ?_);refine e_s (t2) ?_;refine d_z ?_;refine cF (an ?_);obtain⟨ba,la⟩:=BD e1 ha;obtain⟨bb,lb⟩:=BD e2 hb
 have bo1:=yJ ar (by have:(nL ar).length=ar.length:=by simp[nL]
                     omega) ha
 have bo2:=yJ br (by have:(nL br).length=br.length:=by simp[nL]
                     omega) hb
 refine r_c 7 (bo1) ?_;refine a_z ?_;refine r_c 7 (bo2) ?_;refine a_z ?_;generalize nL ar=a at *
 generalize nL br=b at *
 have hi1:=cN 1 (by decide);have e10:((1:Int):Rat)=1:=by decide
 have hta:=cY a (by omega)
 have htb:FS 21 [.arr (List.take (1+(pE b).length) (List.drop 0 ([qC ((1:Int):Rat)]++pE b)))] (.arr (pE (av (1::b)))):=by
  rw[List.drop_zero,List.take_of_length_le (by simp;omega),e10];exact cY (1::b) (by simp;omega)
 refine AWp.ent (st':=⟨[(5,.arr (pE a)),(7,.arr (pE b))],[],1,127⟩) ?_ ?_;exact s_f [];have hbl3:(pE b).length=b.length:=by simp[pE]
 refine r_c 6 (hi1) ?_;refine a_2 ?_;refine o_2 (.append_l rfl rfl rfl te_30.h rfl rfl rfl rfl rfl d_o (by first|exact dh _|exact df _|exact cL _|exact di _|exact de _|assumption|rfl|simp) (by first|rfl|exact dh _|exact df _|exact cL _|exact di _|exact de _|simp) rfl (.arr (eF _)) TZ.h rfl TB.h d_o (by first|(simp[maxLen];done)|(simp[maxLen];omega))) ?_;refine o_1 (.callS1 rfl rfl rfl (.shut rfl d_n (.nil)) rfl (htb)) ?_;refine a_z ?_;refine r_c 3 (hta) ?_;refine a_z ?_;obtain⟨hq0,nq⟩:=ER b;have bp:bdL (av a) 20:=zi ba
 have bq:bdL (av (1::b)) 20:=zi fun x hx=>by
  rcases List.mem_cons.1 hx with rfl|hx
  decide;exact bb x hx
 have lp:(av a).length≤4:=Nat.le_trans (ci a) la;have lq:(av (1::b)).length≤4:=Nat.le_trans (ci (1::b)) (by simp;omega);have tp:=fJ a;have tq:=fJ (1::b);obtain⟨p,hp⟩:∃p,p=av a:=⟨_,rfl⟩;obtain⟨q,hq⟩:∃q,q=av (1::b):=⟨_,rfl⟩;rw[←hp] at tp lp bp;rw[←hq] at tq lq bq hq0 nq;refine AWp.ent (st':=⟨[(5,.arr (pE p)),(7,.arr (pE q))],[],1,127⟩) ?_ ?_;rw[hp,hq];exact s_f [];have dp:=bZ p (by omega);have dq:=bZ q (by omega);by_cases np:nz p;rotate_left;have hneg:ct p< 0:=degP_nil.2 np;refine ae (r_c 10 (dp) ?_);refine d_z ?_;refine cT (r_c 2 (je) ?_);refine a_z ?_;exact am (t_e (ag _));have hpos:¬ct p< 0:=fun h=>degP_nil.1 h np;obtain⟨g,hg,hgl⟩:=Di p q (oW bp (by decide)) (oW bq (by decide)) (by rw[tp];omega) (by rw[tq];omega) (by omega) (by omega);have fg:=AW 20 p q g hg (by omega) (by omega);have dg1:=bZ g (by omega);by_cases hd:ct g> 0;refine ae (r_c 10 (dp) ?_);refine e_s (fg) ?_;refine c_s (dg1) ?_;refine d_z ?_;refine cT (r_c 2 (je) ?_);refine a_z ?_;exact am (t_e (ag _));refine ae (r_c 10 (dp) ?_);refine e_s (fg) ?_;refine c_s (dg1) ?_;refine d_z ?_;refine cF (an ?_);have hdp:dg p≤3:=by unfold dg;rw[tp];omega
 have hdq:dg q≤3:=by unfold dg;rw[tq];omega
 rw[oJ np] at dp;rw[oJ nq] at dq;refine r_z 1 ?_;refine r_c 7 (dp) ?_;refine c_s (dq) ?_;refine a_z ?_;refine AWp.ent (st':=⟨[(5,.arr (pE p)),(7,.arr (pE q)),(9,.emp),(10,i64 (dg p+dg q+1:Nat))],[],1,127⟩) ?_ (as_walk p q g np nq hq0 tp tq hg hd lp lq bp bq _ rfl _ (as_end p q g np nq hq0 tp tq hg hd lp lq bp bq));exact s_x [] (fun hs=>e_58) (fun hs=>e_59)
end Go.Proofs.YtjgokhkahkmpbaaGreatDoor
namespace Go.Proofs.YtjgokhkahkmpbaaGreatDoor
open Go.Abs Go.Deep Go.RowKit Go.WideShapes
set_option maxRecDepth 20000

end Go.Proofs.YtjgokhkahkmpbaaGreatDoor
namespace Go.Proofs.YtjgokhkahkmpbaaGreatDoor
open Go.Abs Go.ChangeShapes Go.Deep Go.RowKit Go.WideShapes
set_option maxRecDepth 20000

end Go.Proofs.YtjgokhkahkmpbaaGreatDoor
namespace Go.Proofs.YtjgokhkahkmpbaaGreatDoor
open Go.Abs Go.Deep Go.RowKit Go.WideShapes
set_option maxRecDepth 20000

end Go.Proofs.YtjgokhkahkmpbaaGreatDoor
namespace Go.Proofs.YtjgokhkahkmpbaaGreatDoor
open Go
def mkF(P:Program)(fn:Func)(c:OpenClaim):Bool:=(P.make==some c.make) && (c.kinds==(if c.domain.isEmpty then [] else fn.params.toList.map fun t=>match P.underlying t with|some (.int k)=>some k|_=>none)) && (c.pinned==c.pinnedBy)
section
variable {P:Program}{f:FuncId}{fn:Func}{s:ChangeSpec}{c:OpenClaim}
theorem Dg (h1:c.wf (OpenSpec.ofChange s)=true) (h2:laidOutB P=true) (h3:mapsRowed P=true)
    (h4:fn.params.all (P.readableRec ·)=true) (h5:namedTie P c.named s.vars=true)
    (h6:((c.stops==[]) && (P.stops==[]) && (c.knobs==[]) && (P.stopKnobs==[]))=true)
    (h7:(c.inPlace==P.inPlace f)=true) (h8:(c.unfollowed==P.unfollowed f)=true) (h9:(c.recurses==P.recurses f)=true) (h10:(c.named==P.varsNamed f)=true)
    (h11:((c.maps==(fn.params.toList++s.plain.varTypes P).any (P.mapsRec ·)) && (c.ifaces==(fn.params.toList++s.plain.varTypes P).any (P.ifacesRec ·)) && (c.mapsOut==P.mapsAmong fn.resultTypes.toList))=true)
    (h12:((c.loops==(fn.params.toList++s.plain.varTypes P).any (P.loopsFrom ·)) && (c.wideKeys==(fn.params.toList++s.plain.varTypes P++fn.resultTypes.toList).any (P.wideKeysFrom ·)))=true)
    (h13:(s.vars.all (P.varReadable ·) && fn.resultTypes.all (fun t=>P.readableRec t && decide (t< P.types.size)) && (c.ifacesOut==fn.resultTypes.toList.any (P.ifacesRec ·)) && (c.loopsOut==fn.resultTypes.toList.any (P.loopsFrom ·)) && (c.plainKeys==P.plainKeys) && c.shortTexts.isNone)=true)
    (h14:P.stopsHeard=true) (h15:P.mayEnter=true) (h16:(c.lifted==P.liftsFinal)=true)
    (h17:mkF P fn c=true)
    (h18:((c.veiled==(fn.params.toList++s.plain.varTypes P++fn.resultTypes.toList).any (P.veiledRec ·)) && c.veiledFits P fn.params.toList (fn.params.toList++s.plain.varTypes P++fn.resultTypes.toList))=true):
    joinedFacts P f fn s c=true:=by
 unfold mkF at h17;simp only[Bool.and_eq_true] at h6 h11 h12 h13 h17 h18;simp only[joinedFacts,Bool.and_eq_true]
 and_intros
 all_goals first|assumption|exact h6.1.1.1|exact h6.1.1.2|exact h6.1.2|exact h6.2|exact h11.1.1|exact h11.1.2|exact h11.2|exact h12.1|exact h12.2|exact h13.1.1.1.1.1|exact h13.1.1.1.1.2|exact h13.1.1.1.2|exact h13.1.1.2|exact h13.1.2|exact h13.2|exact h17.1.1|exact h17.1.2|exact h17.2|exact h18.1|exact h18.2
end
theorem Bt:laidOutB Tryz.prog=true:=by kernel_rfl
theorem all_mr:mapsRowed Tryz.prog=true:=by kernel_rfl
theorem all_sh:Tryz.prog.stopsHeard=true:=by kernel_rfl
theorem all_me:Tryz.prog.mayEnter=true:=by kernel_rfl
theorem all_lk:false=Tryz.prog.looks []:=by kernel_rfl
theorem all_mi:Tryz.prog.mainIs=some (true,("70a96ca732a625b64e2cc30d8b2ff4a1e0277bc946d2166fe72dcd27bb40609a" :String).toList):=by kernel_rfl
theorem all_lf:Tryz.prog.liftsFinal=Rows.approxSeriesRow.lifted:=by kernel_rfl
theorem qH:Rows.approxSeriesRow.wf (OpenSpec.ofChange Rows.approxSeriesSpec)=true:=by kernel_rfl
theorem qN:Tryz.f5.params.all (Tryz.prog.readableRec ·)=true:=by kernel_rfl
theorem qP:namedTie Tryz.prog Rows.approxSeriesRow.named Rows.approxSeriesSpec.vars=true:=by kernel_rfl
theorem qM:((Rows.approxSeriesRow.stops==[]) && (Tryz.prog.stops==[]) && (Rows.approxSeriesRow.knobs==[]) && (Tryz.prog.stopKnobs==[]))=true:=by kernel_rfl
theorem qV:(Rows.approxSeriesRow.inPlace==Tryz.prog.inPlace 5)=true:=by kernel_rfl
theorem qL:(Rows.approxSeriesRow.unfollowed==Tryz.prog.unfollowed 5)=true:=by kernel_rfl
theorem qO:(Rows.approxSeriesRow.recurses==Tryz.prog.recurses 5)=true:=by kernel_rfl
theorem qJ:(Rows.approxSeriesRow.named==Tryz.prog.varsNamed 5)=true:=by kernel_rfl
theorem qQ:((Rows.approxSeriesRow.maps==(Tryz.f5.params.toList++Rows.approxSeriesSpec.plain.varTypes Tryz.prog).any (Tryz.prog.mapsRec ·)) && (Rows.approxSeriesRow.ifaces==(Tryz.f5.params.toList++Rows.approxSeriesSpec.plain.varTypes Tryz.prog).any (Tryz.prog.ifacesRec ·)) && (Rows.approxSeriesRow.mapsOut==Tryz.prog.mapsAmong Tryz.f5.resultTypes.toList))=true:=by kernel_rfl
theorem qS:((Rows.approxSeriesRow.loops==(Tryz.f5.params.toList++Rows.approxSeriesSpec.plain.varTypes Tryz.prog).any (Tryz.prog.loopsFrom ·)) && (Rows.approxSeriesRow.wideKeys==(Tryz.f5.params.toList++Rows.approxSeriesSpec.plain.varTypes Tryz.prog++Tryz.f5.resultTypes.toList).any (Tryz.prog.wideKeysFrom ·)))=true:=by kernel_rfl
theorem qI:(Rows.approxSeriesSpec.vars.all (Tryz.prog.varReadable ·) && Tryz.f5.resultTypes.all (fun t=>Tryz.prog.readableRec t && decide (t< Tryz.prog.types.size)) && (Rows.approxSeriesRow.ifacesOut==Tryz.f5.resultTypes.toList.any (Tryz.prog.ifacesRec ·)) && (Rows.approxSeriesRow.loopsOut==Tryz.f5.resultTypes.toList.any (Tryz.prog.loopsFrom ·)) && (Rows.approxSeriesRow.plainKeys==Tryz.prog.plainKeys) && Rows.approxSeriesRow.shortTexts.isNone)=true:=by kernel_rfl
theorem qK:((Rows.approxSeriesRow.veiled==(Tryz.f5.params.toList++Rows.approxSeriesSpec.plain.varTypes Tryz.prog++Tryz.f5.resultTypes.toList).any (Tryz.prog.veiledRec ·)) && Rows.approxSeriesRow.veiledFits Tryz.prog Tryz.f5.params.toList (Tryz.f5.params.toList++Rows.approxSeriesSpec.plain.varTypes Tryz.prog++Tryz.f5.resultTypes.toList))=true:=by kernel_rfl
theorem qF:Rows.approxSeriesRow.wfByText (OpenSpec.ofChange Rows.approxSeriesSpec)=true:=by kernel_rfl
theorem qW:false=Rows.approxSeriesRow.goesBy Tryz.prog:=by kernel_rfl
theorem approxSeries_fn:Tryz.prog.funcNamed Rows.approxSeriesRow.func=some 5:=by kernel_rfl
theorem qU:decide (Tryz.f5.isInstance Tryz.prog Rows.approxSeriesRow.origin Rows.approxSeriesRow.targs)=true:=by kernel_rfl
theorem qG:(Tryz.f5.params.toList.all fun u=>!Tryz.prog.wantsStandIn u)=true:=by kernel_rfl
theorem qR:mkF Tryz.prog Tryz.f5 Rows.approxSeriesRow=true:=by kernel_rfl
theorem qT:(Rows.approxSeriesRow.lifted==Tryz.prog.liftsFinal)=true:=by rw[all_lf];kernel_rfl
theorem mB:joinedFacts Tryz.prog 5 Tryz.f5 Rows.approxSeriesSpec Rows.approxSeriesRow=true:=
 Dg qH Bt all_mr qN qP qM qV qL qO qJ qQ qS qI all_sh all_me qT qR qK
theorem oX:Tryz.f5.isWrapper Tryz.prog Rows.approxSeriesRow.wrapper Rows.approxSeriesRow.mainSum:=by
 unfold Func.isWrapper;first|(rw[if_pos (by decide+kernel)];kernel_rfl)|(rw[if_neg (by decide+kernel)];exact⟨rfl,rfl⟩)
end Go.Proofs.YtjgokhkahkmpbaaGreatDoor
namespace Go.Proofs.YtjgokhkahkmpbaaGreatDoor
open Go.Abs Go.RowKit
theorem tab_glb:(Tryz.prog).globalNamed "internal/strconv.uint64pow10" =some GT:=by kernel_rfl
theorem tab_of{n1 n2:String}{a b:DataW Unit}{W:World}(h:laidMet Tryz.prog [(n1,a),(n2,b),("internal/strconv.uint64pow10",Lib.tabData .u64 Lib.pow10Tab)] W):TabW W:=by
 obtain⟨ps,⟨g1,t1,c1,u1,p1,q1,_,_,_,_,⟨g2,t2,c2,u2,p2,q2,_,_,_,_,⟨g,t,cs,fuel,p,q,hg,ht,hv,hd,_,_⟩,_⟩,_⟩,_,_⟩:=h;obtain rfl:=Option.some.inj (tab_glb.symm.trans hg);have hT:((Tryz.prog).globals[GT]?).map (·.type)=some 293:=by kernel_rfl
 have hu:(Tryz.prog).underlying 293=some (.array 20 173):=by kernel_rfl
 have he:(Tryz.prog).underlying 173=some (.int .u64):=by kernel_rfl
 have hce:(Tryz.prog).cellsOf 173=1:=by kernel_rfl
 have hct:(Tryz.prog).cellsOf 293=20:=by kernel_rfl
 obtain rfl:=Option.some.inj (hT.symm.trans ht);have hc:=Lib.cells_of_tab (zs:=Lib.pow10Tab) hu he hce hct hd;unfold World.var? at hv;rw[tab_glb] at hv;have hv':(match W.heap[GT]? with|some (.cells cs _ _)=>some cs|_=>none)=some cs:=hv;cases hh:W.heap[GT]? with
 |none=>rw[hh] at hv';cases hv'
 |some o=>
  rw[hh] at hv';cases o with
  |cells a b c=>
   obtain rfl:a=cs:=Option.some.inj hv';refine⟨b,c,?_⟩;rw[hh]
   have:a=tabA:=by
    unfold tabA;rw[←hc]
   rw[this]
  |_=>cases hv'
end Go.Proofs.YtjgokhkahkmpbaaGreatDoor
namespace Go.Proofs.YtjgokhkahkmpbaaGreatDoor
open Go.Abs Go.ChangeAt Go.ChangeShapes Go.RowKit Go.WideShapes
theorem own:ownKnob Tryz.prog.godebug=none:=by kernel_rfl
theorem und4:Tryz.prog.underlying 4=some .bool:=by kernel_rfl
abbrev Ca:List (String×DataW Unit):=Rows.approxSeriesRow.laid
theorem FT(os:Os)(args:Array Value):laidMetH Tryz.prog Ca ((World.doorLaid Tryz.prog 24 os).forCall (fun _ _=>0) ⟨#[],args,[]⟩).memory:=
 laidMetH_of_parts3 (fuel:=8) (laidMet_of_run' 8 (by kernel_rfl) (by kernel_rfl)) (by kernel_rfl) (by kernel_rfl)
set_option maxRecDepth 100000 in
theorem my(os:Os)(started:os.Started)(H:Type)(enc:TypeId×Value→H):
    ReturnsInHanded {} Tryz.checked os 5 .any (fun w args=>(Rows.approxSeriesSpec.pre enc Tryz.prog Tryz.f5 [] false w args∧laidMetH Tryz.prog Ca w)∧sizedMet enc Tryz.prog Tryz.f5 (OpenSpec.ofChange Rows.approxSeriesSpec) false w args)
     (Rows.approxSeriesSpec.post enc Tryz.prog Tryz.f5 false true false false):=by
 refine returnsInHanded_of_change_and (C:=Tryz.checked) (X:=fun w _=>laidMetH Tryz.prog Ca w) (fun _ _ _ hh h=>h.of_heap hh) own started (by kernel_rfl) Tryz.func5
  (ChangeSpec.witness_shaped (enc:=enc) (C:=Tryz.checked) (os:=os) (X:=fun w _=>laidMetH Tryz.prog Ca w) false (World.doorLaid Tryz.prog 24 os) #[.slice none 0 0,.slice none 0 0] 8 rfl (World.shaped_of_RefB (by kernel_rfl) (by kernel_rfl)) (by kernel_rfl) (by kernel_rfl) (by kernel_rfl) (FT os _)) ?_
 intro W base args ds gs before hval0 hW _ _ hX _;have hval:∀(j:Nat) t v,Tryz.f5.params[j]?=some t→args[j]?=some v→Value.okWide Tryz.prog W .any base t v:=hval0;have hW':=hW;obtain⟨p,q,hA0,hV,rfl,hfz,hnd⟩:=hW;have hA:DataW.TrodAll enc Tryz.prog W 0 (fun _=>true) true Tryz.f5.params.toList args.toList ds p:=hA0;rw[Tryz.params5] at hA hval;obtain⟨v0,vs0,d0,ds0,p0,q0,hargs,rfl,rfl,h0,r0⟩:=trodAll_cons hA;obtain⟨v1,vs1,d1,ds1,p1,q1,rfl,rfl,rfl,h1,r1⟩:=trodAll_cons r0;obtain⟨rfl,rfl,rfl⟩:=trodAll_nil r1;obtain rfl:args= #[v0,v1]:=by cases args;simp_all
 obtain⟨rfl,rfl⟩:=trodVars_none hV;obtain⟨a0,len0,cap0,rfl⟩:=okWide_slice tyS (hval 0 22 v0 rfl rfl);obtain⟨a1,len1,cap1,rfl⟩:=okWide_slice tyS (hval 1 22 v1 rfl rfl);have lt0:∀x∈p0,x.block< W.heap.size:=by obtain⟨m,hm⟩:=h0;exact DataW.trod_lt m _ _ _ hm
 have lt1:∀x∈p1,x.block< W.heap.size:=by obtain⟨m,hm⟩:=h1;exact DataW.trod_lt m _ _ _ hm
 obtain⟨l0,o0,g0⟩:=BQ h0;obtain⟨l1,o1,g1⟩:=BQ h1;clear hA0 hval0;refine((qE l0 l1 o0 (rvlen g0) o1 (rvlen g1)).calls (fun _=>False) W [.slice a0 len0 cap0,.slice a1 len1 cap1] ⟨fun _ h=>h.elim,fun h=>h,tab_of (by rw[MakeChecks.laidMetH_plain _ _ _ (by kernel_rfl)] at hX;exact hX)⟩ ⟨_,_,rfl,g0,⟨_,_,rfl,g1,rfl⟩⟩).mono fun e W' ⟨y,he,hy,bel⟩=>?_;have hy':y= .bool true:=hy;subst he;subst hy';exact⟨_,rfl,_,_,_,[],_,[],hW',trodAll_mk1 (shut_bool und4 _),(trodAll_cons_mk (Below.trod Bt (by kernel_rfl) (of_decide_eq_true (by kernel_rfl)) h0 bel lt0) (trodAll_cons_mk (Below.trod Bt (by kernel_rfl) (of_decide_eq_true (by kernel_rfl)) h1 bel lt1) trodAll_mk0)),rfl,bel.frame _,fun h=>by cases h⟩
theorem pW:Rows.ApproxSeriesSaid:=
 OpenClaim.holds_of_wide 5 Tryz.f5 rfl rfl rfl rfl rfl rfl rfl ⟨rfl,rfl,rfl,rfl,rfl⟩ rfl rfl rfl rfl rfl approxSeries_fn Tryz.func5 mB
  (of_decide_eq_true qU) oX
  (fun os started H enc _=>my os started H enc)
theorem approxSeries_card:Rows.ApproxSeriesCardSaid:=
 Claim7.holds_tied_plain_at .later [] [.data,.data,.data] true (true, "70a96ca732a625b64e2cc30d8b2ff4a1e0277bc946d2166fe72dcd27bb40609a") false
  pW (fun _ h=>by cases h) qF (fun _ h=>by cases h) approxSeries_row_tie rfl ⟨rfl,rfl⟩ all_mi rfl
  (fun f fn hf hfn=>by
   obtain rfl:f=5:=Option.some.inj (approxSeries_fn.symm.trans hf)|>.symm;obtain rfl:fn=Tryz.f5:=(Option.some.inj (Tryz.func5.symm.trans hfn)).symm
   exact⟨all_lk,fun j t ht=>by
    have hm:t∈Tryz.f5.params.toList:=by simpa using Array.mem_of_getElem? ht
    exact(show Tryz.prog.wantsStandIn t=false by simpa using List.all_eq_true.1 qG t hm)⟩)
  qW
#print axioms approxSeries_card
end Go.Proofs.YtjgokhkahkmpbaaGreatDoor
