/- Part Y31 of the proof. -/
import Derived.Test.YtjgokhkahkmpbaaGreatDoorY30
set_option linter.all false
namespace Go.Proofs.YtjgokhkahkmpbaaGreatDoor
open Go.Abs
set_option maxRecDepth 20000
set_option maxHeartbeats 4000000
theorem iD(n:Nat)(f:Nat->Rat)(v:Rat)(h:f n=v):rE (rP (aH n f))++[rC (rq v)]=rE (rP (aH (n+1) f)):=by rw[<-h,rE_snoc]
def rqW(c:Lq)(m n:Nat):Nat->AState
 |0=>⟨[(0,.arr (rE (rP c))),(1,i64 m),(2,i64 n),(9,.emp),(10,.emp),(11,i64 ((m+1+0:Nat):Int))],[],1,103⟩
 |i+1=>⟨[(0,.arr (rE (rP c))),(1,i64 m),(2,i64 n),(9,.lsl 1 0 (i+1) none 1),(10,.lsl 2 0 (i+1) none 4),(11,i64 ((m+1+(i+1):Nat):Int))],[(1,some ⟨31,1,svC (quM c m n) n (i+1)⟩),(2,some ⟨49,4,rE (rP (aH (i+1) λi=>quM c m n i n))⟩)],3,103⟩
theorem rqW_0(c:Lq)(m n:Nat):rqW c m n (0)=⟨[(0,.arr (rE (rP c))),(1,i64 m),(2,i64 n),(9,.emp),(10,.emp),(11,i64 ((m+1+0:Nat):Int))],[],1,103⟩:=rfl
def rqI(c:Lq)(m n:Nat):Nat->AState
 |0=>⟨[(0,.arr (rE (rP c))),(1,i64 m),(2,i64 n),(9,.emp),(10,.emp),(11,i64 ((m+1+0:Nat):Int)),(12,.emp),(13,i64 ((0+1:Nat):Int))],[],1,103⟩
 |j+1=>⟨[(0,.arr (rE (rP c))),(1,i64 m),(2,i64 n),(9,.emp),(10,.emp),(11,i64 ((m+1+0:Nat):Int)),(12,.lsl 1 0 (j+1) none 4),(13,i64 ((j+1+1:Nat):Int))],[(1,some ⟨49,4,rE (rP (aH (j+1) (quM c m n 0)))⟩)],2,103⟩
theorem rqI_0(c:Lq)(m n:Nat):rqI c m n (0)=⟨[(0,.arr (rE (rP c))),(1,i64 m),(2,i64 n),(9,.emp),(10,.emp),(11,i64 ((m+1+0:Nat):Int)),(12,.emp),(13,i64 ((0+1:Nat):Int))],[],1,103⟩:=rfl
def rqJ(c:Lq)(m n i:Nat):Nat->AState
 |0=>⟨[(0,.arr (rE (rP c))),(1,i64 m),(2,i64 n),(9,.lsl 1 0 (i+1) none 1),(10,.lsl 2 0 (i+1) none 4),(11,i64 ((m+1+(i+1):Nat):Int)),(12,.emp),(13,i64 ((0+1:Nat):Int))],[(1,some ⟨31,1,svC (quM c m n) n (i+1)⟩),(2,some ⟨49,4,rE (rP (aH (i+1) λi=>quM c m n i n))⟩)],3,103⟩
 |j+1=>⟨[(0,.arr (rE (rP c))),(1,i64 m),(2,i64 n),(9,.lsl 1 0 (i+1) none 1),(10,.lsl 2 0 (i+1) none 4),(11,i64 ((m+1+(i+1):Nat):Int)),(12,.lsl 3 0 (j+1) none 4),(13,i64 ((j+1+1:Nat):Int))],[(1,some ⟨31,1,svC (quM c m n) n (i+1)⟩),(2,some ⟨49,4,rE (rP (aH (i+1) λi=>quM c m n i n))⟩),(3,some ⟨49,4,rE (rP (aH (j+1) (quM c m n (i+1))))⟩)],4,103⟩
theorem rqJ_0(c:Lq)(m n i:Nat):rqJ c m n i (0)=⟨[(0,.arr (rE (rP c))),(1,i64 m),(2,i64 n),(9,.lsl 1 0 (i+1) none 1),(10,.lsl 2 0 (i+1) none 4),(11,i64 ((m+1+(i+1):Nat):Int)),(12,.emp),(13,i64 ((0+1:Nat):Int))],[(1,some ⟨31,1,svC (quM c m n) n (i+1)⟩),(2,some ⟨49,4,rE (rP (aH (i+1) λi=>quM c m n i n))⟩)],3,103⟩:=rfl
noncomputable def rqRest:Code:=match Tryz.f19.body with|some (.seq _ (.seq _ (.seq _ (.seq _ y))))=>y|_=> .skip
noncomputable def rqEnd:Code:=match rqRest with| .seq _ (.seq _ (.seq _ y))=>y|_=> .skip
theorem De (c:Lq) (m n:Nat) (hn:1<=n/\n<=25) (hm:m<=100) (hl:m+n+1<=c.length) (hc:c.length<=1000) (v:AV)
    (hrest:AWp none Tryz.prog rqRest (Fin Tryz.prog Tryz.f19.results.toList v) ⟨[(0,.arr (rE (rP c))),(1,i64 m),(2,i64 n),(9,.arr (svA (quM c m n) n)),(10,.arr (rE (svB (quM c m n) n)))],[],1,103⟩):
    FS 19 [.arr (rE (rP c)),i64 m,i64 n] v:=by
 have hI0:FS 59 [i64 0] (.agg (rC (rq 0))):=xF 0 δ
 have hget:∀k,k< c.length->∀e,e=k->(rE (rP c))[e]?=some (rC (rq (coP c k))):=λk hk e he=>by
  rw[he];unfold rE rP;rw[List.getElem?_map,List.getElem?_map,bJ hk];rfl
 have hlen:(rP c).length=c.length:=by simp[rP]
 refine f_c Tryz.func19 ?_;refine r_z 3 ?_;refine r_z 1 ?_;refine r_z 1 ?_;refine ac (r_z 3 ?_);refine aG (rqW c m n) (λi=>i=n) ?_ ?_;refine ak (aC (rqW c m n) (λi=>n- i) (λi=>i<=n) 0 (Nat.zero_le _) ?_ ?_);rw[rqW_0];exact s_f [];intro i hi;by_cases hin:i< n
 ·have hv2:quM c m n i n= -(coP c (m+1+i)):=by unfold quM;rw[if_pos rfl]
  have hng:FS 57 [.agg (rC (rq (coP c (m+1+i))))] (.agg (rC (rq (-(coP c (m+1+i)))))):=DO (rq (coP c (m+1+i))) (ft _);have ho1:=svC_one (quM c m n) n i;cases i with
  |zero=>
   rw[rqW_0];refine ac (s_r 5 ?_);refine a_4 ?_;refine o_0 (.bin rfl rfl (vT cO (decide_eq_true ω))) ?_;refine ao ?_;refine cT (am (ac (ak (r_z 1 ?_))));refine ac (r_z 1 ?_);refine aG (rqI c m n) (λj=>j=n) ?_ ?_;refine ak (aC (rqI c m n) (λj=>n- j) (λj=>j<=n) 0 (Nat.zero_le _) ?_ ?_);rw[rqI_0];exact s_f [];intro j hj;by_cases hjn:j< n;cases j with
   |zero=>
    rw[rqI_0];refine ac (s_r 3 ?_);refine a_2 ?_;refine o_0 (.bin rfl rfl (vT cO (decide_eq_true ω))) ?_;refine ao ?_;refine cT (am (ac (ak (r_c 3 (hI0) ?_))));refine a_z ?_;by_cases hjm:0+1<=m+1+0;have hv:quM c m n 0 (0)=coP c (m+1+0- (0+1)):=by unfold quM atQ;rw[if_neg ω,if_pos ω];congr 1 <;> omega
    refine ac (s_r 3 ?_);refine a_2 ?_;refine o_0 (.bin rfl rfl (vT dc (decide_eq_true ω))) ?_;refine ao ?_;refine cT (r_m 7 ?_);refine a_4 ?_
    first|refine av (.index_l rfl rfl ω ω te_31.h) rfl rfl ?_|refine av (.index_a rfl rfl ω (hget (m+1+0- (0+1)) ω _ ω) rfl te_31.h) rfl rfl ?_
    first|refine av (.load_l rfl rfl (hget (m+1+0- (0+1)) ω _ ω) TG.h TS.h (nle rfl)) rfl rfl ?_|refine av (.load_a rfl (hget (m+1+0- (0+1)) ω _ ω) TG.h TS.h (nle rfl)) rfl rfl ?_
    refine a_z ?_;refine r_m 5 ?_;refine a_z ?_;refine r_m 3 ?_;refine a_z ?_;refine⟨1,ω,hjn,?_⟩;rw[rqI.eq_2];exact s_x [(1,12)] (λhs=>e_1) (λhs=>e_47);have hv:quM c m n 0 (0)=0:=by unfold quM atQ;rw[if_neg ω,if_neg ω]
    refine ac (s_r 3 ?_);refine a_2 ?_;refine o_0 (.bin rfl rfl (vF dc (decide_eq_false ω))) ?_;refine ao ?_;refine cF (am (r_m 5 ?_));refine a_z ?_;refine r_m 3 ?_;refine a_z ?_;refine⟨1,ω,hjn,?_⟩;rw[rqI.eq_2];exact s_x [(1,12)] (λhs=>e_1) (λhs=>e_47)
   |succ j=>
    rw[rqI.eq_2];refine ac (s_r 3 ?_);refine a_2 ?_;refine o_0 (.bin rfl rfl (vT cO (decide_eq_true ω))) ?_;refine ao ?_;refine cT (am (ac (ak (r_c 3 (hI0) ?_))));refine a_z ?_;by_cases hjm:j+1+1<=m+1+0;have hv:quM c m n 0 (j+1)=coP c (m+1+0- (j+1+1)):=by unfold quM atQ;rw[if_neg ω,if_pos ω];congr 1 <;> omega
    refine ac (s_r 3 ?_);refine a_2 ?_;refine o_0 (.bin rfl rfl (vT dc (decide_eq_true ω))) ?_;refine ao ?_;refine cT (r_m 7 ?_);refine a_4 ?_
    first|refine av (.index_l rfl rfl ω ω te_31.h) rfl rfl ?_|refine av (.index_a rfl rfl ω (hget (m+1+0- (j+1+1)) ω _ ω) rfl te_31.h) rfl rfl ?_
    first|refine av (.load_l rfl rfl (hget (m+1+0- (j+1+1)) ω _ ω) TG.h TS.h (nle rfl)) rfl rfl ?_|refine av (.load_a rfl (hget (m+1+0- (j+1+1)) ω _ ω) TG.h TS.h (nle rfl)) rfl rfl ?_
    refine a_z ?_;refine r_m 5 ?_;refine a_z ?_;refine r_m 3 ?_;refine a_z ?_;refine⟨j+2,ω,hjn,?_⟩;rw[rqI.eq_2];exact s_x [(1,12)] (λhs=>e_1) (λhs=>e_48);have hv:quM c m n 0 (j+1)=0:=by unfold quM atQ;rw[if_neg ω,if_neg ω]
    refine ac (s_r 3 ?_);refine a_2 ?_;refine o_0 (.bin rfl rfl (vF dc (decide_eq_false ω))) ?_;refine ao ?_;refine cF (am (r_m 5 ?_));refine a_z ?_;refine r_m 3 ?_;refine a_z ?_;refine⟨j+2,ω,hjn,?_⟩;rw[rqI.eq_2];exact s_x [(1,12)] (λhs=>e_1) (λhs=>e_48)
   obtain⟨j,rfl⟩:∃j',j=j'+1:=⟨j- 1,ω⟩;rw[rqI.eq_2];refine ac (s_r 3 ?_);refine a_2 ?_;refine o_0 (.bin rfl rfl (vF cO (decide_eq_false ω))) ?_;refine ao ?_;refine cF (aB ⟨j+1,ω,?_⟩);rw[rqI.eq_2];exact s_f [(1,12)];rintro j hj;obtain⟨j,rfl⟩:∃j',j=j'+1:=⟨j- 1,ω⟩;obtain rfl:n=j+1:=hj.symm;rw[rqI.eq_2];refine r_z 5 ?_;refine r_m 9 ?_;refine a_3 ?_
   first|refine av (.index_l rfl rfl ω ω te_31.h) rfl rfl ?_|refine av (.index_a rfl rfl ω (hget (m+1+0) ω _ ω) rfl te_31.h) rfl rfl ?_
   first|refine av (.load_l rfl rfl (hget (m+1+0) ω _ ω) TG.h TS.h (nle rfl)) rfl rfl ?_|refine av (.load_a rfl (hget (m+1+0) ω _ ω) TG.h TS.h (nle rfl)) rfl rfl ?_
   refine c_s (hng) ?_;refine a_z ?_;refine r_m 3 ?_;refine a_z ?_;refine⟨1,ω,hin,?_⟩;rw[rqW.eq_2];refine s_x [(1,9),(2,10)] (λhs=>e_49) (λhs=>?_)
   ·repeat' (first|exact aD|refine h_c ?_ ?_|exact aI hs (iD 0 (λi=>quM c m (j+1) i (j+1)) _ hv2) (b8 _)|exact ay (y:=[.arr (rE (rP (aH (j+1) (quM c m (j+1) 0))))]) (af (dJ hs rfl (aP rfl) rfl ψ) ax)|exact bG|refine ay ?_|exact ax|refine af ?_ ?_|exact ah hs (bp _)|exact dJ hs rfl (aP rfl) rfl ψ|exact aX)
  |succ i=>
   rw[rqW.eq_2];refine ac (s_r 5 ?_);refine a_4 ?_;refine o_0 (.bin rfl rfl (vT cO (decide_eq_true ω))) ?_;refine ao ?_;refine cT (am (ac (ak (r_z 1 ?_))));refine ac (r_z 1 ?_);refine aG (rqJ c m n i) (λj=>j=n) ?_ ?_;refine ak (aC (rqJ c m n i) (λj=>n- j) (λj=>j<=n) 0 (Nat.zero_le _) ?_ ?_);rw[rqJ_0];exact s_x [(1,9),(2,10)] (λhs=>e_1) (λhs=>e_19);intro j hj;by_cases hjn:j< n;cases j with
   |zero=>
    rw[rqJ_0];refine ac (s_r 3 ?_);refine a_2 ?_;refine o_0 (.bin rfl rfl (vT cO (decide_eq_true ω))) ?_;refine ao ?_;refine cT (am (ac (ak (r_c 3 (hI0) ?_))));refine a_z ?_;by_cases hjm:0+1<=m+1+(i+1);have hv:quM c m n (i+1) (0)=coP c (m+1+(i+1)- (0+1)):=by unfold quM atQ;rw[if_neg ω,if_pos ω];congr 1 <;> omega
    refine ac (s_r 3 ?_);refine a_2 ?_;refine o_0 (.bin rfl rfl (vT dc (decide_eq_true ω))) ?_;refine ao ?_;refine cT (r_m 7 ?_);refine a_4 ?_
    first|refine av (.index_l rfl rfl ω ω te_31.h) rfl rfl ?_|refine av (.index_a rfl rfl ω (hget (m+1+(i+1)- (0+1)) ω _ ω) rfl te_31.h) rfl rfl ?_
    first|refine av (.load_l rfl rfl (hget (m+1+(i+1)- (0+1)) ω _ ω) TG.h TS.h (nle rfl)) rfl rfl ?_|refine av (.load_a rfl (hget (m+1+(i+1)- (0+1)) ω _ ω) TG.h TS.h (nle rfl)) rfl rfl ?_
    refine a_z ?_;refine r_m 5 ?_;refine a_z ?_;refine r_m 3 ?_;refine a_z ?_;refine⟨1,ω,hjn,?_⟩;rw[rqJ.eq_2];exact s_x [(1,9),(2,10),(3,12)] (λhs=>e_1) (λhs=>e_50);have hv:quM c m n (i+1) (0)=0:=by unfold quM atQ;rw[if_neg ω,if_neg ω]
    refine ac (s_r 3 ?_);refine a_2 ?_;refine o_0 (.bin rfl rfl (vF dc (decide_eq_false ω))) ?_;refine ao ?_;refine cF (am (r_m 5 ?_));refine a_z ?_;refine r_m 3 ?_;refine a_z ?_;refine⟨1,ω,hjn,?_⟩;rw[rqJ.eq_2];exact s_x [(1,9),(2,10),(3,12)] (λhs=>e_1) (λhs=>e_50)
   |succ j=>
    rw[rqJ.eq_2];refine ac (s_r 3 ?_);refine a_2 ?_;refine o_0 (.bin rfl rfl (vT cO (decide_eq_true ω))) ?_;refine ao ?_;refine cT (am (ac (ak (r_c 3 (hI0) ?_))));refine a_z ?_;by_cases hjm:j+1+1<=m+1+(i+1);have hv:quM c m n (i+1) (j+1)=coP c (m+1+(i+1)- (j+1+1)):=by unfold quM atQ;rw[if_neg ω,if_pos ω];congr 1 <;> omega
    refine ac (s_r 3 ?_);refine a_2 ?_;refine o_0 (.bin rfl rfl (vT dc (decide_eq_true ω))) ?_;refine ao ?_;refine cT (r_m 7 ?_);refine a_4 ?_
    first|refine av (.index_l rfl rfl ω ω te_31.h) rfl rfl ?_|refine av (.index_a rfl rfl ω (hget (m+1+(i+1)- (j+1+1)) ω _ ω) rfl te_31.h) rfl rfl ?_
    first|refine av (.load_l rfl rfl (hget (m+1+(i+1)- (j+1+1)) ω _ ω) TG.h TS.h (nle rfl)) rfl rfl ?_|refine av (.load_a rfl (hget (m+1+(i+1)- (j+1+1)) ω _ ω) TG.h TS.h (nle rfl)) rfl rfl ?_
    refine a_z ?_;refine r_m 5 ?_;refine a_z ?_;refine r_m 3 ?_;refine a_z ?_;refine⟨j+2,ω,hjn,?_⟩;rw[rqJ.eq_2];exact s_x [(1,9),(2,10),(3,12)] (λhs=>e_1) (λhs=>e_51);have hv:quM c m n (i+1) (j+1)=0:=by unfold quM atQ;rw[if_neg ω,if_neg ω]
    refine ac (s_r 3 ?_);refine a_2 ?_;refine o_0 (.bin rfl rfl (vF dc (decide_eq_false ω))) ?_;refine ao ?_;refine cF (am (r_m 5 ?_));refine a_z ?_;refine r_m 3 ?_;refine a_z ?_;refine⟨j+2,ω,hjn,?_⟩;rw[rqJ.eq_2];exact s_x [(1,9),(2,10),(3,12)] (λhs=>e_1) (λhs=>e_51)
   obtain⟨j,rfl⟩:∃j',j=j'+1:=⟨j- 1,ω⟩;rw[rqJ.eq_2];refine ac (s_r 3 ?_);refine a_2 ?_;refine o_0 (.bin rfl rfl (vF cO (decide_eq_false ω))) ?_;refine ao ?_;refine cF (aB ⟨j+1,ω,?_⟩);rw[rqJ.eq_2];exact s_x [(1,9),(2,10),(3,12)] (λhs=>e_1) (λhs=>e_19);rintro j hj;obtain⟨j,rfl⟩:∃j',j=j'+1:=⟨j- 1,ω⟩;obtain rfl:n=j+1:=hj.symm;rw[rqJ.eq_2];refine s_r 5 ?_;refine o_0 (.move rfl) ?_;refine o_0 (.move rfl) ?_;refine o_1 (.buildSlice te_121.h TZ.h rfl δ rfl rfl rfl υ) ?_;refine o_2 (.append_l rfl rfl rfl te_121.h rfl rfl rfl rfl rfl d_o η ξ rfl (.lsl rfl (nle rfl)) TZ.h rfl TB.h d_o μ) ?_;refine o_0 (.assign rfl) ?_;refine ao ?_;refine r_m 9 ?_;refine a_3 ?_
   first|refine av (.index_l rfl rfl ω ω te_31.h) rfl rfl ?_|refine av (.index_a rfl rfl ω (hget (m+1+(i+1)) ω _ ω) rfl te_31.h) rfl rfl ?_
   first|refine av (.load_l rfl rfl (hget (m+1+(i+1)) ω _ ω) TG.h TS.h (nle rfl)) rfl rfl ?_|refine av (.load_a rfl (hget (m+1+(i+1)) ω _ ω) TG.h TS.h (nle rfl)) rfl rfl ?_
   refine c_s (hng) ?_;refine a_z ?_;refine r_m 3 ?_;refine a_z ?_;refine⟨i+2,ω,hin,?_⟩;rw[rqW.eq_2];refine s_x [(1,9),(2,10)] (λhs=>e_49) (λhs=>?_)
   ·repeat' (first|exact aD|refine h_c ?_ ?_|exact aI hs (iD (i+1) (λi=>quM c m (j+1) i (j+1)) _ hv2) (b8 _)|exact Ij (wK (x:=[.lsl 3 0 (j+1) none 4]) (af (dJ hs rfl (aP rfl) rfl ψ) ax) (bZ hs (iv _ _ _))) (FK _ _ (i+1)).symm|exact bG|refine ay ?_|exact ax|refine af ?_ ?_|exact ah hs (bp _)|exact dJ hs rfl (aP rfl) rfl ψ|exact aX)
 obtain⟨i,rfl⟩:∃i',i=i'+1:=⟨i- 1,ω⟩;rw[rqW.eq_2];refine ac (s_r 5 ?_);refine a_4 ?_;refine o_0 (.bin rfl rfl (vF cO (decide_eq_false ω))) ?_;refine ao ?_;refine cF (aB ⟨i+1,ω,?_⟩);rw[rqW.eq_2];exact s_x [(1,9),(2,10)] (λhs=>e_1) (λhs=>e_19);rintro i hi;obtain⟨i,rfl⟩:∃i',i=i'+1:=⟨i- 1,ω⟩;obtain rfl:n=i+1:=hi.symm;rw[rqW.eq_2];refine AWp.ent ?_ hrest;refine s_x [] (λhs=>?_) (λhs=>?_)
 ·repeat' (first|exact aF|refine aj rfl ?_ ?_|exact ah hs (bp _)|exact dJ hs rfl (aP rfl) rfl (by simp[svB])|exact Cv.shut hs rfl (aP rfl) ψ (aI hs π (iv _ _ _))|exact aX)
 ·repeat' (first|exact aD|refine h_c ?_ ?_|exact bG|refine ay ?_|exact ax|refine af ?_ ?_|exact ah hs (bp _)|exact dJ hs rfl (aP rfl) rfl (by simp[svB])|exact Cv.shut hs rfl (aP rfl) ψ (aI hs π (iv _ _ _))|exact aX)
theorem FD(M:Lq)(k:Nat):M.take k=aH (min k M.length) (coP M):=by
 apply List.ext_getElem?;intro i;rw[List.getElem?_take];by_cases h:i< min k M.length;rw[if_pos ω,bJ ω,oZ h];rw[List.getElem?_eq_none (l:=aH _ _) χ];split;rw[List.getElem?_eq_none ω];rfl
def rqT(c q M:Lq)(m n:Nat):Nat->AState
 |0=>⟨[(0,.arr (rE (rP c))),(1,i64 m),(2,i64 n),(17,.arr (rE (rP q))),(18,.arr (rE (rP M))),(19,.emp),(20,i64 ((0:Nat):Int))],[],1,103⟩
 |i+1=>⟨[(0,.arr (rE (rP c))),(1,i64 m),(2,i64 n),(17,.arr (rE (rP q))),(18,.arr (rE (rP M))),(19,.lsl 1 0 (i+1) none 4),(20,i64 ((i+1:Nat):Int))],[(1,some ⟨49,4,rE (rP (aH (i+1) (coP M)))⟩)],2,103⟩
theorem rq_end(c q M:Lq)(m n s t:Nat)(hM:ep (c.take (m+n+1)) q=M)(hc:c.length<=1000)(hl:m+n+1<=c.length)(hq:q.length<=100)(bc:bdL c s)(bq:bdL q t)(hs:1<=s)(ht:1<=t)(hlim:s+t+(100* (s+t+1)+1)+64<=1099511627776):
    AWp none Tryz.prog rqEnd (Fin Tryz.prog Tryz.f19.results.toList (.tup [.arr (rE (rP (aA (M.take (m+1))))),.arr (rE (rP (aA q))),bln true])) ⟨[(0,.arr (rE (rP c))),(1,i64 m),(2,i64 n),(17,.arr (rE (rP q)))],[],1,103⟩:=by
 have cc:=bp (rP c);have cq:=bp (rP q);have cM:=bp (rP M);have bt:bdL (c.take (m+n+1)) s:=λx hx=>bc x (List.mem_of_mem_take hx);have htk:(rE (rP c)).take (m+n+1)=rE (rP (c.take (m+n+1))):=by unfold rE rP;rw[List.map_take,List.map_take]
 have hlc:(rE (rP c)).length=c.length:=by simp[rP]
 have hlM:(rE (rP M)).length=M.length:=by simp[rP]
 have hlM2:(rP M).length=M.length:=by simp[rP]
 have hmul:=Hi (rP (c.take (m+n+1))) (rP q) s t (100* (s+t+1)+1) (qG _) (qG _) (by rw[kp];exact bt) (by rw[kp];exact bq) hs (λk hk=>by
  rw[kp,kp];have hk2:k<=q.length:=by simpa[rP] using hk
  exact mM (GR bt bq hs ht k) (Nat.add_le_add_right (Nat.mul_le_mul_right _ ω) 1)) hlim (by simp[rP];omega) (by simp[rP];omega)
 rw[kp,kp,hM] at hmul
 have hml:M.length<=1200:=by
  have h1:=BE (c.take (m+n+1)) q q.length;rw[BD,hM] at h1;have:=List.length_take_le (m+n+1) c;rw[List.length_take] at h1;omega
 obtain⟨K,hK⟩:∃K,K=min (m+1) M.length:=⟨_,rfl⟩;have hK1:K<=m+1/\K<=M.length/\(K=m+1\/K=M.length):=by rw[hK];omega
 unfold rqEnd rqRest;refine s_r 9 ?_;refine a_5 ?_;refine o_0 (.sa_hE (h:=m+n+1) htk rfl rfl ω ω te_31.h (jf _)) ?_;refine c_s (hmul) ?_;refine a_z ?_;refine r_z 1 ?_;refine ac (r_z 1 ?_);refine aG (λ_:Unit=>⟨[(17,.arr (rE (rP q))),(19,.arr (rE (rP (M.take (m+1)))))],[],1,103⟩) (λ_=>True) ?_ ?_;refine ak (aC (rqT c q M m n) (λi=>K- i) (λi=>i<=K) 0 (Nat.zero_le _) ?_ ?_);rw[rqT.eq_1];refine s_x [] (λhs=>e_20) (λhs=>?_)
 ·repeat' (first|exact aD|refine h_c ?_ ?_|exact bG|refine ay ?_|exact ax|refine af ?_ ?_|exact ah hs cc|exact ah hs cq|exact ah hs cM|exact aX)
 intro i hi
 have hget:∀k,k< M.length->∀e,e=k->(rE (rP M))[e]?=some (rC (rq (coP M k))):=λk hk e he=>by
  rw[he];unfold rE rP;rw[List.getElem?_map,List.getElem?_map,bJ hk];rfl
 have hfin:i=K->CvF ⟨0,λi=>i⟩ (λ_=>none) (λ_=>none) [] []:=λ_=>aF;by_cases hin:i< K
 ·cases i with
  |zero=>
   rw[rqT.eq_1];refine ac (s_r 9 ?_);refine a_2 ?_;refine o_0 (.bin rfl rfl (vT cO (decide_eq_true ω))) ?_;refine a_1 ?_
   first|refine ap rfl rfl rfl (.move rfl) rfl rfl ?_|refine aV rfl rfl (by first|(simp[aQ];done)|exact nofun) rfl rfl ?_
   first|refine ap rfl rfl rfl (.move rfl) rfl rfl ?_|refine aV rfl rfl (by first|(simp[aQ];done)|exact nofun) rfl rfl ?_
   first|refine ap rfl rfl rfl (.lenD rfl rfl rfl rfl te_32.h) rfl rfl ?_|refine ap rfl rfl rfl (.lenI rfl rfl rfl rfl te_32.h) rfl rfl ?_|refine ap rfl rfl rfl (.lenP rfl rfl rfl rfl te_32.h) rfl rfl ?_|refine ap rfl rfl rfl (.lenC rfl rfl rfl rfl te_32.h) rfl rfl ?_|refine ap rfl rfl rfl (.lenR rfl rfl rfl rfl te_32.h) rfl rfl ?_|refine ap rfl rfl rfl (.len rfl rfl rfl rfl rfl te_32.h) rfl rfl ?_|refine aV rfl rfl (by first|(simp[aQ];done)|exact nofun) rfl rfl ?_
   refine ap rfl rfl rfl (.bin rfl rfl (vT aZ (decide_eq_true ω))) rfl rfl ?_;refine a_z ?_;refine cT (am (ac (ak (r_m 8 ?_))));refine a_3 ?_
   first|refine av (.index_l rfl rfl ω ω te_32.h) rfl rfl ?_|refine av (.index_a rfl rfl ω (hget 0 ω _ ω) rfl te_32.h) rfl rfl ?_
   first|refine av (.load_l rfl rfl (hget 0 ω _ ω) TG.h TS.h (nle rfl)) rfl rfl ?_|refine av (.load_a rfl (hget 0 ω _ ω) TG.h TS.h (nle rfl)) rfl rfl ?_
   refine a_z ?_;refine r_m 3 ?_;refine a_z ?_;refine⟨1,ω,ω,?_⟩;rw[rqT.eq_2];refine s_x [(1,19)] (λhs=>e_20) (λhs=>?_)
   ·repeat' (first|exact aD|refine h_c ?_ ?_|exact aI hs (iD 0 (coP M) _ rfl) (b8 _)|exact bG|refine ay ?_|exact ax|refine af ?_ ?_|exact ah hs cc|exact ah hs cq|exact ah hs cM|exact aX)
  |succ i=>
   rw[rqT.eq_2];refine ac (s_r 9 ?_);refine a_2 ?_;refine o_0 (.bin rfl rfl (vT cO (decide_eq_true ω))) ?_;refine a_1 ?_
   first|refine ap rfl rfl rfl (.move rfl) rfl rfl ?_|refine aV rfl rfl (by first|(simp[aQ];done)|exact nofun) rfl rfl ?_
   first|refine ap rfl rfl rfl (.move rfl) rfl rfl ?_|refine aV rfl rfl (by first|(simp[aQ];done)|exact nofun) rfl rfl ?_
   first|refine ap rfl rfl rfl (.lenD rfl rfl rfl rfl te_32.h) rfl rfl ?_|refine ap rfl rfl rfl (.lenI rfl rfl rfl rfl te_32.h) rfl rfl ?_|refine ap rfl rfl rfl (.lenP rfl rfl rfl rfl te_32.h) rfl rfl ?_|refine ap rfl rfl rfl (.lenC rfl rfl rfl rfl te_32.h) rfl rfl ?_|refine ap rfl rfl rfl (.lenR rfl rfl rfl rfl te_32.h) rfl rfl ?_|refine ap rfl rfl rfl (.len rfl rfl rfl rfl rfl te_32.h) rfl rfl ?_|refine aV rfl rfl (by first|(simp[aQ];done)|exact nofun) rfl rfl ?_
   refine ap rfl rfl rfl (.bin rfl rfl (vT aZ (decide_eq_true ω))) rfl rfl ?_;refine a_z ?_;refine cT (am (ac (ak (r_m 8 ?_))));refine a_3 ?_
   first|refine av (.index_l rfl rfl ω ω te_32.h) rfl rfl ?_|refine av (.index_a rfl rfl ω (hget (i+1) ω _ ω) rfl te_32.h) rfl rfl ?_
   first|refine av (.load_l rfl rfl (hget (i+1) ω _ ω) TG.h TS.h (nle rfl)) rfl rfl ?_|refine av (.load_a rfl (hget (i+1) ω _ ω) TG.h TS.h (nle rfl)) rfl rfl ?_
   refine a_z ?_;refine r_m 3 ?_;refine a_z ?_;refine⟨i+2,ω,ω,?_⟩;rw[rqT.eq_2];refine s_x [(1,19)] (λhs=>e_20) (λhs=>?_)
   ·repeat' (first|exact aD|refine h_c ?_ ?_|exact aI hs (iD (i+1) (coP M) _ rfl) (b8 _)|exact bG|refine ay ?_|exact ax|refine af ?_ ?_|exact ah hs cc|exact ah hs cq|exact ah hs cM|exact aX)
 have hi2:i=K:=ω
 have htt:M.take (m+1)=aH i (coP M):=by rw[hi2,hK];exact FD M (m+1)
 rw[htt];by_cases him:i<=m
 ·cases i with
  |zero=>
   rw[rqT.eq_1];refine ac (s_r 9 ?_);refine a_2 ?_;refine o_0 (.bin rfl rfl (vT cO (decide_eq_true ω))) ?_;refine a_1 ?_
   first|refine ap rfl rfl rfl (.move rfl) rfl rfl ?_|refine aV rfl rfl (by first|(simp[aQ];done)|exact nofun) rfl rfl ?_
   first|refine ap rfl rfl rfl (.move rfl) rfl rfl ?_|refine aV rfl rfl (by first|(simp[aQ];done)|exact nofun) rfl rfl ?_
   first|refine ap rfl rfl rfl (.lenD rfl rfl rfl rfl te_32.h) rfl rfl ?_|refine ap rfl rfl rfl (.lenI rfl rfl rfl rfl te_32.h) rfl rfl ?_|refine ap rfl rfl rfl (.lenP rfl rfl rfl rfl te_32.h) rfl rfl ?_|refine ap rfl rfl rfl (.lenC rfl rfl rfl rfl te_32.h) rfl rfl ?_|refine ap rfl rfl rfl (.lenR rfl rfl rfl rfl te_32.h) rfl rfl ?_|refine ap rfl rfl rfl (.len rfl rfl rfl rfl rfl te_32.h) rfl rfl ?_|refine aV rfl rfl (by first|(simp[aQ];done)|exact nofun) rfl rfl ?_
   refine ap rfl rfl rfl (.bin rfl rfl (vF aZ (decide_eq_false ω))) rfl rfl ?_;refine a_z ?_;refine cF (aB ⟨(),trivial,?_⟩);refine s_x [] (λhs=>?_) (λhs=>?_)
   ·repeat' (first|exact aF|refine aj rfl ?_ ?_|exact ah hs cq|exact Cv.emp _|exact aX)
   ·repeat' (first|exact aD|refine h_c ?_ ?_|exact bG|refine ay ?_|exact ax|refine af ?_ ?_|exact ah hs cq|exact Cv.emp _|exact aX)
  |succ i=>
   rw[rqT.eq_2];refine ac (s_r 9 ?_);refine a_2 ?_;refine o_0 (.bin rfl rfl (vT cO (decide_eq_true ω))) ?_;refine a_1 ?_
   first|refine ap rfl rfl rfl (.move rfl) rfl rfl ?_|refine aV rfl rfl (by first|(simp[aQ];done)|exact nofun) rfl rfl ?_
   first|refine ap rfl rfl rfl (.move rfl) rfl rfl ?_|refine aV rfl rfl (by first|(simp[aQ];done)|exact nofun) rfl rfl ?_
   first|refine ap rfl rfl rfl (.lenD rfl rfl rfl rfl te_32.h) rfl rfl ?_|refine ap rfl rfl rfl (.lenI rfl rfl rfl rfl te_32.h) rfl rfl ?_|refine ap rfl rfl rfl (.lenP rfl rfl rfl rfl te_32.h) rfl rfl ?_|refine ap rfl rfl rfl (.lenC rfl rfl rfl rfl te_32.h) rfl rfl ?_|refine ap rfl rfl rfl (.lenR rfl rfl rfl rfl te_32.h) rfl rfl ?_|refine ap rfl rfl rfl (.len rfl rfl rfl rfl rfl te_32.h) rfl rfl ?_|refine aV rfl rfl (by first|(simp[aQ];done)|exact nofun) rfl rfl ?_
   refine ap rfl rfl rfl (.bin rfl rfl (vF aZ (decide_eq_false ω))) rfl rfl ?_;refine a_z ?_;refine cF (aB ⟨(),trivial,?_⟩);exact s_x [] (λhs=>e_52) (λhs=>e_53)
 obtain⟨i,rfl⟩:∃i',i=i'+1:=⟨i- 1,ω⟩;rw[rqT.eq_2];refine ac (s_r 9 ?_);refine a_2 ?_;refine o_0 (.bin rfl rfl (vF cO (decide_eq_false ω))) ?_;refine a_z ?_;refine cF (aB ⟨(),trivial,?_⟩);exact s_x [] (λhs=>e_52) (λhs=>e_53);rintro _ _;have ht1:=mD (rP (M.take (m+1))) (by simp[rP];omega);have ht2:=mD (rP q) (by simp[rP];omega);rw[tf] at ht1 ht2;refine r_c 7 (ht1) ?_;refine c_s (ht2) ?_;refine a_z ?_;refine an (Fin.many ⟨_,_,rfl,rfl,⟨_,_,rfl,rfl,⟨_,_,rfl,rfl,rfl⟩⟩⟩ (nle rfl) ?_);exact af (ah aE (bp _)) (af (ah aE (bp _)) (af (ah aE (ag _)) ax))
theorem EL(c:Lq)(m n s:Nat)(hn:1<=n/\n<=25)(hm:m<=100)(hl:m+n+1<=c.length)(hc:c.length<=1000)(hb:bdL c s)(hs:1<=s)(hlim:4* gjB s n+1<=274877906944)(hg:gjM (quM c m n) n n=none):
    FS 19 [.arr (rE (rP c)),i64 m,i64 n] (.tup [.arr [],.arr [],bln false]):=by
 refine De c m n hn hm hl hc _ ?_;unfold rqRest;refine r_c 8 (ER (quM c m n) n s hn (tR hb hs) hs hlim hg) ?_;refine a_z ?_;refine ac (r_z 2 ?_);refine cT (r_z 3 ?_);refine an (Fin.many ⟨_,_,rfl,rfl,⟨_,_,rfl,rfl,⟨_,_,rfl,rfl,rfl⟩⟩⟩ (nle rfl) ?_);exact af (Cv.emp _) (af (Cv.emp _) (af (ah aE (ag _)) ax))
theorem yZ{A:Mx}{c:Lq}{m n s:Nat}(hn:n<=25)(hb:bdL c s)(hs:1<=s)(hlim:1000* gjB s n+10000<=1099511627776)(hg:gjM (quM c m n) n n=some A):bdL (qtQ A n) (2* gjB s n+1)/\s+(2* gjB s n+1)+(100* (s+(2* gjB s n+1)+1)+1)+64<=1099511627776:=by
 have h1:=DK (tR (m:=m) (n:=n) hb hs) n A (Nat.le_refl _) hg
 have h2:∀k,s<=gjB s k:=λk=>by
  induction k with
  |zero=>exact Nat.le_refl _
  |succ k ih=>show s<=4* gjB s k+1;omega
 have h3:=h2 n;refine⟨qtQ_bd h1,?_⟩;generalize gjB s n=g at *
 omega
theorem EK(c:Lq)(A:Mx)(m n s:Nat)(hn:n<=25)(hm:m<=100)(hl:m+n+1<=c.length)(hc:c.length<=1000)(hb:bdL c s)(hs:1<=s)(hlim:1000* gjB s n+10000<=1099511627776)(hlim2:4* gjB s n+1<=274877906944)(hg:gjM (quM c m n) n n=some A):
    FS 19 [.arr (rE (rP c)),i64 m,i64 n] (.tup [.arr (rE (rP (aA ((ep (c.take (m+n+1)) (qtQ A n)).take (m+1))))),.arr (rE (rP (aA (qtQ A n)))),bln true]):=by
 obtain⟨bq,hL⟩:=yZ hn hb hs hlim hg;have hend:=rq_end c (qtQ A n) _ m n s (2* gjB s n+1) rfl hc hl (by simp[qtQ];omega) hb bq hs ω hL;have hI:FS 59 [i64 1] (.agg (rC (rq 1))):=xF 1 δ;by_cases hn0:n=0
 ·subst hn0
  refine f_c Tryz.func19 ?_;refine r_z 3 ?_;refine r_z 1 ?_;refine r_z 1 ?_;refine ac (r_z 3 ?_);refine aG (λ_:Unit=>⟨[(0,.arr (rE (rP c))),(1,i64 m),(2,i64 ((0:Nat):Int)),(9,.emp),(10,.emp)],[],1,103⟩) (λ_=>True) ?_ ?_;refine ak (aC (λ_:Unit=>⟨[(0,.arr (rE (rP c))),(1,i64 m),(2,i64 ((0:Nat):Int)),(9,.emp),(10,.emp),(11,i64 ((m+1:Nat):Int))],[],1,103⟩) (λ_=>0) (λ_=>True) () trivial ?_ ?_);exact s_f [];rintro _ _;refine ac (s_r 5 ?_);refine a_4 ?_;refine o_0 (.bin rfl rfl (vF cO (decide_eq_false ω))) ?_;refine ao ?_;refine cF (aB ⟨(),trivial,?_⟩);exact s_f [];rintro _ _;refine r_c 8 (EQ) ?_;refine a_z ?_;refine ac (r_z 2 ?_);refine cF (am (AWp.ent (st':=⟨[(0,.arr (rE (rP c))),(1,i64 m),(2,i64 ((0:Nat):Int)),(15,.arr (rE (rP (aH 0 λi=>A i 0/ A i i))))],[],1,103⟩) ?_ ?_));refine s_x [] (λhs=>?_) (λhs=>?_)
  ·repeat' (first|exact aF|refine aj rfl ?_ ?_|exact ah hs (bp _)|exact Cv.emp _|exact aX)
  ·repeat' (first|exact aD|refine h_c ?_ ?_|exact bG|refine ay ?_|exact ax|refine af ?_ ?_|exact ah hs (bp _)|exact Cv.emp _|exact aX)
  have hx:=jf (rP (aH 0 λi=>A i 0/ A i i));refine r_c 5 (hI) ?_;refine a_2 ?_;refine o_2 (.append_l rfl rfl rfl te_32.h rfl rfl rfl rfl rfl d_o η ξ rfl (.arr hx) TZ.h rfl TB.h d_o μ) ?_;refine a_z ?_;refine AWp.ent ?_ hend;refine s_x [] (λhs=>?_) (λhs=>?_)
  ·repeat' (first|exact aF|refine aj rfl ?_ ?_|exact ah hs (bp _)|exact dJ (L:=rP (qtQ A 0)) hs rfl (aP rfl) rfl (by simp[qtQ,rP])|exact aX)
  ·repeat' (first|exact aD|refine h_c ?_ ?_|exact bG|refine ay ?_|exact ax|refine af ?_ ?_|exact ah hs (bp _)|exact dJ (L:=rP (qtQ A 0)) hs rfl (aP rfl) rfl (by simp[qtQ,rP])|exact aX)
 have hn1:1<=n/\n<=25:=⟨ω,hn⟩;refine De c m n hn1 hm hl hc _ ?_;unfold rqRest;refine s_r 8 ?_;refine a_2 ?_;refine o_1 (.callOT rfl rfl rfl (Gu (quM c m n) A n s hn1 (tR hb hs) hs hlim2 hg)) ?_;refine a_z ?_;refine ac (r_z 2 ?_);refine cF (am ?_);have hx:=jf (rP (aH n λi=>A i n/ A i i));refine AWp.ent (st':=⟨[(0,.arr (rE (rP c))),(1,i64 m),(2,i64 n),(15,.arr (rE (rP (aH n λi=>A i n/ A i i))))],[],1,103⟩) ?_ ?_;refine s_x [] (λhs=>?_) (λhs=>?_)
 ·repeat' (first|exact aF|refine aj rfl ?_ ?_|exact ah hs (bp _)|exact dJ hs rfl (aP rfl) rfl (by simp[rP])|exact aX)
 ·repeat' (first|exact aD|refine h_c ?_ ?_|exact bG|refine ay ?_|exact ax|refine af ?_ ?_|exact ah hs (bp _)|exact dJ hs rfl (aP rfl) rfl (by simp[rP])|exact aX)
 refine r_c 5 (hI) ?_;refine a_2 ?_;refine o_2 (.append_l rfl rfl rfl te_32.h rfl rfl rfl rfl rfl d_o η ξ rfl (.arr hx) TZ.h rfl TB.h d_o μ) ?_;refine a_z ?_;refine AWp.ent ?_ hend;refine s_x [] (λhs=>?_) (λhs=>?_)
 ·repeat' (first|exact aF|refine aj rfl ?_ ?_|exact ah hs (bp _)|exact dJ (L:=rP (qtQ A n)) hs rfl (aP rfl) rfl (by simp[qtQ,rP];omega)|exact aX)
 ·repeat' (first|exact aD|refine h_c ?_ ?_|exact bG|refine ay ?_|exact ax|refine af ?_ ?_|exact ah hs (bp _)|exact dJ (L:=rP (qtQ A n)) hs rfl (aP rfl) rfl (by simp[qtQ,rP];omega)|exact aX)
def owA(a:Rat)(k:Nat)(up:Bool):Rat:=if up then upQ a k else upQ a k- cw k
def owS(k:Nat)(up:Bool):Rat:=if up then cw k else -cw k
def owV(a:Rat)(k:Nat)(up:Bool):Nat->Rat
 |0=>owA a k up
 |j+1=>owV a k up j+owS k up
def owT(a:Rat)(k:Nat)(up:Bool)(j:Nat):Option La:=some [.agg (qC (owV a k up j))]
abbrev bB1(b:Bool):AV:= .aptr [[bln b]] 0 0
theorem u9(b:Bool):Closed (bB1 b):=aW (ae (ag _) ai)
def okOw(a:Rat)(k:Nat)(up:Bool)(K:Nat):Prop:=sm a/\sz1 (upQ a k)/\sz1 (cw k)/\∀j,j< K->sz1 (owV a k up j)
instance (a:Rat) (k:Nat) (up:Bool) (K:Nat):Decidable (okOw a k up K):=inferInstanceAs (Decidable (_/\_/\_/\_))
theorem BQ(a:Rat)(k:Int)(up:Bool)(K:Nat)(ok:okOw a (wi k 256) up K):GSpecB Tryz.prog 194 [bQ a,bS1 k,bB1 up] (owT a (wi k 256) up) K:=by
 obtain⟨o1,o2,o3,o4⟩:=ok;have hup:=fs_Up a k o1;have hfi:=jk k;obtain⟨kk,hkk⟩:∃kk,kk=wi k 256:=⟨_,rfl⟩;rw[<-hkk] at hup hfi o2 o3 o4⊢;have hsu:=gO (upQ a kk) (cw kk) (o2.two o3);have hss:sz1 (owS kk up):=by unfold owS sz1 at *;split;exact o3;rw[ij];exact o3
 refine GSpecB.enter Tryz.func194 rfl κ rfl rfl rfl ?_ ?_ rfl ?_;exact ae (aT a) (ae (b9 k) (ae (u9 up) ai));intro k xs h;cases h;exact ae (aS _) ai;intro ll N hN E;refine GWp.seq ?_;refine GWp.lift ?_;refine r_d hmix 9 ?_;refine c_s (hup) ?_;refine c_s (hfi) ?_;refine a_4 ?_;refine ao (n_k ?_);refine GWp.seq ?_;refine GWp.seq ?_;refine GWp.lift ?_;refine r_m 2 ?_;refine a_z ?_;refine GWp.lift ?_;refine AWp.mono (Q:=λe s=>e= .normal/\SEnt s ⟨[(0,.v (.func (.yield ll) #[] #[])),(5,.lptr 1 0 0),(6,.lptr 2 0 0)],[(1,some ⟨42,3,[qC (owA a kk up)]⟩),(2,some ⟨42,3,[qC (owS kk up)]⟩)],3,27⟩) ?_ ?_;cases up with
 |true=>
  refine cF (am ⟨rfl,?_⟩);rw[show owA a kk true=upQ a kk from rfl,show owS kk true=cw kk from rfl];exact s_e [(1,5),(2,6)]
 |false=>
  refine cT (r_d hmix 9 ?_);refine c_s (hup) ?_;refine c_s (hsu) ?_;refine c_s (jG (cw kk)) ?_;refine a_2 ?_;refine ao (n_k ?_);refine⟨rfl,?_⟩;rw[show owA a kk false=upQ a kk- cw kk from rfl,show owS kk false= -cw kk from rfl];exact s_e [(1,5),(2,6)]
 rintro e s ⟨rfl,hst⟩;refine GWp.ent hst ?_;refine GWp.block ?_;refine GWp.loopS (λj:Nat=>⟨[(0,.v (.func (.yield ll) #[] #[])),(5,.lptr 1 0 0),(6,.lptr 2 0 0)],[(1,some ⟨42,3,[qC (owV a kk up j)]⟩),(2,some ⟨42,3,[qC (owS kk up)]⟩)],3,27⟩) (λk=>k) (λk=>N+1- k) (λk=>k<=N) 0 (Nat.zero_le _) rfl (SEnt.refl _) ?_;intro j hj;refine GWp.seq ?_;refine GWp.seq ?_;refine GWp.regY (fr2:=[(0,.v (.func (.yield ll) #[] #[])),(5,.lptr 1 0 0),(6,.lptr 2 0 0),(21,.v (.func (.yield ll) #[] #[])),(22,.agg (qC (owV a kk up j)))]) (hp2:=[(1,some ⟨42,3,[qC (owV a kk up j)]⟩),(2,some ⟨42,3,[qC (owS kk up)]⟩)]) (nx2:=3) 2 rfl rfl rfl rfl rfl rfl ?_ rfl rfl rfl ?_ ?_ ?_;refine o_0 (.move rfl) ?_
 first|refine av (.load_l rfl rfl rfl TG.h TS.h (nle rfl)) rfl rfl ?_|refine av (.load_a rfl rfl TG.h TS.h (nle rfl)) rfl rfl ?_
 refine ao ?_;exact s_y [] (λhs=>cN) (λhs=>jN);rotate_left 2;intro go;refine ao ?_;rotate_left;rfl;exact ae (aS _) ai;cases go with
 |false=>
  refine GWp.cond rfl (λh=>?_) (λh=>?_);cases h;exact GWp.exit ⟨.inl rfl,λh=>by cases h⟩
 |true=>
  refine GWp.bound λhk1=>?_;refine GWp.cond rfl (λh=>?_) (λh=>?_);rotate_left;cases h;refine GWp.skip ?_;have had:=fz (owV a kk up j) (owS kk up) ((o4 j ω).two hss);refine GWp.lift ?_;refine ak (r_m 4 ?_);refine c_s (had) ?_;refine a_z ?_;refine⟨rfl,j+1,ω,hk1,rfl,?_⟩;simp only[owV];exact s_e []
theorem BZ(a:Rat)(k:Int)(up:Bool):FS 146 [.agg (qC a),i64 k,bln up] (.clos 194 [] [bQ a,bS1 k,bB1 up]):=by
 refine f_c Tryz.func146 ?_;refine r_z 4 ?_;refine r_z 2 ?_;refine an (⟨.inr rfl,[_],⟨_,[],rfl,rfl,rfl⟩,?_⟩);exact Cv.clos ax (af (Cv.boxp aE rfl (λ_ _ h=>by cases h) rfl (bo a)) (af (Cv.boxp aE rfl (λ_ _ h=>by cases h) rfl (ae (ag _) ai)) (af (Cv.boxp aE rfl (λ_ _ h=>by cases h) rfl (ae (ag _) ai)) ax)))
def yl:Lq->Lq->Int
 |[],[]=>0
 |[],_::_=> -1
 |_::_,[]=>1
 |a::l,b::m=>if dr a b=0 then yl l m else dr a b
theorem HW(a b:Rat): -1<=dr a b/\dr a b<=1:=by
 unfold dr;split;decide;split <;> decide
def cfS(a b:Lq):Nat->AState
 |i=>⟨[(0,.arr (pE a)),(1,.arr (pE b)),(2,.clos 86 [] []),(11,.arr (pE a)),(12,i64 a.length),(13,i64 i)],[],1,39⟩
theorem Cg(a b:Lq)(ha:smL a)(hb:smL b)(la:a.length<=1000)(lb:b.length<=1000):FS 145 [.arr (pE a),.arr (pE b),.clos 86 [] []] (i64 (yl a b)):=by
 have hal:(pE a).length=a.length:=by simp[pE]
 have hbl:(pE b).length=b.length:=by simp[pE]
 have hcc:Closed (.clos 86 [] []):=aY ai ai;refine f_c Tryz.func145 ?_;refine r_z 1 ?_;refine ac (r_z 3 ?_);refine aG (λ_:Unit=>⟨[(0,.arr (pE a)),(1,.arr (pE b))],[],1,39⟩) (λ_=>a.length<=b.length/\yl a b=if a.length< b.length then -1 else 0) ?_ ?_;refine ak (aC (cfS a b) (λi=>a.length- i) (λi=>i<=a.length/\i<=b.length/\yl (a.drop i) (b.drop i)=yl a b) 0 ⟨Nat.zero_le _,Nat.zero_le _,rfl⟩ ?_ ?_);rw[cfS.eq_1];exact s_x [] (λhs=>e_54) (λhs=>e_55);rintro i ⟨h1,h2,h3⟩;rw[cfS.eq_1];by_cases hlt:i< a.length;have hga:∀e:Nat,e=i->(pE a)[e]?=some (qC (coP a i)):=λe he=>by rw[he];exact cj (bJ hlt)
 refine q_z 1 ?_;refine ac (cT (am (ac (ak (s_r 6 ?_)))));refine a_1 ?_
 first|refine av (.index_l rfl rfl ω ω te_30.h) rfl rfl ?_|refine av (.index_a rfl rfl ω (hga _ ω) rfl te_30.h) rfl rfl ?_
 first|refine av (.load_l rfl rfl (hga _ ω) TG.h TS.h (nle rfl)) rfl rfl ?_|refine av (.load_a rfl (hga _ ω) TG.h TS.h (nle rfl)) rfl rfl ?_
 refine a_z ?_;by_cases hlb:i< b.length;have hgb:∀e:Nat,e=i->(pE b)[e]?=some (qC (coP b i)):=λe he=>by rw[he];exact cj (bJ hlb)
 have hcm:=ej (coP a i) (coP b i) (iX ha i) (iX hb i);have hr:=HW (coP a i) (coP b i);rw[gP hlt,gP hlb,yl] at h3;refine ac (q_z 4 ?_);refine cF (am (s_r 6 ?_));refine a_2 ?_
 first|refine av (.index_l rfl rfl ω ω te_30.h) rfl rfl ?_|refine av (.index_a rfl rfl ω (hgb _ ω) rfl te_30.h) rfl rfl ?_
 first|refine av (.load_l rfl rfl (hgb _ ω) TG.h TS.h (nle rfl)) rfl rfl ?_|refine av (.load_a rfl (hgb _ ω) TG.h TS.h (nle rfl)) rfl rfl ?_
 refine a_z ?_;refine r_c 5 (hcm) ?_;refine a_z ?_;by_cases hz:dr (coP a i) (coP b i)=0;rw[if_pos hz] at h3;refine s_r 2 ?_;refine a_1 ?_;refine o_0 (.bin rfl rfl (vF bO ((by rw[hz];rfl)))) ?_;refine ao ?_;refine cF (am (r_m 2 ?_));refine a_z ?_;refine⟨i+1,ω,⟨ω,ω,h3⟩,?_⟩;rw[cfS.eq_1];exact s_x [] (λhs=>e_54) (λhs=>e_55);rw[if_neg hz] at h3;refine s_r 2 ?_;refine a_1 ?_;refine o_0 (.bin rfl rfl (vT bO ((by simpa using hz)))) ?_;refine ao ?_;refine cT (r_z 2 ?_);refine an (aR rfl ?_ ?_);rw[<-h3];exact ag _;have hz:b.drop i=[]:=List.drop_eq_nil_of_le ω;rw[gP hlt,hz,yl] at h3;refine ac (q_z 4 ?_);refine cT (r_z 1 ?_);refine an (aR rfl ?_ ?_);rw[<-h3];rfl;exact ag _;have hge:i=a.length:=ω
 subst hge;refine q_z 1 ?_;refine ac (cF ?_);rw[List.drop_length] at h3;refine aB ⟨(),⟨h2,?_⟩,?_⟩;rw[<-h3];by_cases g:a.length< b.length;rw[if_pos g,gP g];rfl;rw[if_neg g,List.drop_eq_nil_of_le ω];rfl;exact s_e [];rintro _ ⟨h1,h2⟩;rw[h2];by_cases g:a.length< b.length;rw[if_pos g];refine ac (q_z 5 ?_);refine cT (r_z 1 ?_);exact an (t_e (ag _));rw[if_neg g];refine ac (q_z 5 ?_);refine cF (am (r_z 1 ?_));exact an (t_e (ag _))
end Go.Proofs.YtjgokhkahkmpbaaGreatDoor
