/- Part Y24 of the proof. -/
import Derived.Test.YtjgokhkahkmpbaaGreatDoorY23
set_option linter.all false
namespace Go.Proofs.YtjgokhkahkmpbaaGreatDoor
open Go.Abs
set_option maxRecDepth 20000
set_option maxHeartbeats 4000000
theorem kr(i:Nat)(f:Nat->Rat):pE (aH (i+1) f)=pE (aH i f)++[qC (f i)]:=by simp[pE,aH,List.range_succ]
theorem eT(i:Nat)(f:Nat->Rat):(pE (aH i f)).length=i:=by simp[pE,aH]
theorem sv{i n:Nat}(f:Nat->Rat)(h:i< n):∀e,e=i->(pE (aH n f))[e]?=some (qC (f i)):=λe he=>by
 subst he;refine cj ?_;unfold aH;rw[List.getElem?_map,List.getElem?_range h];rfl
theorem yK{i n:Nat}(f:Nat->Rat)(h:i<=n):(pE (aH n f)).take i=pE (aH i f):=by
 unfold aH;rw[li,<-List.map_take,List.take_range,Nat.min_eq_left h]
def lvV(b i:Nat):AV:=match i with|0=> .emp|i+1=> .lsl b 0 (i+1) none 3
def lvH(d:Dt)(L:Ln):Nat->Hp
 |0=>[]
 |i+1=>[(4,some ⟨42,3,pE (xsD d L (i+1))⟩),(5,some ⟨42,3,pE (trD d L (i+1))⟩)]
def lvS(d:Dt)(L:Ln):Nat->AState
 |i=>⟨[(1,.arr (nE L)),(2,bD d),(5,.lptr 1 0 0),(6,lvV 4 i),(7,lvV 5 i),(8,.lptr 2 0 0),(9,.lptr 3 0 0),(23,.arr (nE L)),(24,i64 L.length),(25,i64 i)],(1,some ⟨42,3,[zC]⟩)::(2,some ⟨42,3,[qC (tpD d L i)]⟩)::(3,some ⟨42,3,[qC (btD d L i)]⟩)::lvH d L i,6,131⟩
def lvI(d:Dt)(L:Ln)(i k:Nat):Nat->AState
 |j=>⟨[(1,.arr (nE L)),(2,bD d),(5,.lptr 1 0 0),(6,.lsl 4 0 (i+1) none 3),(7,.lsl 5 0 (i+1) none 3),(8,.lptr 2 0 0),(9,.lptr 3 0 0),(11,i64 k),(12,.lptr 6 0 0),(13,.lptr 7 0 0),(23,.arr (nE L)),(24,i64 L.length),(25,i64 i),(52,.arr (nE L)),(53,i64 L.length),(54,i64 j)],[(1,some ⟨42,3,[zC]⟩),(2,some ⟨42,3,[qC (tpD d L i)]⟩),(3,some ⟨42,3,[qC (btD d L i)]⟩),(4,some ⟨42,3,pE (xsD d L (i+1))⟩),(5,some ⟨42,3,pE (trD d L (i+1))⟩),(6,some ⟨42,3,[qC (sdD d i k)]⟩),(7,some ⟨42,3,[qC (prD d L k j)]⟩)],8,131⟩
def lvY(d:Dt)(L:Ln)(h:Rat):Nat->Hp
 |0=>[]
 |i+1=>[(3,some ⟨42,3,pE (ysD d L h (i+1))⟩)]
def lvT(d:Dt)(L:Ln)(h:Rat):Nat->AState
 |i=>⟨[(1,.arr (nE L)),(2,bD d),(5,.lptr 1 0 0),(6,.arr (pE (xsD d L L.length))),(7,.arr (pE (trD d L L.length))),(16,.lptr 2 0 0),(17,lvV 3 i),(93,.arr (nE L)),(94,i64 L.length),(95,i64 i)],(1,some ⟨42,3,[zC]⟩)::(2,some ⟨42,3,[qC h]⟩)::lvY d L h i,4,131⟩
theorem zV(d:Dt)(L:Ln)(p:Lq)(hy:d.Y.length=d.X.length)(hw:d.W.length=0\/d.W.length=d.X.length)(h:BH d L=some p):FS 138 [.agg (dC d),.arr (nE L)] (.tup [.arr (pE p),.agg (qC (hD d L))]):=by
 unfold BH at h;split at h
 case isFalse=>cases h
 case isTrue ok=>
 obtain⟨o1,o2,o3,o4,o5,o6,o7,o8⟩:=ok;have hll:(nE L).length=L.length:=jo L
 have hmem:∀i,i< L.length->L.getD i 0∈L:=λi hi=>by
  rw[List.getD_eq_getElem?_getD,List.getElem?_eq_getElem hi];exact List.getElem_mem hi
 have hq1:qs (1:Rat)<=1:=δ
 have i1:=df 1 δ;refine f_n Tryz.func138 ?_ ?_;exact ae (aN (cX d)) (ae (cm L) ai);refine r_z 3 ?_;refine r_z 2 ?_;refine r_z 2 ?_;refine ac (r_z 3 ?_);refine aG (λ_:Unit=>⟨[(1,.arr (nE L)),(2,bD d),(5,.lptr 1 0 0),(6,.arr (pE (xsD d L L.length))),(7,.arr (pE (trD d L L.length))),(8,.lptr 2 0 0),(9,.lptr 3 0 0)],[(1,some ⟨42,3,[zC]⟩),(2,some ⟨42,3,[qC (tpD d L L.length)]⟩),(3,some ⟨42,3,[qC (btD d L L.length)]⟩)],4,131⟩) (λ_=>True) ?_ ?_
 ·refine ak (aC (lvS d L) (λi=>L.length- i) (λi=>i<=L.length) 0 (Nat.zero_le _) ?_ ?_)
  rw[lvS.eq_1];simp only[lvV,lvH,tpD,btD];rw[qC0];refine s_x [(1,5),(2,8),(3,9)] (λhs=>?_) (λhs=>?_)
  ·repeat' (first|exact aF|refine aj rfl ?_ ?_|exact ah hs (cm L)|exact Cv.boxp hs rfl (aP rfl) rfl (cX d)|exact aX)
  ·repeat' (first|exact aD|refine h_c ?_ ?_|exact ay (af (Cv.emp _) (af (ah hs (ag _)) (af (Cv.emp _) ax)))|exact bG|refine ay ?_|exact ax|refine af ?_ ?_|exact ah hs (cm L)|exact Cv.boxp hs rfl (aP rfl) rfl (cX d)|exact aX)
  intro i hi;rw[lvS.eq_1];by_cases hlt:i< L.length;rotate_left;have hge:i=L.length:=ω
  subst hge;refine q_z 1 ?_;refine ac (cF (aB ⟨(),trivial,?_⟩));obtain⟨m,hm⟩:∃m,L.length=m+1:=⟨L.length- 1,ω⟩;rw[hm];simp only[lvV,lvH];have lx:(pE (xsD d L (m+1))).length=m+1:=eT _ _;have lt:(pE (trD d L (m+1))).length=m+1:=eT _ _;refine s_x [] (λhs=>?_) (λhs=>?_)
  ·repeat' (first|exact aF|refine aj rfl ?_ ?_|exact ah hs (cm L)|exact ah hs (b6 d)|(refine Cv.shut hs rfl (aP rfl) (by rw[Nat.zero_add];exact Nat.le_of_eq (Eq.symm (by first|exact lx|exact lt))) ?_;exact aI hs (by rw[List.drop_zero];exact List.take_of_length_le (Nat.le_of_eq (by first|exact lx|exact lt))) (aJ _))|exact aX)
  ·repeat' (first|exact aD|refine h_c ?_ ?_|exact bG|refine ay ?_|exact ax|refine af ?_ ?_|exact ah hs (cm L)|exact ah hs (b6 d)|(refine Cv.shut hs rfl (aP rfl) (by rw[Nat.zero_add];exact Nat.le_of_eq (Eq.symm (by first|exact lx|exact lt))) ?_;exact aI hs (by rw[List.drop_zero];exact List.take_of_length_le (Nat.le_of_eq (by first|exact lx|exact lt))) (aJ _))|exact aX)
  refine q_z 1 ?_;refine ac (cT (am ?_));obtain⟨k,hk⟩:∃k,k=L.getD i 0:=⟨_,rfl⟩;have hkm:k∈L:=by rw[hk];exact hmem i hlt
  obtain⟨k1,k2,k3,k4,k5⟩:=o3 k hkm;obtain⟨p1,p2⟩:=o4 k hkm;have hge:∀e:Nat,e=i->(nE L)[e]?=some [i64 (k:Nat)]:=λe he=>by rw[hk];exact lj hlt he
  have hgx:∀e:Nat,e=k->(pE d.X)[e]?=some (qC (coP d.X k)):=λe he=>by rw[he];exact cj (bJ k1)
  have hgy:∀e:Nat,e=k->(pE d.Y)[e]?=some (qC (coP d.Y k)):=λe he=>by rw[he];exact cj (bJ ω)
  have hI:=df (1- 2* ((i:Int) % 2)) ω;have hIe:(1- 2* ((i:Int) % 2))=1- 2* ((i % 2:Nat):Int):=ω
  have hsz:qs ((1- 2* ((i % 2:Nat):Int):Int):Rat)<=1:=by
   have:i % 2=0\/i % 2=1:=ω
   rcases this with e|e <;> rw[e]<;> decide
  have hwt:=wg d k (hw.imp id λe=>ω);have hov:=fQ ((1- 2* ((i % 2:Nat):Int):Int):Rat) (wtD d k) k5 (by unfold sz1 at k4;omega);have hsd:=fu ((1- 2* ((i % 2:Nat):Int):Int):Rat) (wtD d k);rw[show((1- 2* ((i % 2:Nat):Int):Int):Rat) / wtD d k=sdD d i k from rfl] at hov hsd;have t1:=(o5 i ω).1;have t2:=(o5 i ω).2;refine ac (ak (s_r 5 ?_));refine a_1 ?_
  first|refine av (.index_l rfl rfl ω ω te_45.h) rfl rfl ?_|refine av (.index_a rfl rfl ω (hge _ ω) rfl te_45.h) rfl rfl ?_
  first|refine av (.load_l1 rfl rfl (hge _ ω) TG.h rfl) rfl rfl ?_|refine av (.load_a1 rfl (hge _ ω) TG.h rfl) rfl rfl ?_
  refine a_z ?_;refine ac (r_d hmix 11 ?_);refine c_s (hI) ?_;refine c_s (hwt) ?_;refine o_0 (.call rfl rfl rfl ((by rw[hIe];exact hov))) ?_;refine o_1 (.alloc TZ.h) ?_;refine ee (.store rfl rfl rfl rfl rfl rfl TS.h (nle rfl)) ?_;refine ao (n_k ?_);refine bi (λ_:Unit=>⟨[(1,.arr (nE L)),(2,bD d),(5,.lptr 1 0 0),(6,.lsl 4 0 (i+1) none 3),(7,.lsl 5 0 (i+1) none 3),(8,.lptr 2 0 0),(9,.lptr 3 0 0),(11,i64 k),(12,.lptr 6 0 0),(23,.arr (nE L)),(24,i64 L.length),(25,i64 i)],[(1,some ⟨42,3,[zC]⟩),(2,some ⟨42,3,[qC (tpD d L i)]⟩),(3,some ⟨42,3,[qC (btD d L i)]⟩),(4,some ⟨42,3,pE (xsD d L (i+1))⟩),(5,some ⟨42,3,pE (trD d L (i+1))⟩),(6,some ⟨42,3,[qC (sdD d i k)]⟩)],7,131⟩) (λ_=>True) ?_ ?_;have ex:pE (xsD d L (i+1))=pE (xsD d L i)++[qC (coP d.X k)]:=by rw[hk];exact kr _ _
  have et:pE (trD d L (i+1))=pE (trD d L i)++[qC (sdD d i k)]:=by rw[hk];exact kr _ _
  cases i with
  |zero=>
   simp only[lvV,lvH];refine r_d hmix 14 ?_;refine a_4 ?_
   first|refine av (.index_l rfl rfl ω ω te_29.h) rfl rfl ?_|refine av (.index_a rfl rfl ω (hgx _ ω) rfl te_29.h) rfl rfl ?_
   first|refine av (.load_l rfl rfl (hgx _ ω) TG.h TS.h (nle rfl)) rfl rfl ?_|refine av (.load_a rfl (hgx _ ω) TG.h TS.h (nle rfl)) rfl rfl ?_
   refine a_8 ?_;refine ao (n_k ?_);refine⟨(),trivial,?_⟩;exact s_x [(4,6),(5,7),(6,12)] (λhs=>e_3) (λhs=>e_33)
  |succ i=>
   simp only[lvV,lvH];have lx:(pE (xsD d L (i+1))).length=i+1:=eT _ _;have lt:(pE (trD d L (i+1))).length=i+1:=eT _ _;refine r_d hmix 14 ?_;refine a_4 ?_
   first|refine av (.index_l rfl rfl ω ω te_29.h) rfl rfl ?_|refine av (.index_a rfl rfl ω (hgx _ ω) rfl te_29.h) rfl rfl ?_
   first|refine av (.load_l rfl rfl (hgx _ ω) TG.h TS.h (nle rfl)) rfl rfl ?_|refine av (.load_a rfl (hgx _ ω) TG.h TS.h (nle rfl)) rfl rfl ?_
   refine a_8 ?_;refine ao (n_k ?_);refine⟨(),trivial,?_⟩;exact s_x [(4,6),(5,7),(6,12)] (λhs=>e_3) (λhs=>e_33)
  rintro _ _;refine r_c 3 (i1) ?_;refine a_z ?_;refine ac (r_z 3 ?_);refine aG (λ_:Unit=>lvI d L i k L.length) (λ_=>True) ?_ ?_
  ·refine ak (aC (lvI d L i k) (λj=>L.length- j) (λj=>j<=L.length) 0 (Nat.zero_le _) ?_ ?_)
   rw[lvI.eq_1,show prD d L k 0=((1:Int):Rat) from rfl];exact s_x [(7,13)] (λhs=>e_3) (λhs=>e_8);intro j hj;rw[lvI.eq_1];by_cases hjl:j< L.length;rotate_left;have hge:j=L.length:=ω
   subst hge;refine q_z 1 ?_;refine ac (cF (aB ⟨(),trivial,?_⟩));show SEnt _ (lvI d L i k L.length);rw[lvI.eq_1];exact s_x [] (λhs=>e_3) (λhs=>e_8);refine q_z 1 ?_;refine ac (cT (am ?_));obtain⟨c,hc⟩:∃c,c=L.getD j 0:=⟨_,rfl⟩;have hcm:c∈L:=by rw[hc];exact hmem j hjl
   obtain⟨c1,c2,_⟩:=o3 c hcm;have hgj:∀e:Nat,e=j->(nE L)[e]?=some [i64 (c:Nat)]:=λe he=>by rw[hc];exact lj hjl he
   have hgc:∀e:Nat,e=c->(pE d.X)[e]?=some (qC (coP d.X c)):=λe he=>by rw[he];exact cj (bJ c1)
   have hsu:=gO (coP d.X k) (coP d.X c) (k2.two c2);have hqs:=tT (coP d.X k) (coP d.X c);have hpj:=p1 j ω;have hmu:=dq (prD d L k j) (coP d.X k- coP d.X c) (by unfold sz1 at k2 c2 hpj;omega);refine ac (ak (s_r 3 ?_))
   first|refine av (.index_l rfl rfl ω ω te_45.h) rfl rfl ?_|refine av (.index_a rfl rfl ω (hgj _ ω) rfl te_45.h) rfl rfl ?_
   first|refine av (.load_l1 rfl rfl (hgj _ ω) TG.h rfl) rfl rfl ?_|refine av (.load_a1 rfl (hgj _ ω) TG.h rfl) rfl rfl ?_
   refine a_z ?_;by_cases hck:c=k;have hp':prD d L k (j+1)=prD d L k j:=by rw[prD,<-hc,if_pos hck]
   refine s_r 3 ?_;refine a_2 ?_;refine o_0 (.bin rfl rfl (vF bO ((by rw[hck];simp)))) ?_;refine ao ?_;refine cF (am (r_m 2 ?_));refine a_z ?_;refine⟨j+1,ω,ω,?_⟩;rw[lvI.eq_1,hp'];exact s_x [] (λhs=>e_3) (λhs=>e_8);have hp':prD d L k (j+1)=prD d L k j* (coP d.X k- coP d.X c):=by rw[prD,<-hc,if_neg hck]
   refine s_r 3 ?_;refine a_2 ?_;refine o_0 (.bin rfl rfl (vT bO ((by simpa using(show((c:Nat):Int)≠((k:Nat):Int) by omega))))) ?_;refine ao ?_;refine cT (r_d hmix 14 ?_);refine a_4 ?_
   first|refine av (.index_l rfl rfl ω ω te_29.h) rfl rfl ?_|refine av (.index_a rfl rfl ω (hgx _ ω) rfl te_29.h) rfl rfl ?_
   first|refine av (.load_l rfl rfl (hgx _ ω) TG.h TS.h (nle rfl)) rfl rfl ?_|refine av (.load_a rfl (hgx _ ω) TG.h TS.h (nle rfl)) rfl rfl ?_
   refine a_3 ?_
   first|refine av (.index_l rfl rfl ω ω te_29.h) rfl rfl ?_|refine av (.index_a rfl rfl ω (hgc _ ω) rfl te_29.h) rfl rfl ?_
   first|refine av (.load_l rfl rfl (hgc _ ω) TG.h TS.h (nle rfl)) rfl rfl ?_|refine av (.load_a rfl (hgc _ ω) TG.h TS.h (nle rfl)) rfl rfl ?_
   refine c_s (hsu) ?_;refine c_s (hmu) ?_;refine a_1 ?_;refine ao (n_k ?_);refine r_m 2 ?_;refine a_z ?_;refine⟨j+1,ω,ω,?_⟩;rw[lvI.eq_1,hp'];exact s_x [] (λhs=>e_3) (λhs=>e_8)
  rintro _ _;rw[lvI.eq_1];have hpl:=p1 L.length ω;have ho1:=fQ (coP d.Y k) (prD d L k L.length) p2 (k3.two hpl);have hd1:=fu (coP d.Y k) (prD d L k L.length);have ha1:=fz (tpD d L i) (coP d.Y k/ prD d L k L.length) (by unfold sz1 at t1 k3 hpl;omega);have ho2:=fQ (sdD d i k) (prD d L k L.length) p2 (by unfold sz1 at k4 hpl;omega);have hd2:=fu (sdD d i k) (prD d L k L.length);have ha2:=fz (btD d L i) (sdD d i k/ prD d L k L.length) (by unfold sz1 at t2 k4 hpl;omega);have e1:tpD d L i+coP d.Y k/ prD d L k L.length=tpD d L (i+1):=by rw[tpD,<-hk]
  have e2:btD d L i+sdD d i k/ prD d L k L.length=btD d L (i+1):=by rw[btD,<-hk]
  rw[e1] at ha1;rw[e2] at ha2;refine r_d hmix 16 ?_;refine a_4 ?_
  first|refine av (.index_l rfl rfl ω ω te_29.h) rfl rfl ?_|refine av (.index_a rfl rfl ω (hgy _ ω) rfl te_29.h) rfl rfl ?_
  first|refine av (.load_l rfl rfl (hgy _ ω) TG.h TS.h (nle rfl)) rfl rfl ?_|refine av (.load_a rfl (hgy _ ω) TG.h TS.h (nle rfl)) rfl rfl ?_
  refine c_s (ho1) ?_;refine c_s (ha1) ?_;refine c_s (ho2) ?_;refine c_s (ha2) ?_;refine a_2 ?_;refine ao (n_k ?_);refine r_m 2 ?_;refine a_z ?_;refine⟨i+1,ω,ω,?_⟩;rw[lvS.eq_1];simp only[lvV,lvH];exact s_x [] (λhs=>e_3) (λhs=>e_8)
 rintro _ _;have hh:=fQ (tpD d L L.length) (btD d L L.length) o6 ((o5 L.length ω).1.two (o5 L.length ω).2);rw[show tpD d L L.length/ btD d L L.length=hD d L from rfl] at hh;obtain⟨H,hH⟩:∃H,H=hD d L:=⟨_,rfl⟩;rw[<-hH] at hh h o7⊢;refine r_c 5 (hh) ?_;refine a_z ?_;refine r_z 1 ?_;refine ac (r_z 3 ?_);refine aG (λ_:Unit=>⟨[(1,.arr (nE L)),(5,.lptr 1 0 0),(6,.arr (pE (xsD d L L.length))),(16,.lptr 2 0 0),(17,.arr (pE (ysD d L H L.length)))],[(1,some ⟨42,3,[zC]⟩),(2,some ⟨42,3,[qC H]⟩)],3,131⟩) (λ_=>True) ?_ ?_
 ·refine ak (aC (lvT d L H) (λi=>L.length- i) (λi=>i<=L.length) 0 (Nat.zero_le _) ?_ ?_)
  rw[lvT.eq_1];simp only[lvV,lvY];refine s_x [(2,16)] (λhs=>e_3) (λhs=>?_)
  ·repeat' (first|exact aD|refine h_c ?_ ?_|exact ay (CvL.clo hs (bo _))|exact ay (CvL.clo hs b7)|exact bG|refine ay ?_|exact ax|refine af ?_ ?_|exact ah hs (cm L)|exact ah hs (b6 d)|exact aX)
  intro i hi;rw[lvT.eq_1];by_cases hlt:i< L.length;rotate_left;have hge:i=L.length:=ω
  subst hge;refine q_z 1 ?_;refine ac (cF (aB ⟨(),trivial,?_⟩));obtain⟨m,hm⟩:∃m,L.length=m+1:=⟨L.length- 1,ω⟩;rw[hm];simp only[lvV,lvY];have lx:(pE (ysD d L H (m+1))).length=m+1:=eT _ _;refine s_x [] (λhs=>?_) (λhs=>?_)
  ·repeat' (first|exact aF|refine aj rfl ?_ ?_|exact ah hs (cm L)|exact ah hs (b6 d)|(refine Cv.shut hs rfl (aP rfl) (by rw[Nat.zero_add];exact Nat.le_of_eq lx.symm) ?_;exact aI hs (by rw[List.drop_zero];exact List.take_of_length_le (Nat.le_of_eq lx)) (aJ _))|exact aX)
  ·repeat' (first|exact aD|refine h_c ?_ ?_|exact ay (CvL.clo hs (bo _))|exact ay (CvL.clo hs b7)|exact bG|refine ay ?_|exact ax|refine af ?_ ?_|exact ah hs (cm L)|exact ah hs (b6 d)|(refine Cv.shut hs rfl (aP rfl) (by rw[Nat.zero_add];exact Nat.le_of_eq lx.symm) ?_;exact aI hs (by rw[List.drop_zero];exact List.take_of_length_le (Nat.le_of_eq lx)) (aJ _))|exact aX)
  refine q_z 1 ?_;refine ac (cT (am ?_));obtain⟨k,hk⟩:∃k,k=L.getD i 0:=⟨_,rfl⟩;have hkm:k∈L:=by rw[hk];exact hmem i hlt
  obtain⟨k1,k2,k3,k4,k5⟩:=o3 k hkm;have hge:∀e:Nat,e=i->(nE L)[e]?=some [i64 (k:Nat)]:=λe he=>by rw[hk];exact lj hlt he
  have hgy:∀e:Nat,e=k->(pE d.Y)[e]?=some (qC (coP d.Y k)):=λe he=>by rw[he];exact cj (bJ ω)
  have hgt:∀e:Nat,e=i->(pE (trD d L L.length))[e]?=some (qC (sdD d i k)):=λe he=>by rw[hk];exact sv (λi=>sdD d i (L.getD i 0)) hlt e he
  have hsz:qs ((1- 2* ((i % 2:Nat):Int):Int):Rat)<=1:=by
   have:i % 2=0\/i % 2=1:=ω
   rcases this with e|e <;> rw[e]<;> decide
  have hsd:=fu ((1- 2* ((i % 2:Nat):Int):Int):Rat) (wtD d k);rw[show((1- 2* ((i % 2:Nat):Int):Int):Rat) / wtD d k=sdD d i k from rfl] at hsd;have hmu:=dq H (sdD d i k) (by unfold sz1 at o7 k4;omega);have hqm:=eV H (sdD d i k);have hsu:=gO (coP d.Y k) (H* sdD d i k) (by unfold sz1 at o7 k4 k3;omega);have ey:pE (ysD d L H (i+1))=pE (ysD d L H i)++[qC (coP d.Y k- H* sdD d i k)]:=by rw[hk];exact kr _ _
  refine ac (ak (s_r 5 ?_));refine a_1 ?_
  first|refine av (.index_l rfl rfl ω ω te_45.h) rfl rfl ?_|refine av (.index_a rfl rfl ω (hge _ ω) rfl te_45.h) rfl rfl ?_
  first|refine av (.load_l1 rfl rfl (hge _ ω) TG.h rfl) rfl rfl ?_|refine av (.load_a1 rfl (hge _ ω) TG.h rfl) rfl rfl ?_
  refine a_z ?_;cases i with
  |zero=>
   simp only[lvV,lvY];refine r_d hmix 16 ?_;refine a_4 ?_
   first|refine av (.index_l rfl rfl ω ω te_29.h) rfl rfl ?_|refine av (.index_a rfl rfl ω (hgy _ ω) rfl te_29.h) rfl rfl ?_
   first|refine av (.load_l rfl rfl (hgy _ ω) TG.h TS.h (nle rfl)) rfl rfl ?_|refine av (.load_a rfl (hgy _ ω) TG.h TS.h (nle rfl)) rfl rfl ?_
   refine a_3 ?_
   first|refine av (.index_l rfl rfl ω ω te_29.h) rfl rfl ?_|refine av (.index_a rfl rfl ω (hgt _ ω) rfl te_29.h) rfl rfl ?_
   first|refine av (.load_l rfl rfl (hgt _ ω) TG.h TS.h (nle rfl)) rfl rfl ?_|refine av (.load_a rfl (hgt _ ω) TG.h TS.h (nle rfl)) rfl rfl ?_
   refine c_s (hmu) ?_;refine c_s (hsu) ?_;refine a_3 ?_;refine ao (n_k ?_);refine r_m 2 ?_;refine a_z ?_;refine⟨0+1,ω,ω,?_⟩;rw[lvT.eq_1];simp only[lvV,lvY];exact s_x [(3,17)] (λhs=>e_3) (λhs=>e_34)
  |succ i=>
   simp only[lvV,lvY];have lx:(pE (ysD d L H (i+1))).length=i+1:=eT _ _;refine r_d hmix 16 ?_;refine a_4 ?_
   first|refine av (.index_l rfl rfl ω ω te_29.h) rfl rfl ?_|refine av (.index_a rfl rfl ω (hgy _ ω) rfl te_29.h) rfl rfl ?_
   first|refine av (.load_l rfl rfl (hgy _ ω) TG.h TS.h (nle rfl)) rfl rfl ?_|refine av (.load_a rfl (hgy _ ω) TG.h TS.h (nle rfl)) rfl rfl ?_
   refine a_3 ?_
   first|refine av (.index_l rfl rfl ω ω te_29.h) rfl rfl ?_|refine av (.index_a rfl rfl ω (hgt _ ω) rfl te_29.h) rfl rfl ?_
   first|refine av (.load_l rfl rfl (hgt _ ω) TG.h TS.h (nle rfl)) rfl rfl ?_|refine av (.load_a rfl (hgt _ ω) TG.h TS.h (nle rfl)) rfl rfl ?_
   refine c_s (hmu) ?_;refine c_s (hsu) ?_;refine a_3 ?_;refine ao (n_k ?_);refine r_m 2 ?_;refine a_z ?_;refine⟨i+1+1,ω,ω,?_⟩;rw[lvT.eq_1];simp only[lvV,lvY];exact s_x [(3,17)] (λhs=>e_3) (λhs=>e_34)
 rintro _ _;obtain⟨m,hm⟩:∃m,L.length=m+1:=⟨L.length- 1,ω⟩;rw[hm,Nat.add_sub_cancel] at h o8;have hxe:(pE (xsD d L L.length)).take m=pE (xsD d L m):=yK _ ω;have hye:(pE (ysD d L H L.length)).take m=pE (ysD d L H m):=yK _ ω
 have hxm:smL (xsD d L m):=λq hq=>by
  obtain⟨i,hi,rfl⟩:=List.mem_map.1 hq;exact(o3 _ (hmem i (by have:=List.mem_range.1 hi;omega))).2.1.sm
 have hint:=mG (xsD d L m) (ysD d L H m) p (by simp[xsD,ysD,aH]) (by simp[xsD,aH];omega) hxm o8 h;have lx:(pE (xsD d L L.length)).length=L.length:=eT _ _;have ly:(pE (ysD d L H L.length)).length=L.length:=eT _ _;refine r_z 4 ?_;refine ac (r_d hmix 12 ?_);refine a_2 ?_;refine o_0 (.sa_hE (h:=m) hxe rfl rfl ω ω te_29.h (fl _)) ?_;refine a_2 ?_;refine o_0 (.sa_hE (h:=m) hye rfl rfl ω ω te_29.h (fl _)) ?_;refine c_s (hint) ?_;refine a_5 ?_;refine ao (n_k ?_);refine ac (r_d hmix 4 ?_);refine a_4 ?_;refine ao (n_k ?_);refine an (Fin.many ⟨_,_,rfl,rfl,⟨_,_,rfl,⟨_,_,_,_,_,rfl,rfl,rfl,.inl ⟨TG.h,_,TS.h,nle rfl,rfl⟩⟩,rfl⟩⟩ (nle rfl) ?_);exact af (ah aE (aq _)) (af (ah aE (aS _)) ax)
abbrev beC(p:Lq)(e:Rat)(L:Ln):La:= .arr (pE p)::(qC e++[.arr (nE L)])
theorem cL{a b:La}(ha:∀c∈a,Closed c)(hb:∀c∈b,Closed c):∀c∈a++b,Closed c:=λc hc=>(List.mem_append.1 hc).elim (ha c) (hb c)
theorem dt(p:Lq)(e:Rat)(L:Ln):∀c∈beC p e L,Closed c:=ae (aq p) (cL (bo e) (ae (cm L) ai))
theorem D5{r:Ren}{hp hp':Hq}(hs:Shr r hp hp'){b c:La}(h:CvL r hp hp' b c):∀{a:La},(∀x∈a,Closed x)->CvL r hp hp' (a++b) (a++c)
 |[],_=>h
 |x::a,ha=>af (ah hs (ha x (List.mem_cons_self ..))) (D5 hs h λy hy=>ha y (List.mem_cons_of_mem _ hy))
theorem Cn{L:Ln}(x:Nat)(sg own:Int)(h:1<=L.length):(exM L x sg own).length=L.length:=by
 unfold exM;split;rw[List.length_cons,List.length_take];omega;split;rw[List.length_append,List.length_drop,List.length_singleton];omega;split <;> rw[List.length_set]
abbrev be0:La:= .emp::(zC++[.emp])
theorem ou:∀c∈be0,Closed c:=ae aK (cL b7 (ae aK ai))
def fiV(i:Nat):AV:=match i with|0=> .emp|i+1=> .lsl 2 0 (i+1) none 1
def fiH:Nat->Hp
 |0=>[]
 |i+1=>[(2,some ⟨3,1,nE (List.range (i+1))⟩)]
def fiA(d:Dt)(n:Nat):Nat->AState
 |i=>⟨[(2,bD d),(4,.lptr 1 0 0),(7,fiV i),(30,i64 ((n:Int)+2)),(31,i64 i)],(1,some ⟨78,5,[be0]⟩)::fiH i,3,73⟩
def fiB(d:Dt):Ln->AState
 |L=>⟨[(2,bD d),(4,.lptr 1 0 0),(7,.arr (nE L))],[(1,some ⟨78,5,[be0]⟩)],2,73⟩
theorem B8(f:Nat)(d:Dt)(n:Nat)(r:Lq×Rat×Ln)(hM:vx f d n=some r):FS 88 [.agg (dC d),i64 n] (.agg (beC r.1 r.2.1 r.2.2)):=by
 unfold vx at hM;have hxl:(pE d.X).length=d.X.length:=by simp[pE]
 by_cases hle:d.X.length<=n+1
 ·rw[if_pos hle] at hM
  split at hM
  case isFalse=>cases hM
  case isTrue ok=>
  obtain⟨o1,o2,o3,o4⟩:=ok;cases hp:zJ d.X d.Y [] (fY 1) with
  |none=>rw[hp] at hM;cases hM
  |some p=>
  rw[hp] at hM;cases hM;have hint:=mG d.X d.Y p o1 ω o3 o4 hp;refine f_n Tryz.func88 ?_ ?_;exact ae (aN (cX d)) (ae (ag _) ai);refine r_z 2 ?_;refine ac (q_z 6 ?_);refine cT (r_c 10 (hint) ?_);refine a_z ?_;refine r_z 3 ?_;refine an (Fin.cell rfl rfl rfl TG.h TS.h (nle rfl) ?_);show Cv _ _ _ _ (.agg (.arr (pE p)::(qC 0++[.arr []])));rw[qC0];exact Cv.agg (af (ah aE (aq p)) (af (Cv.emp _) (af (ah aE (ag _)) (af (Cv.emp _) (af (Cv.emp _) ax)))))
 ·rw[if_neg hle] at hM
  split at hM
  case isFalse=>cases hM
  case isTrue ok=>
  obtain⟨hy,hw,hn⟩:=ok;refine f_n Tryz.func88 ?_ ?_;exact ae (aN (cX d)) (ae (ag _) ai);refine r_z 2 ?_;refine ac (q_z 6 ?_);refine cF (am (r_z 1 ?_));refine ac (r_z 3 ?_);refine aG (λ_:Unit=>fiB d (List.range (n+2))) (λ_=>True) ?_ ?_;refine ak (aC (fiA d n) (λi=>n+2- i) (λi=>i<=n+2) 0 (Nat.zero_le _) ?_ ?_);rw[fiA.eq_1];simp only[fiV,fiH];have:=cX d;exact s_f [(1,4)];intro i hi;rw[fiA.eq_1];by_cases hlt:i< n+2;have hsn:nE (List.range (i+1))=nE (List.range i)++[[i64 i]]:=by rw[List.range_succ,qJ];rfl
  refine q_z 1 ?_;refine ac (cT (am (ac (ak (r_z 2 ?_)))));cases i with
  |zero=>
   simp only[fiV,fiH];refine r_m 5 ?_;refine a_z ?_;refine r_m 2 ?_;refine a_z ?_;refine⟨0+1,ω,ω,?_⟩;rw[fiA.eq_1];simp only[fiV,fiH];exact s_x [(2,7)] (λhs=>e_35) (λhs=>e_36)
  |succ i=>
   simp only[fiV,fiH];have hon:=tZ (List.range (i+1));have hlr:(nE (List.range (i+1))).length=i+1:=ψ
   refine r_m 5 ?_;refine a_z ?_;refine r_m 2 ?_;refine a_z ?_;refine⟨i+1+1,ω,ω,?_⟩;rw[fiA.eq_1];simp only[fiV,fiH];exact s_x [(2,7)] (λhs=>e_35) (λhs=>e_36)
  have hge:i=n+2:=ω
  subst hge;simp only[fiV,fiH];refine q_z 1 ?_;refine ac (cF (aB ⟨(),trivial,?_⟩));show SEnt _ (fiB d (List.range (n+2)));rw[fiB.eq_1];refine s_x [] (λhs=>?_) (λhs=>?_)
  ·repeat' (first|exact aF|refine aj rfl ?_ ?_|exact ah hs (b6 d)|(refine Cv.shut hs rfl (aP rfl) ψ ?_;exact aI hs π (dG _))|exact aX)
  ·repeat' (first|exact aD|refine h_c ?_ ?_|exact ay (CvL.clo hs ou)|exact bG|refine ay ?_|exact ax|refine af ?_ ?_|exact ah hs (b6 d)|(refine Cv.shut hs rfl (aP rfl) ψ ?_;exact aI hs π (dG _))|exact aX)
  rintro _ _;refine ak (aC (λx:Nat×Ln=>fiB d x.2) (λx=>x.1) (λx=>fitM x.1 d x.2=some r/\2<=x.2.length) (f,List.range (n+2)) ⟨hM,ψ⟩ (SEnt.refl _) ?_);rintro⟨k,L⟩ ⟨hf,hL⟩;simp only at hf hL;simp only[fiB.eq_1];cases k with
  |zero=>cases hf
  |succ k=>
  rw[fitM] at hf;cases hlm:BH d L with
  |none=>rw[hlm] at hf;cases hf
  |some p=>
  rw[hlm] at hf;simp only at hf;split at hf
  case isFalse=>cases hf
  case isTrue how=>
  have hlv:=zV d L p hy hw hlm
  have hok:GA d L:=by
   unfold BH at hlm;split at hlm;assumption;cases hlm
  obtain⟨o1,o2,o3,o4,o5,o6,o7,o8⟩:=hok;have hwo:=zO d p how
  have hx0:0< d.X.length:=by
   have:L.getD 0 0∈L:=by rw[List.getD_eq_getElem?_getD,List.getElem?_eq_getElem ω];exact List.getElem_mem _
   have:=(o3 _ this).1;omega
  have hwl:woD d p< d.X.length:=xC _ _ hx0;obtain⟨x,hx⟩:∃x,x=woD d p:=⟨_,rfl⟩;rw[<-hx] at hf hwo hwl;have hmx:=how.2.2.2 x hwl;have hmi:=xI d p x hy hw hmx;obtain⟨m,hm⟩:∃m,m=msD d p x:=⟨_,rfl⟩;have hm1:=hmx.2.2.2.2.2.2;rw[<-hm] at hf hmi hm1;obtain⟨H,hH⟩:∃H,H=hD d L:=⟨_,rfl⟩;rw[<-hH] at hf hlv o7;have hcm:=ej (c8 m) (c8 H) (by unfold sm;rw[qs_abs];exact hm1.sm) (by unfold sm;rw[qs_abs];exact o7.sm);refine ak (r_c 9 (hlv) ?_);refine a_z ?_;refine r_c 4 (hwo) ?_;refine a_z ?_;refine r_c 6 (hmi) ?_;refine a_z ?_;by_cases hc:c8 m<=c8 H;rw[if_pos hc] at hf
  have hcq:dr (c8 m) (c8 H)<=0:=by
   have:¬0< dr (c8 m) (c8 H):=λe=>by have:=cq_gt.1 e;grind
   omega
  refine ac (ac (r_d hmix 6 ?_));refine c_s (eY m) ?_;refine c_s (eY H) ?_;refine c_s (hcm) ?_;refine m_1 ?_;refine ao (n_k ?_);refine cT ?_;by_cases h0:H=0;rw[if_pos h0] at hf;cases hf;refine ac (r_c 3 (cb H) ?_);refine o_0 (.bin rfl rfl (vT aM (eqI (sgZ_num_eq.2 h0)))) ?_;refine ao ?_;refine cT (r_m 1 ?_);refine a_z ?_;refine r_c 6 (eY H) ?_;refine a_z ?_;refine an (Fin.cell rfl rfl rfl TG.h TS.h (nle rfl) ?_);exact Cv.agg (af (ah aE (aq p)) (D5 aE (af (Cv.emp _) ax) (bo _)));rw[if_neg h0] at hf;cases hf;refine ac (r_c 3 (cb H) ?_);refine o_0 (.bin rfl rfl (vF aM (neI (mt sgZ_num_eq.1 h0)))) ?_;refine ao ?_;refine cF (am (r_c 6 (eY H) ?_));refine a_z ?_;exact an (c_e (aN (dt _ _ _)));rw[if_neg hc] at hf
  have hcq:¬dr (c8 m) (c8 H)<=0:=by
   have:0< dr (c8 m) (c8 H):=cq_gt.2 φ;omega
  have hex:=z7 L x (sgO H) (sgZ m.num) ⟨hL,ω⟩ (λa ha=>by have:=(o3 a ha).1;have:=how.1;omega) (by have:=how.1;omega) (by unfold sgO;split <;> decide);refine ac (ac (r_d hmix 6 ?_));refine c_s (eY m) ?_;refine c_s (eY H) ?_;refine c_s (hcm) ?_;refine m_1 ?_;refine ao (n_k ?_);refine cF (am (r_d hmix 8 ?_));refine c_s (EH H) ?_;refine c_s (cb m) ?_;refine c_s (hex) ?_;refine a_1 ?_;refine ao (n_k ?_);refine⟨(k,exM L x (sgO H) (sgZ m.num)),by simp only;omega,⟨hf,by simp only;rw[Cn _ _ _ ω];exact hL⟩,?_⟩;simp only[fiB.eq_1];refine s_x [] (λhs=>?_) (λhs=>?_)
  ·repeat' (first|exact aF|refine aj rfl ?_ ?_|exact ah hs (b6 d)|exact ah hs (cm _)|exact aX)
  ·repeat' (first|exact aD|refine h_c ?_ ?_|exact ay (CvL.clo hs ou)|exact bG|refine ay ?_|exact ax|refine af ?_ ?_|exact ah hs (b6 d)|exact ah hs (cm _)|exact aX)
theorem okDt_iff{d:Dt}:Ep d=true↔1<=d.X.length/\d.X.length<=60/\d.Y.length=d.X.length/\xd d.X=true/\(d.W.length=0\/d.W.length=d.X.length)/\(d.W.any λw=>decide (w<=0))=false:=by
 unfold Ep;simp only[Bool.and_eq_true,decide_eq_true_eq,Bool.or_eq_true,Bool.not_eq_true']
theorem pY(d:Dt)(h:Ep d=true)(hs:smL d.X):FS 87 [.agg (dC d)] (i64 0):=by
 obtain⟨h1,h2,h3,h4,h5,h6⟩:=okDt_iff.1 h;have hxl:(pE d.X).length=d.X.length:=by simp[pE]
 have hyl:(pE d.Y).length=d.Y.length:=by simp[pE]
 have hwl:(pE d.W).length=d.W.length:=by simp[pE]
 have hr:=wh d.X hs ω;rw[h4] at hr;have hc:=lV d.W 135 [] (λw=>decide (w<=0)) ai ω (λq _=>fs_low q) rfl;rw[h6] at hc;refine f_n Tryz.func87 ?_ ?_;exact ae (aN (cX d)) ai;refine r_z 2 ?_;refine r_z 1 ?_;by_cases g:d.W.length=0;refine ac (s_r 46 ?_);refine d_8 ?_;refine d_8 ?_;refine m_1 ?_;refine ap rfl rfl rfl (.bin rfl rfl (vF bO (χ))) rfl rfl ?_;refine e_s (hr) ?_;refine e_s (hc) ?_;refine a_z ?_;refine cF (am (r_z 1 ?_));exact an (t_e (ag _));refine ac (s_r 46 ?_);refine d_8 ?_;refine d_8 ?_;refine m_1 ?_;refine ap rfl rfl rfl (.bin rfl rfl (vF bO (χ))) rfl rfl ?_;refine e_s (hr) ?_;refine d_8 ?_;refine d_6 ?_;refine ap rfl rfl rfl (.bin rfl rfl (vF bO (χ))) rfl rfl ?_;refine e_s (hc) ?_;refine a_z ?_;refine cF (am (r_z 1 ?_));exact an (t_e (ag _))
theorem fs_Fit(f:Nat)(d:Dt)(n:Nat)(r:Lq×Rat×Ln)(h:Ep d=true)(hs:smL d.X)(hn:n<=12)(hM:vx f d n=some r):FS 27 [.agg (dC d),i64 n] (.tup [.agg (beC r.1 r.2.1 r.2.2),i64 0]):=by
 have hc:=pY d h hs;have hf:=B8 f d n r hM;have hcl:=dt r.1 r.2.1 r.2.2;refine f_n Tryz.func27 ?_ ?_;exact ae (aN (cX d)) (ae (ag _) ai);refine r_z 3 ?_;refine ac (r_c 3 (hc) ?_);refine a_z ?_;refine s_r 2 ?_;refine a_1 ?_;refine o_0 (.bin rfl rfl (vF bO (rfl))) ?_;refine ao ?_;refine cF (am (ac (q_z 6 ?_)));refine cF (am (r_c 5 (hf) ?_));refine a_z ?_;refine an (Fin.many ⟨_,_,rfl,⟨_,_,_,_,_,rfl,rfl,rfl,.inl ⟨TG.h,_,TS.h,nle rfl,rfl⟩⟩,⟨_,_,rfl,rfl,rfl⟩⟩ (nle rfl) ?_);exact af (ah aE (aN hcl)) (af (ah aE (ag _)) ax)
def bdM(f:Nat)(d:Dt):Nat->Option Rat
 |0=>if Gy d []/\0< d.X.length then some (c8 (msD d [] (woD d []))) else none
 |n+1=>(vx f d n).map λr=>r.2.1
theorem qX(f:Nat)(d:Dt)(n:Nat)(b:Rat)(hn:n<=100)(h:bdM f d n=some b):FS 144 [.agg (dC d),i64 ((n:Int)- 1)] (.agg (qC b)):=by
 cases n with
 |zero=>
  change (if Gy d []/\0< d.X.length then some (c8 (msD d [] (woD d []))) else none)=some b at h;split at h
  case isFalse=>cases h
  case isTrue ok=>
  obtain⟨ok,hx0⟩:=ok;cases h;have hwo:=zO d [] ok;have hwl:woD d []< d.X.length:=xC _ _ hx0;have hmi:=xI d [] (woD d []) ok.2.1 ok.2.2.1 (ok.2.2.2 _ hwl);have hab:=eY (msD d [] (woD d []));refine f_n Tryz.func144 ?_ ?_;exact ae (aN (cX d)) (ae (ag _) ai);refine r_z 2 ?_;refine ac (q_z 2 ?_);refine cT (ac (r_d hmix 6 ?_));refine c_s (hwo) ?_;refine c_s (hmi) ?_;refine c_s (hab) ?_;refine a_1 ?_;refine ao (n_k ?_);exact an (c_e (aS _))
 |succ n=>
  change (vx f d n).map (λr=>r.2.1)=some b at h;cases hf:vx f d n with
  |none=>rw[hf] at h;cases h
  |some r=>
  rw[hf] at h;cases h;have hfi:=B8 f d n r hf;have e1:(((n+1:Nat):Int)- 1)=(n:Int):=ω
  rw[e1];refine f_n Tryz.func144 ?_ ?_;exact ae (aN (cX d)) (ae (ag _) ai);refine r_z 2 ?_;refine ac (q_z 2 ?_);refine cF (am (r_c 5 (hfi) ?_));refine a_z ?_;exact an (c_e (aS _))
theorem Dn(a:Rat)(n:Nat):(a^ n).num=a.num^ n/\(a^ n).den=a.den^ n:=⟨Rat.num_pow a n,Rat.den_pow a n⟩
theorem pow_sgn(z:Int)(n:Nat):z^ n=sgn (decide (z< 0) && decide (n % 2=1)) (z.natAbs^ n):=by
 have key:∀m:Nat,(-(m:Int)) ^ n=if n % 2=1 then -((m^ n:Nat):Int) else((m^ n:Nat):Int):=λm=>by
  induction n with
  |zero=>simp
  |succ k ih=>
   rw[Int.pow_succ,ih,Nat.pow_succ];by_cases h:k % 2=1;rw[if_pos h,if_neg ω,Int.natCast_mul,Int.neg_mul_neg];rw[if_neg h,if_pos ω,Int.natCast_mul,Int.mul_neg]
 unfold sgn;by_cases hz:z< 0;obtain⟨m,rfl⟩:∃m:Nat,z= -(m:Int):=⟨z.natAbs,ω⟩;rw[key m,decide_eq_true hz,Bool.true_and,Int.natAbs_neg,Int.natAbs_natCast];by_cases h:n % 2=1;rw[if_pos h,decide_eq_true h];rfl;rw[if_neg h,decide_eq_false h];rfl;obtain⟨m,rfl⟩:∃m:Nat,z=(m:Int):=⟨z.natAbs,ω⟩;rw[decide_eq_false hz,Bool.false_and,Int.natAbs_natCast];simp
theorem EV(a:Rat)(n:Nat)(hn:n<=1000)(h:qs a* n<=1000000000)(ha:qs a<=1000000000):FS 196 [.agg (qC a),i64 n] (.agg (qC (a^ n))):=by
 have hw:=we n 1000;rw[show wi (n:Int) 1000=n by unfold wi;omega] at hw;have h1:=dB a;have h2:=dp a;have p1:=qV a.num.natAbs n (Nat.le_trans (Nat.mul_le_mul_right _ h1) ω) ω;have p2:=qV a.den n (Nat.le_trans (Nat.mul_le_mul_right _ h2) ω) ω;have hb:=ef a ω;have hsm:=fy 1 δ;have hd:0< a.den^ n:=Nat.pow_pos a.den_pos
 have hbl:bl (a.den^ n)<=qs a* n+n+1:=by
  have:∀k,bl (a.den^ k)<=qs a* k+1:=λk=>by
   induction k with
   |zero=>rw[Nat.pow_zero];have:bl 1<=1:=δ
          omega
   |succ k ih=>
    rw[Nat.pow_succ,Nat.mul_succ];have:=gV (a.den^ k) a.den;omega
  have:=this n;omega
 have hls:=sR (a.den^ n) 1 ω hd
 have hq:qC (a^ n)=zI (sgn (decide (a.num< 0) && decide (n % 2=1)) (a.num.natAbs^ n))++[mag (a.den^ n- 1)]:=by
  unfold qC;rw[(Dn a n).1,(Dn a n).2,pow_sgn];rfl
 have hcl:=aS (a^ n);rw[hq] at hcl⊢;refine f_c Tryz.func196 ?_;refine r_z 2 ?_;refine r_c 3 (hw) ?_;refine a_z ?_;by_cases hz:a.num< 0;have hb1:decide (a.num< 0)=true:=decide_eq_true hz;rw[hb1,Bool.true_and] at hcl⊢;by_cases ho:n % 2=1;have ho1:decide (n % 2=1)=true:=decide_eq_true ho;rw[ho1] at hcl⊢;refine ac (r_d hmix 22 ?_);refine a_4 ?_;refine y_g rfl hb1 (.move rfl) ?_;refine y_g rfl hb1 (.bin rfl rfl (vk ω)) ?_;refine y_g rfl hb1 (.bin rfl rfl (vT aM (eqI ω))) ?_;refine o_0 (.pickT rfl hb1 rfl) ?_;refine c_s (p1) ?_;refine c_s (dS true (a.num.natAbs^ n)) ?_;refine c_s (hb) ?_;refine c_s (p2) ?_;refine c_s (hsm) ?_;refine c_s (hls) ?_;refine a_2 ?_;refine ao (n_k ?_);exact an (c_e (hcl));have ho1:decide (n % 2=1)=false:=decide_eq_false ho;rw[ho1] at hcl⊢;refine ac (r_d hmix 22 ?_);refine a_4 ?_;refine y_g rfl hb1 (.move rfl) ?_;refine y_g rfl hb1 (.bin rfl rfl (vk ω)) ?_;refine y_g rfl hb1 (.bin rfl rfl (vF aM (neI ω))) ?_;refine o_0 (.pickT rfl hb1 rfl) ?_;refine c_s (p1) ?_;refine c_s (dS false (a.num.natAbs^ n)) ?_;refine c_s (hb) ?_;refine c_s (p2) ?_;refine c_s (hsm) ?_;refine c_s (hls) ?_;refine a_2 ?_;refine ao (n_k ?_);exact an (c_e (hcl));have hb1:decide (a.num< 0)=false:=decide_eq_false hz;rw[hb1,Bool.false_and] at hcl⊢;refine ac (r_d hmix 22 ?_);refine a_4 ?_;refine n_g rfl hb1 ?_;refine n_g rfl hb1 ?_;refine n_g rfl hb1 ?_;refine o_0 (.pickF rfl hb1 rfl) ?_;refine c_s (p1) ?_;refine c_s (dS false (a.num.natAbs^ n)) ?_
 refine c_s (hb) ?_;refine c_s (p2) ?_;refine c_s (hsm) ?_;refine c_s (hls) ?_;refine a_2 ?_;refine ao (n_k ?_);exact an (c_e (hcl))
def lsF(d:Dt)(c:Rat)(n i:Nat):Rat:=coP d.Y i- c* coP d.X i^ n
def lsD(d:Dt)(c:Rat)(n:Nat):Dt:=⟨d.X,aH d.X.length (lsF d c n),d.W⟩
def lsY(d:Dt)(c:Rat)(n i:Nat):Lq:=aH i (lsF d c n)++d.Y.drop i
def okLs(d:Dt)(c:Rat)(n:Nat):Prop:=1<=d.X.length/\d.X.length<=60/\d.Y.length=d.X.length/\n<=100/\sz1 c/\∀i,i< d.X.length->qs (coP d.X i) * n<=1000000000/\qs (coP d.X i)<=1000000000/\sz1 (coP d.Y i)/\sz1 (coP d.X i^ n)/\sz1 (c* coP d.X i^ n)
instance (d:Dt) (c:Rat) (n:Nat):Decidable (okLs d c n):=inferInstanceAs (Decidable (_/\_/\_/\_/\_/\_))
theorem od(d:Dt)(c:Rat)(n i:Nat)(h:i<=d.Y.length):(lsY d c n i).length=d.Y.length:=by simp[lsY,aH];omega
theorem lsY_get(d:Dt)(c:Rat)(n:Nat){i:Nat}(h:i< d.Y.length):∀e,e=i->(pE (lsY d c n i))[e]?=some (qC (coP d.Y i)):=λe he=>by
 subst he;refine cj ?_;unfold lsY;rw[List.getElem?_append_right (by simp[aH]),List.getElem?_drop];have:(aH e (lsF d c n)).length=e:=by simp[aH]
 rw[this,Nat.sub_self,Nat.add_zero];exact bJ h
theorem lsY_set(d:Dt)(c:Rat)(n:Nat){i:Nat}(h:i< d.Y.length):∀e,e=i->(pE (lsY d c n i)).set e (qC (lsF d c n i))=pE (lsY d c n (i+1)):=λe he=>by
 subst he;rw[j5];congr 1;unfold lsY;have hl:(aH e (lsF d c n)).length=e:=by simp[aH]
 rw[List.set_append_right _ _ ω,hl,Nat.sub_self,List.drop_eq_getElem_cons h,List.set_cons_zero];simp[aH,List.range_succ]
theorem El(l:Lq)(h0:l≠[])(hl:l.length<=1099511627776):OSpec Tryz.prog 71 [.arr (pE l)] 42 3 (pE l):=by
 have hne:pE l≠[]:=by
  intro e;exact h0 (List.length_eq_zero_iff.1 (by rw[<-nj,e];rfl))
 refine OSpec.enter Tryz.func71 rfl κ rfl rfl rfl ?_ ?_ rfl ?_;exact ae (aU (aJ _)) ai;exact aJ l;refine r_z 1 ?_;refine ac (s_r 2 ?_);refine a_1 ?_
 first|refine av (.nilq_v rfl rfl te_29.h) rfl rfl ?_|refine av (.nilq_arr rfl (hne) rfl te_29.h) rfl rfl ?_
 refine ao ?_;refine cF ?_
 ·refine am (s_r 4 ?_)
  refine a_2 ?_;refine o_2 (.append_l rfl rfl rfl te_29.h rfl rfl rfl rfl rfl d_o η ξ rfl (.arr (fl _)) TZ.h rfl TB.h d_o μ) ?_;refine a_z ?_;exact an (FinO.tmp rfl rfl rfl ψ)
def lsS(d:Dt)(c:Rat)(n:Nat):Nat->AState
 |i=>⟨[(2,i64 n),(3,.lptr 1 0 0),(4,bQ c),(6,.lptr 2 0 0),(14,.arr (pE d.X)),(15,i64 d.X.length),(16,i64 i)],[(1,some ⟨82,3,[[.arr (pE d.X),.lsl 3 0 d.Y.length none 3,.arr (pE d.W)]]⟩),(2,some ⟨82,3,[[.emp,.emp,.emp]]⟩),(3,some ⟨42,3,pE (lsY d c n i)⟩)],4,38⟩
theorem Hs(d:Dt)(c:Rat)(n:Nat)(ok:okLs d c n):FS 147 [.agg (dC d),.agg (qC c),i64 n] (.agg (dC (lsD d c n))):=by
 obtain⟨o0,o1,o2,o3,o4,o5⟩:=ok;have hxl:(pE d.X).length=d.X.length:=by simp[pE]
 have hyl:(pE d.Y).length=d.Y.length:=by simp[pE]
 have hcl:=El d.Y (by intro e;rw[e] at o2;simp at o2;omega) ω;have h0:lsY d c n 0=d.Y:=by simp[lsY,aH]
 refine f_n Tryz.func147 ?_ ?_;exact ae (aN (cX d)) (ae (aS c) (ae (ag _) ai));refine r_z 3 ?_;refine s_r 5 ?_;refine a_2 ?_;refine o_1 (.callO rfl rfl rfl (hcl)) ?_;refine a_z ?_;refine ac (r_z 4 ?_);refine aG (λ_:Unit=>lsS d c n d.X.length) (λ_=>True) ?_ ?_;refine ak (aC (lsS d c n) (λi=>d.X.length- i) (λi=>i<=d.X.length) 0 (Nat.zero_le _) ?_ ?_);rw[lsS.eq_1,h0,<-hyl];refine s_x [(1,3),(2,6),(3,11)] (λhs=>?_) (λhs=>?_)
 ·repeat' (first|exact aF|refine aj rfl ?_ ?_|exact Cv.boxp hs rfl (aP rfl) rfl (bo _)|exact ah hs (aq _)|exact aX)
 ·repeat' (first|exact aD|refine h_c ?_ ?_|exact bZ hs (aJ _)|exact ay (af (ah hs (aq _)) (af (Cv.sl rfl rfl rfl) (af (ah hs (aq _)) ax)))|exact ay (CvL.clo hs (ae aK (ae aK (ae aK ai))))|exact bG|refine ay ?_|exact ax|refine af ?_ ?_|exact Cv.boxp hs rfl (aP rfl) rfl (bo _)|exact ah hs (aq _)|exact aX)
 intro i hi;rw[lsS.eq_1];by_cases hlt:i< d.X.length;obtain⟨k1,k2,k3,k4,k5⟩:=o5 i hlt;have hgx:∀e:Nat,e=i->(pE d.X)[e]?=some (qC (coP d.X i)):=λe he=>by rw[he];exact cj (bJ hlt)
 have hgy:=lsY_get d c n (i:=i) ω;have hst:=lsY_set d c n (i:=i) ω;have hpw:=EV (coP d.X i) n ω k1 k2;have hmu:=dq c (coP d.X i^ n) (o4.two k4);have hsu:=gO (coP d.Y i) (c* coP d.X i^ n) (k3.two k5);rw[show coP d.Y i- c* coP d.X i^ n=lsF d c n i from rfl] at hsu;have hln:(pE (lsY d c n i)).length=d.Y.length:=by rw[nj,od _ _ _ _ ω]
 have hln2:(lsY d c n i).length=(lsY d c n (i+1)).length:=by rw[od _ _ _ _ ω,od _ _ _ _ ω]
 refine q_z 1 ?_;refine ac (cT (am (ac (ak (s_r 6 ?_)))));refine a_1 ?_
 first|refine av (.index_l rfl rfl ω ω te_29.h) rfl rfl ?_|refine av (.index_a rfl rfl ω (hgx _ ω) rfl te_29.h) rfl rfl ?_
 first|refine av (.load_l rfl rfl (hgx _ ω) TG.h TS.h (nle rfl)) rfl rfl ?_|refine av (.load_a rfl (hgx _ ω) TG.h TS.h (nle rfl)) rfl rfl ?_
 refine a_z ?_;refine r_d hmix 16 ?_;refine a_7 ?_
 first|refine av (.load_l rfl rfl (hgy _ ω) TG.h TS.h (nle rfl)) rfl rfl ?_|refine av (.load_a rfl (hgy _ ω) TG.h TS.h (nle rfl)) rfl rfl ?_
 refine c_s (hpw) ?_;refine c_s (hmu) ?_;refine c_s (hsu) ?_;refine a_1 ?_;refine ee (.store rfl rfl (hgy _ ω) rfl rfl rfl TS.h (nle rfl)) ?_;refine ao (n_k ?_);refine r_m 2 ?_;refine a_z ?_;refine⟨i+1,ω,ω,?_⟩;rw[lsS.eq_1];refine s_x [] (λhs=>e_37) (λhs=>?_) ?_
 ·repeat' (first|exact aD|refine h_c ?_ ?_|exact aI hs (hst _ ω) (aJ _)|exact ay (af (ah hs (aq _)) (af (Cv.sl rfl rfl rfl) (af (ah hs (aq _)) ax)))|exact ay (CvL.clo hs (ae aK (ae aK (ae aK ai))))|exact bG|refine ay ?_|exact ax|refine af ?_ ?_|exact ah hs (aT _)|exact ah hs (aq _)|exact aX)
 ·repeat' (first|exact ShrL.nil|refine ShrL.cons rfl rfl rfl rfl (by first|(simp[hln2])|rfl|(simp;done)|(simp <;> omega)) ?_)
 have hge:i=d.X.length:=ω
 subst hge;refine q_z 1 ?_;refine ac (cF (aB ⟨(),trivial,?_⟩));show SEnt _ (lsS d c n d.X.length);rw[lsS.eq_1];refine s_x [] (λhs=>e_37) (λhs=>?_)
 ·repeat' (first|exact aD|refine h_c ?_ ?_|exact bZ hs (aJ _)|exact ay (af (ah hs (aq _)) (af (Cv.sl rfl rfl rfl) (af (ah hs (aq _)) ax)))|exact ay (CvL.clo hs (ae aK (ae aK (ae aK ai))))|exact bG|refine ay ?_|exact ax|refine af ?_ ?_|exact ah hs (aT _)|exact ah hs (aq _)|exact aX)
 rintro _ _;rw[lsS.eq_1]
 have he:lsY d c n d.X.length=aH d.X.length (lsF d c n):=by
  unfold lsY;rw[List.drop_eq_nil_of_le ω,List.append_nil]
 rw[he];have hln:(pE (aH d.X.length (lsF d c n))).length=d.Y.length:=by rw[eT];omega
 refine r_z 2 ?_;refine an (Fin.cell rfl rfl rfl TG.h TS.h (nle rfl) ?_);refine Cv.agg (af (ah aE (aq _)) (af ?_ (af (ah aE (aq _)) ax)));refine Cv.shut aE rfl (λ_ _ h=>by cases h) (by rw[Nat.zero_add];exact Nat.le_of_eq hln.symm) ?_;exact aI aE (by rw[List.drop_zero];exact List.take_of_length_le (Nat.le_of_eq hln)) (aJ _)
end Go.Proofs.YtjgokhkahkmpbaaGreatDoor
