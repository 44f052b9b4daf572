/- Part Z24 of the proof. -/
import Derived.Test.YtjgokhkahkmpbaaGreatDoorZ23
set_option linter.all false
namespace Go.Proofs.YtjgokhkahkmpbaaGreatDoor
open Go.Abs
set_option maxRecDepth 20000
set_option maxHeartbeats 4000000
def inS(p:Lq)(v:Lq):Nat→AState
 |i=>⟨[(0,.arr (pE p)),(1,.arr (pE v)),(23,.arr (pE p)),(24,i64 p.length),(25,i64 i)],[],1,69⟩
def inT(p:Lq)(v:Lq):Nat×Lq×Lq→AState
 |(i,out,zeros)=>⟨[(1,.arr (pE v)),(8,.arr (pE out)),(9,.arr (pE zeros)),(38,.arr (pE p)),(39,i64 p.length),(40,i64 i)],[],1,69⟩
theorem lL(p v r:Lq)(hl:p.length=v.length)(hl2:p.length≤41)(hp:smL p)(htw:oZ [] p=false)(h:yg p v [] (fP 1)=some r):FS 137 [.arr (pE p),.arr (pE v)] (.tup [.arr (pE r),i64 0]):=by
 refine f_c Tryz.func137 ?_;refine r_z 2 ?_;refine aZ (fun _:Unit=>⟨[(0,.arr (pE p)),(1,.arr (pE v))],[],1,69⟩) (fun _=>True) ?_ ?_;refine ak (r_z 6 ?_);refine au rfl (fun h1=>?_) (fun h1=>?_);exact absurd h1 (by simp[hl]);refine r_z 4 ?_;refine au rfl (fun h2=>?_) (fun h2=>?_);exact absurd h2 (by simp;omega);refine an ⟨(),trivial,?_⟩;exact s_e [];rintro _ _;refine ae (r_z 3 ?_);refine aH (fun _:Unit=>⟨[(0,.arr (pE p)),(1,.arr (pE v))],[],1,69⟩) (fun _=>True) ?_ ?_;refine ak (aC (inS p v) (fun i=>p.length- i) (fun i=>i≤p.length∧oZ (p.take i) (p.drop i)=false) 0 ⟨Nat.zero_le _,htw⟩ ?_ ?_);simp only[inS.eq_1];exact s_e [];rintro i ⟨hi,ht⟩;rw[inS.eq_1];refine r_z 1 ?_;refine ae (au rfl (fun h=>?_) (fun h=>?_));refine an ?_;have hlt:i< p.length:=by simpa using h
 have hgt:(pE p)[((i:Nat):Int).toNat]?=some (qC (coP p i)):=bK (bm hlt);rw[gC hlt,oZ,Bool.or_eq_false_iff] at ht;obtain⟨ht1,ht2⟩:=ht;have hco:=kV (p.take i) 186 [bQ (coP p i)] (fun b=>decide (coP p i=b)) (ac (aO _) ai) (by simp;omega) (fun q hq=>qD (coP p i) q (gG hp i) (hp q (List.mem_of_mem_take hq))) rfl;rw[ht1] at hco;refine ae (ak (s_r 6 ?_));refine a_1 ?_;refine i_x hgt ?_;refine l_x hgt ?_;refine a_z ?_;refine AWp.ent (st':=⟨[(0,.arr (pE p)),(1,.arr (pE v)),(6,i64 i),(7,bQ (coP p i)),(23,.arr (pE p)),(24,i64 p.length),(25,i64 i)],[],1,69⟩) ?_ ?_;exact s_e [];refine s_r 5 ?_;refine a_2 ?_;refine o_0 (.sa_h rfl rfl (h:=i) rfl (by simp;omega) te_29.h (eF _)) ?_;refine o_0 (.makeFunc rfl rfl) ?_;refine o_0 (.call rfl rfl rfl ((by rw[kx];exact hco))) ?_;refine aq ?_;refine cF (an (r_m 2 ?_));refine a_z ?_;refine⟨i+1,by omega,⟨hlt,by rw[dx (bm hlt)];exact ht2⟩,?_⟩;simp only[inS.eq_1];exact s_e [];refine aB ⟨(),trivial,?_⟩;exact s_e [];rintro _ _;refine r_c 4 (cN 1 (by decide)) ?_;refine c_s (jv 1) ?_;refine a_z ?_;refine ae (r_z 3 ?_);refine aH (fun _:Unit=>⟨[(8,.arr (pE r))],[],1,69⟩) (fun _=>True) ?_ ?_;refine ak (aC (inT p v) (fun x=>p.length- x.1) (fun x=>x.1≤p.length∧yg (p.drop x.1) (v.drop x.1) x.2.1 x.2.2=some r) (0,[],fP 1) ⟨Nat.zero_le _,h⟩ ?_ ?_);simp only[inT.eq_1];exact s_e [];rintro⟨i,out,zeros⟩ ⟨hi,hm⟩;simp only at hi hm;rw[inT.eq_1];refine r_z 1 ?_;refine ae (au rfl (fun h=>?_) (fun h=>?_))
 ·refine an ?_
  have hlt:i< p.length:=by simpa using h
  have hgp:(pE p)[((i:Nat):Int).toNat]?=some (qC (coP p i)):=bK (bm hlt);have hgv:(pE v)[((i:Nat):Int).toNat]?=some (qC (coP v i)):=bK (bm (by omega));rw[gC hlt,gC (show i< v.length by omega),yg] at hm;split at hm
  case isFalse=>cases hm
  case isTrue hk=>
  obtain⟨k1,k2,k3,k4,k5,k6,k7,k8,k9,k10,k11⟩:=hk;have e1:=yQ k3;have e2:=yQ k4;have e3:=sH (coP v i) (aA out (coP p i));have hsl:=eY zeros (inK (coP p i) (coP v i) out zeros);have hz:=k10.2.2.1;refine ae (ak (s_r 6 ?_));refine a_1 ?_;refine i_x hgp ?_;refine l_x hgp ?_;refine a_z ?_;refine ae (r_d hmix 14 ?_);refine a_2 ?_;refine i_x hgv ?_;refine l_x hgv ?_;refine c_s (eI out (coP p i) k3) ?_;refine c_s (gx (coP v i) (aA out (coP p i)) (sm2 k2 e1)) ?_;refine c_s (eI zeros (coP p i) k4) ?_;refine c_s (fE (coP v i- aA out (coP p i)) (aA zeros (coP p i)) k5 (by unfold sm at e1 e2 k2;omega)) ?_;refine a_2 ?_;refine aq (n_k ?_);refine r_c 6 (ii zeros (inK (coP p i) (coP v i) out zeros) k8 k6 (by omega)) ?_;refine c_s (tu out (cj zeros (inK (coP p i) (coP v i) out zeros)) k7 k9 (by omega) (by omega)) ?_;refine a_z ?_;refine r_m 6 ?_;refine c_s (jf (coP p i)) ?_;refine c_s (Co (-coP p i)) ?_;refine c_s (wB zeros [-coP p i,1] (mxL zeros) (mxL [-coP p i,1]) (dL _) (dL _) (dy _) (dy _) k10.1 k10.2.1 k10.2.2.1 k10.2.2.2) ?_;refine a_z ?_;refine r_m 2 ?_;refine a_z ?_;refine⟨(i+1,_,_),by simp only;omega,⟨hlt,hm⟩,?_⟩;simp only[inT.eq_1];exact s_e []
 have hge:i=p.length:=by
  have:¬i< p.length:=by simpa using h
  omega
 subst hge;rw[List.drop_length,yg] at hm;cases hm;refine aB ⟨(),trivial,?_⟩;exact s_e [];rintro _ _;refine r_z 3 ?_;refine am (Fin.many ⟨_,_,rfl,rfl,⟨_,_,rfl,rfl,rfl⟩⟩ (nle rfl) ?_);exact af (ah aE (ao _)) (af (ah aE (ag _)) ay)
theorem jM(i:Nat)(f:Nat→Rat):pE (aL (i+1) f)=pE (aL i f)++[qC (f i)]:=by simp[pE,aL,List.range_succ]
theorem eE(i:Nat)(f:Nat→Rat):(pE (aL i f)).length=i:=by simp[pE,aL]
theorem qY{i n:Nat}(f:Nat→Rat)(h:i< n):∀e,e=i→(pE (aL n f))[e]?=some (qC (f i)):=fun e he=>by
 subst he;refine bK ?_;unfold aL;rw[List.getElem?_map,List.getElem?_range h];rfl
theorem xq{i n:Nat}(f:Nat→Rat)(h:i≤n):(pE (aL n f)).take i=pE (aL i f):=by
 unfold aL;rw[kx,←List.map_take,List.take_range,Nat.min_eq_left h]
def lvV(b i:Nat):AV:=match i with|0=> .emp|i+1=> .lsl b 0 (i+1) none 3
def lvH(d:Dt)(L:Ln):Nat→Hp
 |0=>[]
 |i+1=>[(4,some ⟨42,3,pE (xsD d L (i+1))⟩),(5,some ⟨42,3,pE (trD d L (i+1))⟩)]
def lvS(d:Dt)(L:Ln):Nat→AState
 |i=>⟨[(1,.arr (nE L)),(2,bD d),(5,.lptr 1 0 0),(6,lvV 4 i),(7,lvV 5 i),(8,.lptr 2 0 0),(9,.lptr 3 0 0),(23,.arr (nE L)),(24,i64 L.length),(25,i64 i)],(1,some ⟨42,3,[zC]⟩)::(2,some ⟨42,3,[qC (tpD d L i)]⟩)::(3,some ⟨42,3,[qC (btD d L i)]⟩)::lvH d L i,6,131⟩
def lvI(d:Dt)(L:Ln)(i k:Nat):Nat→AState
 |j=>⟨[(1,.arr (nE L)),(2,bD d),(5,.lptr 1 0 0),(6,.lsl 4 0 (i+1) none 3),(7,.lsl 5 0 (i+1) none 3),(8,.lptr 2 0 0),(9,.lptr 3 0 0),(11,i64 k),(12,.lptr 6 0 0),(13,.lptr 7 0 0),(23,.arr (nE L)),(24,i64 L.length),(25,i64 i),(52,.arr (nE L)),(53,i64 L.length),(54,i64 j)],[(1,some ⟨42,3,[zC]⟩),(2,some ⟨42,3,[qC (tpD d L i)]⟩),(3,some ⟨42,3,[qC (btD d L i)]⟩),(4,some ⟨42,3,pE (xsD d L (i+1))⟩),(5,some ⟨42,3,pE (trD d L (i+1))⟩),(6,some ⟨42,3,[qC (sdD d i k)]⟩),(7,some ⟨42,3,[qC (prD d L k j)]⟩)],8,131⟩
def lvY(d:Dt)(L:Ln)(h:Rat):Nat→Hp
 |0=>[]
 |i+1=>[(3,some ⟨42,3,pE (ysD d L h (i+1))⟩)]
def lvT(d:Dt)(L:Ln)(h:Rat):Nat→AState
 |i=>⟨[(1,.arr (nE L)),(2,bD d),(5,.lptr 1 0 0),(6,.arr (pE (xsD d L L.length))),(7,.arr (pE (trD d L L.length))),(16,.lptr 2 0 0),(17,lvV 3 i),(93,.arr (nE L)),(94,i64 L.length),(95,i64 i)],(1,some ⟨42,3,[zC]⟩)::(2,some ⟨42,3,[qC h]⟩)::lvY d L h i,4,131⟩
theorem yv(d:Dt)(L:Ln)(p:Lq)(hy:d.Y.length=d.X.length)(hw:d.W.length=0∨d.W.length=d.X.length)(h:Ao d L=some p):FS 138 [.agg (dC d),.arr (nE L)] (.tup [.arr (pE p),.agg (qC (hD d L))]):=by
 unfold Ao at h;split at h
 case isFalse=>cases h
 case isTrue ok=>
 obtain⟨o1,o2,o3,o4,o5,o6,o7,o8⟩:=ok;have hll:(nE L).length=L.length:=iQ L
 have hmem:∀i,i< L.length→L.getD i 0∈L:=fun i hi=>by
  rw[List.getD_eq_getElem?_getD,List.getElem?_eq_getElem hi];exact List.getElem_mem hi
 have hq1:qs (1:Rat)≤1:=by decide
 have i1:=cN 1 (by decide);refine f_n Tryz.func138 ?_ ?_;exact ac (aK (cz d)) (ac (ce L) ai);refine r_z 3 ?_;refine r_z 2 ?_;refine r_z 2 ?_;refine ae (r_z 3 ?_);refine aH (fun _:Unit=>⟨[(1,.arr (nE L)),(2,bD d),(5,.lptr 1 0 0),(6,.arr (pE (xsD d L L.length))),(7,.arr (pE (trD d L L.length))),(8,.lptr 2 0 0),(9,.lptr 3 0 0)],[(1,some ⟨42,3,[zC]⟩),(2,some ⟨42,3,[qC (tpD d L L.length)]⟩),(3,some ⟨42,3,[qC (btD d L L.length)]⟩)],4,131⟩) (fun _=>True) ?_ ?_
 ·refine ak (aC (lvS d L) (fun i=>L.length- i) (fun i=>i≤L.length) 0 (Nat.zero_le _) ?_ ?_)
  rw[lvS.eq_1];simp only[lvV,lvH,tpD,btD];rw[qC0];refine s_x [(1,5),(2,8),(3,9)] (fun hs=>?_) (fun hs=>?_)
  ·repeat' (first|exact aG|refine aj rfl ?_ ?_|exact ah hs (ce L)|exact Cv.boxp hs rfl (aQ rfl) rfl (cz d)|exact aW)
  ·repeat' (first|exact aD|refine h_c ?_ ?_|exact aw (af (Cv.emp _) (af (ah hs (ag _)) (af (Cv.emp _) ay)))|exact bC|refine aw ?_|exact ay|refine af ?_ ?_|exact ah hs (ce L)|exact Cv.boxp hs rfl (aQ rfl) rfl (cz d)|exact aW)
  intro i hi;rw[lvS.eq_1];by_cases hlt:i< L.length;rotate_left;have hge:i=L.length:=by omega
  subst hge;refine q_z 1 ?_;refine ae (cF (aB ⟨(),trivial,?_⟩));obtain⟨m,hm⟩:∃m,L.length=m+1:=⟨L.length- 1,by omega⟩;rw[hm];simp only[lvV,lvH];have lx:(pE (xsD d L (m+1))).length=m+1:=eE _ _;have lt:(pE (trD d L (m+1))).length=m+1:=eE _ _;refine s_x [] (fun hs=>?_) (fun hs=>?_)
  ·repeat' (first|exact aG|refine aj rfl ?_ ?_|exact ah hs (ce L)|exact ah hs (bG d)|(refine Cv.shut hs rfl (aQ rfl) (by rw[Nat.zero_add];exact Nat.le_of_eq (Eq.symm (by first|exact lx|exact lt))) ?_;exact aI hs (by rw[List.drop_zero];exact List.take_of_length_le (Nat.le_of_eq (by first|exact lx|exact lt))) (aF _))|exact aW)
  ·repeat' (first|exact aD|refine h_c ?_ ?_|exact bC|refine aw ?_|exact ay|refine af ?_ ?_|exact ah hs (ce L)|exact ah hs (bG d)|(refine Cv.shut hs rfl (aQ rfl) (by rw[Nat.zero_add];exact Nat.le_of_eq (Eq.symm (by first|exact lx|exact lt))) ?_;exact aI hs (by rw[List.drop_zero];exact List.take_of_length_le (Nat.le_of_eq (by first|exact lx|exact lt))) (aF _))|exact aW)
  refine q_z 1 ?_;refine ae (cT (an ?_));obtain⟨k,hk⟩:∃k,k=L.getD i 0:=⟨_,rfl⟩;have hkm:k∈L:=by rw[hk];exact hmem i hlt
  obtain⟨k1,k2,k3,k4,k5⟩:=o3 k hkm;obtain⟨p1,p2⟩:=o4 k hkm;have hge:∀e:Nat,e=i→(nE L)[e]?=some [i64 (k:Nat)]:=fun e he=>by rw[hk];exact kz hlt he
  have hgx:∀e:Nat,e=k→(pE d.X)[e]?=some (qC (coP d.X k)):=fun e he=>by rw[he];exact bK (bm k1)
  have hgy:∀e:Nat,e=k→(pE d.Y)[e]?=some (qC (coP d.Y k)):=fun e he=>by rw[he];exact bK (bm (by omega))
  have hI:=cN (1- 2* ((i:Int) % 2)) (by omega);have hIe:(1- 2* ((i:Int) % 2))=1- 2* ((i % 2:Nat):Int):=by omega
  have hsz:qs ((1- 2* ((i % 2:Nat):Int):Int):Rat)≤1:=by
   have:i % 2=0∨i % 2=1:=by omega
   rcases this with e|e <;> rw[e]<;> decide
  have hwt:=uO d k (hw.imp id fun e=>by omega);have hov:=gz ((1- 2* ((i % 2:Nat):Int):Int):Rat) (wtD d k) k5 (by unfold sz1 at k4;omega);have hsd:=gi ((1- 2* ((i % 2:Nat):Int):Int):Rat) (wtD d k);rw[show((1- 2* ((i % 2:Nat):Int):Int):Rat) / wtD d k=sdD d i k from rfl] at hov hsd;have t1:=(o5 i (by omega)).1;have t2:=(o5 i (by omega)).2;refine ae (ak (s_r 5 ?_));refine a_1 ?_
  first|refine ax (.index_l rfl rfl (by omega) (by omega) te_45.h) rfl rfl ?_|refine ax (.index_a rfl rfl (by omega) (hge _ (by omega)) rfl te_45.h) rfl rfl ?_
  first|refine ax (.load_l1 rfl rfl (hge _ (by omega)) TG.h rfl) rfl rfl ?_|refine ax (.load_a1 rfl (hge _ (by omega)) TG.h rfl) rfl rfl ?_
  refine a_z ?_;refine ae (r_d hmix 11 ?_);refine c_s (hI) ?_;refine c_s (hwt) ?_;refine o_0 (.call rfl rfl rfl ((by rw[hIe];exact hov))) ?_;refine o_1 (.alloc TZ.h) ?_;refine ep (.store rfl rfl rfl rfl rfl rfl TS.h (nle rfl)) ?_;refine aq (n_k ?_);refine aZ (fun _:Unit=>⟨[(1,.arr (nE L)),(2,bD d),(5,.lptr 1 0 0),(6,.lsl 4 0 (i+1) none 3),(7,.lsl 5 0 (i+1) none 3),(8,.lptr 2 0 0),(9,.lptr 3 0 0),(11,i64 k),(12,.lptr 6 0 0),(23,.arr (nE L)),(24,i64 L.length),(25,i64 i)],[(1,some ⟨42,3,[zC]⟩),(2,some ⟨42,3,[qC (tpD d L i)]⟩),(3,some ⟨42,3,[qC (btD d L i)]⟩),(4,some ⟨42,3,pE (xsD d L (i+1))⟩),(5,some ⟨42,3,pE (trD d L (i+1))⟩),(6,some ⟨42,3,[qC (sdD d i k)]⟩)],7,131⟩) (fun _=>True) ?_ ?_;have ex:pE (xsD d L (i+1))=pE (xsD d L i)++[qC (coP d.X k)]:=by rw[hk];exact jM _ _
  have et:pE (trD d L (i+1))=pE (trD d L i)++[qC (sdD d i k)]:=by rw[hk];exact jM _ _
  cases i with
  |zero=>
   simp only[lvV,lvH];refine r_d hmix 14 ?_;refine a_4 ?_
   first|refine ax (.index_l rfl rfl (by omega) (by omega) te_29.h) rfl rfl ?_|refine ax (.index_a rfl rfl (by omega) (hgx _ (by omega)) rfl te_29.h) rfl rfl ?_
   first|refine ax (.load_l rfl rfl (hgx _ (by omega)) TG.h TS.h (nle rfl)) rfl rfl ?_|refine ax (.load_a rfl (hgx _ (by omega)) TG.h TS.h (nle rfl)) rfl rfl ?_
   refine a_8 ?_;refine aq (n_k ?_);refine⟨(),trivial,?_⟩;exact s_x [(4,6),(5,7),(6,12)] (fun hs=>e_2) (fun hs=>e_31)
  |succ i=>
   simp only[lvV,lvH];have lx:(pE (xsD d L (i+1))).length=i+1:=eE _ _;have lt:(pE (trD d L (i+1))).length=i+1:=eE _ _;refine r_d hmix 14 ?_;refine a_4 ?_
   first|refine ax (.index_l rfl rfl (by omega) (by omega) te_29.h) rfl rfl ?_|refine ax (.index_a rfl rfl (by omega) (hgx _ (by omega)) rfl te_29.h) rfl rfl ?_
   first|refine ax (.load_l rfl rfl (hgx _ (by omega)) TG.h TS.h (nle rfl)) rfl rfl ?_|refine ax (.load_a rfl (hgx _ (by omega)) TG.h TS.h (nle rfl)) rfl rfl ?_
   refine a_8 ?_;refine aq (n_k ?_);refine⟨(),trivial,?_⟩;exact s_x [(4,6),(5,7),(6,12)] (fun hs=>e_2) (fun hs=>e_31)
  rintro _ _;refine r_c 3 (i1) ?_;refine a_z ?_;refine ae (r_z 3 ?_);refine aH (fun _:Unit=>lvI d L i k L.length) (fun _=>True) ?_ ?_
  ·refine ak (aC (lvI d L i k) (fun j=>L.length- j) (fun j=>j≤L.length) 0 (Nat.zero_le _) ?_ ?_)
   rw[lvI.eq_1,show prD d L k 0=((1:Int):Rat) from rfl];exact s_x [(7,13)] (fun hs=>e_2) (fun hs=>e_7);intro j hj;rw[lvI.eq_1];by_cases hjl:j< L.length;rotate_left;have hge:j=L.length:=by omega
   subst hge;refine q_z 1 ?_;refine ae (cF (aB ⟨(),trivial,?_⟩));show SEnt _ (lvI d L i k L.length);rw[lvI.eq_1];exact s_x [] (fun hs=>e_2) (fun hs=>e_7);refine q_z 1 ?_;refine ae (cT (an ?_));obtain⟨c,hc⟩:∃c,c=L.getD j 0:=⟨_,rfl⟩;have hcm:c∈L:=by rw[hc];exact hmem j hjl
   obtain⟨c1,c2,_⟩:=o3 c hcm;have hgj:∀e:Nat,e=j→(nE L)[e]?=some [i64 (c:Nat)]:=fun e he=>by rw[hc];exact kz hjl he
   have hgc:∀e:Nat,e=c→(pE d.X)[e]?=some (qC (coP d.X c)):=fun e he=>by rw[he];exact bK (bm c1)
   have hsu:=gx (coP d.X k) (coP d.X c) (k2.two c2);have hqs:=sH (coP d.X k) (coP d.X c);have hpj:=p1 j (by omega);have hmu:=c7 (prD d L k j) (coP d.X k- coP d.X c) (by unfold sz1 at k2 c2 hpj;omega);refine ae (ak (s_r 3 ?_))
   first|refine ax (.index_l rfl rfl (by omega) (by omega) te_45.h) rfl rfl ?_|refine ax (.index_a rfl rfl (by omega) (hgj _ (by omega)) rfl te_45.h) rfl rfl ?_
   first|refine ax (.load_l1 rfl rfl (hgj _ (by omega)) TG.h rfl) rfl rfl ?_|refine ax (.load_a1 rfl (hgj _ (by omega)) TG.h rfl) rfl rfl ?_
   refine a_z ?_;by_cases hck:c=k;have hp':prD d L k (j+1)=prD d L k j:=by rw[prD,←hc,if_pos hck]
   refine s_r 3 ?_;refine a_2 ?_;refine o_0 (.bin rfl rfl (vF cu ((by rw[hck];simp)))) ?_;refine aq ?_;refine cF (an (r_m 2 ?_));refine a_z ?_;refine⟨j+1,by omega,by omega,?_⟩;rw[lvI.eq_1,hp'];exact s_x [] (fun hs=>e_2) (fun hs=>e_7);have hp':prD d L k (j+1)=prD d L k j* (coP d.X k- coP d.X c):=by rw[prD,←hc,if_neg hck]
   refine s_r 3 ?_;refine a_2 ?_;refine o_0 (.bin rfl rfl (vT cu ((by simpa using(show((c:Nat):Int)≠((k:Nat):Int) by omega))))) ?_;refine aq ?_;refine cT (r_d hmix 14 ?_);refine a_4 ?_
   first|refine ax (.index_l rfl rfl (by omega) (by omega) te_29.h) rfl rfl ?_|refine ax (.index_a rfl rfl (by omega) (hgx _ (by omega)) rfl te_29.h) rfl rfl ?_
   first|refine ax (.load_l rfl rfl (hgx _ (by omega)) TG.h TS.h (nle rfl)) rfl rfl ?_|refine ax (.load_a rfl (hgx _ (by omega)) TG.h TS.h (nle rfl)) rfl rfl ?_
   refine a_3 ?_
   first|refine ax (.index_l rfl rfl (by omega) (by omega) te_29.h) rfl rfl ?_|refine ax (.index_a rfl rfl (by omega) (hgc _ (by omega)) rfl te_29.h) rfl rfl ?_
   first|refine ax (.load_l rfl rfl (hgc _ (by omega)) TG.h TS.h (nle rfl)) rfl rfl ?_|refine ax (.load_a rfl (hgc _ (by omega)) TG.h TS.h (nle rfl)) rfl rfl ?_
   refine c_s (hsu) ?_;refine c_s (hmu) ?_;refine a_1 ?_;refine aq (n_k ?_);refine r_m 2 ?_;refine a_z ?_;refine⟨j+1,by omega,by omega,?_⟩;rw[lvI.eq_1,hp'];exact s_x [] (fun hs=>e_2) (fun hs=>e_7)
  rintro _ _;rw[lvI.eq_1];have hpl:=p1 L.length (by omega);have ho1:=gz (coP d.Y k) (prD d L k L.length) p2 (k3.two hpl);have hd1:=gi (coP d.Y k) (prD d L k L.length);have ha1:=ff (tpD d L i) (coP d.Y k/ prD d L k L.length) (by unfold sz1 at t1 k3 hpl;omega);have ho2:=gz (sdD d i k) (prD d L k L.length) p2 (by unfold sz1 at k4 hpl;omega);have hd2:=gi (sdD d i k) (prD d L k L.length);have ha2:=ff (btD d L i) (sdD d i k/ prD d L k L.length) (by unfold sz1 at t2 k4 hpl;omega);have e1:tpD d L i+coP d.Y k/ prD d L k L.length=tpD d L (i+1):=by rw[tpD,←hk]
  have e2:btD d L i+sdD d i k/ prD d L k L.length=btD d L (i+1):=by rw[btD,←hk]
  rw[e1] at ha1;rw[e2] at ha2;refine r_d hmix 16 ?_;refine a_4 ?_
  first|refine ax (.index_l rfl rfl (by omega) (by omega) te_29.h) rfl rfl ?_|refine ax (.index_a rfl rfl (by omega) (hgy _ (by omega)) rfl te_29.h) rfl rfl ?_
  first|refine ax (.load_l rfl rfl (hgy _ (by omega)) TG.h TS.h (nle rfl)) rfl rfl ?_|refine ax (.load_a rfl (hgy _ (by omega)) TG.h TS.h (nle rfl)) rfl rfl ?_
  refine c_s (ho1) ?_;refine c_s (ha1) ?_;refine c_s (ho2) ?_;refine c_s (ha2) ?_;refine a_2 ?_;refine aq (n_k ?_);refine r_m 2 ?_;refine a_z ?_;refine⟨i+1,by omega,by omega,?_⟩;rw[lvS.eq_1];simp only[lvV,lvH];exact s_x [] (fun hs=>e_2) (fun hs=>e_7)
 rintro _ _;have hh:=gz (tpD d L L.length) (btD d L L.length) o6 ((o5 L.length (by omega)).1.two (o5 L.length (by omega)).2);rw[show tpD d L L.length/ btD d L L.length=hD d L from rfl] at hh;obtain⟨H,hH⟩:∃H,H=hD d L:=⟨_,rfl⟩;rw[←hH] at hh h o7⊢;refine r_c 5 (hh) ?_;refine a_z ?_;refine r_z 1 ?_;refine ae (r_z 3 ?_);refine aH (fun _:Unit=>⟨[(1,.arr (nE L)),(5,.lptr 1 0 0),(6,.arr (pE (xsD d L L.length))),(16,.lptr 2 0 0),(17,.arr (pE (ysD d L H L.length)))],[(1,some ⟨42,3,[zC]⟩),(2,some ⟨42,3,[qC H]⟩)],3,131⟩) (fun _=>True) ?_ ?_
 ·refine ak (aC (lvT d L H) (fun i=>L.length- i) (fun i=>i≤L.length) 0 (Nat.zero_le _) ?_ ?_)
  rw[lvT.eq_1];simp only[lvV,lvY];refine s_x [(2,16)] (fun hs=>e_2) (fun hs=>?_)
  ·repeat' (first|exact aD|refine h_c ?_ ?_|exact aw (CvL.clo hs (aU _))|exact aw (CvL.clo hs bJ)|exact bC|refine aw ?_|exact ay|refine af ?_ ?_|exact ah hs (ce L)|exact ah hs (bG d)|exact aW)
  intro i hi;rw[lvT.eq_1];by_cases hlt:i< L.length;rotate_left;have hge:i=L.length:=by omega
  subst hge;refine q_z 1 ?_;refine ae (cF (aB ⟨(),trivial,?_⟩));obtain⟨m,hm⟩:∃m,L.length=m+1:=⟨L.length- 1,by omega⟩;rw[hm];simp only[lvV,lvY];have lx:(pE (ysD d L H (m+1))).length=m+1:=eE _ _;refine s_x [] (fun hs=>?_) (fun hs=>?_)
  ·repeat' (first|exact aG|refine aj rfl ?_ ?_|exact ah hs (ce L)|exact ah hs (bG d)|(refine Cv.shut hs rfl (aQ rfl) (by rw[Nat.zero_add];exact Nat.le_of_eq lx.symm) ?_;exact aI hs (by rw[List.drop_zero];exact List.take_of_length_le (Nat.le_of_eq lx)) (aF _))|exact aW)
  ·repeat' (first|exact aD|refine h_c ?_ ?_|exact aw (CvL.clo hs (aU _))|exact aw (CvL.clo hs bJ)|exact bC|refine aw ?_|exact ay|refine af ?_ ?_|exact ah hs (ce L)|exact ah hs (bG d)|(refine Cv.shut hs rfl (aQ rfl) (by rw[Nat.zero_add];exact Nat.le_of_eq lx.symm) ?_;exact aI hs (by rw[List.drop_zero];exact List.take_of_length_le (Nat.le_of_eq lx)) (aF _))|exact aW)
  refine q_z 1 ?_;refine ae (cT (an ?_));obtain⟨k,hk⟩:∃k,k=L.getD i 0:=⟨_,rfl⟩;have hkm:k∈L:=by rw[hk];exact hmem i hlt
  obtain⟨k1,k2,k3,k4,k5⟩:=o3 k hkm;have hge:∀e:Nat,e=i→(nE L)[e]?=some [i64 (k:Nat)]:=fun e he=>by rw[hk];exact kz hlt he
  have hgy:∀e:Nat,e=k→(pE d.Y)[e]?=some (qC (coP d.Y k)):=fun e he=>by rw[he];exact bK (bm (by omega))
  have hgt:∀e:Nat,e=i→(pE (trD d L L.length))[e]?=some (qC (sdD d i k)):=fun e he=>by rw[hk];exact qY (fun i=>sdD d i (L.getD i 0)) hlt e he
  have hsz:qs ((1- 2* ((i % 2:Nat):Int):Int):Rat)≤1:=by
   have:i % 2=0∨i % 2=1:=by omega
   rcases this with e|e <;> rw[e]<;> decide
  have hsd:=gi ((1- 2* ((i % 2:Nat):Int):Int):Rat) (wtD d k);rw[show((1- 2* ((i % 2:Nat):Int):Int):Rat) / wtD d k=sdD d i k from rfl] at hsd;have hmu:=c7 H (sdD d i k) (by unfold sz1 at o7 k4;omega);have hqm:=e8 H (sdD d i k);have hsu:=gx (coP d.Y k) (H* sdD d i k) (by unfold sz1 at o7 k4 k3;omega);have ey:pE (ysD d L H (i+1))=pE (ysD d L H i)++[qC (coP d.Y k- H* sdD d i k)]:=by rw[hk];exact jM _ _
  refine ae (ak (s_r 5 ?_));refine a_1 ?_
  first|refine ax (.index_l rfl rfl (by omega) (by omega) te_45.h) rfl rfl ?_|refine ax (.index_a rfl rfl (by omega) (hge _ (by omega)) rfl te_45.h) rfl rfl ?_
  first|refine ax (.load_l1 rfl rfl (hge _ (by omega)) TG.h rfl) rfl rfl ?_|refine ax (.load_a1 rfl (hge _ (by omega)) TG.h rfl) rfl rfl ?_
  refine a_z ?_;cases i with
  |zero=>
   simp only[lvV,lvY];refine r_d hmix 16 ?_;refine a_4 ?_
   first|refine ax (.index_l rfl rfl (by omega) (by omega) te_29.h) rfl rfl ?_|refine ax (.index_a rfl rfl (by omega) (hgy _ (by omega)) rfl te_29.h) rfl rfl ?_
   first|refine ax (.load_l rfl rfl (hgy _ (by omega)) TG.h TS.h (nle rfl)) rfl rfl ?_|refine ax (.load_a rfl (hgy _ (by omega)) TG.h TS.h (nle rfl)) rfl rfl ?_
   refine a_3 ?_
   first|refine ax (.index_l rfl rfl (by omega) (by omega) te_29.h) rfl rfl ?_|refine ax (.index_a rfl rfl (by omega) (hgt _ (by omega)) rfl te_29.h) rfl rfl ?_
   first|refine ax (.load_l rfl rfl (hgt _ (by omega)) TG.h TS.h (nle rfl)) rfl rfl ?_|refine ax (.load_a rfl (hgt _ (by omega)) TG.h TS.h (nle rfl)) rfl rfl ?_
   refine c_s (hmu) ?_;refine c_s (hsu) ?_;refine a_3 ?_;refine aq (n_k ?_);refine r_m 2 ?_;refine a_z ?_;refine⟨0+1,by omega,by omega,?_⟩;rw[lvT.eq_1];simp only[lvV,lvY];exact s_x [(3,17)] (fun hs=>e_2) (fun hs=>e_32)
  |succ i=>
   simp only[lvV,lvY];have lx:(pE (ysD d L H (i+1))).length=i+1:=eE _ _;refine r_d hmix 16 ?_;refine a_4 ?_
   first|refine ax (.index_l rfl rfl (by omega) (by omega) te_29.h) rfl rfl ?_|refine ax (.index_a rfl rfl (by omega) (hgy _ (by omega)) rfl te_29.h) rfl rfl ?_
   first|refine ax (.load_l rfl rfl (hgy _ (by omega)) TG.h TS.h (nle rfl)) rfl rfl ?_|refine ax (.load_a rfl (hgy _ (by omega)) TG.h TS.h (nle rfl)) rfl rfl ?_
   refine a_3 ?_
   first|refine ax (.index_l rfl rfl (by omega) (by omega) te_29.h) rfl rfl ?_|refine ax (.index_a rfl rfl (by omega) (hgt _ (by omega)) rfl te_29.h) rfl rfl ?_
   first|refine ax (.load_l rfl rfl (hgt _ (by omega)) TG.h TS.h (nle rfl)) rfl rfl ?_|refine ax (.load_a rfl (hgt _ (by omega)) TG.h TS.h (nle rfl)) rfl rfl ?_
   refine c_s (hmu) ?_;refine c_s (hsu) ?_;refine a_3 ?_;refine aq (n_k ?_);refine r_m 2 ?_;refine a_z ?_;refine⟨i+1+1,by omega,by omega,?_⟩;rw[lvT.eq_1];simp only[lvV,lvY];exact s_x [(3,17)] (fun hs=>e_2) (fun hs=>e_32)
 rintro _ _;obtain⟨m,hm⟩:∃m,L.length=m+1:=⟨L.length- 1,by omega⟩;rw[hm,Nat.add_sub_cancel] at h o8;have hxe:(pE (xsD d L L.length)).take m=pE (xsD d L m):=xq _ (by omega);have hye:(pE (ysD d L H L.length)).take m=pE (ysD d L H m):=xq _ (by omega)
 have hxm:smL (xsD d L m):=fun q hq=>by
  obtain⟨i,hi,rfl⟩:=List.mem_map.1 hq;exact(o3 _ (hmem i (by have:=List.mem_range.1 hi;omega))).2.1.sm
 have hint:=lL (xsD d L m) (ysD d L H m) p (by simp[xsD,ysD,aL]) (by simp[xsD,aL];omega) hxm o8 h;have lx:(pE (xsD d L L.length)).length=L.length:=eE _ _;have ly:(pE (ysD d L H L.length)).length=L.length:=eE _ _;refine r_z 4 ?_;refine ae (r_d hmix 12 ?_);refine a_2 ?_;refine o_0 (.sa_hE (h:=m) hxe rfl rfl (by omega) (by omega) te_29.h (eF _)) ?_;refine a_2 ?_;refine o_0 (.sa_hE (h:=m) hye rfl rfl (by omega) (by omega) te_29.h (eF _)) ?_;refine c_s (hint) ?_;refine a_5 ?_;refine aq (n_k ?_);refine ae (r_d hmix 4 ?_);refine a_4 ?_;refine aq (n_k ?_);refine am (Fin.many ⟨_,_,rfl,rfl,⟨_,_,rfl,⟨_,_,_,_,_,rfl,rfl,rfl,.inl ⟨TG.h,_,TS.h,nle rfl,rfl⟩⟩,rfl⟩⟩ (nle rfl) ?_);exact af (ah aE (ao _)) (af (ah aE (aM _)) ay)
abbrev beC(p:Lq)(e:Rat)(L:Ln):La:= .arr (pE p)::(qC e++[.arr (nE L)])
theorem cw{a b:La}(ha:∀c∈a,Closed c)(hb:∀c∈b,Closed c):∀c∈a++b,Closed c:=fun c hc=>(List.mem_append.1 hc).elim (ha c) (hb c)
theorem c8(p:Lq)(e:Rat)(L:Ln):∀c∈beC p e L,Closed c:=ac (ao p) (cw (aU e) (ac (ce L) ai))
theorem CK{r:Ren}{hp hp':Hq}(hs:Shr r hp hp'){b c:La}(h:CvL r hp hp' b c):∀{a:La},(∀x∈a,Closed x)→CvL r hp hp' (a++b) (a++c)
 |[],_=>h
 |x::a,ha=>af (ah hs (ha x (List.mem_cons_self ..))) (CK hs h fun y hy=>ha y (List.mem_cons_of_mem _ hy))
theorem A5{L:Ln}(x:Nat)(sg own:Int)(h:1≤L.length):(exM L x sg own).length=L.length:=by
 unfold exM;split;rw[List.length_cons,List.length_take];omega;split;rw[List.length_append,List.length_drop,List.length_singleton];omega;split <;> rw[List.length_set]
abbrev be0:La:= .emp::(zC++[.emp])
theorem ny:∀c∈be0,Closed c:=ac aN (cw bJ (ac aN ai))
def fiV(i:Nat):AV:=match i with|0=> .emp|i+1=> .lsl 2 0 (i+1) none 1
def fiH:Nat→Hp
 |0=>[]
 |i+1=>[(2,some ⟨3,1,nE (List.range (i+1))⟩)]
def fiA(d:Dt)(n:Nat):Nat→AState
 |i=>⟨[(2,bD d),(4,.lptr 1 0 0),(7,fiV i),(30,i64 ((n:Int)+2)),(31,i64 i)],(1,some ⟨78,5,[be0]⟩)::fiH i,3,73⟩
def fiB(d:Dt):Ln→AState
 |L=>⟨[(2,bD d),(4,.lptr 1 0 0),(7,.arr (nE L))],[(1,some ⟨78,5,[be0]⟩)],2,73⟩
theorem AO(f:Nat)(d:Dt)(n:Nat)(r:Lq×Rat×Ln)(hM:uk f d n=some r):FS 88 [.agg (dC d),i64 n] (.agg (beC r.1 r.2.1 r.2.2)):=by
 unfold uk at hM;have hxl:(pE d.X).length=d.X.length:=by simp[pE]
 by_cases hle:d.X.length≤n+1
 ·rw[if_pos hle] at hM
  split at hM
  case isFalse=>cases hM
  case isTrue ok=>
  obtain⟨o1,o2,o3,o4⟩:=ok;cases hp:yg d.X d.Y [] (fP 1) with
  |none=>rw[hp] at hM;cases hM
  |some p=>
  rw[hp] at hM;cases hM;have hint:=lL d.X d.Y p o1 (by omega) o3 o4 hp;refine f_n Tryz.func88 ?_ ?_;exact ac (aK (cz d)) (ac (ag _) ai);refine r_z 2 ?_;refine ae (q_z 6 ?_);refine cT (r_c 10 (hint) ?_);refine a_z ?_;refine r_z 3 ?_;refine am (Fin.cell rfl rfl rfl TG.h TS.h (nle rfl) ?_);show Cv _ _ _ _ (.agg (.arr (pE p)::(qC 0++[.arr []])));rw[qC0];exact Cv.agg (af (ah aE (ao p)) (af (Cv.emp _) (af (ah aE (ag _)) (af (Cv.emp _) (af (Cv.emp _) ay)))))
 ·rw[if_neg hle] at hM
  split at hM
  case isFalse=>cases hM
  case isTrue ok=>
  obtain⟨hy,hw,hn⟩:=ok;refine f_n Tryz.func88 ?_ ?_;exact ac (aK (cz d)) (ac (ag _) ai);refine r_z 2 ?_;refine ae (q_z 6 ?_);refine cF (an (r_z 1 ?_));refine ae (r_z 3 ?_);refine aH (fun _:Unit=>fiB d (List.range (n+2))) (fun _=>True) ?_ ?_;refine ak (aC (fiA d n) (fun i=>n+2- i) (fun i=>i≤n+2) 0 (Nat.zero_le _) ?_ ?_);rw[fiA.eq_1];simp only[fiV,fiH];have:=cz d;exact s_f [(1,4)];intro i hi;rw[fiA.eq_1];by_cases hlt:i< n+2;have hsn:nE (List.range (i+1))=nE (List.range i)++[[i64 i]]:=by rw[List.range_succ,po];rfl
  refine q_z 1 ?_;refine ae (cT (an (ae (ak (r_z 2 ?_)))));cases i with
  |zero=>
   simp only[fiV,fiH];refine r_m 5 ?_;refine a_z ?_;refine r_m 2 ?_;refine a_z ?_;refine⟨0+1,by omega,by omega,?_⟩;rw[fiA.eq_1];simp only[fiV,fiH];exact s_x [(2,7)] (fun hs=>e_33) (fun hs=>e_34)
  |succ i=>
   simp only[fiV,fiH];have hon:=sS (List.range (i+1));have hlr:(nE (List.range (i+1))).length=i+1:=by simp
   refine r_m 5 ?_;refine a_z ?_;refine r_m 2 ?_;refine a_z ?_;refine⟨i+1+1,by omega,by omega,?_⟩;rw[fiA.eq_1];simp only[fiV,fiH];exact s_x [(2,7)] (fun hs=>e_33) (fun hs=>e_34)
  have hge:i=n+2:=by omega
  subst hge;simp only[fiV,fiH];refine q_z 1 ?_;refine ae (cF (aB ⟨(),trivial,?_⟩));show SEnt _ (fiB d (List.range (n+2)));rw[fiB.eq_1];refine s_x [] (fun hs=>?_) (fun hs=>?_)
  ·repeat' (first|exact aG|refine aj rfl ?_ ?_|exact ah hs (bG d)|(refine Cv.shut hs rfl (aQ rfl) (by simp) ?_;exact aI hs (by rw[List.drop_zero];exact List.take_of_length_le (by simp)) (dm _))|exact aW)
  ·repeat' (first|exact aD|refine h_c ?_ ?_|exact aw (CvL.clo hs ny)|exact bC|refine aw ?_|exact ay|refine af ?_ ?_|exact ah hs (bG d)|(refine Cv.shut hs rfl (aQ rfl) (by simp) ?_;exact aI hs (by rw[List.drop_zero];exact List.take_of_length_le (by simp)) (dm _))|exact aW)
  rintro _ _;refine ak (aC (fun x:Nat×Ln=>fiB d x.2) (fun x=>x.1) (fun x=>fitM x.1 d x.2=some r∧2≤x.2.length) (f,List.range (n+2)) ⟨hM,by simp⟩ (SEnt.refl _) ?_);rintro⟨k,L⟩ ⟨hf,hL⟩;simp only at hf hL;simp only[fiB.eq_1];cases k with
  |zero=>cases hf
  |succ k=>
  rw[fitM] at hf;cases hlm:Ao d L with
  |none=>rw[hlm] at hf;cases hf
  |some p=>
  rw[hlm] at hf;simp only at hf;split at hf
  case isFalse=>cases hf
  case isTrue how=>
  have hlv:=yv d L p hy hw hlm
  have hok:EV d L:=by
   unfold Ao at hlm;split at hlm;assumption;cases hlm
  obtain⟨o1,o2,o3,o4,o5,o6,o7,o8⟩:=hok;have hwo:=ym d p how
  have hx0:0< d.X.length:=by
   have:L.getD 0 0∈L:=by rw[List.getD_eq_getElem?_getD,List.getElem?_eq_getElem (by omega)];exact List.getElem_mem _
   have:=(o3 _ this).1;omega
  have hwl:woD d p< d.X.length:=ws _ _ hx0;obtain⟨x,hx⟩:∃x,x=woD d p:=⟨_,rfl⟩;rw[←hx] at hf hwo hwl;have hmx:=how.2.2.2 x hwl;have hmi:=wx d p x hy hw hmx;obtain⟨m,hm⟩:∃m,m=msD d p x:=⟨_,rfl⟩;have hm1:=hmx.2.2.2.2.2.2;rw[←hm] at hf hmi hm1;obtain⟨H,hH⟩:∃H,H=hD d L:=⟨_,rfl⟩;rw[←hH] at hf hlv o7;have hcm:=dJ (cI m) (cI H) (by unfold sm;rw[qs_abs];exact hm1.sm) (by unfold sm;rw[qs_abs];exact o7.sm);refine ak (r_c 9 (hlv) ?_);refine a_z ?_;refine r_c 4 (hwo) ?_;refine a_z ?_;refine r_c 6 (hmi) ?_;refine a_z ?_;by_cases hc:cI m≤cI H;rw[if_pos hc] at hf
  have hcq:cZ (cI m) (cI H)≤0:=by
   have:¬0< cZ (cI m) (cI H):=fun e=>by have:=cq_gt.1 e;grind
   omega
  refine ae (ae (r_d hmix 6 ?_));refine c_s (eH m) ?_;refine c_s (eH H) ?_;refine c_s (hcm) ?_;refine m_1 ?_;refine aq (n_k ?_);refine cT ?_;by_cases h0:H=0;rw[if_pos h0] at hf;cases hf;refine ae (r_c 3 (b6 H) ?_);refine o_0 (.bin rfl rfl (vT aV (eqI (sgZ_num_eq.2 h0)))) ?_;refine aq ?_;refine cT (r_m 1 ?_);refine a_z ?_;refine r_c 6 (eH H) ?_;refine a_z ?_;refine am (Fin.cell rfl rfl rfl TG.h TS.h (nle rfl) ?_);exact Cv.agg (af (ah aE (ao p)) (CK aE (af (Cv.emp _) ay) (aU _)));rw[if_neg h0] at hf;cases hf;refine ae (r_c 3 (b6 H) ?_);refine o_0 (.bin rfl rfl (vF aV (neI (mt sgZ_num_eq.1 h0)))) ?_;refine aq ?_;refine cF (an (r_c 6 (eH H) ?_));refine a_z ?_;exact am (c_e (aK (c8 _ _ _)));rw[if_neg hc] at hf
  have hcq:¬cZ (cI m) (cI H)≤0:=by
   have:0< cZ (cI m) (cI H):=cq_gt.2 (by grind);omega
  have hex:=yA L x (sgO H) (sgZ m.num) ⟨hL,by omega⟩ (fun a ha=>by have:=(o3 a ha).1;have:=how.1;omega) (by have:=how.1;omega) (by unfold sgO;split <;> decide);refine ae (ae (r_d hmix 6 ?_));refine c_s (eH m) ?_;refine c_s (eH H) ?_;refine c_s (hcm) ?_;refine m_1 ?_;refine aq (n_k ?_);refine cF (an (r_d hmix 8 ?_));refine c_s (Dm H) ?_;refine c_s (b6 m) ?_;refine c_s (hex) ?_;refine a_1 ?_;refine aq (n_k ?_);refine⟨(k,exM L x (sgO H) (sgZ m.num)),by simp only;omega,⟨hf,by simp only;rw[A5 _ _ _ (by omega)];exact hL⟩,?_⟩;simp only[fiB.eq_1];refine s_x [] (fun hs=>?_) (fun hs=>?_)
  ·repeat' (first|exact aG|refine aj rfl ?_ ?_|exact ah hs (bG d)|exact ah hs (ce _)|exact aW)
  ·repeat' (first|exact aD|refine h_c ?_ ?_|exact aw (CvL.clo hs ny)|exact bC|refine aw ?_|exact ay|refine af ?_ ?_|exact ah hs (bG d)|exact ah hs (ce _)|exact aW)
theorem okDt_iff{d:Dt}:C6 d=true↔1≤d.X.length∧d.X.length≤60∧d.Y.length=d.X.length∧vP d.X=true∧(d.W.length=0∨d.W.length=d.X.length)∧(d.W.any fun w=>decide (w≤0))=false:=by
 unfold C6;simp only[Bool.and_eq_true,decide_eq_true_eq,Bool.or_eq_true,Bool.not_eq_true']
theorem oG(d:Dt)(h:C6 d=true)(hs:smL d.X):FS 87 [.agg (dC d)] (i64 0):=by
 obtain⟨h1,h2,h3,h4,h5,h6⟩:=okDt_iff.1 h;have hxl:(pE d.X).length=d.X.length:=by simp[pE]
 have hyl:(pE d.Y).length=d.Y.length:=by simp[pE]
 have hwl:(pE d.W).length=d.W.length:=by simp[pE]
 have hr:=uP d.X hs (by omega);rw[h4] at hr;have hc:=kV d.W 135 [] (fun w=>decide (w≤0)) ai (by omega) (fun q _=>fs_low q) rfl;rw[h6] at hc;refine f_n Tryz.func87 ?_ ?_;exact ac (aK (cz d)) ai;refine r_z 2 ?_;refine r_z 1 ?_;by_cases g:d.W.length=0;refine ae (s_r 46 ?_);refine d_8 ?_;refine d_8 ?_;refine m_1 ?_;refine bv rfl rfl rfl (.bin rfl rfl (vF cu ((by simp;omega)))) rfl rfl ?_;refine e_s (hr) ?_;refine e_s (hc) ?_;refine a_z ?_;refine cF (an (r_z 1 ?_));exact am (t_e (ag _));refine ae (s_r 46 ?_);refine d_8 ?_;refine d_8 ?_;refine m_1 ?_;refine bv rfl rfl rfl (.bin rfl rfl (vF cu ((by simp;omega)))) rfl rfl ?_;refine e_s (hr) ?_;refine d_8 ?_;refine d_6 ?_;refine bv rfl rfl rfl (.bin rfl rfl (vF cu ((by simp;omega)))) rfl rfl ?_;refine e_s (hc) ?_;refine a_z ?_;refine cF (an (r_z 1 ?_));exact am (t_e (ag _))
theorem fs_Fit(f:Nat)(d:Dt)(n:Nat)(r:Lq×Rat×Ln)(h:C6 d=true)(hs:smL d.X)(hn:n≤12)(hM:uk f d n=some r):FS 27 [.agg (dC d),i64 n] (.tup [.agg (beC r.1 r.2.1 r.2.2),i64 0]):=by
 have hc:=oG d h hs;have hf:=AO f d n r hM;have hcl:=c8 r.1 r.2.1 r.2.2;refine f_n Tryz.func27 ?_ ?_;exact ac (aK (cz d)) (ac (ag _) ai);refine r_z 3 ?_;refine ae (r_c 3 (hc) ?_);refine a_z ?_;refine s_r 2 ?_;refine a_1 ?_;refine o_0 (.bin rfl rfl (vF cu (rfl))) ?_;refine aq ?_;refine cF (an (ae (q_z 6 ?_)));refine cF (an (r_c 5 (hf) ?_));refine a_z ?_;refine am (Fin.many ⟨_,_,rfl,⟨_,_,_,_,_,rfl,rfl,rfl,.inl ⟨TG.h,_,TS.h,nle rfl,rfl⟩⟩,⟨_,_,rfl,rfl,rfl⟩⟩ (nle rfl) ?_);exact af (ah aE (aK hcl)) (af (ah aE (ag _)) ay)
def bdM(f:Nat)(d:Dt):Nat→Option Rat
 |0=>if ET d []∧0< d.X.length then some (cI (msD d [] (woD d []))) else none
 |n+1=>(uk f d n).map fun r=>r.2.1
theorem pG(f:Nat)(d:Dt)(n:Nat)(b:Rat)(hn:n≤100)(h:bdM f d n=some b):FS 144 [.agg (dC d),i64 ((n:Int)- 1)] (.agg (qC b)):=by
 cases n with
 |zero=>
  change (if ET d []∧0< d.X.length then some (cI (msD d [] (woD d []))) else none)=some b at h;split at h
  case isFalse=>cases h
  case isTrue ok=>
  obtain⟨ok,hx0⟩:=ok;cases h;have hwo:=ym d [] ok;have hwl:woD d []< d.X.length:=ws _ _ hx0;have hmi:=wx d [] (woD d []) ok.2.1 ok.2.2.1 (ok.2.2.2 _ hwl);have hab:=eH (msD d [] (woD d []));refine f_n Tryz.func144 ?_ ?_;exact ac (aK (cz d)) (ac (ag _) ai);refine r_z 2 ?_;refine ae (q_z 2 ?_);refine cT (ae (r_d hmix 6 ?_));refine c_s (hwo) ?_;refine c_s (hmi) ?_;refine c_s (hab) ?_;refine a_1 ?_;refine aq (n_k ?_);exact am (c_e (aM _))
 |succ n=>
  change (uk f d n).map (fun r=>r.2.1)=some b at h;cases hf:uk f d n with
  |none=>rw[hf] at h;cases h
  |some r=>
  rw[hf] at h;cases h;have hfi:=AO f d n r hf;have e1:(((n+1:Nat):Int)- 1)=(n:Int):=by omega
  rw[e1];refine f_n Tryz.func144 ?_ ?_;exact ac (aK (cz d)) (ac (ag _) ai);refine r_z 2 ?_;refine ae (q_z 2 ?_);refine cF (an (r_c 5 (hfi) ?_));refine a_z ?_;exact am (c_e (aM _))
theorem BY(a:Rat)(n:Nat):(a^ n).num=a.num^ n∧(a^ n).den=a.den^ n:=⟨Rat.num_pow a n,Rat.den_pow a n⟩
theorem pow_sgn(z:Int)(n:Nat):z^ n=sgn (decide (z< 0) && decide (n % 2=1)) (z.natAbs^ n):=by
 have key:∀m:Nat,(-(m:Int)) ^ n=if n % 2=1 then -((m^ n:Nat):Int) else((m^ n:Nat):Int):=fun m=>by
  induction n with
  |zero=>simp
  |succ k ih=>
   rw[Int.pow_succ,ih,Nat.pow_succ];by_cases h:k % 2=1;rw[if_pos h,if_neg (by omega),Int.natCast_mul,Int.neg_mul_neg];rw[if_neg h,if_pos (by omega),Int.natCast_mul,Int.mul_neg]
 unfold sgn;by_cases hz:z< 0;obtain⟨m,rfl⟩:∃m:Nat,z= -(m:Int):=⟨z.natAbs,by omega⟩;rw[key m,decide_eq_true hz,Bool.true_and,Int.natAbs_neg,Int.natAbs_natCast];by_cases h:n % 2=1;rw[if_pos h,decide_eq_true h];rfl;rw[if_neg h,decide_eq_false h];rfl;obtain⟨m,rfl⟩:∃m:Nat,z=(m:Int):=⟨z.natAbs,by omega⟩;rw[decide_eq_false hz,Bool.false_and,Int.natAbs_natCast];simp
theorem Dx(a:Rat)(n:Nat)(hn:n≤1000)(h:qs a* n≤1000000000)(ha:qs a≤1000000000):FS 196 [.agg (qC a),i64 n] (.agg (qC (a^ n))):=by
 have hw:=uN n 1000;rw[show wi (n:Int) 1000=n by unfold wi;omega] at hw;have h1:=ea a;have h2:=dO a;have p1:=pD a.num.natAbs n (Nat.le_trans (Nat.mul_le_mul_right _ h1) (by omega)) (by omega);have p2:=pD a.den n (Nat.le_trans (Nat.mul_le_mul_right _ h2) (by omega)) (by omega);have hb:=dW a (by omega);have hsm:=fe 1 (by decide);have hd:0< a.den^ n:=Nat.pow_pos a.den_pos
 have hbl:bl (a.den^ n)≤qs a* n+n+1:=by
  have:∀k,bl (a.den^ k)≤qs a* k+1:=fun k=>by
   induction k with
   |zero=>rw[Nat.pow_zero];have:bl 1≤1:=by decide
          omega
   |succ k ih=>
    rw[Nat.pow_succ,Nat.mul_succ];have:=gI (a.den^ k) a.den;omega
  have:=this n;omega
 have hls:=rp (a.den^ n) 1 (by omega) hd
 have hq:qC (a^ n)=zI (sgn (decide (a.num< 0) && decide (n % 2=1)) (a.num.natAbs^ n))++[mag (a.den^ n- 1)]:=by
  unfold qC;rw[(BY a n).1,(BY a n).2,pow_sgn];rfl
 have hcl:=aM (a^ n);rw[hq] at hcl⊢;refine f_c Tryz.func196 ?_;refine r_z 2 ?_;refine r_c 3 (hw) ?_;refine a_z ?_;by_cases hz:a.num< 0;have hb1:decide (a.num< 0)=true:=decide_eq_true hz;rw[hb1,Bool.true_and] at hcl⊢;by_cases ho:n % 2=1;have ho1:decide (n % 2=1)=true:=decide_eq_true ho;rw[ho1] at hcl⊢;refine ae (r_d hmix 22 ?_);refine a_4 ?_;refine y_g rfl hb1 (.move rfl) ?_;refine y_g rfl hb1 (.bin rfl rfl (ua (by omega))) ?_;refine y_g rfl hb1 (.bin rfl rfl (vT aV (eqI (by omega)))) ?_;refine o_0 (.pickT rfl hb1 rfl) ?_;refine c_s (p1) ?_;refine c_s (dz true (a.num.natAbs^ n)) ?_;refine c_s (hb) ?_;refine c_s (p2) ?_;refine c_s (hsm) ?_;refine c_s (hls) ?_;refine a_2 ?_;refine aq (n_k ?_);exact am (c_e (hcl));have ho1:decide (n % 2=1)=false:=decide_eq_false ho;rw[ho1] at hcl⊢;refine ae (r_d hmix 22 ?_);refine a_4 ?_;refine y_g rfl hb1 (.move rfl) ?_;refine y_g rfl hb1 (.bin rfl rfl (ua (by omega))) ?_;refine y_g rfl hb1 (.bin rfl rfl (vF aV (neI (by omega)))) ?_;refine o_0 (.pickT rfl hb1 rfl) ?_;refine c_s (p1) ?_;refine c_s (dz false (a.num.natAbs^ n)) ?_;refine c_s (hb) ?_;refine c_s (p2) ?_;refine c_s (hsm) ?_;refine c_s (hls) ?_;refine a_2 ?_;refine aq (n_k ?_);exact am (c_e (hcl));have hb1:decide (a.num< 0)=false:=decide_eq_false hz;rw[hb1,Bool.false_and] at hcl⊢;refine ae (r_d hmix 22 ?_);refine a_4 ?_;refine n_g rfl hb1 ?_;refine n_g rfl hb1 ?_;refine n_g rfl hb1 ?_;refine o_0 (.pickF rfl hb1 rfl) ?_;refine c_s (p1) ?_;refine c_s (dz false (a.num.natAbs^ n)) ?_
 refine c_s (hb) ?_;refine c_s (p2) ?_;refine c_s (hsm) ?_;refine c_s (hls) ?_;refine a_2 ?_;refine aq (n_k ?_);exact am (c_e (hcl))
def lsF(d:Dt)(c:Rat)(n i:Nat):Rat:=coP d.Y i- c* coP d.X i^ n
def lsD(d:Dt)(c:Rat)(n:Nat):Dt:=⟨d.X,aL d.X.length (lsF d c n),d.W⟩
def lsY(d:Dt)(c:Rat)(n i:Nat):Lq:=aL i (lsF d c n)++d.Y.drop i
def okLs(d:Dt)(c:Rat)(n:Nat):Prop:=1≤d.X.length∧d.X.length≤60∧d.Y.length=d.X.length∧n≤100∧sz1 c∧∀i,i< d.X.length→qs (coP d.X i) * n≤1000000000∧qs (coP d.X i)≤1000000000∧sz1 (coP d.Y i)∧sz1 (coP d.X i^ n)∧sz1 (c* coP d.X i^ n)
instance (d:Dt) (c:Rat) (n:Nat):Decidable (okLs d c n):=inferInstanceAs (Decidable (_∧_∧_∧_∧_∧_))
theorem mZ(d:Dt)(c:Rat)(n i:Nat)(h:i≤d.Y.length):(lsY d c n i).length=d.Y.length:=by simp[lsY,aL];omega
theorem lsY_get(d:Dt)(c:Rat)(n:Nat){i:Nat}(h:i< d.Y.length):∀e,e=i→(pE (lsY d c n i))[e]?=some (qC (coP d.Y i)):=fun e he=>by
 subst he;refine bK ?_;unfold lsY;rw[List.getElem?_append_right (by simp[aL]),List.getElem?_drop];have:(aL e (lsF d c n)).length=e:=by simp[aL]
 rw[this,Nat.sub_self,Nat.add_zero];exact bm h
theorem lsY_set(d:Dt)(c:Rat)(n:Nat){i:Nat}(h:i< d.Y.length):∀e,e=i→(pE (lsY d c n i)).set e (qC (lsF d c n i))=pE (lsY d c n (i+1)):=fun e he=>by
 subst he;rw[jD];congr 1;unfold lsY;have hl:(aL e (lsF d c n)).length=e:=by simp[aL]
 rw[List.set_append_right _ _ (by omega),hl,Nat.sub_self,List.drop_eq_getElem_cons h,List.set_cons_zero];simp[aL,List.range_succ]
theorem C3(l:Lq)(h0:l≠[])(hl:l.length≤1099511627776):OSpec Tryz.prog 71 [.arr (pE l)] 42 3 (pE l):=by
 have hne:pE l≠[]:=by
  intro e;exact h0 (List.length_eq_zero_iff.1 (by rw[←l4,e];rfl))
 refine OSpec.enter Tryz.func71 rfl (by kernel_rfl) rfl rfl rfl ?_ ?_ rfl ?_;exact ac (aP (aF _)) ai;exact aF l;refine r_z 1 ?_;refine ae (s_r 2 ?_);refine a_1 ?_
 first|refine ax (.nilq_v rfl rfl te_29.h) rfl rfl ?_|refine ax (.nilq_arr rfl (hne) rfl te_29.h) rfl rfl ?_
 refine aq ?_;refine cF ?_
 ·refine an (s_r 4 ?_)
  refine a_2 ?_;refine o_2 (.append_l rfl rfl rfl te_29.h rfl rfl rfl rfl rfl d_o (by first|exact dh _|exact df _|exact cL _|exact di _|exact de _|assumption|rfl|simp) (by first|rfl|exact dh _|exact df _|exact cL _|exact di _|exact de _|simp) rfl (.arr (eF _)) TZ.h rfl TB.h d_o (by first|(simp[maxLen];done)|(simp[maxLen];omega))) ?_;refine a_z ?_;exact am (FinO.tmp rfl rfl rfl (by simp))
def lsS(d:Dt)(c:Rat)(n:Nat):Nat→AState
 |i=>⟨[(2,i64 n),(3,.lptr 1 0 0),(4,bQ c),(6,.lptr 2 0 0),(14,.arr (pE d.X)),(15,i64 d.X.length),(16,i64 i)],[(1,some ⟨82,3,[[.arr (pE d.X),.lsl 3 0 d.Y.length none 3,.arr (pE d.W)]]⟩),(2,some ⟨82,3,[[.emp,.emp,.emp]]⟩),(3,some ⟨42,3,pE (lsY d c n i)⟩)],4,38⟩
theorem Fz(d:Dt)(c:Rat)(n:Nat)(ok:okLs d c n):FS 147 [.agg (dC d),.agg (qC c),i64 n] (.agg (dC (lsD d c n))):=by
 obtain⟨o0,o1,o2,o3,o4,o5⟩:=ok;have hxl:(pE d.X).length=d.X.length:=by simp[pE]
 have hyl:(pE d.Y).length=d.Y.length:=by simp[pE]
 have hcl:=C3 d.Y (by intro e;rw[e] at o2;simp at o2;omega) (by omega);have h0:lsY d c n 0=d.Y:=by simp[lsY,aL]
 refine f_n Tryz.func147 ?_ ?_;exact ac (aK (cz d)) (ac (aM c) (ac (ag _) ai));refine r_z 3 ?_;refine s_r 5 ?_;refine a_2 ?_;refine o_1 (.callO rfl rfl rfl (hcl)) ?_;refine a_z ?_;refine ae (r_z 4 ?_);refine aH (fun _:Unit=>lsS d c n d.X.length) (fun _=>True) ?_ ?_;refine ak (aC (lsS d c n) (fun i=>d.X.length- i) (fun i=>i≤d.X.length) 0 (Nat.zero_le _) ?_ ?_);rw[lsS.eq_1,h0,←hyl];refine s_x [(1,3),(2,6),(3,11)] (fun hs=>?_) (fun hs=>?_)
 ·repeat' (first|exact aG|refine aj rfl ?_ ?_|exact Cv.boxp hs rfl (aQ rfl) rfl (aU _)|exact ah hs (ao _)|exact aW)
 ·repeat' (first|exact aD|refine h_c ?_ ?_|exact b9 hs (aF _)|exact aw (af (ah hs (ao _)) (af (Cv.sl rfl rfl rfl) (af (ah hs (ao _)) ay)))|exact aw (CvL.clo hs (ac aN (ac aN (ac aN ai))))|exact bC|refine aw ?_|exact ay|refine af ?_ ?_|exact Cv.boxp hs rfl (aQ rfl) rfl (aU _)|exact ah hs (ao _)|exact aW)
 intro i hi;rw[lsS.eq_1];by_cases hlt:i< d.X.length;obtain⟨k1,k2,k3,k4,k5⟩:=o5 i hlt;have hgx:∀e:Nat,e=i→(pE d.X)[e]?=some (qC (coP d.X i)):=fun e he=>by rw[he];exact bK (bm hlt)
 have hgy:=lsY_get d c n (i:=i) (by omega);have hst:=lsY_set d c n (i:=i) (by omega);have hpw:=Dx (coP d.X i) n (by omega) k1 k2;have hmu:=c7 c (coP d.X i^ n) (o4.two k4);have hsu:=gx (coP d.Y i) (c* coP d.X i^ n) (k3.two k5);rw[show coP d.Y i- c* coP d.X i^ n=lsF d c n i from rfl] at hsu;have hln:(pE (lsY d c n i)).length=d.Y.length:=by rw[l4,mZ _ _ _ _ (by omega)]
 have hln2:(lsY d c n i).length=(lsY d c n (i+1)).length:=by rw[mZ _ _ _ _ (by omega),mZ _ _ _ _ (by omega)]
 refine q_z 1 ?_;refine ae (cT (an (ae (ak (s_r 6 ?_)))));refine a_1 ?_
 first|refine ax (.index_l rfl rfl (by omega) (by omega) te_29.h) rfl rfl ?_|refine ax (.index_a rfl rfl (by omega) (hgx _ (by omega)) rfl te_29.h) rfl rfl ?_
 first|refine ax (.load_l rfl rfl (hgx _ (by omega)) TG.h TS.h (nle rfl)) rfl rfl ?_|refine ax (.load_a rfl (hgx _ (by omega)) TG.h TS.h (nle rfl)) rfl rfl ?_
 refine a_z ?_;refine r_d hmix 16 ?_;refine a_7 ?_
 first|refine ax (.load_l rfl rfl (hgy _ (by omega)) TG.h TS.h (nle rfl)) rfl rfl ?_|refine ax (.load_a rfl (hgy _ (by omega)) TG.h TS.h (nle rfl)) rfl rfl ?_
 refine c_s (hpw) ?_;refine c_s (hmu) ?_;refine c_s (hsu) ?_;refine a_1 ?_;refine ep (.store rfl rfl (hgy _ (by omega)) rfl rfl rfl TS.h (nle rfl)) ?_;refine aq (n_k ?_);refine r_m 2 ?_;refine a_z ?_;refine⟨i+1,by omega,by omega,?_⟩;rw[lsS.eq_1];refine s_x [] (fun hs=>e_35) (fun hs=>?_) ?_
 ·repeat' (first|exact aD|refine h_c ?_ ?_|exact aI hs (hst _ (by omega)) (aF _)|exact aw (af (ah hs (ao _)) (af (Cv.sl rfl rfl rfl) (af (ah hs (ao _)) ay)))|exact aw (CvL.clo hs (ac aN (ac aN (ac aN ai))))|exact bC|refine aw ?_|exact ay|refine af ?_ ?_|exact ah hs (aO _)|exact ah hs (ao _)|exact aW)
 ·repeat' (first|exact ShrL.nil|refine ShrL.cons rfl rfl rfl rfl (by first|(simp[hln2])|rfl|(simp;done)|(simp <;> omega)) ?_)
 have hge:i=d.X.length:=by omega
 subst hge;refine q_z 1 ?_;refine ae (cF (aB ⟨(),trivial,?_⟩));show SEnt _ (lsS d c n d.X.length);rw[lsS.eq_1];refine s_x [] (fun hs=>e_35) (fun hs=>?_)
 ·repeat' (first|exact aD|refine h_c ?_ ?_|exact b9 hs (aF _)|exact aw (af (ah hs (ao _)) (af (Cv.sl rfl rfl rfl) (af (ah hs (ao _)) ay)))|exact aw (CvL.clo hs (ac aN (ac aN (ac aN ai))))|exact bC|refine aw ?_|exact ay|refine af ?_ ?_|exact ah hs (aO _)|exact ah hs (ao _)|exact aW)
 rintro _ _;rw[lsS.eq_1]
 have he:lsY d c n d.X.length=aL d.X.length (lsF d c n):=by
  unfold lsY;rw[List.drop_eq_nil_of_le (by omega),List.append_nil]
 rw[he];have hln:(pE (aL d.X.length (lsF d c n))).length=d.Y.length:=by rw[eE];omega
 refine r_z 2 ?_;refine am (Fin.cell rfl rfl rfl TG.h TS.h (nle rfl) ?_);refine Cv.agg (af (ah aE (ao _)) (af ?_ (af (ah aE (ao _)) ay)));refine Cv.shut aE rfl (fun _ _ h=>by cases h) (by rw[Nat.zero_add];exact Nat.le_of_eq hln.symm) ?_;exact aI aE (by rw[List.drop_zero];exact List.take_of_length_le (Nat.le_of_eq hln)) (aF _)
end Go.Proofs.YtjgokhkahkmpbaaGreatDoor
