/- Part V32 of the proof. -/
import Derived.Test.YtdgbhlkabelmbaaGreatDoorV31
set_option linter.all false
namespace Go.Proofs.YtdgbhlkabelmbaaGreatDoor
open Go.Abs
set_option maxRecDepth 20000
set_option maxHeartbeats 4000000
theorem Cd(a b:Rat)(ha:qs a≤20)(hb:qs b≤20):FS 19 [.agg (rC (rq a)++rC (rq b))] (bln (decide (a≤b))):=by
 have hc:=fs_rCmp (rq a) (rq b) (tJ _) (tJ _) (by show qs a+qs b≤_;omega);have d:∀c∈rC (rq a)++rC (rq b),Closed c:=fun c hc=>(List.mem_append.1 hc).elim (fQ _ c) (fQ _ c)
 have e:(decide (fy a b≤0))=decide (a≤b):=by
  unfold fy;by_cases h1:a< b;rw[if_pos h1,decide_eq_true (show a≤b by grind)];rfl;rw[if_neg h1];by_cases h2:a=b;rw[if_pos h2,decide_eq_true (show a≤b by grind)];rfl;rw[if_neg h2,decide_eq_false (show¬a≤b by grind)];rfl
 rw[←e];refine f_c Tryz.func19 ?_;refine r_z 2 ?_;refine r_c 7 (hc) ?_;refine a_z ?_;exact ai (t_e (ag _))
theorem ke_arr(l:List gD)(ho:∀t∈l,xu t)(hl:l.length≤9223372036854775807):∃K1 K2 b,FS 14 [.arr (twR l)] (.tup [.arr K1,.arr K2,bln b])∧Closed (.arr K1)∧Closed (.arr K2)∧(b=true→K1=kE (keM l)∧K2=keR (keM l)∧rY l=true):=by
 have h:=Cs l ho hl;unfold keV at h;cases e:rY l with
 |true=>rw[e] at h;exact⟨_,_,true,h,aU _,fD _,fun _=>⟨rfl,rfl,rfl⟩⟩
 |false=>rw[e] at h;exact⟨_,_,false,h,aU _,fD _,fun h=>by cases h⟩
theorem ri_arr(l:List fc)(ho:okR l)(hl:l.length≤9223372036854775807):∃k1 k2 b,FS 15 [.arr (nR l)] (.tup [.arr k1,.arr k2,bln b])∧Closed (.arr k1)∧Closed (.arr k2)∧(b=true→k1=pE (nL l)∧k2=rE (rP (nL l))∧l.length≤40∧(fj l 5=true∨20< bD (nL l))):=by
 have h:=Fg l ho hl;by_cases e:40< l.length;rw[if_pos e] at h;exact⟨_,_,false,h,ax _,eX _,fun h=>by cases h⟩;rw[if_neg e] at h;exact⟨_,_,_,h,ax _,eX _,fun h=>⟨rfl,rfl,by omega,by simpa using h⟩⟩
structure Posed (l:List gD)(ar br cr:fc)(gr:List fc):Prop where
 va:vaB (keM l)=true
 t:TmK (keM l)
 ok:tX (keM l)
 dg:bD (nL gr)≤20
 bg:bdL (nL gr) 20
 lg:(nL gr).length≤5
 qa:qs (nV ar)≤20
 qb:qs (nV br)≤20
 qc:qs (nV cr)≤20
 ab:nV ar≤nV br
theorem Hs(l:List gD)(ar br cr:fc)(gr:List fc)(ho:∀t∈l,xu t)(hll:l.length≤9223372036854775807)(ha:okN ar)(hb:okN br)(hc:okN cr)(hg:okR gr)(hgl:gr.length≤9223372036854775807):
    ∃(k1 g1:List (List AV)) (b:Bool),FS 4 [.arr (twR l),.agg (nuC ar.1 ar.2.1 ar.2.2++nuC br.1 br.2.1 br.2.2),.agg (nuC cr.1 cr.2.1 cr.2.2),.arr (nR gr)] (.tup [.agg (.arr k1::(qC (nV cr)++[.arr g1])),.agg (spC (nV ar) (nV br)),bln b])∧Closed (.arr k1)∧Closed (.arr g1)∧(b=true→k1=kE (keM l)∧g1=pE (nL gr)∧Posed l ar br cr gr):=by
 obtain⟨k1,O,K,q,v,E,A⟩:=ke_arr l ho hll;obtain⟨g1,N,F,f,s,L,C⟩:=ri_arr gr hg hgl;have ht:=pK [ar,br,cr] 3 (by simp) (by decide);have u:=x8 ar.1 ar.2.1 br.1 br.2.1 ar.2.2 br.2.2 ha.1 ha.2.1 ha.2.2 hb.1 hb.2.1 hb.2.2;have b2:=pQ cr.1 cr.2.1 cr.2.2 hc.1 hc.2.1 hc.2.2;have n:∀c∈nuC ar.1 ar.2.1 ar.2.2++nuC br.1 br.2.1 br.2.2,Closed c:=fun c hc=>(List.mem_append.1 hc).elim (fe ar c) (fe br c);have d:∀c∈ .arr k1::(qC (nV cr)++[.arr g1]),Closed c:=ac v fun c hc=>(List.mem_append.1 hc).elim (aZ _ c) (ac s af c)
 have m:∀b:Bool,FS 4 [.arr (twR l),.agg (nuC ar.1 ar.2.1 ar.2.2++nuC br.1 br.2.1 br.2.2),.agg (nuC cr.1 cr.2.1 cr.2.2),.arr (nR gr)] (.tup [.agg (.arr k1::(qC (nV cr)++[.arr g1])),.agg (spC (nV ar) (nV br)),bln b])→(b=true→k1=kE (keM l)∧g1=pE (nL gr)∧Posed l ar br cr gr)→
  ∃(k1 g1:List (List AV)) (b:Bool),FS 4 [.arr (twR l),.agg (nuC ar.1 ar.2.1 ar.2.2++nuC br.1 br.2.1 br.2.2),.agg (nuC cr.1 cr.2.1 cr.2.2),.arr (nR gr)] (.tup [.agg (.arr k1::(qC (nV cr)++[.arr g1])),.agg (spC (nV ar) (nV br)),bln b])∧Closed (.arr k1)∧Closed (.arr g1)∧(b=true→k1=kE (keM l)∧g1=pE (nL gr)∧Posed l ar br cr gr):=fun b h1 M=>
  ⟨k1,g1,b,h1,v,s,M⟩
 cases K with
 |false=>
  refine m false ?_ (fun h=>by cases h);refine f_n Tryz.func4 ?_ ?_;exact ac (cY l) (ac (aC n) (ac (aC (fe cr)) (ac (aH (cj gr)) af)));refine r_z 5 ?_;refine r_c 9 (q) ?_;refine a_z ?_;refine r_c 9 (f) ?_;refine a_z ?_;refine r_c 9 (u) ?_;refine a_z ?_;refine r_c 9 (b2) ?_;refine a_z ?_;refine r_z 6 ?_;refine ae (r_d a6 28 ?_);refine d_8 ?_;refine d_8 ?_;refine d_8 ?_;refine d_4 ?_;refine ao (n_k ?_);refine ai (Fin.many ⟨_,_,rfl,⟨_,_,_,_,_,rfl,rfl,rfl,.inl ⟨TG.h,_,TS.h,nle rfl,rfl⟩⟩,⟨_,_,rfl,⟨_,_,_,_,_,rfl,rfl,rfl,.inl ⟨TG.h,_,TS.h,nle rfl,rfl⟩⟩,⟨_,_,rfl,rfl,rfl⟩⟩⟩ (nle rfl) ?_);exact ah (am aD (aC d)) (ah (am aD (aC (aY _ _))) (ah (am aD (ag _)) av))
 |true=>
 cases F with
 |false=>
  refine m false ?_ (fun h=>by cases h);refine f_n Tryz.func4 ?_ ?_;exact ac (cY l) (ac (aC n) (ac (aC (fe cr)) (ac (aH (cj gr)) af)));refine r_z 5 ?_;refine r_c 9 (q) ?_;refine a_z ?_;refine r_c 9 (f) ?_;refine a_z ?_;refine r_c 9 (u) ?_;refine a_z ?_;refine r_c 9 (b2) ?_;refine a_z ?_;refine r_z 6 ?_;refine ae (r_d a6 28 ?_);refine d_8 ?_;refine d_8 ?_;refine d_8 ?_;refine d_4 ?_;refine ao (n_k ?_);refine ai (Fin.many ⟨_,_,rfl,⟨_,_,_,_,_,rfl,rfl,rfl,.inl ⟨TG.h,_,TS.h,nle rfl,rfl⟩⟩,⟨_,_,rfl,⟨_,_,_,_,_,rfl,rfl,rfl,.inl ⟨TG.h,_,TS.h,nle rfl,rfl⟩⟩,⟨_,_,rfl,rfl,rfl⟩⟩⟩ (nle rfl) ?_);exact ah (am aD (aC d)) (ah (am aD (aC (aY _ _))) (ah (am aD (ag _)) av))
 |true=>
 cases et:fj [ar,br,cr] 3 with
 |false=>
  rw[et] at ht;refine m false ?_ (fun h=>by cases h);refine f_n Tryz.func4 ?_ ?_;exact ac (cY l) (ac (aC n) (ac (aC (fe cr)) (ac (aH (cj gr)) af)));refine r_z 5 ?_;refine r_c 9 (q) ?_;refine a_z ?_;refine r_c 9 (f) ?_;refine a_z ?_;refine r_c 9 (u) ?_;refine a_z ?_;refine r_c 9 (b2) ?_;refine a_z ?_;refine r_z 6 ?_;refine ae (r_d a6 28 ?_);refine d_8 ?_;refine d_4 ?_;refine AR.op1y rfl rfl rfl (.buildSlice te_27.h TZ.h rfl (by decide) rfl rfl rfl (by simp[nuC])) rfl rfl ?_;refine AR.op1y rfl rfl rfl (.callS1 rfl rfl rfl (.shut rfl d_n (.keep (.nil))) rfl (ht)) rfl rfl ?_;refine d_8 ?_;refine d_6 ?_;refine ao (n_k ?_);refine ai (Fin.many ⟨_,_,rfl,⟨_,_,_,_,_,rfl,rfl,rfl,.inl ⟨TG.h,_,TS.h,nle rfl,rfl⟩⟩,⟨_,_,rfl,⟨_,_,_,_,_,rfl,rfl,rfl,.inl ⟨TG.h,_,TS.h,nle rfl,rfl⟩⟩,⟨_,_,rfl,rfl,rfl⟩⟩⟩ (nle rfl) ?_);exact ah (am aD (aC d)) (ah (am aD (aC (aY _ _))) (ah (am aD (ag _)) av))
 |true=>
 rw[et] at ht;obtain⟨rfl,rfl,o⟩:=A rfl;obtain⟨rfl,rfl,k,y⟩:=C rfl
 have z:okR [ar,br,cr]:=fun r f=>by
  simp only[List.mem_cons,List.not_mem_nil,or_false] at f;rcases f with rfl|rfl|rfl
  exact ha;exact hb;exact hc
 obtain⟨B,_⟩:=oJ et z;have qa:qs (nV ar)≤20:=B _ (by simp[nL]);have qb:qs (nV br)≤20:=B _ (by simp[nL]);have qc:qs (nV cr)≤20:=B _ (by simp[nL]);have w:(nL gr).length≤40:=by simpa[nL] using k
 have e:bD (nL gr)≤20→bdL (nL gr) 20∧(nL gr).length≤5:=fun h=>by
  rcases y with h1|h1
  exact oJ h1 hg;omega
 obtain⟨J,D,H⟩:=G5 ho o;have x:∀p∈keM l,p.1.length≤1099511627776∧p.2.length≤1099511627776:=fun p hp=>by have:=D p hp;omega
 have a:=HH (keM l) (nL gr) J (fun p hp=>by have:=D p hp;omega) (by omega);have i:=Cd (nV ar) (nV br) qa qb;cases eb:(!vaB (keM l)||decide (20< bD (nL gr))) with
 |true=>
  rw[eb] at a;refine m false ?_ (fun h=>by cases h);refine f_n Tryz.func4 ?_ ?_;exact ac (cY l) (ac (aC n) (ac (aC (fe cr)) (ac (aH (cj gr)) af)));refine r_z 5 ?_;refine r_c 9 (q) ?_;refine a_z ?_;refine r_c 9 (f) ?_;refine a_z ?_;refine r_c 9 (u) ?_;refine a_z ?_;refine r_c 9 (b2) ?_;refine a_z ?_;refine r_z 6 ?_;refine ae (r_d a6 28 ?_);refine d_8 ?_;refine d_4 ?_;refine AR.op1y rfl rfl rfl (.buildSlice te_27.h TZ.h rfl (by decide) rfl rfl rfl (by simp[nuC])) rfl rfl ?_;refine AR.op1y rfl rfl rfl (.callS1 rfl rfl rfl (.shut rfl d_n (.keep (.nil))) rfl (ht)) rfl rfl ?_;refine e_s (a) ?_;refine d_8 ?_;refine m_1 ?_;refine ao (n_k ?_);refine ai (Fin.many ⟨_,_,rfl,⟨_,_,_,_,_,rfl,rfl,rfl,.inl ⟨TG.h,_,TS.h,nle rfl,rfl⟩⟩,⟨_,_,rfl,⟨_,_,_,_,_,rfl,rfl,rfl,.inl ⟨TG.h,_,TS.h,nle rfl,rfl⟩⟩,⟨_,_,rfl,rfl,rfl⟩⟩⟩ (nle rfl) ?_);exact ah (am aD (aC d)) (ah (am aD (aC (aY _ _))) (ah (am aD (ag _)) av))
 |false=>
 rw[eb] at a;rw[Bool.or_eq_false_iff] at eb;have g:vaB (keM l)=true:=by simpa using eb.1
 have j:bD (nL gr)≤20:=by have:=of_decide_eq_false eb.2;omega
 obtain⟨v1,v2,G⟩:=H g;obtain⟨bg,lg⟩:=e j;refine m (decide (nV ar≤nV br)) ?_ (fun h=>⟨rfl,rfl,g,⟨v1,v2,G⟩,okKe_va g x,j,bg,lg,qa,qb,qc,of_decide_eq_true h⟩);refine f_n Tryz.func4 ?_ ?_;exact ac (cY l) (ac (aC n) (ac (aC (fe cr)) (ac (aH (cj gr)) af)));refine r_z 5 ?_;refine r_c 9 (q) ?_;refine a_z ?_;refine r_c 9 (f) ?_;refine a_z ?_;refine r_c 9 (u) ?_;refine a_z ?_;refine r_c 9 (b2) ?_;refine a_z ?_;refine r_z 6 ?_;refine ae (r_d a6 28 ?_);refine d_8 ?_;refine d_4 ?_;refine AR.op1y rfl rfl rfl (.buildSlice te_27.h TZ.h rfl (by decide) rfl rfl rfl (by simp[nuC])) rfl rfl ?_;refine AR.op1y rfl rfl rfl (.callS1 rfl rfl rfl (.shut rfl d_n (.keep (.nil))) rfl (ht)) rfl rfl ?_;refine e_s (a) ?_;refine e_s (i) ?_;refine a_4 ?_;refine ao (n_k ?_);refine ai (Fin.many ⟨_,_,rfl,⟨_,_,_,_,_,rfl,rfl,rfl,.inl ⟨TG.h,_,TS.h,nle rfl,rfl⟩⟩,⟨_,_,rfl,⟨_,_,_,_,_,rfl,rfl,rfl,.inl ⟨TG.h,_,TS.h,nle rfl,rfl⟩⟩,⟨_,_,rfl,rfl,rfl⟩⟩⟩ (nle rfl) ?_);exact ah (am aD (aC d)) (ah (am aD (aC (aY _ _))) (ah (am aD (ag _)) av))
def zoS(A:Mx)(n:Nat)(L:List Nat)(f:Nat):List Nat→AState
 |[]=>⟨[(1,bSy n A L),(3,.emp),(9,i64 n),(10,i64 f)],[],1,51⟩
 |q::F=>⟨[(1,bSy n A L),(3,.lsl 1 0 (F.length+1) none 1),(9,i64 n),(10,i64 f)],[(1,some ⟨37,1,mE ((q::F).map (ij A n L))⟩)],2,51⟩
theorem yK(A:Mx)(n:Nat)(L:List Nat)(f:Nat):zoS A n L f []=⟨[(1,bSy n A L),(3,.emp),(9,i64 n),(10,i64 f)],[],1,51⟩:=rfl
theorem vp(A:Mx)(n:Nat)(L:List Nat)(f q:Nat)(F:List Nat):zoS A n L f (q::F)=⟨[(1,bSy n A L),(3,.lsl 1 0 (F.length+1) none 1),(9,i64 n),(10,i64 f)],[(1,some ⟨37,1,mE ((q::F).map (ij A n L))⟩)],2,51⟩:=rfl
def ziS(A:Mx)(n:Nat)(L:List Nat)(f:Nat):Nat→AState
 |i=>⟨[(1,bSy n A L),(3,.emp),(4,i64 f),(5,.lsl 1 0 n (some n) 3),(9,i64 n),(10,i64 f),(25,.arr (lvE L)),(26,i64 L.length),(27,i64 i)],[(1,some ⟨36,3,pE (zeJ A n L f i)⟩)],2,51⟩
def zjS(A:Mx)(n:Nat)(L:List Nat)(f q:Nat)(F:List Nat):Nat→AState
 |i=>⟨[(1,bSy n A L),(3,.lsl 1 0 (F.length+1) none 1),(4,i64 f),(5,.lsl 2 0 n (some n) 3),(9,i64 n),(10,i64 f),(25,.arr (lvE L)),(26,i64 L.length),(27,i64 i)],[(1,some ⟨37,1,mE ((q::F).map (ij A n L))⟩),(2,some ⟨36,3,pE (zeJ A n L f i)⟩)],3,51⟩
theorem xG(k:List (List Rat)):(mE k).all (·.all AV.one)=true:=by
 rw[List.all_eq_true];intro x a;obtain⟨p,_,rfl⟩:=List.mem_map.1 a;rfl
theorem mE_snoc(f:Nat→List Rat)(F:List Nat)(x:Nat):mE (F.map f)++[[.arr (pE (f x))]]=mE ((F++[x]).map f):=by simp[mE]
theorem Hg(A:Mx)(n:Nat)(L:List Nat)(hE:Ech A n n L)(hn:n≤25):FS 92 [syV n (A,L)] (.arr (mE ((frL L n).map (ij A n L)))):=by
 have v:(lvE L).length=L.length:=jH L;have D:=hE.len2;have u:FS 9 [i64 1] (.agg (qC 1)):=du 1 (by decide);refine f_n Tryz.func92 ?_ ?_;exact ac (fz n A L) af;refine r_z 2 ?_;refine AWp.ent (st':=⟨[(1,bSy n A L)],[],1,51⟩) ?_ ?_;have:=dO n A L;exact s_f [];refine r_z 1 ?_;refine ae (r_z 3 ?_);refine aG (fun _:Unit=>⟨[(3,.arr (mE ((frL L n).map (ij A n L))))],[],1,51⟩) (fun _=>True) ?_ ?_;refine aj (aB (fun f=>zoS A n L f (frL L f)) (fun f=>n- f) (fun f=>f≤n) 0 (Nat.zero_le _) ?_ ?_);rw[frL_0,yK];have:=bm n A L;exact s_f [];intro f hf;by_cases hlt:f< n;have hc:=pO L f (by omega);have m:=ya L f;cases hb:L.contains f with
 |true=>
  rw[hb] at hc;cases hF:frL L f with
  |nil=>
   rw[yK];refine q_z 1 ?_;refine ae (cT (ak (ae (aj (r_z 2 ?_)))));refine ae (r_c 4 (hc) ?_);refine ao ?_;refine cT (ay (r_m 2 ?_));refine a_z ?_;refine⟨f+1,by omega,by omega,?_⟩;rw[x9 hb,hF,yK];have:=bm n A L;exact s_f []
  |cons q F=>
   rw[vp];refine q_z 1 ?_;refine ae (cT (ak (ae (aj (r_z 2 ?_)))));refine ae (r_c 4 (hc) ?_);refine ao ?_;refine cT (ay (r_m 2 ?_));refine a_z ?_;refine⟨f+1,by omega,by omega,?_⟩;rw[x9 hb,hF,vp];have:=bm n A L;exact s_f [(1,3)]
 |false=>
  rw[hb] at hc;cases hF:frL L f with
  |nil=>
   rw[yK];refine q_z 1 ?_;refine ae (cT (ak (ae (aj (r_z 2 ?_)))));refine ae (r_c 4 (hc) ?_);refine ao ?_;refine cF (ak (r_z 4 ?_));refine AWp.ent (st':=⟨[(1,bSy n A L),(3,.emp),(4,i64 f),(5,.lsl 1 0 n (some n) 3),(9,i64 n),(10,i64 f)],[(1,some ⟨36,3,pE (List.replicate n 0)⟩)],2,51⟩) ?_ ?_;refine s_x [(1,5)] (fun hs=>e_24) (fun hs=>?_)
   ·repeat' (first|exact aE|refine h_c ?_ ?_|exact CvLL.zeros hs n|exact bC|refine az ?_|exact av|refine ah ?_ ?_|exact am hs (bm n A L)|exact aV)
   have l:(pE (List.replicate n (0:Rat)))[(0+((f:Nat):Int).toNat)]?=some (qC 0):=by simp[pE,hlt]
   have r:(pE (List.replicate n (0:Rat))).length=n:=by simp[pE]
   refine r_c 5 (u) ?_;refine a_1 ?_;refine dX (.store rfl rfl l rfl rfl rfl TS.h (nle rfl)) ?_;refine ao ?_;refine ae (r_z 4 ?_);refine aG (fun _:Unit=>⟨[(1,bSy n A L),(3,.emp),(5,.lsl 1 0 n (some n) 3),(9,i64 n),(10,i64 f)],[(1,some ⟨36,3,pE (ij A n L f)⟩)],2,51⟩) (fun _=>True) ?_ ?_;refine aj (aB (ziS A n L f) (fun i=>L.length- i) (fun i=>i≤L.length) 0 (Nat.zero_le _) ?_ ?_);rw[ziS.eq_1,←zeJ_0];refine s_x [(1,5)] (fun hs=>e_1) (fun hs=>?_)
   ·repeat' (first|exact aE|refine h_c ?_ ?_|exact aI hs (by rw[←iY];simp;rfl) (aJ _)|exact bC|refine az ?_|exact av|refine ah ?_ ?_|exact am hs (bm n A L)|exact am hs (aH (cO L))|exact aV)
   intro i C;rw[ziS.eq_1];by_cases hli:i< L.length;obtain⟨c,hc⟩:∃c,L[i]?=some c:=⟨_,List.getElem?_eq_getElem hli⟩;have d:=hE.lt i c hc;have k:i< n:=by omega
   have e:(lvE L)[((i:Nat):Int).toNat]?=some [i64 c]:=sC hc _ (by simp);have b:(mE (jY n A))[((i:Nat):Int).toNat]?=some [.arr (pE (aO (n+1) (A i)))]:=gx (jk k) _ (by simp);have a:(pE (aO (n+1) (A i)))[((f:Nat):Int).toNat]?=some (qC (A i f)):=dh (by omega) _ (by simp);have p:(mE (jY n A)).length=n:=by simp
   have o:(pE (aO (n+1) (A i))).length=n+1:=by simp[pE]
   have s:(pE (zeJ A n L f i)).length=n:=by simp[pE]
   obtain⟨z,j⟩:=C8 (A:=A) (L:=L) (f:=f) (i:=i) d (0+((c:Nat):Int).toNat) (by omega);refine q_z 1 ?_;refine ae (cT (ak (ae (aj (s_r 5 ?_)))));refine a_1 ?_;refine i_x e ?_;refine l_1 e ?_;refine a_z ?_;refine r_m 13 ?_;refine a_5 ?_;refine i_x b ?_;refine l_1 b ?_;refine a_1 ?_;refine i_x a ?_;refine l_x a ?_;refine c_s (kq _) ?_;refine a_1 ?_;refine dX (.store rfl rfl j rfl rfl rfl TS.h (nle rfl)) ?_;refine ao ?_;refine r_m 2 ?_;refine a_z ?_;refine⟨i+1,by omega,by omega,?_⟩;rw[ziS.eq_1];refine s_x [(1,5)] (fun hs=>e_1) (fun hs=>?_)
   ·repeat' (first|exact aE|refine h_c ?_ ?_|exact aI hs (zeJ_s hE hc d (0+((c:Nat):Int).toNat) (by omega)) (aJ _)|exact bC|refine az ?_|exact av|refine ah ?_ ?_|exact am hs (bm n A L)|exact am hs (aH (cO L))|exact aV)
   have g:i=L.length:=by omega
   refine q_z 1 ?_;refine ae (cF (ay ⟨(),trivial,?_⟩));rw[←zeJ_n (i:=i) (by omega)];refine s_x [(1,5)] (fun hs=>e_1) (fun hs=>?_)
   ·repeat' (first|exact aE|refine h_c ?_ ?_|exact a8 hs (aJ _)|exact bC|refine az ?_|exact av|refine ah ?_ ?_|exact am hs (bm n A L)|exact am hs (aH (cO L))|exact aV)
   rintro _ _;refine r_m 5 ?_;refine a_z ?_;refine r_m 2 ?_;refine a_z ?_;refine⟨f+1,by omega,by omega,?_⟩;rw[sP hb,hF,List.nil_append,vp];refine s_x [(1,3)] (fun hs=>e_24) (fun hs=>?_)
   ·repeat' (first|exact aE|refine h_c ?_ ?_|exact az (y:=[.arr (pE (ij A n L f))]) (ah (Cv.shut hs rfl (aM rfl) (by simp[pE]) (aI hs (by rw[List.drop_zero];exact List.take_of_length_le (by simp[pE])) (aJ (ij A n L f)))) av)|exact bC|refine az ?_|exact av|refine ah ?_ ?_|exact am hs (bm n A L)|exact aV)
  |cons q F=>
   rw[vp];refine q_z 1 ?_;refine ae (cT (ak (ae (aj (r_z 2 ?_)))));refine ae (r_c 4 (hc) ?_);refine ao ?_;refine cF (ak (r_z 4 ?_));refine AWp.ent (st':=⟨[(1,bSy n A L),(3,.lsl 1 0 (F.length+1) none 1),(4,i64 f),(5,.lsl 2 0 n (some n) 3),(9,i64 n),(10,i64 f)],[(1,some ⟨37,1,mE ((q::F).map (ij A n L))⟩),(2,some ⟨36,3,pE (List.replicate n 0)⟩)],3,51⟩) ?_ ?_;refine s_x [(1,3),(2,5)] (fun hs=>e_24) (fun hs=>?_)
   ·repeat' (first|exact aE|refine h_c ?_ ?_|exact CvLL.zeros hs n|exact a8 hs (cb _)|exact bC|refine az ?_|exact av|refine ah ?_ ?_|exact am hs (bm n A L)|exact aV)
   have l:(pE (List.replicate n (0:Rat)))[(0+((f:Nat):Int).toNat)]?=some (qC 0):=by simp[pE,hlt]
   have r:(pE (List.replicate n (0:Rat))).length=n:=by simp[pE]
   refine r_c 5 (u) ?_;refine a_1 ?_;refine dX (.store rfl rfl l rfl rfl rfl TS.h (nle rfl)) ?_;refine ao ?_;refine ae (r_z 4 ?_);refine aG (fun _:Unit=>⟨[(1,bSy n A L),(3,.lsl 1 0 (F.length+1) none 1),(5,.lsl 2 0 n (some n) 3),(9,i64 n),(10,i64 f)],[(1,some ⟨37,1,mE ((q::F).map (ij A n L))⟩),(2,some ⟨36,3,pE (ij A n L f)⟩)],3,51⟩) (fun _=>True) ?_ ?_;refine aj (aB (zjS A n L f q F) (fun i=>L.length- i) (fun i=>i≤L.length) 0 (Nat.zero_le _) ?_ ?_);rw[zjS.eq_1,←zeJ_0];refine s_x [(1,3),(2,5)] (fun hs=>e_1) (fun hs=>?_)
   ·repeat' (first|exact aE|refine h_c ?_ ?_|exact aI hs (by rw[←iY];simp;rfl) (aJ _)|exact a8 hs (cb _)|exact bC|refine az ?_|exact av|refine ah ?_ ?_|exact am hs (bm n A L)|exact am hs (aH (cO L))|exact aV)
   intro i C;rw[zjS.eq_1];by_cases hli:i< L.length;obtain⟨c,hc⟩:∃c,L[i]?=some c:=⟨_,List.getElem?_eq_getElem hli⟩;have d:=hE.lt i c hc;have k:i< n:=by omega
   have e:(lvE L)[((i:Nat):Int).toNat]?=some [i64 c]:=sC hc _ (by simp);have b:(mE (jY n A))[((i:Nat):Int).toNat]?=some [.arr (pE (aO (n+1) (A i)))]:=gx (jk k) _ (by simp);have a:(pE (aO (n+1) (A i)))[((f:Nat):Int).toNat]?=some (qC (A i f)):=dh (by omega) _ (by simp);have p:(mE (jY n A)).length=n:=by simp
   have o:(pE (aO (n+1) (A i))).length=n+1:=by simp[pE]
   have s:(pE (zeJ A n L f i)).length=n:=by simp[pE]
   obtain⟨z,j⟩:=C8 (A:=A) (L:=L) (f:=f) (i:=i) d (0+((c:Nat):Int).toNat) (by omega);refine q_z 1 ?_;refine ae (cT (ak (ae (aj (s_r 5 ?_)))));refine a_1 ?_;refine i_x e ?_;refine l_1 e ?_;refine a_z ?_;refine r_m 13 ?_;refine a_5 ?_;refine i_x b ?_;refine l_1 b ?_;refine a_1 ?_;refine i_x a ?_;refine l_x a ?_;refine c_s (kq _) ?_;refine a_1 ?_;refine dX (.store rfl rfl j rfl rfl rfl TS.h (nle rfl)) ?_;refine ao ?_;refine r_m 2 ?_;refine a_z ?_;refine⟨i+1,by omega,by omega,?_⟩;rw[zjS.eq_1];refine s_x [(1,3),(2,5)] (fun hs=>e_1) (fun hs=>?_)
   ·repeat' (first|exact aE|refine h_c ?_ ?_|exact aI hs (zeJ_s hE hc d (0+((c:Nat):Int).toNat) (by omega)) (aJ _)|exact a8 hs (cb _)|exact bC|refine az ?_|exact av|refine ah ?_ ?_|exact am hs (bm n A L)|exact am hs (aH (cO L))|exact aV)
   have g:i=L.length:=by omega
   refine q_z 1 ?_;refine ae (cF (ay ⟨(),trivial,?_⟩));rw[←zeJ_n (i:=i) (by omega)];refine s_x [(1,3),(2,5)] (fun hs=>e_1) (fun hs=>?_)
   ·repeat' (first|exact aE|refine h_c ?_ ?_|exact a8 hs (aJ _)|exact a8 hs (cb _)|exact bC|refine az ?_|exact av|refine ah ?_ ?_|exact am hs (bm n A L)|exact am hs (aH (cO L))|exact aV)
   rintro _ _;have w:F.length+1≤f:=by rw[hF] at m;simpa using m
   have B:(mE ((q::F).map (ij A n L))).length=F.length+1:=by simp
   have t:(mE ((q::F).map (ij A n L))).all (·.all AV.one)=true:=xG _;refine r_m 5 ?_;refine a_z ?_;refine r_m 2 ?_;refine a_z ?_;refine⟨f+1,by omega,by omega,?_⟩;rw[sP hb,hF,List.cons_append,vp];refine s_x [(1,3)] (fun hs=>?_) (fun hs=>?_)
   ·repeat' (first|exact aN|refine aA rfl ?_ ?_|exact am hs (bm n A L)|(refine Cv.slE rfl rfl rfl rfl ?_ rfl;simp;done)|exact aV)
   ·repeat' (first|exact aE|refine h_c ?_ ?_|exact IL (wO (x:=[.lsl 2 0 n (some n) 3]) (ah (Cv.shut hs rfl (aM rfl) (by simp[pE]) (aI hs (by rw[List.drop_zero];exact List.take_of_length_le (by simp[pE])) (aJ (ij A n L f)))) av) (a8 hs (cb _))) (mE_snoc _ _ _)|exact bC|refine az ?_|exact av|refine ah ?_ ?_|exact am hs (bm n A L)|(refine Cv.slE rfl rfl rfl rfl ?_ rfl;simp;done)|exact aV)
 have g:f=n:=by omega
 cases hF:frL L f with
 |nil=>
  rw[yK];refine q_z 1 ?_;refine ae (cF (ay ⟨(),trivial,?_⟩));rw[←g,hF];exact s_e []
 |cons q F=>
  rw[vp];refine q_z 1 ?_;refine ae (cF (ay ⟨(),trivial,?_⟩));rw[←g,hF];exact s_x [] (fun hs=>e_53) (fun hs=>e_54)
 rintro _ _;refine r_z 2 ?_;exact ai (t_e (closed_mA _))
theorem vX(a b:List (List Rat)):mE (a++b)=mE a++mE b:=by simp[mE]
def erS(k:List (List Rat))(g:Nat)(fst:List AV)(f:List Rat→List Rat):Nat→AState
 |0=>⟨[(1,.clos g fst []),(8,.arr (mE k)),(9,i64 k.length),(10,i64 0),(5,.emp)],[],1,22⟩
 |i+1=>⟨[(1,.clos g fst []),(8,.arr (mE k)),(9,i64 k.length),(10,i64 ((i+1:Nat):Int)),(5,.lsl 1 0 (i+1) none 1)],[(1,some ⟨38,1,mE ((k.take (i+1)).map f)⟩)],2,22⟩
theorem HV(k:List (List Rat))(g:Nat)(fst:List AV)(f:List Rat→List Rat):erS k g fst f 0=⟨[(1,.clos g fst []),(8,.arr (mE k)),(9,i64 k.length),(10,i64 0),(5,.emp)],[],1,22⟩:=rfl
theorem D9(k:List (List Rat))(g:Nat)(fst:List AV)(f:List Rat→List Rat)(i:Nat):erS k g fst f (i+1)=⟨[(1,.clos g fst []),(8,.arr (mE k)),(9,i64 k.length),(10,i64 ((i+1:Nat):Int)),(5,.lsl 1 0 (i+1) none 1)],[(1,some ⟨38,1,mE ((k.take (i+1)).map f)⟩)],2,22⟩:=rfl
theorem HC(k:List (List Rat))(g:Nat)(fst:List AV)(f:List Rat→List Rat)(hfst:∀c∈fst,Closed c)(hl:k.length≤1000)(hg:∀p∈k,FS g ((fst++[AV.arr (pE p)]++[]).map coe) (.arr (pE (f p)))):FS 91 [.arr (mE k),.clos g fst []] (.arr (mE (k.map f))):=by
 have o:(mE k).length=k.length:=(by simp[mE]:(mE k).length=k.length);have e:Closed (.clos g fst []):=aP hfst af;refine f_c Tryz.func91 ?_;refine r_z 1 ?_;refine r_z 1 ?_;refine ae (r_z 3 ?_);refine aG (fun _:Unit=>⟨[(5,.arr (mE (k.map f)))],[],1,22⟩) (fun _=>True) ?_ ?_;refine aj (aB (erS k g fst f) (fun i=>k.length- i) (fun i=>i≤k.length) 0 (Nat.zero_le _) ?_ ?_);rw[HV];refine s_x [] (fun hs=>e_25) (fun hs=>?_)
 ·repeat' (first|exact aE|refine h_c ?_ ?_|exact bC|refine az ?_|exact av|refine ah ?_ ?_|exact am hs (closed_mA k)|exact am hs e|exact aV)
 intro i q;by_cases hlt:i< k.length;obtain⟨p,hp⟩:∃p,k[i]?=some p:=⟨_,List.getElem?_eq_getElem hlt⟩;have j:=hg p (List.mem_of_getElem? hp);have n:(k.take (i+1)).length=i+1:=by rw[List.length_take];omega
 have b:mE ((k.take i).map f)++[[.arr (pE (f p))]]=mE ((k.take (i+1)).map f):=by rw[cx hp,List.map_append,List.map_singleton,vX];rfl
 cases i with
 |zero=>
  have a:(mE k)[((0:Int)).toNat]?=some [.arr (pE p)]:=gx hp _ rfl;rw[HV];refine q_z 1 ?_;refine ae (cT (ak (ae (aj (s_r 3 ?_)))));refine i_x a ?_;refine l_1 a ?_;refine a_z ?_;refine r_m 7 ?_;refine c_s (j) ?_;refine a_z ?_;refine r_m 2 ?_;refine a_z ?_;refine⟨0+1,by omega,by omega,?_⟩;rw[D9];rw[←b];refine s_x [(1,5)] (fun hs=>e_25) (fun hs=>?_)
  ·repeat' (first|exact aE|refine h_c ?_ ?_|exact a8 hs (cb [f p])|exact bC|refine az ?_|exact av|refine ah ?_ ?_|exact am hs (closed_mA k)|exact am hs e|exact aV)
 |succ i=>
  have a:(mE k)[(((i+1:Nat):Int)).toNat]?=some [.arr (pE p)]:=gx hp _ (by simp);have m:=xG ((k.take (i+1)).map f);have d:(mE ((k.take (i+1)).map f)).length=i+1:=by simp[mE];omega
  rw[D9];refine q_z 1 ?_;refine ae (cT (ak (ae (aj (s_r 3 ?_)))));refine i_x a ?_;refine l_1 a ?_;refine a_z ?_;refine r_m 7 ?_;refine c_s (j) ?_;refine a_z ?_;refine r_m 2 ?_;refine a_z ?_;refine⟨i+1+1,by omega,by omega,?_⟩;rw[D9];refine s_x [(1,5)] (fun hs=>e_25) (fun hs=>?_)
  ·repeat' (first|exact aE|refine h_c ?_ ?_|exact aI hs b (cb _)|exact bC|refine az ?_|exact av|refine ah ?_ ?_|exact am hs (closed_mA k)|exact am hs e|exact aV)
 have h:i=k.length:=by omega
 cases i with
 |zero=>
  have l:k=[]:=List.eq_nil_of_length_eq_zero h.symm;subst l;rw[HV];refine q_z 1 ?_;refine ae (cF (ay ⟨(),trivial,?_⟩));exact s_e []
 |succ i=>
  have d:(mE (k.map f)).length=i+1:=by simp[mE];omega
  rw[D9,h,List.take_length];refine q_z 1 ?_;refine ae (cF (ay ⟨(),trivial,?_⟩));exact s_x [] (fun hs=>e_53) (fun hs=>e_54)
 rintro _ _;refine r_z 2 ?_;exact ai (t_e (closed_mA _))
theorem He(l:List AV)(hcl:∀z∈l,Closed z∧coe z=z)(hl:l.length≤281474976710656):GSpec Tryz.prog 135 [.aptr [[.arr (l.map fun z=>[z])]] 0 0] (kY l):=by
 have n:Closed (.arr (l.map fun z=>[z])):=aH fun e s c hc=>by
  obtain⟨z,u,rfl⟩:=List.mem_map.1 s;rw[List.mem_singleton.1 hc];exact(hcl z u).1
 have a:Closed (.aptr [[.arr (l.map fun z=>[z])]] 0 0):=ba (ac n af)
 have o:∀i,i< l.length→(l.map fun z=>[z])[i]?=some [l.getD i .any]:=fun i b=>by
  rw[List.getElem?_map,List.getElem?_eq_getElem b,List.getD_eq_getElem?_getD,List.getElem?_eq_getElem b];rfl
 have d:∀i,i< l.length→Closed (l.getD i .any):=fun i b=>by
  rw[List.getD_eq_getElem?_getD,List.getElem?_eq_getElem b];exact(hcl _ (List.getElem_mem b)).1
 have f:∀i,i< l.length→coe (l.getD i .any)=l.getD i .any:=fun i b=>by
  rw[List.getD_eq_getElem?_getD,List.getElem?_eq_getElem b];exact(hcl _ (List.getElem_mem b)).2
 have p:(l.map fun z=>[z]).length=l.length:=List.length_map ..;refine GSpec.enter Tryz.func135 rfl (by kernel_rfl) rfl rfl rfl ?_ ?_ rfl ?_;exact ac (a) af;intro k xs h;unfold kY at h;split at h;cases h;exact ac (ag _) (ac (d _ (by omega)) af);cases h;intro j N E;refine GWp.seq ?_;refine GWp.lift ?_;refine r_m 4 ?_;refine a_z ?_;refine GWp.block ?_;refine GWp.loopS (fun m:Nat=>⟨[(0,.v (.func (.yield j) #[] #[])),(1,.aptr [[.arr (l.map fun z=>[z])]] 0 0),(3,i64 ((m:Int)- 1))],[],1,19⟩) (fun m=>l.length- m) (fun m=>m) (fun m=>m≤l.length) l.length (Nat.le_refl _) (by simp) ?_ ?_;have:=a;exact s_f [];intro m w;refine GWp.seq ?_;refine GWp.seq ?_;refine GWp.lift ?_;refine r_m 2 ?_;refine a_z ?_;refine GWp.cond rfl (fun h=>?_) (fun h=>?_)
 ·refine GWp.skip ?_
  have t:1≤m:=by have:=of_decide_eq_true h;omega
  have r:=d (m- 1) (by omega);have g:(l.map fun z=>[z])[((m:Int)- 1).toNat]?=some [l.getD (m- 1) .any]:=by rw[show((m:Int)- 1).toNat=m- 1 by omega];exact o _ (by omega)
  refine GWp.seq ?_;refine GWp.block ?_;refine GWp.seq ?_;refine GWp.regY (fr2:=[(0,.v (.func (.yield j) #[] #[])),(1,.aptr [[.arr (l.map fun z=>[z])]] 0 0),(3,i64 ((m:Int)- 1)),(11,.v (.func (.yield j) #[] #[])),(12,i64 ((m:Int)- 1)),(16,l.getD (m- 1) .any)]) (hp2:=[]) (nx2:=1) 6 rfl rfl rfl rfl rfl rfl ?_ rfl rfl rfl ?_ ?_ ?_;refine o_0 (.move rfl) ?_;refine o_0 (.move rfl) ?_
  first|refine aF (.load_l1 rfl rfl rfl TG.h rfl) rfl rfl ?_|refine aF (.load_a1 rfl rfl TG.h rfl) rfl rfl ?_
  refine o_0 (.move rfl) ?_;refine i_x g ?_;refine l_1 g ?_;refine ao ?_;have:=a;exact s_t [];rotate_left 2;intro q;refine o_0 (.un rfl lM) ?_;refine ao ?_;rotate_left;unfold kY;rw[if_pos (by omega)];have e1:((l.length- 1- (l.length- m):Nat):Int)=(m:Int)- 1:=by omega
  have e2:l.length- 1- (l.length- m)=m- 1:=by omega
  rw[e1,e2];show some _=some [_,coe (l.getD (m- 1) .any)];rw[f _ (by omega)];rfl;show∀c∈[_,coe (l.getD (m- 1) .any)],Closed c;rw[f _ (by omega)];exact ac (ag _) (ac (d _ (by omega)) af);cases q with
  |false=>
   refine GWp.cond rfl (fun h=>?_) (fun h=>?_);exact GWp.ret ⟨.inr rfl,fun h=>by cases h⟩;cases h
  |true=>
   refine GWp.cond rfl (fun h=>?_) (fun h=>?_);cases h;refine GWp.skip ?_;refine GWp.lift ?_;refine r_m 3 ?_;refine a_z ?_;refine⟨rfl,m- 1,by omega,by omega,by omega,?_⟩;have:=a;exact s_f []
 refine GWp.exit ⟨.inl rfl,fun _=>?_⟩;have:m=0:=by have:=of_decide_eq_false h;omega
 subst this;unfold kY;rw[if_neg (by omega)]
theorem backA_M(l:List (List Rat)):kY (l.map fun p=> .arr (pE p))=lI l:=funext fun k=>by
 unfold kY lI;rw[List.length_map];by_cases h:k< l.length;rw[if_pos h,if_pos h,List.getD_eq_getElem?_getD,List.getD_eq_getElem?_getD,List.getElem?_map,List.getElem?_eq_getElem (show l.length- 1- k< l.length by omega)];rfl;rw[if_neg h,if_neg h]
theorem HQ(x:Option Addr)(n c:Nat):FS 93 [.v (.slice x n c)] (.clos 135 [] [.aptr [[.v (.slice x n c)]] 0 0]):=by
 refine f_c Tryz.func93 ?_;refine r_z 2 ?_;refine s_r 2 ?_;refine o_0 (.makeFunc rfl rfl) ?_;refine o_0 (.assign rfl) ?_;refine ao ?_;refine ai (⟨.inr rfl,[_],⟨_,[],rfl,rfl,rfl⟩,?_⟩);exact Cv.clos av (ah (Cv.boxp aD rfl (fun _ _ h=>by cases h) rfl (ac (ag _) af)) av)
structure OkRd (p b:List Rat):Prop where
 d:0≤bD b
 bl:b.length≤1099511627776
 pl:p.length≤1099511627776
 bs:smL b
 cs:sm (coP p (bD b).toNat)
 ss:smL (aX b (coP p (bD b).toNat))
 ps:smL p
def rbT(p:List Rat)(B:List (List Rat))(z:AV):Nat→AState
 |k=>⟨[(2,.lptr 1 0 0),(9,.clos 135 [] [z])],[(1,some ⟨38,1,[[.arr (pE (rbK p B k))]]⟩)],2,28⟩
theorem Gr(p:List Rat)(B:List (List Rat))(z:AV)(k:Nat):rbT p B z k=⟨[(2,.lptr 1 0 0),(9,.clos 135 [] [z])],[(1,some ⟨38,1,[[.arr (pE (rbK p B k))]]⟩)],2,28⟩:=rfl
theorem wg (H:(Nat→Prop)→World→Prop) (y z:AV) (p:List Rat) (B:List (List Rat)) (hy:Closed y) (hz:Closed z) (hyz:coe y=y) (hzz:coe z=z) (h:∀k,k< B.length→OkRd (rbK p B k) (B.getD (B.length- 1- k) [])) (hl:(rbK p B B.length).length≤1099511627776)
    (hb:FS 93 [y] (.clos 135 [] [z])) (hgs:∀M (w0:Base),(H M w0.w∧∀b,b< w0.w.heap.size→w0.K b)→GSpecK Tryz.prog 135 ([z].map coe) (lI B) B.length M w0):
    FSpecW Tryz.prog 39 [.arr (pE p),y] (.arr (pE (reP p B))) H:=by
 have ht:=dd _ hl;have o:Closed (.clos 135 [] [z]):=aP af (ac hz af);refine FSpecW.enter Tryz.func39 rfl (by kernel_rfl) rfl rfl rfl ?_ rfl ?_;exact ac (ax p) (ac hy af);refine AWpC.seq (AWp.toC ?_);refine r_m 2 ?_;refine a_z ?_;refine AWpC.seq ?_;refine AWpC.seq (AWp.toC ?_);refine r_m 2 ?_;refine o_0 (.move rfl) ?_;refine o_0 (.call rfl rfl rfl ((by show FSpec _ _ [coe y] _;rw[hyz];exact hb))) ?_;refine ao ?_;refine AWpC.cutT (fun _:Unit=>⟨[(2,.lptr 1 0 0)],[(1,some ⟨38,1,[[.arr (pE (rbK p B B.length))]]⟩)],2,28⟩) (fun _=>True) ?_ ?_;refine AWpC.block ?_;refine AWpC.rangeFunc (α:=Nat) (γ:=Empty) B.length (rbT p B z) (fun k=>k) (fun k=>k≤B.length) (fun e=>nomatch e) (fun _ e=>nomatch e) 0 rfl hgs rfl rfl ?_ (fun _=>⟨rfl,rfl⟩) (fun e=>nomatch e) (Nat.zero_le _) rfl (fun _ h=>h) ?_ ?_ ?_ ?_ (fun _ e=>nomatch e);intro k xs a;unfold lI at a;split at a;cases a;rfl;cases a;rw[Gr];exact s_t [(1,2)];show∀c∈[coe z],Closed c;rw[hzz];exact ac hz af
 ·intro l k xs q a
  unfold lI at a;split at a;rotate_left;cases a;rename_i hlt;cases a;have ok:=h k hlt;obtain⟨b,g⟩:∃b,b=B.getD (B.length- 1- k) []:=⟨_,rfl⟩;rw[←g] at ok⊢;have f:rbK p B (k+1)=rbF (rbK p B k) b:=by rw[rbK,←g]
  have r:=dk b ok.bl;show AWp _ _ _ _ ⟨[(11,.arr (pE b)),(10,i64 (B.length- 1- k:Nat)),(2,.lptr 1 0 0),(9,.clos 135 [] [z]),(1002,.lptr 1 0 0),(1009,.clos 135 [] [z])],[(1,some ⟨38,1,[[.arr (pE (rbK p B k))]]⟩)],2,28⟩;refine r_m 1 ?_;refine a_z ?_;refine aj (r_c 3 (r) ?_);refine a_z ?_;have n:(pE (rbK p B k)).length=(rbK p B k).length:=by simp[pE]
  have d0:=ok.d;by_cases hd:bD b< (rbK p B k).length
  have j:(pE (rbK p B k))[(bD b).toNat]?=some (qC (coP (rbK p B k) (bD b).toNat)):=by
   have:=ca (p:=rbK p B k) (i:=(bD b).toNat) (by omega);simp[pE,this]
  have t:=eI b (coP (rbK p B k) (bD b).toNat) ok.bs ok.cs ok.bl;have m:=xQ (rbK p B k) _ ok.ps ok.ss ok.pl (Nat.le_trans (cL _ _) ok.bl);rw[show cK (rbK p B k) (aX b (coP (rbK p B k) (bD b).toNat))=rbK p B (k+1) by rw[f,rbF,if_pos hd]] at m;refine q_z 4 ?_;refine cT (r_d a6 9 ?_);refine a_4 ?_;refine i_x j ?_;refine l_x j ?_;refine c_s (t) ?_;refine c_s (m) ?_;refine a_1 ?_;refine ao (n_k ?_);refine⟨k+1,⟨hlt,rfl⟩,?_⟩;show SEntT _ ⟨[(1002,.lptr 1 0 0),(1009,.clos 135 [] [z])],[(1,some ⟨38,1,[[.arr (pE (rbK p B (k+1)))]]⟩)],2,28⟩;exact s_t [(1,2)];have s:rbK p B (k+1)=rbK p B k:=by rw[f,rbF,if_neg hd]
  refine q_z 4 ?_;refine cF (ak (⟨k+1,⟨hlt,rfl⟩,?_⟩));show SEntT _ ⟨[(1002,.lptr 1 0 0),(1009,.clos 135 [] [z])],[(1,some ⟨38,1,[[.arr (pE (rbK p B (k+1)))]]⟩)],2,28⟩;rw[s];exact s_t [(1,2)]
 intro k q a;unfold lI at a;split at a;cases a;refine⟨(),trivial,?_⟩;rw[Gr];have h1:k=B.length:=by omega
 subst h1;exact s_e [(1,2)];rintro _ _;refine AWpC.seq (AWp.toC ?_);refine r_m 3 ?_;refine c_s (ht) ?_;refine a_z ?_;refine AWp.toC (ai ?_);exact t_e (ax _)
theorem wj(p:List Rat)(B:List (List Rat))(hB:B.length≤281474976710656)(h:∀k,k< B.length→OkRd (rbK p B k) (B.getD (B.length- 1- k) []))(hl:(rbK p B B.length).length≤1099511627776):FS 39 [.arr (pE p),.arr (mE B)] (.arr (pE (reP p B))):=
 (wg (fun _ _=>True) _ (bM B) p B (closed_mA B) (b9 B) rfl rfl h hl (Ag B) fun M a _=>GSpecK.of (zP B hB)).to
theorem B7(p:List Rat)(B:List (List Rat))(b1:Nat)(x:Option Addr)(n c:Nat)(hB:B.length≤281474976710656)(h:∀k,k< B.length→OkRd (rbK p B k) (B.getD (B.length- 1- k) []))(hl:(rbK p B B.length).length≤1099511627776):FSpecW Tryz.prog 39 [.arr (pE p),.v (.slice x n c)] (.arr (pE (reP p B))) (Et b1 (.slice x n c) (B.map fun b=> .arr (pE b))):=by
 refine wg _ (.v (.slice x n c)) (.aptr [[.v (.slice x n c)]] 0 0) p B (ag _) (ba (ac (ag _) af)) rfl rfl h hl (HQ x n c) fun M f a=>?_
 have:=GSpecK.look (P:=Tryz.prog) (g:=135) (N:=B.length) (fun xs d=>by
  have:=He (xs.map .v) (fun z e=>by obtain⟨x,_,rfl⟩:=List.mem_map.1 e;exact⟨ag x,rfl⟩) (by rw[List.length_map,d,List.length_map];exact hB) B.length;rw[List.map_map] at this;exact this) a.2 a.1
 rw[backA_M] at this;exact this

def zsK(k:Ke)(m:Mx×List Nat):List (List Rat):=((frL m.2 k.length).map (ij m.1 k.length m.2)).map fun z=>smK k z k.length
theorem Hy(k:Ke)(l:Rat)(g:List Rat)(a b:Rat)(A:Mx)(L:List Nat)(hE:Ech A k.length k.length L)(hkl:k.length≤25)(hc:∀f∈frL L k.length,∀i p,k[i]?=some p→OkSm k (ij A k.length L f) i p)(B:List (List Rat))(hB:FS 90 [.arr (mE (zsK k (A,L)))] (.arr (mE B))):
    FS 38 [.agg (tkC k l g a b),syV k.length (A,L)] (.arr (mE B)):=by
 have d:=Hg A k.length L hE hkl;have h:=ya L k.length
 have e:=HC ((frL L k.length).map (ij A k.length L)) 40 [.arr (kE k)] (fun z=>smK k z k.length) (ac (aU k) af) (by simp;omega) fun z d=>by
  obtain⟨f,hf,rfl⟩:=List.mem_map.1 d;exact sJ k _ (by simp) (by omega) (hc f hf)
 have c:Closed (syV k.length (A,L)):=fz _ _ _;refine f_n Tryz.func38 ?_ ?_;exact ac (aC (dN k l g a b)) (ac c af);refine r_z 3 ?_;refine ae (r_d a6 9 ?_);refine c_s (d) ?_;refine c_s (e) ?_;refine c_s (hB) ?_;refine a_1 ?_;refine ao (n_k ?_);exact ai (t_e (closed_mA _))
theorem Fc (k:Ke) (l:Rat) (g:List Rat) (a b:Rat) (s:Nat) (h:OkTa k l g a b s) (h2:OkSu k l g a b) (hN:jG k.length (syM k l (rhK k g a b) a b).1 (syM k l (rhK k g a b) a b).2=false)
    (hc:∀f∈frL (syM k l (rhK k g a b) a b).2 k.length,∀i p,k[i]?=some p→OkSm k (ij (syM k l (rhK k g a b) a b).1 k.length (syM k l (rhK k g a b) a b).2 f) i p) (B:List (List Rat)) (hB:FS 90 [.arr (mE (zsK k (syM k l (rhK k g a b) a b)))] (.arr (mE B)))
    (hR:FS 39 [.arr (pE (syU k l g a b)),.arr (mE B)] (.arr (pE (reP (syU k l g a b) B)))):
    FS 12 [.agg (eqC k l g),.agg (spC a b)] (.tup [.arr (pE (reP (syU k l g a b) B)),.arr (mE B),i64 0]):=by
 have n:=h.ke.1;have m:=gT k l g a b h.ke h.ha h.hb h.ab h.dg h.gl;have hs:=mY k l g a b s h.sy h.rh;have j:=h.none;rw[hN] at j;have hf:=Hy k l g a b (syM k l (rhK k g a b) a b).1 (syM k l (rhK k g a b) a b).2 (dY _ _ _) (by omega) hc B hB;have o:=sI (syM k l (rhK k g a b) a b).1 k.length (syM k l (rhK k g a b) a b).2 (dY _ _ _) (by omega);have e:=sJ k (lN k l g a b) (by unfold lN;simp) (by omega) h2.ms;have d:=eI _ l h2.u1 h2.sl h2.u2;have c:=mh g _ h2.sg h2.v1 h.gl h2.v2;refine f_n Tryz.func12 ?_ ?_;exact ac (aC (cZ k l g)) (ac (aC (aY a b)) af);refine r_z 5 ?_;refine r_z 5 ?_;refine AWp.ent (st':=⟨[(7,bTk k l g a b)],[],1,38⟩) ?_ ?_;have:=dN k l g a b;exact s_f [];refine ae (r_c 2 (m) ?_);refine ao ?_;refine cF (ak (r_c 4 (hs) ?_));refine a_z ?_;refine AWp.ent (st':=⟨[(7,bTk k l g a b),(8,bSy k.length (syM k l (rhK k g a b) a b).1 (syM k l (rhK k g a b) a b).2)],[],1,38⟩) ?_ ?_;exact s_x [] (fun hs=>e_21) (fun hs=>e_22);refine ae (r_c 2 (j) ?_);refine ao ?_;refine cF (ak (r_c 4 (hf) ?_));refine a_z ?_;refine ae (r_d a6 20 ?_);refine c_s (o) ?_;refine c_s (e) ?_;refine c_s (d) ?_;refine c_s (c) ?_;refine c_s (hR) ?_;refine a_4 ?_;refine ao (n_k ?_);refine ai (Fin.many ⟨_,_,rfl,rfl,⟨_,_,rfl,rfl,⟨_,_,rfl,rfl,rfl⟩⟩⟩ (nle rfl) ?_);exact ah (am aD (ax _)) (ah (am aD (closed_mA _)) (ah (am aD (ag _)) av))
theorem BV(l:List (List Rat))(i:Nat)(q:List Rat):(mE l).set i [.arr (pE q)]=mE (l.set i q):=by simp[mE,List.map_set]
theorem fs_eCmp(a b:List Rat)(ha:a.length≤1099511627776)(hb:b.length≤1099511627776):FS 133 [.arr (pE a),.arr (pE b)] (i64 (bD a- bD b)):=by
 have h1:=dk a ha;have c:=dk b hb;have l1:=bF a;have l2:=bF b;have d1:bD a=(aq a).length- 1:=rfl;have d2:bD b=(aq b).length- 1:=rfl;refine f_c Tryz.func133 ?_;refine r_z 1 ?_;refine r_c 6 (h1) ?_;refine c_s (c) ?_;refine a_z ?_;exact ai (t_e (ag _))
def ioS(L:List (List Rat))(n:Nat):Nat→AState
 |i=>⟨[(0,.lsl 0 0 n none 1),(1,i64 0),(2,i64 n),(3,.clos 133 [] []),(8,i64 ((i:Int)+1))],[(0,some ⟨38,1,mE (jJ L i)⟩)],1,53⟩
theorem B1(L:List (List Rat))(n:Nat)(i:Nat):ioS L n i=⟨[(0,.lsl 0 0 n none 1),(1,i64 0),(2,i64 n),(3,.clos 133 [] []),(8,i64 ((i:Int)+1))],[(0,some ⟨38,1,mE (jJ L i)⟩)],1,53⟩:=rfl
def ijS(n i:Nat):Nat×List (List Rat)→AState
 |(j,X)=>⟨[(0,.lsl 0 0 n none 1),(1,i64 0),(2,i64 n),(3,.clos 133 [] []),(8,i64 ((i:Int)+1)),(9,i64 j)],[(0,some ⟨38,1,mE X⟩)],1,53⟩
theorem B4(n i:Nat)(j:Nat)(X:List (List Rat)):ijS n i (j,X)=⟨[(0,.lsl 0 0 n none 1),(1,i64 0),(2,i64 n),(3,.clos 133 [] []),(8,i64 ((i:Int)+1)),(9,i64 j)],[(0,some ⟨38,1,mE X⟩)],1,53⟩:=rfl
theorem Fq(L:List (List Rat))(n:Nat)(hn:L.length=n)(h1:1≤n)(hl:n≤12)(hb:∀p∈L,p.length≤1099511627776):
    ESpec Tryz.prog 208 38 1 (mE L) (mE (jJ L (n- 1))) 0 n none [i64 0,i64 n,.clos 133 [] []] (.tuple #[]):=by
 have k:∀i,i< L.length→∀p∈jJ L i,p.length≤1099511627776:=ud L hb;refine ESpec.enter Tryz.func208 rfl (by kernel_rfl) rfl rfl rfl ?_ ?_ ?_ rfl ?_;exact ac (ag _) (ac (ag _) (ac (aP af af) af));exact cb _;exact cb _;refine r_z 3 ?_;refine aj (aB (ioS L n) (fun i=>n- i) (fun i=>i< n) 0 (by omega) ?_ ?_);rw[B1];exact s_f [];intro i y;rw[B1];by_cases hlt:i+1< n;refine ae (q_z 3 ?_);refine cT (ak (ae (aj (r_z 2 ?_))));have m:(jJ L i).length=n:=by rw[ma,hn]
 refine AWp.cutB (fun _:Unit=>⟨[(0,.lsl 0 0 n none 1),(1,i64 0),(2,i64 n),(3,.clos 133 [] []),(8,i64 ((i:Int)+1))],[(0,some ⟨38,1,mE (jJ L (i+1))⟩)],1,53⟩) (fun _=>True) ?_ ?_;refine aj (aB (ijS n i) (fun s=>s.1) (fun s=>s.1≤i+1∧s.2.length=n∧qH s.2 s.1=jJ L (i+1)∧∀p∈s.2,p.length≤1099511627776) (i+1,jJ L i) ⟨Nat.le_refl _,m,by rw[jJ],k i (by omega)⟩ ?_ ?_);simp only[B4];exact s_f [];rintro⟨j,X⟩ ⟨w,l,f,g⟩;simp only at w l f g;simp only[B4];have x:(mE X).length=n:=by simp[l]
 cases j with
 |zero=>
  refine ae (ae (r_d a6 17 ?_));refine d_8 ?_;refine d_8 ?_;refine m_1 ?_;refine ao (n_k ?_);refine cF (ay ⟨(),trivial,?_⟩);rw[←f,qH];exact s_f []
 |succ j=>
  obtain⟨a,ha⟩:∃a,X[j+1]?=some a:=⟨_,List.getElem?_eq_getElem (by omega)⟩;obtain⟨b,e⟩:∃b,X[j]?=some b:=⟨_,List.getElem?_eq_getElem (by omega)⟩;have t:X.getD (j+1) []=a:=by rw[List.getD_eq_getElem?_getD,ha];rfl
  have q:X.getD j []=b:=by rw[List.getD_eq_getElem?_getD,e];rfl
  have d:(mE X)[0+(((j+1:Nat):Int)).toNat]?=some [.arr (pE a)]:=gx ha _ (by omega);have c:(mE X)[0+(((j+1:Nat):Int)- 1).toNat]?=some [.arr (pE b)]:=gx e _ (by omega);have o:=fs_eCmp a b (g a (List.mem_of_getElem? ha)) (g b (List.mem_of_getElem? e));rw[qH,t,q] at f;by_cases hd:bD a< bD b;rw[if_pos hd] at f;refine ae (ae (r_d a6 17 ?_));refine d_7 ?_
  first|refine aQ rfl rfl rfl (.index_l rfl rfl (by omega) (by omega) te_59.h) rfl rfl ?_|refine aQ rfl rfl rfl (.index_a rfl rfl (by omega) d rfl te_59.h) rfl rfl ?_
  first|refine aQ rfl rfl rfl (.load_l1 rfl rfl d TG.h rfl) rfl rfl ?_|refine aQ rfl rfl rfl (.load_a1 rfl d TG.h rfl) rfl rfl ?_
  refine d_3 ?_
  first|refine aQ rfl rfl rfl (.index_l rfl rfl (by omega) (by omega) te_59.h) rfl rfl ?_|refine aQ rfl rfl rfl (.index_a rfl rfl (by omega) c rfl te_59.h) rfl rfl ?_
  first|refine aQ rfl rfl rfl (.load_l1 rfl rfl c TG.h rfl) rfl rfl ?_|refine aQ rfl rfl rfl (.load_a1 rfl c TG.h rfl) rfl rfl ?_
  refine c_s (o) ?_;refine d_2 ?_;refine ao (n_k ?_);refine cT (ak (ae (aj ?_)))
  have r:((mE X).set (0+(((j+1:Nat):Int)).toNat) [.arr (pE b)])[0+(((j+1:Nat):Int)- 1).toNat]?=some [.arr (pE b)]:=by
   rw[List.getElem?_set_ne (by omega)];exact c
  refine r_d a6 18 ?_;refine a_8 ?_
  first|refine aF (.index_l rfl rfl (by omega) (by omega) te_59.h) rfl rfl ?_|refine aF (.index_a rfl rfl (by omega) c rfl te_59.h) rfl rfl ?_
  first|refine aF (.load_l1 rfl rfl c TG.h rfl) rfl rfl ?_|refine aF (.load_a1 rfl c TG.h rfl) rfl rfl ?_
  refine a_2 ?_
  first|refine aF (.index_l rfl rfl (by omega) (by omega) te_59.h) rfl rfl ?_|refine aF (.index_a rfl rfl (by omega) d rfl te_59.h) rfl rfl ?_
  first|refine aF (.load_l1 rfl rfl d TG.h rfl) rfl rfl ?_|refine aF (.load_a1 rfl d TG.h rfl) rfl rfl ?_
  refine a_1 ?_;refine dX (.store rfl rfl d rfl rfl rfl TS.h (nle rfl)) ?_;refine a_1 ?_;refine dX (.store rfl rfl r rfl rfl rfl TS.h (nle rfl)) ?_;refine ao (n_k ?_);refine r_m 3 ?_;refine a_z ?_;refine⟨(j,(X.set (j+1) b).set j a),by simp only;omega,⟨by simp only;omega,by simp[l],f,?_⟩,?_⟩;intro p hp;simp only at hp;rcases List.mem_or_eq_of_mem_set hp with h|h
  rcases List.mem_or_eq_of_mem_set h with h|h
  exact g p h;rw[h];exact g b (List.mem_of_getElem? e);rw[h];exact g a (List.mem_of_getElem? ha);have e1:0+(((j+1:Nat):Int)).toNat=j+1:=by omega
  have e2:0+(((j+1:Nat):Int)- 1).toNat=j:=by omega
  have u:((mE X).set (0+(((j+1:Nat):Int)).toNat) [.arr (pE b)]).set (0+(((j+1:Nat):Int)- 1).toNat) [.arr (pE a)]=((mE X).set (j+1) [.arr (pE b)]).set j [.arr (pE a)]:=by rw[e1,e2]
  simp only[B4];refine s_x [] (fun hs=>e_55) (fun hs=>?_)
  ·repeat' (first|exact aE|refine h_c ?_ ?_|exact aI hs (by rw[←BV,←BV];exact u) (cb _)|exact bC|refine az ?_|exact av|refine ah ?_ ?_|(refine Cv.loE hs ?_ (ag _);simp[i64];done)|exact aV)
  rw[if_neg hd] at f;refine ae (ae (r_d a6 17 ?_));refine d_7 ?_
  first|refine aQ rfl rfl rfl (.index_l rfl rfl (by omega) (by omega) te_59.h) rfl rfl ?_|refine aQ rfl rfl rfl (.index_a rfl rfl (by omega) d rfl te_59.h) rfl rfl ?_
  first|refine aQ rfl rfl rfl (.load_l1 rfl rfl d TG.h rfl) rfl rfl ?_|refine aQ rfl rfl rfl (.load_a1 rfl d TG.h rfl) rfl rfl ?_
  refine d_3 ?_
  first|refine aQ rfl rfl rfl (.index_l rfl rfl (by omega) (by omega) te_59.h) rfl rfl ?_|refine aQ rfl rfl rfl (.index_a rfl rfl (by omega) c rfl te_59.h) rfl rfl ?_
  first|refine aQ rfl rfl rfl (.load_l1 rfl rfl c TG.h rfl) rfl rfl ?_|refine aQ rfl rfl rfl (.load_a1 rfl c TG.h rfl) rfl rfl ?_
  refine c_s (o) ?_;refine d_2 ?_;refine ao (n_k ?_);refine cF (ay ⟨(),trivial,?_⟩);rw[←f];exact s_f []
 rintro _ _;refine r_m 3 ?_;refine a_z ?_;refine⟨i+1,by omega,hlt,?_⟩;rw[B1];refine s_x [] (fun hs=>e_55) (fun hs=>?_)
 ·repeat' (first|exact aE|refine h_c ?_ ?_|exact a8 hs (cb _)|exact bC|refine az ?_|exact av|refine ah ?_ ?_|(refine Cv.loE hs ?_ (ag _);simp[i64];done)|exact aV)
 have v:i=n- 1:=by omega
 refine ae (q_z 3 ?_);refine cF (ay ?_);rw[←v];exact FinE.none (.inl rfl) rfl rfl
theorem es_pdq(L:List (List Rat))(n m:Nat)(hn:L.length=n)(h1:1≤n)(hl:n≤12)(hb:∀p∈L,p.length≤1099511627776):
    ESpec Tryz.prog 171 38 1 (mE L) (mE (jJ L (n- 1))) 0 n none [i64 0,i64 n,i64 m,.clos 133 [] []] (.tuple #[]):=by
 have a:=Fq L n hn h1 hl hb;refine ESpec.enter Tryz.func171 rfl (by kernel_rfl) rfl rfl rfl ?_ ?_ ?_ rfl ?_;exact ac (ag _) (ac (ag _) (ac (ag _) (ac (aP af af) af)));exact cb _;exact cb _;refine r_z 1 ?_;refine r_z 1 ?_;refine aj (aB (fun _:Unit=>⟨[(0,.lsl 0 0 n none 1),(1,i64 0),(2,i64 n),(4,.clos 133 [] [])],[(0,some ⟨38,1,mE L⟩)],1,148⟩) (fun _=>0) (fun _=>True) () trivial ?_ ?_);exact s_f [];rintro _ _;refine aj (r_z 4 ?_);refine ae (q_z 2 ?_);refine cT (s_r 5 ?_);refine a_4 ?_;refine o_1 (.callE2 rfl rfl rfl rfl rfl rfl (a)) ?_;refine ao ?_;exact ai (FinE.none (.inr rfl) rfl rfl)
end Go.Proofs.YtdgbhlkabelmbaaGreatDoor
