/- Part V33 of the proof. -/
import Derived.Test.YtkbjakfniejkcaaGreatDoorV32
set_option linter.all false
namespace Go.Proofs.YtkbjakfniejkcaaGreatDoor
open Go.Abs
set_option maxRecDepth 20000
set_option maxHeartbeats 4000000
def zoS(A:Mx)(n:Nat)(L:Ln)(f:Nat):Ln->AState
 |[]=>⟨[(1,bSy n A L),(3,.emp),(9,i64 n),(10,i64 f)],[],1,51⟩
 |q::F=>⟨[(1,bSy n A L),(3,.lsl 1 0 (F.length+1) none 1),(9,i64 n),(10,i64 f)],[(1,some ⟨37,1,mE ((q::F).map (gq A n L))⟩)],2,51⟩
theorem Al(A:Mx)(n:Nat)(L:Ln)(f:Nat):zoS A n L f []=⟨[(1,bSy n A L),(3,.emp),(9,i64 n),(10,i64 f)],[],1,51⟩:=rfl
theorem wI(A:Mx)(n:Nat)(L:Ln)(f q:Nat)(F:Ln):zoS A n L f (q::F)=⟨[(1,bSy n A L),(3,.lsl 1 0 (F.length+1) none 1),(9,i64 n),(10,i64 f)],[(1,some ⟨37,1,mE ((q::F).map (gq A n L))⟩)],2,51⟩:=rfl
def ziS(A:Mx)(n:Nat)(L:Ln)(f:Nat):Nat->AState
 |i=>⟨[(1,bSy n A L),(3,.emp),(4,i64 f),(5,.lsl 1 0 n (some n) 3),(9,i64 n),(10,i64 f),(25,.arr (lvE L)),(26,i64 L.length),(27,i64 i)],[(1,some ⟨36,3,pE (zeJ A n L f i)⟩)],2,51⟩
def zjS(A:Mx)(n:Nat)(L:Ln)(f q:Nat)(F:Ln):Nat->AState
 |i=>⟨[(1,bSy n A L),(3,.lsl 1 0 (F.length+1) none 1),(4,i64 f),(5,.lsl 2 0 n (some n) 3),(9,i64 n),(10,i64 f),(25,.arr (lvE L)),(26,i64 L.length),(27,i64 i)],[(1,some ⟨37,1,mE ((q::F).map (gq A n L))⟩),(2,some ⟨36,3,pE (zeJ A n L f i)⟩)],3,51⟩
theorem y4(k:Lw):(mE k).all (·.all AV.one)=true:=by
 rw[List.all_eq_true];intro x a;obtain⟨p,_,rfl⟩:=List.mem_map.1 a;rfl
theorem mE_snoc(f:Nat->Lq)(F:Ln)(x:Nat):mE (F.map f)++[[.arr (pE (f x))]]=mE ((F++[x]).map f):=by simp[mE]
theorem IU(A:Mx)(n:Nat)(L:Ln)(hE:Ech A n n L)(hn:n<=25):FS 97 [syV n (A,L)] (.arr (mE ((frL L n).map (gq A n L)))):=by
 have w:(lvE L).length=L.length:=j8 L;have z:=hE.len2;have u:FS 25 [i64 1] (.agg (qC 1)):=dU 1 (by decide);refine f_n Tryz.func97 ?_ ?_;exact ac (fN n A L) af;refine r_z 2 ?_;refine AWp.ent (st':=⟨[(1,bSy n A L)],[],1,51⟩) ?_ ?_;have:=ef n A L;exact s_f [];refine r_z 1 ?_;refine ae (r_z 3 ?_);refine aF (fun _:Unit=>⟨[(3,.arr (mE ((frL L n).map (gq A n L))))],[],1,51⟩) (fun _=>True) ?_ ?_;refine aj (aC (fun f=>zoS A n L f (frL L f)) (fun f=>n- f) (fun f=>f<=n) 0 (Nat.zero_le _) ?_ ?_);rw[frL_0,Al];have:=bD n A L;exact s_f [];intro f G;by_cases hlt:f< n;have d:=qU L f (by omega);have o:=zv L f;cases hb:L.contains f with
 |true=>
  rw[hb] at d;cases hF:frL L f with
  |nil=>
   rw[Al];refine q_z 1 ?_;refine ae (cT (am (ae (aj (r_z 2 ?_)))));refine ae (r_c 4 (d) ?_);refine aq ?_;refine cT (ax (r_m 2 ?_));refine a_z ?_;refine⟨f+1,by omega,by omega,?_⟩;rw[zu hb,hF,Al];have:=bD n A L;exact s_f []
  |cons q F=>
   rw[wI];refine q_z 1 ?_;refine ae (cT (am (ae (aj (r_z 2 ?_)))));refine ae (r_c 4 (d) ?_);refine aq ?_;refine cT (ax (r_m 2 ?_));refine a_z ?_;refine⟨f+1,by omega,by omega,?_⟩;rw[zu hb,hF,wI];have:=bD n A L;exact s_f [(1,3)]
 |false=>
  rw[hb] at d;cases hF:frL L f with
  |nil=>
   rw[Al];refine q_z 1 ?_;refine ae (cT (am (ae (aj (r_z 2 ?_)))));refine ae (r_c 4 (d) ?_);refine aq ?_;refine cF (am (r_z 4 ?_));refine AWp.ent (st':=⟨[(1,bSy n A L),(3,.emp),(4,i64 f),(5,.lsl 1 0 n (some n) 3),(9,i64 n),(10,i64 f)],[(1,some ⟨36,3,pE (List.replicate n 0)⟩)],2,51⟩) ?_ ?_;refine s_x [(1,5)] (fun hs=>e_28) (fun hs=>?_)
   ·repeat' (first|exact aE|refine h_c ?_ ?_|exact CvLL.zeros hs n|exact bZ|refine aD ?_|exact av|refine ah ?_ ?_|exact an hs (bD n A L)|exact aX)
   have k:(pE (List.replicate n (0:Rat)))[(0+((f:Nat):Int).toNat)]?=some (qC 0):=by simp[pE,hlt]
   have s:(pE (List.replicate n (0:Rat))).length=n:=by simp[pE]
   refine r_c 5 (u) ?_;refine a_1 ?_;refine eF (.store rfl rfl k rfl rfl rfl TS.h (nle rfl)) ?_;refine aq ?_;refine ae (r_z 4 ?_);refine aF (fun _:Unit=>⟨[(1,bSy n A L),(3,.emp),(5,.lsl 1 0 n (some n) 3),(9,i64 n),(10,i64 f)],[(1,some ⟨36,3,pE (gq A n L f)⟩)],2,51⟩) (fun _=>True) ?_ ?_;refine aj (aC (ziS A n L f) (fun i=>L.length- i) (fun i=>i<=L.length) 0 (Nat.zero_le _) ?_ ?_);rw[ziS.eq_1,<-zeJ_0];refine s_x [(1,5)] (fun hs=>e_2) (fun hs=>?_)
   ·repeat' (first|exact aE|refine h_c ?_ ?_|exact aI hs (by rw[<-jy];simp;rfl) (aJ _)|exact bZ|refine aD ?_|exact av|refine ah ?_ ?_|exact an hs (bD n A L)|exact an hs (aG (c8 L))|exact aX)
   intro i D;rw[ziS.eq_1];by_cases hli:i< L.length;obtain⟨c,d⟩:∃c,L[i]?=some c:=⟨_,List.getElem?_eq_getElem hli⟩;have e:=hE.lt i c d;have m:i< n:=by omega
   have g:(lvE L)[((i:Nat):Int).toNat]?=some [i64 c]:=tO d _ (by simp);have b:(mE (kI n A))[((i:Nat):Int).toNat]?=some [.arr (pE (aN (n+1) (A i)))]:=gR (jN m) _ (by simp);have a:(pE (aN (n+1) (A i)))[((f:Nat):Int).toNat]?=some (qC (A i f)):=dx (by omega) _ (by simp);have t:(mE (kI n A)).length=n:=by simp
   have p:(pE (aN (n+1) (A i))).length=n+1:=by simp[pE]
   have r:(pE (zeJ A n L f i)).length=n:=by simp[pE]
   obtain⟨E,l⟩:=Ex (A:=A) (L:=L) (f:=f) (i:=i) e (0+((c:Nat):Int).toNat) (by omega);refine q_z 1 ?_;refine ae (cT (am (ae (aj (s_r 5 ?_)))));refine a_1 ?_;refine i_x g ?_;refine l_1 g ?_;refine a_z ?_;refine r_m 13 ?_;refine a_5 ?_;refine i_x b ?_;refine l_1 b ?_;refine a_1 ?_;refine i_x a ?_;refine l_x a ?_;refine c_s (ki _) ?_;refine a_1 ?_;refine eF (.store rfl rfl l rfl rfl rfl TS.h (nle rfl)) ?_;refine aq ?_;refine r_m 2 ?_;refine a_z ?_;refine⟨i+1,by omega,by omega,?_⟩;rw[ziS.eq_1];refine s_x [(1,5)] (fun hs=>e_2) (fun hs=>?_)
   ·repeat' (first|exact aE|refine h_c ?_ ?_|exact aI hs (zeJ_s hE d e (0+((c:Nat):Int).toNat) (by omega)) (aJ _)|exact bZ|refine aD ?_|exact av|refine ah ?_ ?_|exact an hs (bD n A L)|exact an hs (aG (c8 L))|exact aX)
   have j:i=L.length:=by omega
   refine q_z 1 ?_;refine ae (cF (ax ⟨(),trivial,?_⟩));rw[<-zeJ_n (i:=i) (by omega)];refine s_x [(1,5)] (fun hs=>e_2) (fun hs=>?_)
   ·repeat' (first|exact aE|refine h_c ?_ ?_|exact bm hs (aJ _)|exact bZ|refine aD ?_|exact av|refine ah ?_ ?_|exact an hs (bD n A L)|exact an hs (aG (c8 L))|exact aX)
   rintro _ _;refine r_m 5 ?_;refine a_z ?_;refine r_m 2 ?_;refine a_z ?_;refine⟨f+1,by omega,by omega,?_⟩;rw[ua hb,hF,List.nil_append,wI];refine s_x [(1,3)] (fun hs=>e_28) (fun hs=>?_)
   ·repeat' (first|exact aE|refine h_c ?_ ?_|exact aD (y:=[.arr (pE (gq A n L f))]) (ah (Cv.shut hs rfl (aT rfl) (by simp[pE]) (aI hs (by rw[List.drop_zero];exact List.take_of_length_le (by simp[pE])) (aJ (gq A n L f)))) av)|exact bZ|refine aD ?_|exact av|refine ah ?_ ?_|exact an hs (bD n A L)|exact aX)
  |cons q F=>
   rw[wI];refine q_z 1 ?_;refine ae (cT (am (ae (aj (r_z 2 ?_)))));refine ae (r_c 4 (d) ?_);refine aq ?_;refine cF (am (r_z 4 ?_));refine AWp.ent (st':=⟨[(1,bSy n A L),(3,.lsl 1 0 (F.length+1) none 1),(4,i64 f),(5,.lsl 2 0 n (some n) 3),(9,i64 n),(10,i64 f)],[(1,some ⟨37,1,mE ((q::F).map (gq A n L))⟩),(2,some ⟨36,3,pE (List.replicate n 0)⟩)],3,51⟩) ?_ ?_;refine s_x [(1,3),(2,5)] (fun hs=>e_28) (fun hs=>?_)
   ·repeat' (first|exact aE|refine h_c ?_ ?_|exact CvLL.zeros hs n|exact bm hs (cm _)|exact bZ|refine aD ?_|exact av|refine ah ?_ ?_|exact an hs (bD n A L)|exact aX)
   have k:(pE (List.replicate n (0:Rat)))[(0+((f:Nat):Int).toNat)]?=some (qC 0):=by simp[pE,hlt]
   have s:(pE (List.replicate n (0:Rat))).length=n:=by simp[pE]
   refine r_c 5 (u) ?_;refine a_1 ?_;refine eF (.store rfl rfl k rfl rfl rfl TS.h (nle rfl)) ?_;refine aq ?_;refine ae (r_z 4 ?_);refine aF (fun _:Unit=>⟨[(1,bSy n A L),(3,.lsl 1 0 (F.length+1) none 1),(5,.lsl 2 0 n (some n) 3),(9,i64 n),(10,i64 f)],[(1,some ⟨37,1,mE ((q::F).map (gq A n L))⟩),(2,some ⟨36,3,pE (gq A n L f)⟩)],3,51⟩) (fun _=>True) ?_ ?_;refine aj (aC (zjS A n L f q F) (fun i=>L.length- i) (fun i=>i<=L.length) 0 (Nat.zero_le _) ?_ ?_);rw[zjS.eq_1,<-zeJ_0];refine s_x [(1,3),(2,5)] (fun hs=>e_2) (fun hs=>?_)
   ·repeat' (first|exact aE|refine h_c ?_ ?_|exact aI hs (by rw[<-jy];simp;rfl) (aJ _)|exact bm hs (cm _)|exact bZ|refine aD ?_|exact av|refine ah ?_ ?_|exact an hs (bD n A L)|exact an hs (aG (c8 L))|exact aX)
   intro i D;rw[zjS.eq_1];by_cases hli:i< L.length;obtain⟨c,d⟩:∃c,L[i]?=some c:=⟨_,List.getElem?_eq_getElem hli⟩;have e:=hE.lt i c d;have m:i< n:=by omega
   have g:(lvE L)[((i:Nat):Int).toNat]?=some [i64 c]:=tO d _ (by simp);have b:(mE (kI n A))[((i:Nat):Int).toNat]?=some [.arr (pE (aN (n+1) (A i)))]:=gR (jN m) _ (by simp);have a:(pE (aN (n+1) (A i)))[((f:Nat):Int).toNat]?=some (qC (A i f)):=dx (by omega) _ (by simp);have t:(mE (kI n A)).length=n:=by simp
   have p:(pE (aN (n+1) (A i))).length=n+1:=by simp[pE]
   have r:(pE (zeJ A n L f i)).length=n:=by simp[pE]
   obtain⟨E,l⟩:=Ex (A:=A) (L:=L) (f:=f) (i:=i) e (0+((c:Nat):Int).toNat) (by omega);refine q_z 1 ?_;refine ae (cT (am (ae (aj (s_r 5 ?_)))));refine a_1 ?_;refine i_x g ?_;refine l_1 g ?_;refine a_z ?_;refine r_m 13 ?_;refine a_5 ?_;refine i_x b ?_;refine l_1 b ?_;refine a_1 ?_;refine i_x a ?_;refine l_x a ?_;refine c_s (ki _) ?_;refine a_1 ?_;refine eF (.store rfl rfl l rfl rfl rfl TS.h (nle rfl)) ?_;refine aq ?_;refine r_m 2 ?_;refine a_z ?_;refine⟨i+1,by omega,by omega,?_⟩;rw[zjS.eq_1];refine s_x [(1,3),(2,5)] (fun hs=>e_2) (fun hs=>?_)
   ·repeat' (first|exact aE|refine h_c ?_ ?_|exact aI hs (zeJ_s hE d e (0+((c:Nat):Int).toNat) (by omega)) (aJ _)|exact bm hs (cm _)|exact bZ|refine aD ?_|exact av|refine ah ?_ ?_|exact an hs (bD n A L)|exact an hs (aG (c8 L))|exact aX)
   have j:i=L.length:=by omega
   refine q_z 1 ?_;refine ae (cF (ax ⟨(),trivial,?_⟩));rw[<-zeJ_n (i:=i) (by omega)];refine s_x [(1,3),(2,5)] (fun hs=>e_2) (fun hs=>?_)
   ·repeat' (first|exact aE|refine h_c ?_ ?_|exact bm hs (aJ _)|exact bm hs (cm _)|exact bZ|refine aD ?_|exact av|refine ah ?_ ?_|exact an hs (bD n A L)|exact an hs (aG (c8 L))|exact aX)
   rintro _ _;have B:F.length+1<=f:=by rw[hF] at o;simpa using o
   have C:(mE ((q::F).map (gq A n L))).length=F.length+1:=by simp
   have v:(mE ((q::F).map (gq A n L))).all (·.all AV.one)=true:=y4 _;refine r_m 5 ?_;refine a_z ?_;refine r_m 2 ?_;refine a_z ?_;refine⟨f+1,by omega,by omega,?_⟩;rw[ua hb,hF,List.cons_append,wI];refine s_x [(1,3)] (fun hs=>?_) (fun hs=>?_)
   ·repeat' (first|exact aP|refine ay rfl ?_ ?_|exact an hs (bD n A L)|(refine Cv.slE rfl rfl rfl rfl ?_ rfl;simp;done)|exact aX)
   ·repeat' (first|exact aE|refine h_c ?_ ?_|exact Kq (yg (x:=[.lsl 2 0 n (some n) 3]) (ah (Cv.shut hs rfl (aT rfl) (by simp[pE]) (aI hs (by rw[List.drop_zero];exact List.take_of_length_le (by simp[pE])) (aJ (gq A n L f)))) av) (bm hs (cm _))) (mE_snoc _ _ _)|exact bZ|refine aD ?_|exact av|refine ah ?_ ?_|exact an hs (bD n A L)|(refine Cv.slE rfl rfl rfl rfl ?_ rfl;simp;done)|exact aX)
 have j:f=n:=by omega
 cases hF:frL L f with
 |nil=>
  rw[Al];refine q_z 1 ?_;refine ae (cF (ax ⟨(),trivial,?_⟩));rw[<-j,hF];exact s_e []
 |cons q F=>
  rw[wI];refine q_z 1 ?_;refine ae (cF (ax ⟨(),trivial,?_⟩));rw[<-j,hF];exact s_x [] (fun hs=>e_60) (fun hs=>e_61)
 rintro _ _;refine r_z 2 ?_;exact ai (t_e (closed_mA _))
theorem xk(a b:Lw):mE (a++b)=mE a++mE b:=by simp[mE]
def erS(k:Lw)(g:Nat)(fst:La)(f:Lq->Lq):Nat->AState
 |0=>⟨[(1,.clos g fst []),(8,.arr (mE k)),(9,i64 k.length),(10,i64 0),(5,.emp)],[],1,22⟩
 |i+1=>⟨[(1,.clos g fst []),(8,.arr (mE k)),(9,i64 k.length),(10,i64 ((i+1:Nat):Int)),(5,.lsl 1 0 (i+1) none 1)],[(1,some ⟨38,1,mE ((k.take (i+1)).map f)⟩)],2,22⟩
theorem Jc(k:Lw)(g:Nat)(fst:La)(f:Lq->Lq)(hfst:∀c∈fst,Closed c)(hl:k.length<=1000)(hg:∀p∈k,FS g ((fst++[AV.arr (pE p)]++[]).map coe) (.arr (pE (f p)))):FS 96 [.arr (mE k),.clos g fst []] (.arr (mE (k.map f))):=by
 have n:(mE k).length=k.length:=(by simp[mE]:(mE k).length=k.length);have hcc:Closed (.clos g fst []):=aR hfst af;refine f_c Tryz.func96 ?_;refine r_z 1 ?_;refine r_z 1 ?_;refine ae (r_z 3 ?_);refine aF (fun _:Unit=>⟨[(5,.arr (mE (k.map f)))],[],1,22⟩) (fun _=>True) ?_ ?_;refine aj (aC (erS k g fst f) (fun i=>k.length- i) (fun i=>i<=k.length) 0 (Nat.zero_le _) ?_ ?_);rw[erS.eq_1];refine s_x [] (fun hs=>e_29) (fun hs=>?_)
 ·repeat' (first|exact aE|refine h_c ?_ ?_|exact bZ|refine aD ?_|exact av|refine ah ?_ ?_|exact an hs (closed_mA k)|exact an hs hcc|exact aX)
 intro i o;by_cases hlt:i< k.length;obtain⟨p,hp⟩:∃p,k[i]?=some p:=⟨_,List.getElem?_eq_getElem hlt⟩;have h:=hg p (List.mem_of_getElem? hp);have l:(k.take (i+1)).length=i+1:=by rw[List.length_take];omega
 have b:mE ((k.take i).map f)++[[.arr (pE (f p))]]=mE ((k.take (i+1)).map f):=by rw[cJ hp,List.map_append,List.map_singleton,xk];rfl
 cases i with
 |zero=>
  have a:(mE k)[((0:Int)).toNat]?=some [.arr (pE p)]:=gR hp _ rfl;rw[erS.eq_1];refine q_z 1 ?_;refine ae (cT (am (ae (aj (s_r 3 ?_)))));refine i_x a ?_;refine l_1 a ?_;refine a_z ?_;refine r_m 7 ?_;refine c_s (h) ?_;refine a_z ?_;refine r_m 2 ?_;refine a_z ?_;refine⟨0+1,by omega,by omega,?_⟩;rw[erS.eq_2];rw[<-b];refine s_x [(1,5)] (fun hs=>e_29) (fun hs=>?_)
  ·repeat' (first|exact aE|refine h_c ?_ ?_|exact bm hs (cm [f p])|exact bZ|refine aD ?_|exact av|refine ah ?_ ?_|exact an hs (closed_mA k)|exact an hs hcc|exact aX)
 |succ i=>
  have a:(mE k)[(((i+1:Nat):Int)).toNat]?=some [.arr (pE p)]:=gR hp _ (by simp);have m:=y4 ((k.take (i+1)).map f);have d:(mE ((k.take (i+1)).map f)).length=i+1:=by simp[mE];omega
  rw[erS.eq_2];refine q_z 1 ?_;refine ae (cT (am (ae (aj (s_r 3 ?_)))));refine i_x a ?_;refine l_1 a ?_;refine a_z ?_;refine r_m 7 ?_;refine c_s (h) ?_;refine a_z ?_;refine r_m 2 ?_;refine a_z ?_;refine⟨i+1+1,by omega,by omega,?_⟩;rw[erS.eq_2];refine s_x [(1,5)] (fun hs=>e_29) (fun hs=>?_)
  ·repeat' (first|exact aE|refine h_c ?_ ?_|exact aI hs b (cm _)|exact bZ|refine aD ?_|exact av|refine ah ?_ ?_|exact an hs (closed_mA k)|exact an hs hcc|exact aX)
 have e:i=k.length:=by omega
 cases i with
 |zero=>
  have j:k=[]:=List.eq_nil_of_length_eq_zero e.symm;subst j;rw[erS.eq_1];refine q_z 1 ?_;refine ae (cF (ax ⟨(),trivial,?_⟩));exact s_e []
 |succ i=>
  have d:(mE (k.map f)).length=i+1:=by simp[mE];omega
  rw[erS.eq_2,e,List.take_length];refine q_z 1 ?_;refine ae (cF (ax ⟨(),trivial,?_⟩));exact s_x [] (fun hs=>e_60) (fun hs=>e_61)
 rintro _ _;refine r_z 2 ?_;exact ai (t_e (closed_mA _))
theorem IS(l:La)(hcl:∀z∈l,Closed z/\coe z=z)(hl:l.length<=281474976710656):GSpec Tryz.prog 167 [.aptr [[.arr (l.map fun z=>[z])]] 0 0] (lU l):=by
 have n:Closed (.arr (l.map fun z=>[z])):=aG fun e s c u=>by
  obtain⟨z,r,rfl⟩:=List.mem_map.1 s;rw[List.mem_singleton.1 u];exact(hcl z r).1
 have a:Closed (.aptr [[.arr (l.map fun z=>[z])]] 0 0):=bq (ac n af)
 have j:∀i,i< l.length->(l.map fun z=>[z])[i]?=some [l.getD i .any]:=fun i b=>by
  rw[List.getElem?_map,List.getElem?_eq_getElem b,List.getD_eq_getElem?_getD,List.getElem?_eq_getElem b];rfl
 have d:∀i,i< l.length->Closed (l.getD i .any):=fun i b=>by
  rw[List.getD_eq_getElem?_getD,List.getElem?_eq_getElem b];exact(hcl _ (List.getElem_mem b)).1
 have g:∀i,i< l.length->coe (l.getD i .any)=l.getD i .any:=fun i b=>by
  rw[List.getD_eq_getElem?_getD,List.getElem?_eq_getElem b];exact(hcl _ (List.getElem_mem b)).2
 have p:(l.map fun z=>[z]).length=l.length:=List.length_map ..;refine GSpec.enter Tryz.func167 rfl (by kernel_rfl) rfl rfl rfl ?_ ?_ rfl ?_;exact ac (a) af;intro k xs h;unfold lU at h;split at h;cases h;exact ac (ag _) (ac (d _ (by omega)) af);cases h;intro o N E;refine GWp.seq ?_;refine GWp.lift ?_;refine r_m 4 ?_;refine a_z ?_;refine GWp.block ?_;refine GWp.loopS (fun m:Nat=>⟨[(0,.v (.func (.yield o) #[] #[])),(1,.aptr [[.arr (l.map fun z=>[z])]] 0 0),(3,i64 ((m:Int)- 1))],[],1,19⟩) (fun m=>l.length- m) (fun m=>m) (fun m=>m<=l.length) l.length (Nat.le_refl _) (by simp) ?_ ?_;have:=a;exact s_f [];intro m x;refine GWp.seq ?_;refine GWp.seq ?_;refine GWp.lift ?_;refine r_m 2 ?_;refine a_z ?_;refine GWp.cond rfl (fun h=>?_) (fun h=>?_)
 ·refine GWp.skip ?_
  have q:1<=m:=by have:=of_decide_eq_true h;omega
  have w:=d (m- 1) (by omega);have f:(l.map fun z=>[z])[((m:Int)- 1).toNat]?=some [l.getD (m- 1) .any]:=by rw[show((m:Int)- 1).toNat=m- 1 by omega];exact j _ (by omega)
  refine GWp.seq ?_;refine GWp.block ?_;refine GWp.seq ?_;refine GWp.regY (fr2:=[(0,.v (.func (.yield o) #[] #[])),(1,.aptr [[.arr (l.map fun z=>[z])]] 0 0),(3,i64 ((m:Int)- 1)),(11,.v (.func (.yield o) #[] #[])),(12,i64 ((m:Int)- 1)),(16,l.getD (m- 1) .any)]) (hp2:=[]) (nx2:=1) 6 rfl rfl rfl rfl rfl rfl ?_ rfl rfl rfl ?_ ?_ ?_;refine o_0 (.move rfl) ?_;refine o_0 (.move rfl) ?_
  first|refine aY (.load_l1 rfl rfl rfl TG.h rfl) rfl rfl ?_|refine aY (.load_a1 rfl rfl TG.h rfl) rfl rfl ?_
  refine o_0 (.move rfl) ?_;refine i_x f ?_;refine l_1 f ?_;refine aq ?_;have:=a;exact s_t [];rotate_left 2;intro t;refine o_0 (.un rfl nr) ?_;refine aq ?_;rotate_left;unfold lU;rw[if_pos (by omega)];have e1:((l.length- 1- (l.length- m):Nat):Int)=(m:Int)- 1:=by omega
  have e2:l.length- 1- (l.length- m)=m- 1:=by omega
  rw[e1,e2];show some _=some [_,coe (l.getD (m- 1) .any)];rw[g _ (by omega)];rfl;show∀c∈[_,coe (l.getD (m- 1) .any)],Closed c;rw[g _ (by omega)];exact ac (ag _) (ac (d _ (by omega)) af);cases t with
  |false=>
   refine GWp.cond rfl (fun h=>?_) (fun h=>?_);exact GWp.ret ⟨.inr rfl,fun h=>by cases h⟩;cases h
  |true=>
   refine GWp.cond rfl (fun h=>?_) (fun h=>?_);cases h;refine GWp.skip ?_;refine GWp.lift ?_;refine r_m 3 ?_;refine a_z ?_;refine⟨rfl,m- 1,by omega,by omega,by omega,?_⟩;have:=a;exact s_f []
 refine GWp.exit ⟨.inl rfl,fun _=>?_⟩;have:m=0:=by have:=of_decide_eq_false h;omega
 subst this;unfold lU;rw[if_neg (by omega)]
theorem backA_M(l:Lw):lU (l.map fun p=> .arr (pE p))=nj l:=funext fun k=>by
 unfold lU nj;rw[List.length_map];by_cases h:k< l.length;rw[if_pos h,if_pos h,List.getD_eq_getElem?_getD,List.getD_eq_getElem?_getD,List.getElem?_map,List.getElem?_eq_getElem (show l.length- 1- k< l.length by omega)];rfl;rw[if_neg h,if_neg h]
theorem Jo(x:Option Addr)(n c:Nat):FS 119 [.v (.slice x n c)] (.clos 167 [] [.aptr [[.v (.slice x n c)]] 0 0]):=by
 refine f_c Tryz.func119 ?_;refine r_z 2 ?_;refine s_r 2 ?_;refine o_0 (.makeFunc rfl rfl) ?_;refine o_0 (.assign rfl) ?_;refine aq ?_;refine ai (⟨.inr rfl,[_],⟨_,[],rfl,rfl,rfl⟩,?_⟩);exact Cv.clos av (ah (Cv.boxp aA rfl (fun _ _ h=>by cases h) rfl (ac (ag _) af)) av)
structure OkRd (p b:Lq):Prop where
 d:0<=bO b
 bl:b.length<=1099511627776
 pl:p.length<=1099511627776
 bs:smL b
 cs:sm (coP p (bO b).toNat)
 ss:smL (ba b (coP p (bO b).toNat))
 ps:smL p
def rbT(p:Lq)(B:Lw)(z:AV):Nat->AState
 |k=>⟨[(2,.lptr 1 0 0),(9,.clos 167 [] [z])],[(1,some ⟨38,1,[[.arr (pE (rbK p B k))]]⟩)],2,28⟩
theorem xw (H:(Nat->Prop)->World->Prop) (y z:AV) (p:Lq) (B:Lw) (hy:Closed y) (hz:Closed z) (hyz:coe y=y) (hzz:coe z=z) (h:∀k,k< B.length->OkRd (rbK p B k) (B.getD (B.length- 1- k) [])) (hl:(rbK p B B.length).length<=1099511627776)
    (hb:FS 119 [y] (.clos 167 [] [z])) (hgs:∀M (w0:Base),(H M w0.w/\∀b,b< w0.w.heap.size->w0.K b)->GSpecK Tryz.prog 167 ([z].map coe) (nj B) B.length M w0):
    FSpecW Tryz.prog 55 [.arr (pE p),y] (.arr (pE (reP p B))) H:=by
 have o:=c9 _ hl;have r:Closed (.clos 167 [] [z]):=aR af (ac hz af);refine FSpecW.enter Tryz.func55 rfl (by kernel_rfl) rfl rfl rfl ?_ rfl ?_;exact ac (aB p) (ac hy af);refine AWpC.seq (AWp.toC ?_);refine r_m 2 ?_;refine a_z ?_;refine AWpC.seq ?_;refine AWpC.seq (AWp.toC ?_);refine r_m 2 ?_;refine o_0 (.move rfl) ?_;refine o_0 (.call rfl rfl rfl ((by show FSpec _ _ [coe y] _;rw[hyz];exact hb))) ?_;refine aq ?_;refine AWpC.cutT (fun _:Unit=>⟨[(2,.lptr 1 0 0)],[(1,some ⟨38,1,[[.arr (pE (rbK p B B.length))]]⟩)],2,28⟩) (fun _=>True) ?_ ?_;refine AWpC.block ?_;refine AWpC.rangeFunc (α:=Nat) (γ:=Empty) B.length (rbT p B z) (fun k=>k) (fun k=>k<=B.length) (fun e=>nomatch e) (fun _ e=>nomatch e) 0 rfl hgs rfl rfl ?_ (fun _=>⟨rfl,rfl⟩) (fun e=>nomatch e) (Nat.zero_le _) rfl (fun _ h=>h) ?_ ?_ ?_ ?_ (fun _ e=>nomatch e);intro k xs a;unfold nj at a;split at a;cases a;rfl;cases a;rw[rbT.eq_1];exact s_t [(1,2)];show∀c∈[coe z],Closed c;rw[hzz];exact ac hz af
 ·intro l k xs s a
  unfold nj at a;split at a;rotate_left;cases a;rename_i hlt;cases a;have ok:=h k hlt;obtain⟨b,j⟩:∃b,b=B.getD (B.length- 1- k) []:=⟨_,rfl⟩;rw[<-j] at ok⊢;have f:rbK p B (k+1)=rbF (rbK p B k) b:=by rw[rbK,<-j]
  have q:=db b ok.bl;show AWp _ _ _ _ ⟨[(11,.arr (pE b)),(10,i64 (B.length- 1- k:Nat)),(2,.lptr 1 0 0),(9,.clos 167 [] [z]),(1002,.lptr 1 0 0),(1009,.clos 167 [] [z])],[(1,some ⟨38,1,[[.arr (pE (rbK p B k))]]⟩)],2,28⟩;refine r_m 1 ?_;refine a_z ?_;refine aj (r_c 3 (q) ?_);refine a_z ?_;have n:(pE (rbK p B k)).length=(rbK p B k).length:=by simp[pE]
  have d0:=ok.d;by_cases hd:bO b< (rbK p B k).length
  have g:(pE (rbK p B k))[(bO b).toNat]?=some (qC (coP (rbK p B k) (bO b).toNat)):=by
   have:=ci (p:=rbK p B k) (i:=(bO b).toNat) (by omega);simp[pE,this]
  have v:=fK b (coP (rbK p B k) (bO b).toNat) ok.bs ok.cs ok.bl;have m:=DP (rbK p B k) _ ok.ps ok.ss ok.pl (Nat.le_trans (dJ _ _) ok.bl);rw[show eg (rbK p B k) (ba b (coP (rbK p B k) (bO b).toNat))=rbK p B (k+1) by rw[f,rbF,if_pos hd]] at m;refine q_z 4 ?_;refine cT (r_d a7 9 ?_);refine a_4 ?_;refine i_x g ?_;refine l_x g ?_;refine c_s (v) ?_;refine c_s (m) ?_;refine a_1 ?_;refine aq (n_k ?_);refine⟨k+1,⟨hlt,rfl⟩,?_⟩;show SEntT _ ⟨[(1002,.lptr 1 0 0),(1009,.clos 167 [] [z])],[(1,some ⟨38,1,[[.arr (pE (rbK p B (k+1)))]]⟩)],2,28⟩;exact s_t [(1,2)];have u:rbK p B (k+1)=rbK p B k:=by rw[f,rbF,if_neg hd]
  refine q_z 4 ?_;refine cF (am (⟨k+1,⟨hlt,rfl⟩,?_⟩));show SEntT _ ⟨[(1002,.lptr 1 0 0),(1009,.clos 167 [] [z])],[(1,some ⟨38,1,[[.arr (pE (rbK p B (k+1)))]]⟩)],2,28⟩;rw[u];exact s_t [(1,2)]
 intro k s a;unfold nj at a;split at a;cases a;refine⟨(),trivial,?_⟩;rw[rbT.eq_1];have t:k=B.length:=by omega
 subst t;exact s_e [(1,2)];rintro _ _;refine AWpC.seq (AWp.toC ?_);refine r_m 3 ?_;refine c_s (o) ?_;refine a_z ?_;refine AWp.toC (ai ?_);exact t_e (aB _)
theorem xz(p:Lq)(B:Lw)(hB:B.length<=281474976710656)(h:∀k,k< B.length->OkRd (rbK p B k) (B.getD (B.length- 1- k) []))(hl:(rbK p B B.length).length<=1099511627776):FS 55 [.arr (pE p),.arr (mE B)] (.arr (pE (reP p B))):=
 (xw (fun _ _=>True) _ (bM B) p B (closed_mA B) (cj B) rfl rfl h hl (BB B) fun M a _=>GSpecK.of (Bf B hB)).to
theorem Dw(p:Lq)(B:Lw)(b1:Nat)(x:Option Addr)(n c:Nat)(hB:B.length<=281474976710656)(h:∀k,k< B.length->OkRd (rbK p B k) (B.getD (B.length- 1- k) []))(hl:(rbK p B B.length).length<=1099511627776):FSpecW Tryz.prog 55 [.arr (pE p),.v (.slice x n c)] (.arr (pE (reP p B))) (F2 b1 (.slice x n c) (B.map fun b=> .arr (pE b))):=by
 refine xw _ (.v (.slice x n c)) (.aptr [[.v (.slice x n c)]] 0 0) p B (ag _) (bq (ac (ag _) af)) rfl rfl h hl (Jo x n c) fun M f a=>?_
 have:=GSpecK.look (P:=Tryz.prog) (g:=167) (N:=B.length) (fun xs d=>by
  have:=IS (xs.map .v) (fun z e=>by obtain⟨x,_,rfl⟩:=List.mem_map.1 e;exact⟨ag x,rfl⟩) (by rw[List.length_map,d,List.length_map];exact hB) B.length;rw[List.map_map] at this;exact this) a.2 a.1
 rw[backA_M] at this;exact this
def hoP(k:Ke)(l:Rat)(g u:Lq)(a b:Rat):Lq:=fQ g (ba (smK k (rhK k u a b) k.length) l)
def zsK(k:Ke)(m:Mx×Ln):Lw:=((frL m.2 k.length).map (gq m.1 k.length m.2)).map fun z=>smK k z k.length
theorem Bs(k:Ke)(l:Rat)(g:Lq)(a b:Rat)(A:Mx)(L:Ln)(hE:Ech A k.length k.length L)(hkl:k.length<=25)(hc:∀f∈frL L k.length,∀i p,k[i]?=some p->OkSm k (gq A k.length L f) i p)(B:Lw)(hB:FS 95 [.arr (mE (zsK k (A,L)))] (.arr (mE B))):
    FS 36 [.agg (tkC k l g a b),syV k.length (A,L)] (.arr (mE B)):=by
 have d:=IU A k.length L hE hkl;have j:=zv L k.length
 have h:=Jc ((frL L k.length).map (gq A k.length L)) 57 [.arr (kE k)] (fun z=>smK k z k.length) (ac (aL k) af) (by simp;omega) fun z d=>by
  obtain⟨f,e,rfl⟩:=List.mem_map.1 d;exact tV k _ (by simp) (by omega) (hc f e)
 have c:Closed (syV k.length (A,L)):=fN _ _ _;refine f_n Tryz.func36 ?_ ?_;exact ac (az (ee k l g a b)) (ac c af);refine r_z 3 ?_;refine ae (r_d a7 9 ?_);refine c_s (d) ?_;refine c_s (h) ?_;refine c_s (hB) ?_;refine a_1 ?_;refine aq (n_k ?_);exact ai (t_e (closed_mA _))
theorem GO (k:Ke) (l:Rat) (g:Lq) (a b:Rat) (s:Nat) (h:OkTa k l g a b s) (h2:OkSu k l g a b) (hN:ji k.length (syM k l (rhK k g a b) a b).1 (syM k l (rhK k g a b) a b).2=false)
    (hc:∀f∈frL (syM k l (rhK k g a b) a b).2 k.length,∀i p,k[i]?=some p->OkSm k (gq (syM k l (rhK k g a b) a b).1 k.length (syM k l (rhK k g a b) a b).2 f) i p) (B:Lw) (hB:FS 95 [.arr (mE (zsK k (syM k l (rhK k g a b) a b)))] (.arr (mE B)))
    (hR:FS 55 [.arr (pE (syU k l g a b)),.arr (mE B)] (.arr (pE (reP (syU k l g a b) B)))):
    FS 16 [.agg (eqC k l g),.agg (spC a b)] (.tup [.arr (pE (reP (syU k l g a b) B)),.arr (mE B),i64 0]):=by
 have q:=h.ke.1;have m:=fW k l g a b h.ke h.ha h.hb h.ab h.dg h.gl;have hs:=lE k l g a b s h.sy h.rh;have j:=h.none;rw[hN] at j;have n:=Bs k l g a b (syM k l (rhK k g a b) a b).1 (syM k l (rhK k g a b) a b).2 (dh _ _ _) (by omega) hc B hB;have o:=tU (syM k l (rhK k g a b) a b).1 k.length (syM k l (rhK k g a b) a b).2 (dh _ _ _) (by omega);have c:=tV k (ns k l g a b) (by unfold ns;simp) (by omega) h2.ms;have d:=fK _ l h2.u1 h2.sl h2.u2;have e:=nZ g _ h2.sg h2.v1 h.gl h2.v2;refine f_n Tryz.func16 ?_ ?_;exact ac (az (dk k l g)) (ac (az (aZ a b)) af);refine r_z 5 ?_;refine r_z 5 ?_;refine AWp.ent (st':=⟨[(7,bTk k l g a b)],[],1,38⟩) ?_ ?_;have:=ee k l g a b;exact s_f [];refine ae (r_c 2 (m) ?_);refine aq ?_;refine cF (am (r_c 4 (hs) ?_));refine a_z ?_;refine AWp.ent (st':=⟨[(7,bTk k l g a b),(8,bSy k.length (syM k l (rhK k g a b) a b).1 (syM k l (rhK k g a b) a b).2)],[],1,38⟩) ?_ ?_;exact s_x [] (fun hs=>e_25) (fun hs=>e_26);refine ae (r_c 2 (j) ?_);refine aq ?_;refine cF (am (r_c 4 (n) ?_));refine a_z ?_;refine ae (r_d a7 20 ?_);refine c_s (o) ?_;refine c_s (c) ?_;refine c_s (d) ?_;refine c_s (e) ?_;refine c_s (hR) ?_;refine a_4 ?_;refine aq (n_k ?_);refine ai (Fin.many ⟨_,_,rfl,rfl,⟨_,_,rfl,rfl,⟨_,_,rfl,rfl,rfl⟩⟩⟩ (nle rfl) ?_);exact ah (an aA (aB _)) (ah (an aA (closed_mA _)) (ah (an aA (ag _)) av))
theorem Di(l:Lw)(i:Nat)(q:Lq):(mE l).set i [.arr (pE q)]=mE (l.set i q):=by simp[mE,List.map_set]
theorem fs_eCmp(a b:Lq)(ha:a.length<=1099511627776)(hb:b.length<=1099511627776):FS 151 [.arr (pE a),.arr (pE b)] (i64 (bO a- bO b)):=by
 have d:=db a ha;have c:=db b hb;have l1:=bR a;have l2:=bR b;have d1:bO a=(ao a).length- 1:=rfl;have d2:bO b=(ao b).length- 1:=rfl;refine f_c Tryz.func151 ?_;refine r_z 1 ?_;refine r_c 6 (d) ?_;refine c_s (c) ?_;refine a_z ?_;exact ai (t_e (ag _))
def ioS(L:Lw)(n:Nat):Nat->AState
 |i=>⟨[(0,.lsl 0 0 n none 1),(1,i64 0),(2,i64 n),(3,.clos 151 [] []),(8,i64 ((i:Int)+1))],[(0,some ⟨38,1,mE (kf L i)⟩)],1,53⟩
def ijS(n i:Nat):Nat×Lw->AState
 |(j,X)=>⟨[(0,.lsl 0 0 n none 1),(1,i64 0),(2,i64 n),(3,.clos 151 [] []),(8,i64 ((i:Int)+1)),(9,i64 j)],[(0,some ⟨38,1,mE X⟩)],1,53⟩
theorem G1(L:Lw)(n:Nat)(hn:L.length=n)(h1:1<=n)(hl:n<=12)(hb:∀p∈L,p.length<=1099511627776):
    ESpec Tryz.prog 227 38 1 (mE L) (mE (kf L (n- 1))) 0 n none [i64 0,i64 n,.clos 151 [] []] (.tuple #[]):=by
 have k:∀i,i< L.length->∀p∈kf L i,p.length<=1099511627776:=vg L hb;refine ESpec.enter Tryz.func227 rfl (by kernel_rfl) rfl rfl rfl ?_ ?_ ?_ rfl ?_;exact ac (ag _) (ac (ag _) (ac (aR af af) af));exact cm _;exact cm _;refine r_z 3 ?_;refine aj (aC (ioS L n) (fun i=>n- i) (fun i=>i< n) 0 (by omega) ?_ ?_);rw[ioS.eq_1];exact s_f [];intro i y;rw[ioS.eq_1];by_cases hlt:i+1< n;refine ae (q_z 3 ?_);refine cT (am (ae (aj (r_z 2 ?_))));have m:(kf L i).length=n:=by rw[ly,hn]
 refine AWp.cutB (fun _:Unit=>⟨[(0,.lsl 0 0 n none 1),(1,i64 0),(2,i64 n),(3,.clos 151 [] []),(8,i64 ((i:Int)+1))],[(0,some ⟨38,1,mE (kf L (i+1))⟩)],1,53⟩) (fun _=>True) ?_ ?_;refine aj (aC (ijS n i) (fun s=>s.1) (fun s=>s.1<=i+1/\s.2.length=n/\rZ s.2 s.1=kf L (i+1)/\∀p∈s.2,p.length<=1099511627776) (i+1,kf L i) ⟨Nat.le_refl _,m,by rw[kf],k i (by omega)⟩ ?_ ?_);simp only[ijS.eq_1];exact s_f [];rintro⟨j,X⟩ ⟨x,l,f,g⟩;simp only at x l f g;simp only[ijS.eq_1];have q:(mE X).length=n:=by simp[l]
 cases j with
 |zero=>
  refine ae (ae (r_d a7 17 ?_));refine d_8 ?_;refine d_8 ?_;refine m_1 ?_;refine aq (n_k ?_);refine cF (ax ⟨(),trivial,?_⟩);rw[<-f,rZ];exact s_f []
 |succ j=>
  obtain⟨a,ha⟩:∃a,X[j+1]?=some a:=⟨_,List.getElem?_eq_getElem (by omega)⟩;obtain⟨b,e⟩:∃b,X[j]?=some b:=⟨_,List.getElem?_eq_getElem (by omega)⟩;have r:X.getD (j+1) []=a:=by rw[List.getD_eq_getElem?_getD,ha];rfl
  have w:X.getD j []=b:=by rw[List.getD_eq_getElem?_getD,e];rfl
  have c:(mE X)[0+(((j+1:Nat):Int)).toNat]?=some [.arr (pE a)]:=gR ha _ (by omega);have d:(mE X)[0+(((j+1:Nat):Int)- 1).toNat]?=some [.arr (pE b)]:=gR e _ (by omega);have o:=fs_eCmp a b (g a (List.mem_of_getElem? ha)) (g b (List.mem_of_getElem? e));rw[rZ,r,w] at f;by_cases hd:bO a< bO b;rw[if_pos hd] at f;refine ae (ae (r_d a7 17 ?_));refine d_7 ?_
  first|refine aQ rfl rfl rfl (.index_l rfl rfl (by omega) (by omega) te_51.h) rfl rfl ?_|refine aQ rfl rfl rfl (.index_a rfl rfl (by omega) c rfl te_51.h) rfl rfl ?_
  first|refine aQ rfl rfl rfl (.load_l1 rfl rfl c TG.h rfl) rfl rfl ?_|refine aQ rfl rfl rfl (.load_a1 rfl c TG.h rfl) rfl rfl ?_
  refine d_3 ?_
  first|refine aQ rfl rfl rfl (.index_l rfl rfl (by omega) (by omega) te_51.h) rfl rfl ?_|refine aQ rfl rfl rfl (.index_a rfl rfl (by omega) d rfl te_51.h) rfl rfl ?_
  first|refine aQ rfl rfl rfl (.load_l1 rfl rfl d TG.h rfl) rfl rfl ?_|refine aQ rfl rfl rfl (.load_a1 rfl d TG.h rfl) rfl rfl ?_
  refine c_s (o) ?_;refine d_2 ?_;refine aq (n_k ?_);refine cT (am (ae (aj ?_)))
  have t:((mE X).set (0+(((j+1:Nat):Int)).toNat) [.arr (pE b)])[0+(((j+1:Nat):Int)- 1).toNat]?=some [.arr (pE b)]:=by
   rw[List.getElem?_set_ne (by omega)];exact d
  refine r_d a7 18 ?_;refine a_8 ?_
  first|refine aY (.index_l rfl rfl (by omega) (by omega) te_51.h) rfl rfl ?_|refine aY (.index_a rfl rfl (by omega) d rfl te_51.h) rfl rfl ?_
  first|refine aY (.load_l1 rfl rfl d TG.h rfl) rfl rfl ?_|refine aY (.load_a1 rfl d TG.h rfl) rfl rfl ?_
  refine a_2 ?_
  first|refine aY (.index_l rfl rfl (by omega) (by omega) te_51.h) rfl rfl ?_|refine aY (.index_a rfl rfl (by omega) c rfl te_51.h) rfl rfl ?_
  first|refine aY (.load_l1 rfl rfl c TG.h rfl) rfl rfl ?_|refine aY (.load_a1 rfl c TG.h rfl) rfl rfl ?_
  refine a_1 ?_;refine eF (.store rfl rfl c rfl rfl rfl TS.h (nle rfl)) ?_;refine a_1 ?_;refine eF (.store rfl rfl t rfl rfl rfl TS.h (nle rfl)) ?_;refine aq (n_k ?_);refine r_m 3 ?_;refine a_z ?_;refine⟨(j,(X.set (j+1) b).set j a),by simp only;omega,⟨by simp only;omega,by simp[l],f,?_⟩,?_⟩;intro p hp;simp only at hp;rcases List.mem_or_eq_of_mem_set hp with h|h
  rcases List.mem_or_eq_of_mem_set h with h|h
  exact g p h;rw[h];exact g b (List.mem_of_getElem? e);rw[h];exact g a (List.mem_of_getElem? ha);have e1:0+(((j+1:Nat):Int)).toNat=j+1:=by omega
  have e2:0+(((j+1:Nat):Int)- 1).toNat=j:=by omega
  have u:((mE X).set (0+(((j+1:Nat):Int)).toNat) [.arr (pE b)]).set (0+(((j+1:Nat):Int)- 1).toNat) [.arr (pE a)]=((mE X).set (j+1) [.arr (pE b)]).set j [.arr (pE a)]:=by rw[e1,e2]
  simp only[ijS.eq_1];refine s_x [] (fun hs=>e_62) (fun hs=>?_)
  ·repeat' (first|exact aE|refine h_c ?_ ?_|exact aI hs (by rw[<-Di,<-Di];exact u) (cm _)|exact bZ|refine aD ?_|exact av|refine ah ?_ ?_|(refine Cv.loE hs ?_ (ag _);simp[i64];done)|exact aX)
  rw[if_neg hd] at f;refine ae (ae (r_d a7 17 ?_));refine d_7 ?_
  first|refine aQ rfl rfl rfl (.index_l rfl rfl (by omega) (by omega) te_51.h) rfl rfl ?_|refine aQ rfl rfl rfl (.index_a rfl rfl (by omega) c rfl te_51.h) rfl rfl ?_
  first|refine aQ rfl rfl rfl (.load_l1 rfl rfl c TG.h rfl) rfl rfl ?_|refine aQ rfl rfl rfl (.load_a1 rfl c TG.h rfl) rfl rfl ?_
  refine d_3 ?_
  first|refine aQ rfl rfl rfl (.index_l rfl rfl (by omega) (by omega) te_51.h) rfl rfl ?_|refine aQ rfl rfl rfl (.index_a rfl rfl (by omega) d rfl te_51.h) rfl rfl ?_
  first|refine aQ rfl rfl rfl (.load_l1 rfl rfl d TG.h rfl) rfl rfl ?_|refine aQ rfl rfl rfl (.load_a1 rfl d TG.h rfl) rfl rfl ?_
  refine c_s (o) ?_;refine d_2 ?_;refine aq (n_k ?_);refine cF (ax ⟨(),trivial,?_⟩);rw[<-f];exact s_f []
 rintro _ _;refine r_m 3 ?_;refine a_z ?_;refine⟨i+1,by omega,hlt,?_⟩;rw[ioS.eq_1];refine s_x [] (fun hs=>e_62) (fun hs=>?_)
 ·repeat' (first|exact aE|refine h_c ?_ ?_|exact bm hs (cm _)|exact bZ|refine aD ?_|exact av|refine ah ?_ ?_|(refine Cv.loE hs ?_ (ag _);simp[i64];done)|exact aX)
 have v:i=n- 1:=by omega
 refine ae (q_z 3 ?_);refine cF (ax ?_);rw[<-v];exact FinE.none (.inl rfl) rfl rfl
theorem es_pdq(L:Lw)(n m:Nat)(hn:L.length=n)(h1:1<=n)(hl:n<=12)(hb:∀p∈L,p.length<=1099511627776):
    ESpec Tryz.prog 188 38 1 (mE L) (mE (kf L (n- 1))) 0 n none [i64 0,i64 n,i64 m,.clos 151 [] []] (.tuple #[]):=by
 have a:=G1 L n hn h1 hl hb;refine ESpec.enter Tryz.func188 rfl (by kernel_rfl) rfl rfl rfl ?_ ?_ ?_ rfl ?_;exact ac (ag _) (ac (ag _) (ac (ag _) (ac (aR af af) af)));exact cm _;exact cm _;refine r_z 1 ?_;refine r_z 1 ?_;refine aj (aC (fun _:Unit=>⟨[(0,.lsl 0 0 n none 1),(1,i64 0),(2,i64 n),(4,.clos 151 [] [])],[(0,some ⟨38,1,mE L⟩)],1,148⟩) (fun _=>0) (fun _=>True) () trivial ?_ ?_);exact s_f [];rintro _ _;refine aj (r_z 4 ?_);refine ae (q_z 2 ?_);refine cT (s_r 5 ?_);refine a_4 ?_;refine o_1 (.callE2 rfl rfl rfl rfl rfl rfl (a)) ?_;refine aq ?_;exact ai (FinE.none (.inr rfl) rfl rfl)
def lenT(n:Nat):Nat:=if n< 2 then 1 else if n< 4 then 2 else if n< 8 then 3 else 4
theorem GU(n:Nat)(h:n=1\/n=2\/n=3\/n=4\/n=5\/n=6\/n=7\/n=8\/n=9\/n=10\/n=11\/n=12):FS 236 [.v (.int .u64 (n:Int))] (i64 (lenT n)):=by
 rcases h with rfl|rfl|rfl|rfl|rfl|rfl|rfl|rfl|rfl|rfl|rfl|rfl
 all_goals (
  refine f_c Tryz.func236 ?_;refine r_z 1 ?_;refine ae (s_r 2 ?_);refine a_1 ?_;refine o_0 (.bin rfl rfl (vF jq (decide_eq_false (by decide)))) ?_;refine aq ?_;refine cF (am (ae (s_r 2 ?_)));refine a_1 ?_;refine o_0 (.bin rfl rfl (vF jq (decide_eq_false (by decide)))) ?_;refine aq ?_;refine cF (am (ae (s_r 2 ?_)));refine a_1 ?_;refine o_0 (.bin rfl rfl (vF jq (decide_eq_false (by decide)))) ?_;refine aq ?_;refine cF (am (s_r 7 ?_));refine a_3 ?_;refine o_0 ((by first|exact .index_s (r:= .int .u8 1) rfl rfl (fun w=>rfl)|exact .index_s (r:= .int .u8 2) rfl rfl (fun w=>rfl)|exact .index_s (r:= .int .u8 3) rfl rfl (fun w=>rfl)|exact .index_s (r:= .int .u8 4) rfl rfl (fun w=>rfl))) ?_;refine a_z ?_;exact ai (t_e (ag _)))
theorem fs_Lens(n:Nat)(h1:1<=n)(hl:n<=12):FS 189 [.v (.int .u64 (n:Int))] (i64 (lenT n)):=by
 have a:=GU n (by omega);refine f_c Tryz.func189 ?_;refine r_z 1 ?_;refine ae (cF (am (r_c 3 (a) ?_)));refine a_z ?_;exact ai (t_e (ag _))
theorem FE(L:Lw)(n:Nat)(hn:L.length=n)(h1:1<=n)(hl:n<=12)(hb:∀p∈L,p.length<=1099511627776):
    ESpec Tryz.prog 150 38 1 (mE L) (mE (kf L (n- 1))) 0 n none [.clos 151 [] []] (.tuple #[]):=by
 have a:=es_pdq L n (lenT n) hn h1 hl hb;have b:=fs_Lens n h1 hl;refine ESpec.enter Tryz.func150 rfl (by kernel_rfl) rfl rfl rfl ?_ ?_ ?_ rfl ?_;exact ac (aR af af) af;exact cm _;exact cm _;refine r_z 3 ?_;refine r_m 7 ?_;refine c_s (b) ?_;refine a_1 ?_;refine o_1 (.callE2 rfl rfl rfl rfl rfl rfl (a)) ?_;refine aq ?_;exact FinE.none (.inl rfl) rfl rfl
end Go.Proofs.YtkbjakfniejkcaaGreatDoor
