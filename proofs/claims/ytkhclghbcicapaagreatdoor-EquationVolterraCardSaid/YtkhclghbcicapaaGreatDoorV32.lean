/- Part V32 of the proof. -/
import Derived.Test.YtkhclghbcicapaaGreatDoorV31
set_option linter.all false
namespace Go.Proofs.YtkhclghbcicapaaGreatDoor
open Go.Abs
set_option maxRecDepth 20000
set_option maxHeartbeats 4000000
abbrev gY:=List fC×List fC
def twC(t:gY):List AV:=[.arr (nR t.1),.arr (nR t.2)]
def twR(l:List gY):List (List AV):=l.map twC
@[simp] theorem uc (l:List gY):(twR l).length=l.length:=by simp[twR]
theorem CT(l:List gY):∀x∈twR l,∀c∈x,Closed c:=fun x a=>by
 obtain⟨p,_,rfl⟩:=List.mem_map.1 a;exact ac (aK (cP _)) (ac (aK (cP _)) ag)
theorem dn(l:List gY):Closed (.arr (twR l)):=aK (CT l)
theorem twR_get{l:List gY}{i:Nat}{t:gY}(h:l[i]?=some t):∀e,e=i→(twR l)[e]?=some (twC t):=fun e a=>by
 rw[a,twR,List.getElem?_map,h];rfl
def xZ(t:gY):Prop:=(okR t.1∧okR t.2)∧t.1.length≤9223372036854775807∧t.2.length≤9223372036854775807
def f7(l:List fC):Bool:=f5 l 4||decide (12< cN (nL l))
def wI(t:gY):Bool:=decide (30< t.1.length)||decide (30< t.2.length)
def iJ(t:gY):Bool:=!wI t && (f7 t.1 && f7 t.2)
def wK(n:Nat):Bool:=!((decide (3< n) && decide (n≤8))||decide (12< n))
def tf(l:List gY):Bool:=wK l.length && l.all iJ
def keM(l:List gY):Ke:=l.map fun t=>(nL t.1,nL t.2)
@[simp] theorem gd (l:List gY):(keM l).length=l.length:=by simp[keM]
def keV(l:List gY):AV:=if tf l then .tup [.arr (kE (keM l)),.arr (keR (keM l)),bln true] else .tup [.arr (kE []),.arr (keR []),bln false]
theorem keR_one(k:Ke):(keR k).all (·.all AV.one)=true:=by
 rw[List.all_eq_true];intro x a;obtain⟨p,_,rfl⟩:=List.mem_map.1 a;rfl
theorem GK(k:Ke)(p:List Rat×List Rat):keR (k++[p])=keR k++[pkR p]:=by simp[keR]
def krS'(l:List gY):Nat→AState
 |0=>⟨[(0,.arr (twR l)),(5,.emp),(6,.emp),(7,i64 0)],[],1,105⟩
 |i+1=>⟨[(0,.arr (twR l)),(5,.lsl 1 0 (i+1) none 2),(6,.lsl 2 0 (i+1) none 2),(7,i64 ((i+1:Nat):Int))],[(1,some ⟨61,2,kE ((keM l).take (i+1))⟩),(2,some ⟨147,2,keR ((keM l).take (i+1))⟩)],3,105⟩
theorem qm{l:List gY}{t:gY}(ht:t∈l)(h:iJ t=false):tf l=false:=by
 unfold tf;rw[List.all_eq_false.2 ⟨t,ht,by rw[h];decide⟩,Bool.and_false]
structure PrF (t:gY):Prop where
 b1:FS 81 [.arr (nR t.1)] (.tup [.arr (pE (nL t.1)),.arr (rE (rP (nL t.1)))])
 b2:FS 81 [.arr (nR t.2)] (.tup [.arr (pE (nL t.2)),.arr (rE (rP (nL t.2)))])
 t1:FS 6 [.arr (nR t.1),i64 4] (bln (f5 t.1 4))
 t2:FS 6 [.arr (nR t.2),i64 4] (bln (f5 t.2 4))
 d1:FS 82 [.arr (rE (rP (nL t.1)))] (i64 (cN (nL t.1)))
 d2:FS 82 [.arr (rE (rP (nL t.2)))] (i64 (cN (nL t.2)))
theorem prF{t:gY}(h:xZ t)(h1:t.1.length≤30)(h2:t.2.length≤30):PrF t:=by
 have d1:=iR (rP (nL t.1)) (by simp[nL];omega);have d2:=iR (rP (nL t.2)) (by simp[nL];omega);rw[ua] at d1 d2;exact⟨u9 t.1 (by omega) h.1.1,u9 t.2 (by omega) h.1.2,qI t.1 4 h.2.1 (by decide),qI t.2 4 h.2.2 (by decide),d1,d2⟩
theorem CB(l:List gY)(ho:∀t∈l,xZ t)(hl:l.length≤9223372036854775807):FS 28 [.arr (twR l)] (keV l):=by
 have L:(twR l).length=l.length:=uc l;refine f_n Tryz.func28 ?_ ?_;exact ac (dn l) ag;obtain⟨r,E⟩:∃r,r=keV l:=⟨_,rfl⟩;rw[←E];have f:tf l=false→r= .tup [.arr (kE []),.arr (keR []),bln false]:=fun h=>by rw[E,keV,h];rfl
 refine r_z 3 ?_;refine r_z 1 ?_;refine r_z 1 ?_;have y:Cv (Ren.id 0) (ap []) (fun _=>none) (.tup [.emp,.emp,bln false]) (.tup [.arr (kE []),.arr (keR []),bln false])→True:=fun _=>trivial;by_cases c1:12< l.length;rw[f (by unfold tf wK;rw[decide_eq_true c1,Bool.or_true];rfl)];refine ae (q_z 13 ?_);refine cT (r_z 3 ?_);refine ak (Fin.many ⟨_,_,rfl,rfl,⟨_,_,rfl,rfl,⟨_,_,rfl,rfl,rfl⟩⟩⟩ (nle rfl) ?_);exact ai (Cv.emp _) (ai (Cv.emp _) (ai (ao ay (ah _)) aw));by_cases c2:3< l.length∧l.length≤8;rw[f (by unfold tf wK;rw[decide_eq_true c2.1,decide_eq_true c2.2];rfl)];refine ae (q_z 13 ?_);refine cT (r_z 3 ?_);refine ak (Fin.many ⟨_,_,rfl,rfl,⟨_,_,rfl,rfl,⟨_,_,rfl,rfl,rfl⟩⟩⟩ (nle rfl) ?_);exact ai (Cv.emp _) (ai (Cv.emp _) (ai (ao ay (ah _)) aw))
 have s:wK l.length=true:=by
  unfold wK;rw[decide_eq_false c1,Bool.or_false,Bool.not_eq_true',Bool.and_eq_false_iff];by_cases h3:3< l.length;exact .inr (decide_eq_false (by omega));exact .inl (decide_eq_false h3)
 refine bv (fun _:Unit=>⟨[(0,.arr (twR l)),(5,.emp),(6,.emp)],[],1,105⟩) (fun _=>True) ?_ ?_;by_cases h3:3< l.length;refine q_z 13 ?_;refine cF (an (⟨(),trivial,?_⟩));have:=dn l;exact s_f [];refine q_z 13 ?_;refine cF (an (⟨(),trivial,?_⟩));have:=dn l;exact s_f [];rintro _ _;refine ae (r_z 1 ?_);refine aH (fun _:Unit=>krS' l l.length) (fun _=> ∀t∈l,iJ t=true) ?_ ?_
 ·refine am (aD (krS' l) (fun i=>l.length- i) (fun i=>i≤l.length∧∀t∈l.take i,iJ t=true) 0 ⟨Nat.zero_le _,fun t ht=>by simp at ht⟩ ?_ ?_)
  rw[krS'.eq_1];have:=dn l;exact s_f [];rintro i ⟨Q,k⟩;obtain⟨A,G,p,q,o⟩:∃A G p q,krS' l i=⟨[(0,.arr (twR l)),(5,A),(6,G),(7,i64 i)],p,q,105⟩:=by cases i <;> exact⟨_,_,_,_,rfl⟩
  by_cases hlt:i< l.length;rotate_left;have v:i=l.length:=by omega
  rw[o];refine ae (q_z 4 ?_);refine cF (aA ⟨(),(by rw[v,List.take_length] at k;exact k),?_⟩);show SEnt _ (krS' l l.length);rw[←v];cases i with
  |zero=>
   rw[krS'.eq_1] at o⊢;cases o;have:=dn l;exact s_f []
  |succ i=>
   rw[krS'.eq_2] at o⊢;cases o;refine s_x [(1,5),(2,6)] (fun hs=>e_19) (fun hs=>?_)
   ·repeat' (first|exact aI|refine h_c ?_ ?_|exact cm hs (ez _)|exact cm hs (kb _)|exact cj|refine aG ?_|exact aw|refine ai ?_ ?_|exact ao hs (dn l)|exact bh)
  obtain⟨t,ht⟩:∃t,l[i]?=some t:=⟨_,List.getElem?_eq_getElem hlt⟩;have n:=List.mem_of_getElem? ht;have a:(twR l)[((i:Nat):Int).toNat]?=some (twC t):=twR_get ht _ (by simp);have O:(nR t.1).length=t.1.length:=by simp[nR]
  have N:(nR t.2).length=t.2.length:=by simp[nR]
  rw[o];by_cases l1:30< t.1.length;rw[f (qm n (by unfold iJ wI;rw[decide_eq_true l1];rfl))];refine ae (q_z 4 ?_);refine cT (an (ae (am (ae (s_r 16 ?_)))));refine a_2 ?_;refine i_x a ?_;refine a_1 ?_;refine l_1 a ?_;refine d_z ?_;refine cT (r_z 3 ?_);refine ak (Fin.many ⟨_,_,rfl,rfl,⟨_,_,rfl,rfl,⟨_,_,rfl,rfl,rfl⟩⟩⟩ (nle rfl) ?_);exact ai (Cv.emp _) (ai (Cv.emp _) (ai (ao ay (ah _)) aw));by_cases l2:30< t.2.length;rw[f (qm n (by unfold iJ wI;rw[decide_eq_true l2,Bool.or_true];rfl))];refine ae (q_z 4 ?_);refine cT (an (ae (am (ae (s_r 16 ?_)))));refine a_2 ?_;refine i_x a ?_;refine a_1 ?_;refine l_1 a ?_;refine d_5 ?_;refine bH rfl rfl rfl (.index_a rfl rfl (by omega) a rfl te_22.h) rfl rfl ?_;refine m_1 ?_;refine bH rfl rfl rfl (.load_a1 rfl a TG.h rfl) rfl rfl ?_;refine d_z ?_;refine cT (r_z 3 ?_);refine ak (Fin.many ⟨_,_,rfl,rfl,⟨_,_,rfl,rfl,⟨_,_,rfl,rfl,rfl⟩⟩⟩ (nle rfl) ?_);exact ai (Cv.emp _) (ai (Cv.emp _) (ai (ao ay (ah _)) aw));have F:=prF (ho t n) (by omega) (by omega);have b1:=F.b1;have b2:=F.b2;have t1:=F.t1;have t2:=F.t2;have d1:=F.d1;have d2:=F.d2;have b:wI t=false:=by unfold wI;rw[decide_eq_false l1,decide_eq_false l2];rfl
  refine ae (q_z 4 ?_);refine cT (an (ae (am (ae (s_r 16 ?_)))));refine a_2 ?_;refine i_x a ?_;refine a_1 ?_;refine l_1 a ?_;refine d_5 ?_;refine bH rfl rfl rfl (.index_a rfl rfl (by omega) a rfl te_22.h) rfl rfl ?_;refine m_1 ?_;refine bH rfl rfl rfl (.load_a1 rfl a TG.h rfl) rfl rfl ?_;refine d_z ?_;refine cF (an (s_r 11 ?_));refine a_2 ?_;refine i_x a ?_;refine a_1 ?_;refine l_1 a ?_;refine c_s (b1) ?_;refine a_z ?_;refine s_r 11 ?_;refine a_2 ?_;refine i_x a ?_;refine a_1 ?_;refine l_1 a ?_;refine c_s (b2) ?_;refine a_z ?_;refine bv (fun _:Unit=>⟨[(0,.arr (twR l)),(5,A),(6,G),(7,i64 i),(8,.arr (pE (nL t.1))),(9,.arr (rE (rP (nL t.1)))),(10,.arr (pE (nL t.2))),(11,.arr (rE (rP (nL t.2))))],p,q+100,105⟩) (fun _=>iJ t=true) ?_ ?_;by_cases s1:f7 t.1=true;by_cases s2:f7 t.2=true;have e:iJ t=true:=by unfold iJ;rw[b,s1,s2];rfl
  cases e1:f5 t.1 4 with
  |true=>
   rw[e1] at t1;cases e2:f5 t.2 4 with
   |true=>
    rw[e2] at t2;refine s_r 26 ?_;refine a_2 ?_;refine i_x a ?_;refine a_1 ?_;refine l_1 a ?_;refine c_s (t1) ?_;refine d_8 ?_;refine m_1 ?_;refine bH rfl rfl rfl (.index_a rfl rfl (by omega) a rfl te_22.h) rfl rfl ?_;refine m_1 ?_;refine bH rfl rfl rfl (.load_a1 rfl a TG.h rfl) rfl rfl ?_;refine c_s (t2) ?_;refine d_z ?_;exact cF (an (⟨(),e,SEnt.keep (all_cons rfl (all_cons rfl (all_cons rfl (all_cons rfl (all_cons rfl (all_cons rfl (all_cons rfl (all_cons rfl tT)))))))) (by omega)⟩))
   |false=>
    rw[e2] at t2;have J:12< cN (nL t.2):=by unfold f7 at s2;rw[e2] at s2;simpa using s2
    refine s_r 26 ?_;refine a_2 ?_;refine i_x a ?_;refine a_1 ?_;refine l_1 a ?_;refine c_s (t1) ?_;refine d_8 ?_;refine m_1 ?_;refine bH rfl rfl rfl (.index_a rfl rfl (by omega) a rfl te_22.h) rfl rfl ?_;refine m_1 ?_;refine bH rfl rfl rfl (.load_a1 rfl a TG.h rfl) rfl rfl ?_;refine c_s (t2) ?_;refine e_s (d2) ?_;refine d_z ?_;exact cF (an (⟨(),e,SEnt.keep (all_cons rfl (all_cons rfl (all_cons rfl (all_cons rfl (all_cons rfl (all_cons rfl (all_cons rfl (all_cons rfl tT)))))))) (by omega)⟩))
  |false=>
   rw[e1] at t1;have K:12< cN (nL t.1):=by unfold f7 at s1;rw[e1] at s1;simpa using s1
   cases e2:f5 t.2 4 with
   |true=>
    rw[e2] at t2;refine s_r 26 ?_;refine a_2 ?_;refine i_x a ?_;refine a_1 ?_;refine l_1 a ?_;refine c_s (t1) ?_;refine e_s (d1) ?_;refine d_5 ?_;refine bH rfl rfl rfl (.index_a rfl rfl (by omega) a rfl te_22.h) rfl rfl ?_;refine m_1 ?_;refine bH rfl rfl rfl (.load_a1 rfl a TG.h rfl) rfl rfl ?_;refine c_s (t2) ?_;refine d_z ?_;exact cF (an (⟨(),e,SEnt.keep (all_cons rfl (all_cons rfl (all_cons rfl (all_cons rfl (all_cons rfl (all_cons rfl (all_cons rfl (all_cons rfl tT)))))))) (by omega)⟩))
   |false=>
    rw[e2] at t2;have J:12< cN (nL t.2):=by unfold f7 at s2;rw[e2] at s2;simpa using s2
    refine s_r 26 ?_;refine a_2 ?_;refine i_x a ?_;refine a_1 ?_;refine l_1 a ?_;refine c_s (t1) ?_;refine e_s (d1) ?_;refine d_5 ?_;refine bH rfl rfl rfl (.index_a rfl rfl (by omega) a rfl te_22.h) rfl rfl ?_;refine m_1 ?_;refine bH rfl rfl rfl (.load_a1 rfl a TG.h rfl) rfl rfl ?_;refine c_s (t2) ?_;refine e_s (d2) ?_;refine d_z ?_;exact cF (an (⟨(),e,SEnt.keep (all_cons rfl (all_cons rfl (all_cons rfl (all_cons rfl (all_cons rfl (all_cons rfl (all_cons rfl (all_cons rfl tT)))))))) (by omega)⟩))
  have c:f7 t.2=false:=by simpa using s2
  rw[f (qm n (by unfold iJ;rw[b,c];simp))];have e2:f5 t.2 4=false:=by unfold f7 at c;rw[Bool.or_eq_false_iff] at c;exact c.1
  have J:¬12< cN (nL t.2):=by unfold f7 at c;rw[Bool.or_eq_false_iff] at c;exact of_decide_eq_false c.2
  rw[e2] at t2;cases e1:f5 t.1 4 with
  |true=>
   rw[e1] at t1;refine s_r 26 ?_;refine a_2 ?_;refine i_x a ?_;refine a_1 ?_;refine l_1 a ?_;refine c_s (t1) ?_;refine d_8 ?_;refine m_1 ?_;refine bH rfl rfl rfl (.index_a rfl rfl (by omega) a rfl te_22.h) rfl rfl ?_;refine m_1 ?_;refine bH rfl rfl rfl (.load_a1 rfl a TG.h rfl) rfl rfl ?_;refine c_s (t2) ?_;refine e_s (d2) ?_;refine d_z ?_;refine cT (r_z 3 ?_);refine ak (Fin.many ⟨_,_,rfl,rfl,⟨_,_,rfl,rfl,⟨_,_,rfl,rfl,rfl⟩⟩⟩ (nle rfl) ?_);exact ai (Cv.emp _) (ai (Cv.emp _) (ai (ao ay (ah _)) aw))
  |false=>
   rw[e1] at t1;have K:12< cN (nL t.1):=by unfold f7 at s1;rw[e1] at s1;simpa using s1
   refine s_r 26 ?_;refine a_2 ?_;refine i_x a ?_;refine a_1 ?_;refine l_1 a ?_;refine c_s (t1) ?_;refine e_s (d1) ?_;refine d_5 ?_;refine bH rfl rfl rfl (.index_a rfl rfl (by omega) a rfl te_22.h) rfl rfl ?_;refine m_1 ?_;refine bH rfl rfl rfl (.load_a1 rfl a TG.h rfl) rfl rfl ?_;refine c_s (t2) ?_;refine e_s (d2) ?_;refine d_z ?_;refine cT (r_z 3 ?_);refine ak (Fin.many ⟨_,_,rfl,rfl,⟨_,_,rfl,rfl,⟨_,_,rfl,rfl,rfl⟩⟩⟩ (nle rfl) ?_);exact ai (Cv.emp _) (ai (Cv.emp _) (ai (ao ay (ah _)) aw))
  have d:f7 t.1=false:=by simpa using s1
  rw[f (qm n (by unfold iJ;rw[b,d];rfl))];have e1:f5 t.1 4=false:=by unfold f7 at d;rw[Bool.or_eq_false_iff] at d;exact d.1
  have K:¬12< cN (nL t.1):=by unfold f7 at d;rw[Bool.or_eq_false_iff] at d;exact of_decide_eq_false d.2
  rw[e1] at t1;refine s_r 26 ?_;refine a_2 ?_;refine i_x a ?_;refine a_1 ?_;refine l_1 a ?_;refine c_s (t1) ?_;refine e_s (d1) ?_;refine d_z ?_;refine cT (r_z 3 ?_);refine ak (Fin.many ⟨_,_,rfl,rfl,⟨_,_,rfl,rfl,⟨_,_,rfl,rfl,rfl⟩⟩⟩ (nle rfl) ?_);exact ai (Cv.emp _) (ai (Cv.emp _) (ai (ao ay (ah _)) aw));rintro _ e;have M:(keM l)[i]?=some (nL t.1,nL t.2):=by unfold keM;rw[List.getElem?_map,ht];rfl
  have w:(keM l).take (i+1)=(keM l).take i++[(nL t.1,nL t.2)]:=dp M;have e1:kE ((keM l).take i)++[prC (nL t.1,nL t.2)]=kE ((keM l).take (i+1)):=by rw[w,DT]
  have e2:keR ((keM l).take i)++[pkR (nL t.1,nL t.2)]=keR ((keM l).take (i+1)):=by rw[w,GK]
  have g:∀D∈l.take (i+1),iJ D=true:=fun D h=>by
   rw[dp ht] at h;rcases List.mem_append.1 h with h|h
   exact k D h;rw[List.mem_singleton.1 h];exact e
  cases i with
  |zero=>
   rw[krS'.eq_1] at o;cases o;refine r_m 14 ?_;refine a_z ?_;refine r_m 3 ?_;refine a_z ?_;refine⟨0+1,by omega,⟨by omega,g⟩,?_⟩;rw[krS'.eq_2,←e1,←e2];refine s_x [(1,5),(2,6)] (fun hs=>e_19) (fun hs=>?_)
   ·repeat' (first|exact aI|refine h_c ?_ ?_|exact cm hs (ez [(nL t.1,nL t.2)])|exact cm hs (kb [(nL t.1,nL t.2)])|exact cj|refine aG ?_|exact aw|refine ai ?_ ?_|exact ao hs (dn l)|exact bh)
  |succ i=>
   rw[krS'.eq_2] at o;cases o;have o1:=GO ((keM l).take (i+1));have o2:=keR_one ((keM l).take (i+1));have q1:(kE ((keM l).take (i+1))).length=i+1:=by rw[dX,List.length_take,gd];omega
   have q2:(keR ((keM l).take (i+1))).length=i+1:=by rw[pd,List.length_take,gd];omega
   refine r_m 14 ?_;refine o_0 (.move rfl) ?_;refine o_0 (.move rfl) ?_;refine o_0 (.move rfl) ?_;refine o_0 (.build TZ.h tp_61.h rfl rfl) ?_;refine o_1 (.buildSlice te_27.h TZ.h rfl (by decide) rfl rfl rfl (by first|(simp;done)|(simp[cw,ofV];done)|rfl)) ?_;refine o_2 (.append_l rfl rfl rfl te_27.h rfl rfl rfl rfl rfl d_o (by first|exact fU _|exact fT _|exact eV _|exact fV _|exact fP _|assumption|rfl|simp) (by first|rfl|exact fU _|exact fT _|exact eV _|exact fV _|exact fP _|simp) rfl (.lsl rfl (nle rfl)) TZ.h rfl TB.h d_o (by first|(simp[maxLen];done)|(simp[maxLen];omega))) ?_;refine o_0 (.move rfl) ?_;refine o_0 (.move rfl) ?_;refine o_0 (.move rfl) ?_;refine o_0 (.build TZ.h tp_147.h rfl rfl) ?_;refine o_1 (.buildSlice te_84.h TZ.h rfl (by decide) rfl rfl rfl (by first|(simp;done)|(simp[cw,ofV];done)|rfl)) ?_;refine o_2 (.append_l rfl rfl rfl te_84.h rfl rfl rfl rfl rfl d_o (by first|exact fU _|exact fT _|exact eV _|exact fV _|exact fP _|assumption|rfl|simp) (by first|rfl|exact fU _|exact fT _|exact eV _|exact fV _|exact fP _|simp) rfl (.lsl rfl (nle rfl)) TZ.h rfl TB.h d_o (by first|(simp[maxLen];done)|(simp[maxLen];omega))) ?_;refine o_0 (.assign rfl) ?_;refine o_0 (.assign rfl) ?_;refine au ?_;refine r_m 3 ?_;refine a_z ?_;refine⟨i+1+1,by omega,⟨by omega,g⟩,?_⟩;rw[krS'.eq_2];refine s_x [(1,5),(2,6)] (fun hs=>e_19) (fun hs=>?_)
   ·repeat' (first|exact aI|refine h_c ?_ ?_|exact aT hs e1 (ez _)|exact aT hs e2 (kb _)|exact cj|refine aG ?_|exact aw|refine ai ?_ ?_|exact ao hs (dn l)|exact bh)
 rintro _ u
 have x:r= .tup [.arr (kE (keM l)),.arr (keR (keM l)),bln true]:=by
  rw[E,keV,show tf l=true by unfold tf;rw[s,List.all_eq_true.2 u];rfl];rfl
 rw[x];cases hll:l.length with
 |zero=>
  have z:l=[]:=List.eq_nil_of_length_eq_zero hll;subst z;rw[krS'.eq_1];refine r_z 5 ?_;refine ak (Fin.many ⟨_,_,rfl,rfl,⟨_,_,rfl,rfl,⟨_,_,rfl,rfl,rfl⟩⟩⟩ (nle rfl) ?_);exact ai (Cv.emp _) (ai (Cv.emp _) (ai (ao ay (ah _)) aw))
 |succ m=>
  have C:(keM l).take (m+1)=keM l:=List.take_of_length_le (by rw[gd];omega);have q1:(kE (keM l)).length=m+1:=by rw[dX,gd];omega
  have q2:(keR (keM l)).length=m+1:=by rw[pd,gd];omega
  rw[krS'.eq_2,C];refine r_z 5 ?_;refine ak (Fin.many ⟨_,_,rfl,rfl,⟨_,_,rfl,rfl,⟨_,_,rfl,rfl,rfl⟩⟩⟩ (nle rfl) ?_);exact ai (Cv.shut (B:=⟨61,2,kE (keM l)⟩) ay rfl (fun j B H=>by cases H) (by show 0+(m+1)≤(kE (keM l)).length;omega) (vk q1.symm (ez _))) (ai (Cv.shut (B:=⟨147,2,keR (keM l)⟩) ay rfl (fun j B H=>by cases H) (by show 0+(m+1)≤(keR (keM l)).length;omega) (vk q2.symm (kb _))) (ai (ao ay (ah _)) aw))
def epS(k:Ke)(g:Nat)(cap:List AV)(f:List Rat×List Rat→Rat):Nat→AState
 |0=>⟨[(1,.clos g [] cap),(8,.arr (kE k)),(9,i64 k.length),(10,i64 0),(5,.emp)],[],1,22⟩
 |i+1=>⟨[(1,.clos g [] cap),(8,.arr (kE k)),(9,i64 k.length),(10,i64 ((i+1:Nat):Int)),(5,.lsl 1 0 (i+1) none 3)],[(1,some ⟨34,3,pE ((k.take (i+1)).map f)⟩)],2,22⟩
theorem uY(k:Ke)(g:Nat)(cap:List AV)(f:List Rat×List Rat→Rat)(hcap:∀c∈cap,Closed c)(hl:k.length≤1000)(hg:∀p∈k,FS g ((.agg (prC p)::cap).map coe) (.agg (qC (f p)))):FS 69 [.arr (kE k),.clos g [] cap] (.arr (pE (k.map f))):=by
 have o:(kE k).length=k.length:=dX k;have d:Closed (.clos g [] cap):=aU ag hcap;refine f_n Tryz.func69 ?_ ?_;exact ac (aX k) (ac d ag);refine r_z 1 ?_;refine r_z 1 ?_;refine ae (r_z 3 ?_);refine aH (fun _:Unit=>⟨[(5,.arr (pE (k.map f)))],[],1,22⟩) (fun _=>True) ?_ ?_;refine am (aD (epS k g cap f) (fun i=>k.length- i) (fun i=>i≤k.length) 0 (Nat.zero_le _) ?_ ?_);rw[epS.eq_1];exact s_x [] (fun hs=>e_4) (fun hs=>e_33);intro i q;by_cases hlt:i< k.length;obtain⟨p,hp⟩:∃p,k[i]?=some p:=⟨_,List.getElem?_eq_getElem hlt⟩;have h:=hg p (List.mem_of_getElem? hp);have m:(k.take (i+1)).length=i+1:=by rw[List.length_take];omega
 have b:pE ((k.take i).map f)++[qC (f p)]=pE ((k.take (i+1)).map f):=by rw[dp hp,List.map_append,List.map_singleton,k9];rfl
 cases i with
 |zero=>
  have a:(kE k)[((0:Int)).toNat]?=some (prC p):=j6 hp _ rfl;rw[epS.eq_1];refine q_z 1 ?_;refine ae (cT (an (ae (am (s_r 4 ?_)))));refine i_x a ?_;refine l_x a ?_;refine a_z ?_;refine r_m 7 ?_;refine c_s (h) ?_;refine a_z ?_;refine r_m 2 ?_;refine a_z ?_;refine⟨0+1,by omega,by omega,?_⟩;rw[epS.eq_2];rw[←b];refine s_x [(1,5)] (fun hs=>e_4) (fun hs=>?_)
  ·repeat' (first|exact aI|refine h_c ?_ ?_|exact cm hs (aV [f p])|exact cj|refine aG ?_|exact aw|refine ai ?_ ?_|exact ao hs (aX k)|exact ao hs d|exact bh)
 |succ i=>
  have a:(kE k)[(((i+1:Nat):Int)).toNat]?=some (prC p):=j6 hp _ (by simp);have n:=eV ((k.take (i+1)).map f);have e:(pE ((k.take (i+1)).map f)).length=i+1:=by simp[pE];omega
  rw[epS.eq_2];refine q_z 1 ?_;refine ae (cT (an (ae (am (s_r 4 ?_)))));refine i_x a ?_;refine l_x a ?_;refine a_z ?_;refine r_m 7 ?_;refine c_s (h) ?_;refine a_z ?_;refine r_m 2 ?_;refine a_z ?_;refine⟨i+1+1,by omega,by omega,?_⟩;rw[epS.eq_2];refine s_x [(1,5)] (fun hs=>e_4) (fun hs=>?_)
  ·repeat' (first|exact aI|refine h_c ?_ ?_|exact aT hs b (aV _)|exact cj|refine aG ?_|exact aw|refine ai ?_ ?_|exact ao hs (aX k)|exact ao hs d|exact bh)
 have j:i=k.length:=by omega
 cases i with
 |zero=>
  have l:k=[]:=List.eq_nil_of_length_eq_zero j.symm;subst l;rw[epS.eq_1];refine q_z 1 ?_;refine ae (cF (aA ⟨(),trivial,?_⟩));exact s_e []
 |succ i=>
  have e:(pE (k.map f)).length=i+1:=by simp[pE];omega
  rw[epS.eq_2,j,List.take_length];refine q_z 1 ?_;refine ae (cF (aA ⟨(),trivial,?_⟩));refine s_x [] (fun hs=>?_) (fun hs=>?_)
  ·repeat' (first|exact aS|refine az rfl ?_ ?_|(refine Cv.shut hs rfl (aQ rfl) (by simp) ?_;exact aT hs (by rw[List.drop_zero];exact List.take_of_length_le (by simp)) (aV _))|exact bh)
  ·repeat' (first|exact aI|refine h_c ?_ ?_|exact cj|refine aG ?_|exact aw|refine ai ?_ ?_|(refine Cv.shut hs rfl (aQ rfl) (by simp) ?_;exact aT hs (by rw[List.drop_zero];exact List.take_of_length_le (by simp)) (aV _))|exact bh)
 rintro _ _;refine r_z 2 ?_;exact ak (t_e (aC _))
theorem eD(n:Nat)(A:Mx)(L:List Nat):∀c∈[AV.arr (mE (oK n A)),.arr (lvE L),i64 n],Closed c:=ac (closed_mA _) (ac (aK (eY L)) (ac (ah _) ag))
theorem i6(n:Nat)(A:Mx)(L:List Nat):Closed (syV n (A,L)):=aB (eD n A L)
def bSy(n:Nat)(A:Mx)(L:List Nat):AV:= .aptr [[.arr (mE (oK n A)),.arr (lvE L),i64 n]] 0 0
theorem cU(n:Nat)(A:Mx)(L:List Nat):Closed (bSy n A L):=bt (eD n A L)
theorem DO{L:List Nat}{i c:Nat}(h:L[i]?=some c):∀e:Nat,e=i→(lvE L)[e]?=some [i64 c]:=fun e a=>by
 rw[a,lvE,List.getElem?_map,h];rfl
def onS(A:Mx)(n:Nat)(L:List Nat):Nat→AState
 |i=>⟨[(1,bSy n A L),(3,.lsl 1 0 n (some n) 3),(10,.arr (lvE L)),(11,i64 L.length),(12,i64 i)],[(1,some ⟨34,3,pE (pU A n L i)⟩)],2,31⟩
theorem yr(A:Mx)(n:Nat)(L:List Nat)(hE:Ech A n n L)(hn:n≤25):FS 68 [syV n (A,L)] (.arr (pE (xY A n L))):=by
 have m:(lvE L).length=L.length:=lY L;have j:=hE.len2;refine f_n Tryz.func68 ?_ ?_;exact ac (i6 n A L) ag;refine r_z 2 ?_;refine AWp.ent (st':=⟨[(1,bSy n A L)],[],1,31⟩) ?_ ?_;have:=eD n A L;exact s_f [];refine r_z 4 ?_;refine ae (r_z 4 ?_);refine aH (fun _:Unit=>⟨[(3,.arr (pE (xY A n L)))],[],1,31⟩) (fun _=>True) ?_ ?_;refine am (aD (onS A n L) (fun i=>L.length- i) (fun i=>i≤L.length) 0 (Nat.zero_le _) ?_ ?_);rw[onS.eq_1,oneJ_0];refine s_x [(1,3)] (fun hs=>e_44) (fun hs=>?_)
 ·repeat' (first|exact aI|refine h_c ?_ ?_|exact CvLL.zeros hs n|exact cj|refine aG ?_|exact aw|refine ai ?_ ?_|exact ao hs (cU n A L)|exact ao hs (aK (eY L))|exact bh)
 intro i r;rw[onS.eq_1];by_cases hlt:i< L.length;obtain⟨c,hc⟩:∃c,L[i]?=some c:=⟨_,List.getElem?_eq_getElem hlt⟩;have d:=hE.lt i c hc;have f:i< n:=by omega
 have e:(lvE L)[((i:Nat):Int).toNat]?=some [i64 c]:=DO hc _ (by simp);have a:(mE (oK n A))[((i:Nat):Int).toNat]?=some [.arr (pE (aW (n+1) (A i)))]:=yh (wy f) _ (by simp);have b:(pE (aW (n+1) (A i)))[((n:Nat):Int).toNat]?=some (qC (A i n)):=gS (by omega) _ (by simp);have l:(mE (oK n A)).length=n:=by simp
 have p:(pE (aW (n+1) (A i))).length=n+1:=by simp[pE]
 have o:(pE (pU A n L i)).length=n:=by simp[pE]
 obtain⟨q,g⟩:=Gv (A:=A) (L:=L) (i:=i) d (0+((c:Nat):Int).toNat) (by omega);refine q_z 1 ?_;refine ae (cT (an (ae (am (s_r 5 ?_)))));refine a_1 ?_;refine i_x e ?_;refine l_1 e ?_;refine a_z ?_;refine r_d a9 13 ?_;refine a_5 ?_;refine i_x a ?_;refine l_1 a ?_;refine a_2 ?_;refine i_x b ?_;refine l_x b ?_;refine a_1 ?_;refine fR (.store rfl rfl g rfl rfl rfl TS.h (nle rfl)) ?_;refine au (n_k ?_);refine r_m 2 ?_;refine a_z ?_;refine⟨i+1,by omega,by omega,?_⟩;rw[onS.eq_1];refine s_x [] (fun hs=>e_44) (fun hs=>?_)
 ·repeat' (first|exact aI|refine h_c ?_ ?_|exact aT hs (oneJ_s hE hc d (0+((c:Nat):Int).toNat) (by omega)) (aV _)|exact cj|refine aG ?_|exact aw|refine ai ?_ ?_|exact ao hs (cU n A L)|exact ao hs (aK (eY L))|exact bh)
 have k:i=L.length:=by omega
 refine q_z 1 ?_;refine ae (cF (aA ⟨(),trivial,?_⟩));rw[oneJ_n (by omega)];refine s_x [] (fun hs=>?_) (fun hs=>?_)
 ·repeat' (first|exact aS|refine az rfl ?_ ?_|(refine Cv.shut hs rfl (aQ rfl) (by simp[pE]) ?_;exact aT hs (by rw[List.drop_zero];exact List.take_of_length_le (by simp[pE])) (aV _))|exact bh)
 ·repeat' (first|exact aI|refine h_c ?_ ?_|exact cj|refine aG ?_|exact aw|refine ai ?_ ?_|(refine Cv.shut hs rfl (aQ rfl) (by simp[pE]) ?_;exact aT hs (by rw[List.drop_zero];exact List.take_of_length_le (by simp[pE])) (aV _))|exact bh)
 rintro _ _;refine r_z 2 ?_;exact ak (t_e (aC _))
theorem EZ(A:Mx)(n:Nat)(L:List Nat)(e:List Rat)(hl:e.length=n+1):FS 123 [.arr (pE e),bSy n A L] (bln (decide (coP e n≠0))):=by
 have b:(pE e).length=e.length:=by simp[pE]
 have a:(pE e)[((n:Nat):Int).toNat]?=some (qC (coP e n)):=by
  have:=cG (p:=e) (i:=n) (by omega);simp[pE,this]
 refine f_n Tryz.func123 ?_ ?_;exact ac (aC e) (ac (cU n A L) ag);refine r_z 1 ?_;refine s_r 8 ?_;refine a_3 ?_;refine i_x a ?_;refine l_x a ?_;refine c_s (cu (coP e n)) ?_;refine a_z ?_;refine ak (aY rfl ?_ ?_);rw[show decide (coP e n≠0)=decide (sgZ (coP e n).num≠0) from decide_eq_decide.2 (not_congr sgZ_num_eq.symm)]
 first|rfl|(congr 1;cases hb:decide (sgZ (coP e n).num=0) with|true=>(have:=of_decide_eq_true hb;simp[this])|false=>(have:=of_decide_eq_false hb;simp[bln,bne,this]))
 exact ah _
theorem mE_el(k:List (List Rat)):∀e∈mE k,e.length=1:=fun e a=>by
 obtain⟨_,_,rfl⟩:=List.mem_map.1 a;rfl
theorem Ha(A:Mx)(n:Nat)(L:List Nat)(hLn:L.length≤n)(hn:n≤25):FS 64 [syV n (A,L)] (bln (wE n A L)):=by
 have d:(lvE L).length=L.length:=lY L
 have hc:=yB ((oK n A).drop L.length) 123 [bSy n A L] (fun e=>decide (coP e n≠0)) (ac (cU n A L) ag) (by simp;omega) (fun e c=>EZ A n L e (by
  obtain⟨k,b⟩:=List.mem_iff_getElem?.1 (List.mem_of_mem_drop c)
  have a:k< n:=by
   have:=(List.getElem?_eq_some_iff.1 b).1;simpa using this
  rw[wy a] at b;cases b;simp)) rfl
 rw[←DN] at hc;refine f_n Tryz.func64 ?_ ?_;exact ac (i6 n A L) ag;refine r_z 2 ?_;refine AWp.ent (st':=⟨[(1,bSy n A L)],[],1,11⟩) ?_ ?_;have:=eD n A L;exact s_f [];refine s_r 9 ?_;refine a_5 ?_;refine o_0 (.sa_l rfl rfl (l:=L.length) rfl (by simp;omega) te_123.h (mE_el _)) ?_;refine c_s (hc) ?_;refine a_z ?_;exact ak (t_e (ah _))
structure OkSm (k:Ke)(c:List Rat)(i:Nat)(p:List Rat×List Rat):Prop where
 p1:smL p.1
 p2:p.1.length≤1099511627776
 cs:sm (coP c i)
 o1:smL (smK k c i)
 o2:(smK k c i).length≤1099511627776
 s1:smL (aL p.1 (coP c i))
 s2:(aL p.1 (coP c i)).length≤1099511627776
def ksS(k:Ke)(c:List Rat):Nat→AState
 |i=>⟨[(1,.arr (pE c)),(5,.arr (pE (smK k c i))),(8,.arr (kE k)),(9,i64 k.length),(10,i64 i)],[],1,26⟩
theorem DY(k:Ke)(c:List Rat)(hc:c.length=k.length)(hl:k.length≤1000)(h:∀i p,k[i]?=some p→OkSm k c i p):FS 67 [.arr (kE k),.arr (pE c)] (.arr (pE (smK k c k.length))):=by
 have g:(kE k).length=k.length:=dX k;refine f_n Tryz.func67 ?_ ?_;exact ac (aX k) (ac (aC c) ag);refine r_z 1 ?_;refine r_z 1 ?_;refine ae (r_z 3 ?_);refine aH (fun _:Unit=>⟨[(5,.arr (pE (smK k c k.length)))],[],1,26⟩) (fun _=>True) ?_ ?_;refine am (aD (ksS k c) (fun i=>k.length- i) (fun i=>i≤k.length) 0 (Nat.zero_le _) ?_ ?_);rw[ksS.eq_1];exact s_x [] (fun hs=>e_45) (fun hs=>e_46);intro i j;rw[ksS.eq_1];by_cases hlt:i< k.length;obtain⟨p,hp⟩:∃p,k[i]?=some p:=⟨_,List.getElem?_eq_getElem hlt⟩;have b:(kE k)[((i:Nat):Int).toNat]?=some (prC p):=j6 hp _ (by simp);have f:(pE c).length=k.length:=by simp[pE,hc]
 have a:(pE c)[((i:Nat):Int).toNat]?=some (qC (coP c i)):=by
  have:=cG (p:=c) (i:=i) (by omega);simp[pE,this]
 have ok:=h i p hp;have h1:=gR p.1 (coP c i) ok.p1 ok.cs ok.p2;have e:=pj (smK k c i) _ ok.o1 ok.s1 ok.o2 ok.s2;refine q_z 1 ?_;refine ae (cT (an (ae (am (s_r 6 ?_)))));refine a_1 ?_;refine i_x b ?_;refine l_x b ?_;refine a_z ?_;refine r_d a9 10 ?_;refine a_5 ?_;refine i_x a ?_;refine l_x a ?_;refine c_s (h1) ?_;refine c_s (e) ?_;refine a_1 ?_;refine au (n_k ?_);refine r_m 2 ?_;refine a_z ?_;refine⟨i+1,by omega,by omega,?_⟩;rw[ksS.eq_1,smK_s hp];unfold smF;exact s_x [] (fun hs=>e_45) (fun hs=>e_46);have d:i=k.length:=by omega
 refine q_z 1 ?_;refine ae (cF (aA ⟨(),trivial,?_⟩));rw[d];exact s_e [];rintro _ _;refine r_z 2 ?_;exact ak (t_e (aC _))
def tkC(k:Ke)(l:Rat)(g:List Rat)(a b:Rat):List AV:=eqC k l g++spC a b
theorem eX(k:Ke)(l:Rat)(g:List Rat)(a b:Rat):∀c∈tkC k l g a b,Closed c:=du (cy k l g) (bc a b)
def bTk(k:Ke)(l:Rat)(g:List Rat)(a b:Rat):AV:= .aptr [tkC k l g a b] 0 0
theorem cZ(k:Ke)(l:Rat)(g:List Rat)(a b:Rat):Closed (bTk k l g a b):=bt (eX k l g a b)
theorem fs_sys1(k:Ke)(l:Rat)(g:List Rat)(a b:Rat)(p:List Rat×List Rat)(hm:fl p.2 g)(ho:OkIn (aJ p.2 g) a b):
    FS 121 [.agg (prC p),bTk k l g a b] (.agg (qC (inQ (aJ p.2 g) a b))):=by
 refine f_n Tryz.func121 ?_ ?_;exact ac (aB (gV p)) (ac (cZ k l g a b) ag);refine r_z 2 ?_;refine ae (r_d a9 10 ?_);refine c_s (nT p.2 g hm) ?_;refine c_s (sX _ a b ho) ?_;refine a_1 ?_;refine au (n_k ?_);exact ak (c_e (aP _))
def rhK(k:Ke)(g:List Rat)(a b:Rat):List Rat:=k.map fun p=>inQ (aJ p.2 g) a b
@[simp] theorem rhK_length (k:Ke)(g:List Rat)(a b:Rat):(rhK k g a b).length=k.length:=by simp[rhK]
def syM(k:Ke)(l:Rat)(r:List Rat)(a b:Rat):Mx×List Nat:=slM (svM (maK k a b) l (fun t=>coP r t) k.length) k.length k.length
structure OkSy (k:Ke)(l:Rat)(a b:Rat)(s:Nat):Prop where
 m:OkMa k a b
 q:∀i j,i< k.length→j< k.length→qs (maK k a b i j)+qs l+2≤s
 s:slB s k.length≤100000000000
theorem OkSy.le{k:Ke}{l a b:Rat}{s:Nat}(h:OkSy k l a b s):s≤100000000000:=Nat.le_trans (zu (s:=s) (Nat.zero_le k.length)) h.s
theorem OkSy.bd{k:Ke}{l a b:Rat}{s:Nat}(h:OkSy k l a b s){r:List Rat}(hr:∀i,i< k.length→qs (coP r i)≤s):bdM (svM (maK k a b) l (fun t=>coP r t) k.length) k.length s:=fun i j c f=>by
 unfold svM;by_cases e1:j=k.length;rw[if_pos e1];exact hr i c;rw[if_neg e1];have h1:=h.q i j c (by omega);have e:=dh (maK k a b i j) l;split;have d:=fQ (-(maK k a b i j* l)) 1;rw[fj] at d;have g:qs 1≤1:=by decide
 omega;rw[fj];omega
theorem tZ(k:Ke)(l a b:Rat)(s:Nat)(r:List Rat)(h:OkSy k l a b s)(hrl:r.length=k.length)(hr:∀i,i< k.length→qs (coP r i)≤s):
    XSpec Tryz.prog 91 [.lsl 1 0 k.length (some k.length) 1,.agg (qC l),.arr (pE r)] (mzH 3 35 34 (mzO 3 (fun _=>k.length) (fun x=>x) k.length) (fiL (maK k a b) k.length k.length)) 40 (syV k.length (syM k l r a b)) [] 1:=by
 have n:=h.m.l;have g:=h.le;have f:=h.bd hr;refine Er (maK k a b) l r k.length (slB s k.length) (by omega) hrl h.s (fun i j d e=>by have:=h.q i j d e;omega) (fun i d=>?_) fun c hc i j d e=>Nat.le_trans (H4 f c hc i j d e) (zu hc);have h1:=h.q i i d d;have o:=dh (maK k a b i i) l;rw[fj];omega
theorem rR(k:Ke)(l:Rat)(g:List Rat)(a b:Rat)(s:Nat)(h:OkSy k l a b s)(hr:∀p∈k,fl p.2 g∧OkIn (aJ p.2 g) a b∧qs (inQ (aJ p.2 g) a b)≤s):
    FS 63 [.agg (tkC k l g a b)] (syV k.length (syM k l (rhK k g a b) a b)):=by
 have n:=h.m.l
 have j:=tZ k l a b s (rhK k g a b) h (by simp) fun i d=>by
  have e:coP (rhK k g a b) i=inQ (aJ k[i].2 g) a b:=by
   unfold coP rhK;rw[List.getD_eq_getElem?_getD];simp[d]
  rw[e];exact(hr _ (List.getElem_mem d)).2.2
 have f:=uY k 121 [bTk k l g a b] (fun p=>inQ (aJ p.2 g) a b) (ac (cZ k l g a b) ag) (by omega) fun p hp=>fs_sys1 k l g a b p (hr p hp).1 (hr p hp).2.1;have c:Closed (syV k.length (syM k l (rhK k g a b) a b)):=i6 _ _ _;refine f_n Tryz.func63 ?_ ?_;exact ac (aB (eX k l g a b)) ag;refine r_z 2 ?_;refine AWp.ent (st':=⟨[(1,bTk k l g a b),(2,.lptr 1 0 0)],[(1,some ⟨125,3,[[.emp,.emp,i64 0]]⟩)],2,18⟩) ?_ ?_;have:=eX k l g a b;exact s_f [(1,2)];refine ae (AWp.regAB 5 14 8 a9 (rn k a b h.m) (j) (c) rfl rfl rfl rfl rfl rfl rfl rfl rfl rfl (by kernel_rfl) rfl rfl rfl ?_);refine AY.op0 (.fieldAddr_a rfl TF.h (by decide)) rfl rfl ?_;refine AY.op0 (.fieldAddr_a rfl TF.h (by decide)) rfl rfl ?_;refine AY.op0 (.load_a1 rfl rfl TG.h rfl) rfl rfl ?_;refine AY.op0 (.fieldAddr_a rfl TF.h (by decide)) rfl rfl ?_;refine AY.op0 (.load_a rfl rfl TG.h TS.h (nle rfl)) rfl rfl ?_;refine AY.sp rfl rfl (kAB.a rfl rfl rfl (ac (aX k) (ac (aB (bc a b)) ag)) rfl) ?_;refine AY.op0 (.fieldAddr_a rfl TF.h (by decide)) rfl rfl ?_;refine AY.op0 (.fieldAddr_a rfl TF.h (by decide)) rfl rfl ?_;refine AY.op0 (.load_a rfl rfl TG.h TS.h (nle rfl)) rfl rfl ?_;refine AY.op0 (.fieldAddr_a rfl TF.h (by decide)) rfl rfl ?_;refine AY.op0 (.fieldAddr_a rfl TF.h (by decide)) rfl rfl ?_;refine AY.op0 (.load_a1 rfl rfl TG.h rfl) rfl rfl ?_;refine AY.op0 (.makeFunc rfl rfl) rfl rfl ?_;refine AY.op0 (.call rfl rfl rfl (f)) rfl rfl ?_
 refine AY.sp rfl rfl (kAB.b rfl rfl (ArgsB.own (ArgsB.clo rfl (aB (a7 l)) (ArgsB.clo rfl (aC _) ArgsB.nil))) rfl) ?_;refine AY.on1 (.store rfl rfl rfl rfl rfl rfl TS.h (nle rfl)) rfl ?_;refine AY.nil ⟨by kernel_rfl,?_⟩;exact ak (c_e (c))
def xj(l:List (List Rat))(k:Nat):Option (List AV):=if k< l.length then some [i64 ((l.length- 1- k:Nat):Int),.arr (pE (l.getD (l.length- 1- k) []))] else none
def bM(l:List (List Rat)):AV:= .aptr [[.arr (mE l)]] 0 0
theorem d9(l:List (List Rat)):Closed (bM l):=bt (ac (closed_mA l) ag)
theorem mE_getD{l:List (List Rat)}{i:Nat}(h:i< l.length):(mE l)[i]?=some [.arr (pE (l.getD i []))]:=by
 refine yh ?_ i rfl;rw[List.getD_eq_getElem?_getD,List.getElem?_eq_getElem h];rfl
theorem GV(l:List (List Rat))(hl:l.length≤281474976710656):GSpec Tryz.prog 161 [bM l] (xj l):=by
 refine GSpec.enter Tryz.func161 rfl (by kernel_rfl) rfl rfl rfl ?_ ?_ rfl ?_;exact ac (d9 l) ag;intro k xs h;unfold xj at h;split at h;cases h;exact ac (ah _) (ac (aC _) ag);cases h;intro b N E;refine GWp.seq ?_;refine GWp.lift ?_;refine r_m 4 ?_;refine a_z ?_;refine GWp.block ?_;refine GWp.loopS (fun m:Nat=>⟨[(0,.v (.func (.yield b) #[] #[])),(1,bM l),(3,i64 ((m:Int)- 1))],[],1,19⟩) (fun m=>l.length- m) (fun m=>m) (fun m=>m≤l.length) l.length (Nat.le_refl _) (by simp) ?_ ?_;have:=d9 l;exact s_f [];intro m e;refine GWp.seq ?_;refine GWp.seq ?_;refine GWp.lift ?_;refine r_m 2 ?_;refine a_z ?_;refine GWp.cond rfl (fun h=>?_) (fun h=>?_)
 ·refine GWp.skip ?_
  have c:1≤m:=by have:=of_decide_eq_true h;omega
  have a:(mE l)[((m:Int)- 1).toNat]?=some [.arr (pE (l.getD (m- 1) []))]:=by rw[show((m:Int)- 1).toNat=m- 1 by omega];exact mE_getD (by omega)
  refine GWp.seq ?_;refine GWp.block ?_;refine GWp.seq ?_;refine GWp.regY (fr2:=[(0,.v (.func (.yield b) #[] #[])),(1,bM l),(3,i64 ((m:Int)- 1)),(11,.v (.func (.yield b) #[] #[])),(12,i64 ((m:Int)- 1)),(16,.arr (pE (l.getD (m- 1) [])))]) (hp2:=[]) (nx2:=1) 6 rfl rfl rfl rfl rfl rfl ?_ rfl rfl rfl ?_ ?_ ?_;refine o_0 (.move rfl) ?_;refine o_0 (.move rfl) ?_;refine ce (.load_a1 rfl rfl TG.h rfl) rfl rfl ?_;refine o_0 (.move rfl) ?_;refine i_x a ?_;refine l_1 a ?_;refine au ?_;have:=d9 l;exact s_t [];rotate_left 2;intro d;refine o_0 (.un rfl oU) ?_;refine au ?_;rotate_left;unfold xj;rw[if_pos (by omega)];have e1:((l.length- 1- (l.length- m):Nat):Int)=(m:Int)- 1:=by omega
  have e2:l.length- 1- (l.length- m)=m- 1:=by omega
  rw[e1,e2];rfl;exact ac (ah _) (ac (aC _) ag);cases d with
  |false=>
   refine GWp.cond rfl (fun h=>?_) (fun h=>?_);exact GWp.ret ⟨.inr rfl,fun h=>by cases h⟩;cases h
  |true=>
   refine GWp.cond rfl (fun h=>?_) (fun h=>?_);cases h;refine GWp.skip ?_;refine GWp.lift ?_;refine r_m 3 ?_;refine a_z ?_;refine⟨rfl,m- 1,by omega,by omega,by omega,?_⟩;have:=d9 l;exact s_f []
 refine GWp.exit ⟨.inl rfl,fun _=>?_⟩;have:m=0:=by have:=of_decide_eq_false h;omega
 subst this;unfold xj;rw[if_neg (by omega)]
theorem Hu(l:List (List Rat)):FS 127 [.arr (mE l)] (.clos 161 [] [bM l]):=by
 refine f_c Tryz.func127 ?_;refine r_z 2 ?_;refine r_z 2 ?_;refine ak (⟨.inr rfl,[_],⟨_,[],rfl,rfl,rfl⟩,?_⟩);exact Cv.clos aw (ai (Cv.boxp ay rfl (fun _ _ h=>by cases h) rfl (ac (closed_mA l) ag)) aw)
theorem Ck(p:List Rat)(hp:p.length≤1099511627776):FS 66 [.arr (pE p),.arr (mE [])] (.arr (pE (aj p))):=by
 have hb:=Hu [];have b:=GV [] (by simp);have ht:=eo p hp;refine f_c Tryz.func66 ?_;refine r_z 2 ?_;refine ae (r_c 2 (hb) ?_);refine au ?_;refine aH (fun _:Unit=>⟨[(2,.lptr 1 0 0)],[(1,some ⟨36,1,[[.arr (pE p)]]⟩)],2,28⟩) (fun _=>True) ?_ ?_;refine am (AWp.rangeFunc (α:=Unit) (γ:=Empty) 0 (fun _=>⟨[(2,.lptr 1 0 0),(9,.clos 161 [] [bM []])],[(1,some ⟨36,1,[[.arr (pE p)]]⟩)],2,28⟩) (fun _=>0) (fun _=>True) (fun e=>nomatch e) (fun _ e=>nomatch e) () rfl b rfl rfl ?_ (fun _=>⟨rfl,rfl⟩) (fun e=>nomatch e) trivial rfl (fun _ _=>Nat.le_refl _) ?_ ?_ ?_ ?_ (fun _ e=>nomatch e));intro k xs a;exact absurd a (by unfold xj;simp);refine s_y [(1,2)] (fun hs=>?_) (fun hs=>?_)
 ·repeat' (first|exact aS|refine az rfl ?_ ?_|exact ao hs (aU ag (ac (d9 []) ag))|exact bh)
 ·repeat' (first|exact aI|refine h_c ?_ ?_|exact cj|refine aG ?_|exact aw|refine ai ?_ ?_|exact ao hs (aU ag (ac (d9 []) ag))|exact bh)
 exact ac (d9 []) ag;intro l k xs c a;exact absurd a (by unfold xj;simp);intro k c a;refine⟨(),trivial,?_⟩;exact s_e [];rintro _ _;refine r_c 3 (ht) ?_;refine a_z ?_;exact ak (t_e (aC _))
def ixS(L:List Nat)(f:Nat):Nat→AState
 |i=>⟨[(0,.arr (lvE L)),(1,i64 f),(7,i64 L.length),(8,i64 i)],[],1,19⟩
theorem Ff(L:List Nat)(f:Nat)(hl:L.length≤1099511627776):FS 194 [.arr (lvE L),i64 f] (i64 (j7 (fun c:Nat=>((f:Int)==(c:Int))) L 0)):=by
 have g:(lvE L).length=L.length:=lY L;refine f_n Tryz.func194 ?_ ?_;exact ac (aK (eY L)) (ac (ah _) ag);obtain⟨R,e⟩:∃R,R=j7 (fun c:Nat=>((f:Int)==(c:Int))) L 0:=⟨_,rfl⟩;rw[←e];refine r_z 1 ?_;refine ae (r_z 3 ?_);refine aH (fun _:Unit=>⟨[],[],1,19⟩) (fun _=>R= -1) ?_ ?_;refine am (aD (ixS L f) (fun i=>L.length- i) (fun i=>i≤L.length∧j7 (fun c:Nat=>((f:Int)==(c:Int))) (L.drop i) i=R) 0 ⟨Nat.zero_le _,by rw[e];rfl⟩ ?_ ?_);simp only[ixS.eq_1];have:=(aK (eY L));exact s_f [];rintro i ⟨h,a⟩;rw[ixS.eq_1];by_cases hlt:i< L.length;refine q_z 1 ?_;refine ae (cT (an ?_));obtain⟨c,hc⟩:∃c,L[i]?=some c:=⟨_,List.getElem?_eq_getElem hlt⟩;have b:(lvE L)[((i:Nat):Int).toNat]?=some [i64 c]:=DO hc _ (by simp);rw[yN hc,j7] at a;refine ae (am (r_z 2 ?_));refine s_r 6 ?_;refine a_3 ?_;refine i_x b ?_;refine l_1 b ?_;refine a_z ?_;refine aq rfl (fun h1=>?_) (fun h1=>?_);rw[if_pos h1] at a;refine r_z 2 ?_;refine ak (aY rfl ?_ ?_);rw[←a];exact ah _;rw[if_neg (by rw[h1];decide)] at a;refine an (r_m 2 ?_);refine a_z ?_;refine⟨i+1,by omega,⟨hlt,a⟩,?_⟩;simp only[ixS.eq_1];have:=(aK (eY L));exact s_f [];have d:i=L.length:=by omega
 subst d;refine q_z 1 ?_;refine ae (cF ?_);rw[List.drop_length] at a;refine aA ⟨(),a.symm,?_⟩;exact s_e [];rintro _ a;refine r_z 1 ?_;refine ak (aY rfl ?_ ?_);rw[a];rfl;exact ah _
theorem rk(f:Nat):∀L:List Nat,L.any (fun c:Nat=>((f:Int)==(c:Int)))=L.contains f
 |[]=>rfl
 |a::L=>by
  rw[List.any_cons,rk f L,List.contains_cons];refine congrArg (· ||L.contains f) ?_;cases hb:(f==a) with
  |true=>rw[eq_of_beq hb];exact beq_self_eq_true _
  |false=>
   have h1:¬f=a:=fun e=>by rw[e] at hb;simp at hb
   exact beq_eq_false_iff_ne.2 (by omega)
theorem yD(L:List Nat)(f:Nat)(hl:L.length≤1099511627776):FS 160 [.arr (lvE L),i64 f] (bln (L.contains f)):=by
 have e:=qo (fun c:Nat=>((f:Int)==(c:Int))) L 0 (Int.le_refl 0);rw[rk] at e;have a:=Ff L f hl;refine f_n Tryz.func160 ?_ ?_;exact ac (aK (eY L)) (ac (ah _) ag);refine r_z 1 ?_;refine r_c 5 (a) ?_;refine a_z ?_;refine ak (aY rfl ?_ ?_);rw[←e];rfl;exact ah _
def z0S(A:Mx)(n:Nat)(L:List Nat):Nat→AState
 |f=>⟨[(1,bSy n A L),(3,.emp),(9,i64 n),(10,i64 f)],[],1,51⟩
theorem ET(A:Mx)(n:Nat)(L:List Nat)(hn:n≤25)(hLn:L.length≤n)(hL:∀f,f< n→L.contains f=true):FS 126 [syV n (A,L)] (.arr (mE [])):=by
 refine f_n Tryz.func126 ?_ ?_;exact ac (i6 n A L) ag;refine r_z 2 ?_;refine AWp.ent (st':=⟨[(1,bSy n A L)],[],1,51⟩) ?_ ?_;have:=eD n A L;exact s_f [];refine r_z 1 ?_;refine ae (r_z 3 ?_);refine aH (fun _:Unit=>⟨[(3,.emp)],[],1,51⟩) (fun _=>True) ?_ ?_;refine am (aD (z0S A n L) (fun f=>n- f) (fun f=>f≤n) 0 (Nat.zero_le _) ?_ ?_);rw[z0S.eq_1];have:=cU n A L;exact s_f [];intro f hf;rw[z0S.eq_1];by_cases hlt:f< n;have hc:=yD L f (by omega);rw[hL f hlt] at hc;refine q_z 1 ?_;refine ae (cT (an (ae (am (r_z 2 ?_)))));refine ae (r_c 4 (hc) ?_);refine au ?_;refine cT (aA (r_m 2 ?_));refine a_z ?_;refine⟨f+1,by omega,by omega,?_⟩;rw[z0S.eq_1];have:=cU n A L;exact s_f [];refine q_z 1 ?_;refine ae (cF (aA ⟨(),trivial,?_⟩));exact s_e [];rintro _ _;refine r_z 2 ?_;exact ak (Fin.tmpN rfl)
theorem E3(g:Nat)(bn:List AV)(hb:∀c∈bn,Closed c):FS 125 [.arr (mE []),.clos g bn []] (.arr (mE [])):=by
 have a:Closed (.clos g bn []):=aU hb ag;refine f_c Tryz.func125 ?_;refine r_z 1 ?_;refine r_z 1 ?_;refine ae (r_z 3 ?_);refine aH (fun _:Unit=>⟨[(5,.emp)],[],1,22⟩) (fun _=>True) ?_ ?_;refine am (aD (fun _:Unit=>⟨[(5,.emp),(9,i64 0),(10,i64 0)],[],1,22⟩) (fun _=>0) (fun _=>True) () trivial ?_ ?_);exact s_e [];rintro _ _;refine q_z 1 ?_;refine ae (cF (aA ⟨(),trivial,?_⟩));exact s_e [];rintro _ _;refine r_z 2 ?_;exact ak (Fin.tmpN rfl)
theorem Ao:FS 124 [.arr (mE [])] (.arr (mE [])):=by
 refine f_c Tryz.func124 ?_;refine r_z 1 ?_;refine r_z 1 ?_;refine ae (r_z 3 ?_);refine aH (fun _:Unit=>⟨[(3,.emp)],[],1,49⟩) (fun _=>True) ?_ ?_;refine am (aD (fun _:Unit=>⟨[(3,.emp),(8,i64 0),(9,i64 0)],[],1,49⟩) (fun _=>0) (fun _=>True) () trivial ?_ ?_);exact s_e [];rintro _ _;refine q_z 1 ?_;refine ae (cF (aA ⟨(),trivial,?_⟩));exact s_e [];rintro _ _;refine r_z 2 ?_;exact ak (Fin.tmpN rfl)
theorem He(k:Ke)(l:Rat)(g:List Rat)(a b:Rat)(A:Mx)(n:Nat)(L:List Nat)(hz:FS 126 [syV n (A,L)] (.arr (mE []))):FS 65 [.agg (tkC k l g a b),syV n (A,L)] (.arr (mE [])):=by
 have h1:=E3 67 [.arr (kE k)] (ac (aX k) ag);have c:=Ao;refine f_n Tryz.func65 ?_ ?_;exact ac (aB (eX k l g a b)) (ac (i6 n A L) ag);refine r_z 3 ?_;refine AWp.ent (st':=⟨[(2,bTk k l g a b),(3,bSy n A L)],[],1,13⟩) ?_ ?_;refine s_x [] (fun hs=>?_) (fun hs=>?_)
 ·repeat' (first|exact aS|refine az rfl ?_ ?_|exact Cv.boxp hs rfl (aQ rfl) rfl (eX k l g a b)|exact Cv.boxp hs rfl (aQ rfl) rfl (eD n A L)|exact bh)
 ·repeat' (first|exact aI|refine h_c ?_ ?_|exact cj|refine aG ?_|exact aw|refine ai ?_ ?_|exact Cv.boxp hs rfl (aQ rfl) rfl (eX k l g a b)|exact Cv.boxp hs rfl (aQ rfl) rfl (eD n A L)|exact bh)
 refine ae (r_d a9 9 ?_);refine c_s (hz) ?_;refine c_s (h1) ?_;refine c_s (c) ?_;refine a_1 ?_;refine au (n_k ?_);exact ak (t_e (closed_mA _))
def ui(k:Ke)(l:Rat)(g:List Rat)(a b:Rat):List Rat:=xY (syM k l (rhK k g a b) a b).1 k.length (syM k l (rhK k g a b) a b).2
def syU(k:Ke)(l:Rat)(g:List Rat)(a b:Rat):List Rat:=fO g (aL (smK k (ui k l g a b) k.length) l)
structure OkTa (k:Ke)(l:Rat)(g:List Rat)(a b:Rat)(s:Nat):Prop where
 ke:pZ k
 ha:sm a
 hb:sm b
 ab:a≤b
 dg:cN g≤20
 gl:g.length≤1099511627776
 sy:OkSy k l a b s
 rh:∀p∈k,fl p.2 g∧OkIn (aJ p.2 g) a b∧qs (inQ (aJ p.2 g) a b)≤s
structure OkSu (k:Ke)(l:Rat)(g:List Rat)(a b:Rat):Prop where
 ms:∀i p,k[i]?=some p→OkSm k (ui k l g a b) i p
 u1:smL (smK k (ui k l g a b) k.length)
 u2:(smK k (ui k l g a b) k.length).length≤1099511627776
 sl:sm l
 sg:smL g
 v1:smL (aL (smK k (ui k l g a b) k.length) l)
 v2:(aL (smK k (ui k l g a b) k.length) l).length≤1099511627776
theorem OkTa.none{k:Ke}{l:Rat}{g:List Rat}{a b:Rat}{s:Nat}(h:OkTa k l g a b s):FS 64 [syV k.length (syM k l (rhK k g a b) a b)] (bln (wE k.length (syM k l (rhK k g a b) a b).1 (syM k l (rhK k g a b) a b).2)):=
 Ha (syM k l (rhK k g a b) a b).1 k.length (syM k l (rhK k g a b) a b).2 (kx _ _ _).len (by have:=h.ke.1;omega)
theorem E9(k:Ke)(l:Rat)(g:List Rat)(a b:Rat)(s:Nat)(h:OkTa k l g a b s)(h2:OkSu k l g a b)(hL:∀f,f< k.length→(syM k l (rhK k g a b) a b).2.contains f=true)(hN:wE k.length (syM k l (rhK k g a b) a b).1 (syM k l (rhK k g a b) a b).2=false)(hu:(syU k l g a b).length≤1099511627776):
    FS 19 [.agg (eqC k l g),.agg (spC a b)] (.tup [.arr (pE (aj (syU k l g a b))),.arr (mE []),i64 0]):=by
 have o:=h.ke.1;have m:=jH k l g a b h.ke h.ha h.hb h.ab h.dg h.gl;have hs:=rR k l g a b s h.sy h.rh;have j:=h.none;rw[hN] at j;have n:=ET (syM k l (rhK k g a b) a b).1 k.length (syM k l (rhK k g a b) a b).2 (by omega) (kx _ _ _).len hL;have hf:=He k l g a b _ _ _ n;have p:=yr (syM k l (rhK k g a b) a b).1 k.length (syM k l (rhK k g a b) a b).2 (kx _ _ _) (by omega);have d:=DY k (ui k l g a b) (by unfold ui;simp) (by omega) h2.ms;have e:=gR _ l h2.u1 h2.sl h2.u2;have c:=pj g _ h2.sg h2.v1 h.gl h2.v2;have i:=Ck (syU k l g a b) hu;refine f_n Tryz.func19 ?_ ?_;exact ac (aB (cy k l g)) (ac (aB (bc a b)) ag);refine r_z 5 ?_;refine r_z 5 ?_;refine AWp.ent (st':=⟨[(7,bTk k l g a b)],[],1,38⟩) ?_ ?_;have:=eX k l g a b;exact s_f [];refine ae (r_c 2 (m) ?_);refine au ?_;refine cF (an (r_c 4 (hs) ?_));refine a_z ?_;refine AWp.ent (st':=⟨[(7,bTk k l g a b),(8,bSy k.length (syM k l (rhK k g a b) a b).1 (syM k l (rhK k g a b) a b).2)],[],1,38⟩) ?_ ?_;exact s_x [] (fun hs=>e_47) (fun hs=>e_48);refine ae (r_c 2 (j) ?_);refine au ?_;refine cF (an (r_c 4 (hf) ?_));refine a_z ?_;refine ae (r_d a9 20 ?_);refine c_s (p) ?_;refine c_s (d) ?_;refine c_s (e) ?_;refine c_s (c) ?_;refine c_s (i) ?_;refine a_4 ?_;refine au (n_k ?_);refine ak (Fin.many ⟨_,_,rfl,rfl,⟨_,_,rfl,rfl,⟨_,_,rfl,rfl,rfl⟩⟩⟩ (nle rfl) ?_);exact ai (ao ay (aC _)) (ai (ao ay (closed_mA _)) (ai (ao ay (ah _)) aw))
theorem E8(k:Ke)(l:Rat)(g:List Rat)(a b:Rat)(s:Nat)(h:OkTa k l g a b s)(hN:wE k.length (syM k l (rhK k g a b) a b).1 (syM k l (rhK k g a b) a b).2=true):
    FS 19 [.agg (eqC k l g),.agg (spC a b)] (.tup [.arr (pE []),.arr (mE []),i64 12]):=by
 have e:=h.ke.1;have d:=jH k l g a b h.ke h.ha h.hb h.ab h.dg h.gl;have hs:=rR k l g a b s h.sy h.rh;have c:=h.none;rw[hN] at c;refine f_n Tryz.func19 ?_ ?_;exact ac (aB (cy k l g)) (ac (aB (bc a b)) ag);refine r_z 5 ?_;refine r_z 5 ?_;refine AWp.ent (st':=⟨[(7,bTk k l g a b)],[],1,38⟩) ?_ ?_;have:=eX k l g a b;exact s_f [];refine ae (r_c 2 (d) ?_);refine au ?_;refine cF (an (r_c 4 (hs) ?_));refine a_z ?_;refine AWp.ent (st':=⟨[(7,bTk k l g a b),(8,bSy k.length (syM k l (rhK k g a b) a b).1 (syM k l (rhK k g a b) a b).2)],[],1,38⟩) ?_ ?_;exact s_x [] (fun hs=>e_47) (fun hs=>e_48);refine ae (r_c 2 (c) ?_);refine au ?_;refine cT (r_z 3 ?_);refine ak (Fin.many ⟨_,_,rfl,rfl,⟨_,_,rfl,rfl,⟨_,_,rfl,rfl,rfl⟩⟩⟩ (nle rfl) ?_);exact ai (Cv.emp _) (ai (Cv.emp _) (ai (ao ay (ah _)) aw))
end Go.Proofs.YtkhclghbcicapaaGreatDoor
