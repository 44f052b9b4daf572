/- Part V32 of the proof. -/
import Derived.Test.YtkhclghbcicapaaGreatDoorV31
set_option linter.all false
namespace Go.Proofs.YtkhclghbcicapaaGreatDoor
open Go.Abs
set_option maxRecDepth 20000
set_option maxHeartbeats 4000000
abbrev iA:=List fK×List fK
def twC(t:iA):List AV:=[.arr (nR t.1),.arr (nR t.2)]
def twR(l:List iA):List (List AV):=l.map twC
@[simp] theorem vk (l:List iA):(twR l).length=l.length:=by simp[twR]
theorem D6(l:List iA):∀x∈twR l,∀c∈x,Closed c:=fun x a=>by
 obtain⟨p,_,rfl⟩:=List.mem_map.1 a;exact ac (aK (cU _)) (ac (aK (cU _)) ag)
theorem dr(l:List iA):Closed (.arr (twR l)):=aK (D6 l)
theorem twR_get{l:List iA}{i:Nat}{t:iA}(h:l[i]?=some t):∀e,e=i→(twR l)[e]?=some (twC t):=fun e a=>by
 rw[a,twR,List.getElem?_map,h];rfl
def zk(t:iA):Prop:=(okR t.1∧okR t.2)∧t.1.length≤9223372036854775807∧t.2.length≤9223372036854775807
def gC(l:List fK):Bool:=gz l 4||decide (12< cQ (nL l))
def ya(t:iA):Bool:=decide (30< t.1.length)||decide (30< t.2.length)
def jd(t:iA):Bool:=!ya t && (gC t.1 && gC t.2)
def yb(n:Nat):Bool:=!((decide (3< n) && decide (n≤8))||decide (12< n))
def uy(l:List iA):Bool:=yb l.length && l.all jd
def keM(l:List iA):Ke:=l.map fun t=>(nL t.1,nL t.2)
@[simp] theorem gH (l:List iA):(keM l).length=l.length:=by simp[keM]
def keV(l:List iA):AV:=if uy l then .tup [.arr (kE (keM l)),.arr (keR (keM l)),bln true] else .tup [.arr (kE []),.arr (keR []),bln false]
theorem keR_one(k:Ke):(keR k).all (·.all AV.one)=true:=by
 rw[List.all_eq_true];intro x a;obtain⟨p,_,rfl⟩:=List.mem_map.1 a;rfl
theorem H9(k:Ke)(p:List Rat×List Rat):keR (k++[p])=keR k++[pkR p]:=by simp[keR]
def krS'(l:List iA):Nat→AState
 |0=>⟨[(0,.arr (twR l)),(5,.emp),(6,.emp),(7,i64 0)],[],1,105⟩
 |i+1=>⟨[(0,.arr (twR l)),(5,.lsl 1 0 (i+1) none 2),(6,.lsl 2 0 (i+1) none 2),(7,i64 ((i+1:Nat):Int))],[(1,some ⟨61,2,kE ((keM l).take (i+1))⟩),(2,some ⟨147,2,keR ((keM l).take (i+1))⟩)],3,105⟩
theorem ru{l:List iA}{t:iA}(ht:t∈l)(h:jd t=false):uy l=false:=by
 unfold uy;rw[List.all_eq_false.2 ⟨t,ht,by rw[h];decide⟩,Bool.and_false]
structure PrF (t:iA):Prop where
 b1:FS 81 [.arr (nR t.1)] (.tup [.arr (pE (nL t.1)),.arr (rE (rP (nL t.1)))])
 b2:FS 81 [.arr (nR t.2)] (.tup [.arr (pE (nL t.2)),.arr (rE (rP (nL t.2)))])
 t1:FS 6 [.arr (nR t.1),i64 4] (bln (gz t.1 4))
 t2:FS 6 [.arr (nR t.2),i64 4] (bln (gz t.2 4))
 d1:FS 82 [.arr (rE (rP (nL t.1)))] (i64 (cQ (nL t.1)))
 d2:FS 82 [.arr (rE (rP (nL t.2)))] (i64 (cQ (nL t.2)))
theorem prF{t:iA}(h:zk t)(h1:t.1.length≤30)(h2:t.2.length≤30):PrF t:=by
 have d1:=jm (rP (nL t.1)) (by simp[nL];omega);have d2:=jm (rP (nL t.2)) (by simp[nL];omega);rw[vj] at d1 d2;exact⟨wy t.1 (by omega) h.1.1,wy t.2 (by omega) h.1.2,rU t.1 4 h.2.1 (by decide),rU t.2 4 h.2.2 (by decide),d1,d2⟩
theorem DP(l:List iA)(ho:∀t∈l,zk t)(hl:l.length≤9223372036854775807):FS 28 [.arr (twR l)] (keV l):=by
 have L:(twR l).length=l.length:=vk l;refine f_n Tryz.func28 ?_ ?_;exact ac (dr l) ag;obtain⟨r,D⟩:∃r,r=keV l:=⟨_,rfl⟩;rw[←D];have e:uy l=false→r= .tup [.arr (kE []),.arr (keR []),bln false]:=fun h=>by rw[D,keV,h];rfl
 refine r_z 3 ?_;refine r_z 1 ?_;refine r_z 1 ?_;have C:Cv (Ren.id 0) (ap []) (fun _=>none) (.tup [.emp,.emp,bln false]) (.tup [.arr (kE []),.arr (keR []),bln false])→True:=fun _=>trivial;by_cases c1:12< l.length;rw[e (by unfold uy yb;rw[decide_eq_true c1,Bool.or_true];rfl)];refine ae (q_z 13 ?_);refine cT (r_z 3 ?_);refine ak (Fin.many ⟨_,_,rfl,rfl,⟨_,_,rfl,rfl,⟨_,_,rfl,rfl,rfl⟩⟩⟩ (nle rfl) ?_);exact ai (Cv.emp _) (ai (Cv.emp _) (ai (ao ay (ah _)) aw));by_cases c2:3< l.length∧l.length≤8;rw[e (by unfold uy yb;rw[decide_eq_true c2.1,decide_eq_true c2.2];rfl)];refine ae (q_z 13 ?_);refine cT (r_z 3 ?_);refine ak (Fin.many ⟨_,_,rfl,rfl,⟨_,_,rfl,rfl,⟨_,_,rfl,rfl,rfl⟩⟩⟩ (nle rfl) ?_);exact ai (Cv.emp _) (ai (Cv.emp _) (ai (ao ay (ah _)) aw))
 have s:yb l.length=true:=by
  unfold yb;rw[decide_eq_false c1,Bool.or_false,Bool.not_eq_true',Bool.and_eq_false_iff];by_cases h3:3< l.length;exact .inr (decide_eq_false (by omega));exact .inl (decide_eq_false h3)
 refine bD (fun _:Unit=>⟨[(0,.arr (twR l)),(5,.emp),(6,.emp)],[],1,105⟩) (fun _=>True) ?_ ?_;by_cases h3:3< l.length;refine q_z 13 ?_;refine cF (an (⟨(),trivial,?_⟩));have:=dr l;exact s_f [];refine q_z 13 ?_;refine cF (an (⟨(),trivial,?_⟩));have:=dr l;exact s_f [];rintro _ _;refine ae (r_z 1 ?_);refine aH (fun _:Unit=>krS' l l.length) (fun _=> ∀t∈l,jd t=true) ?_ ?_
 ·refine am (aD (krS' l) (fun i=>l.length- i) (fun i=>i≤l.length∧∀t∈l.take i,jd t=true) 0 ⟨Nat.zero_le _,fun t ht=>by simp at ht⟩ ?_ ?_)
  rw[krS'.eq_1];have:=dr l;exact s_f [];rintro i ⟨O,k⟩;obtain⟨H,x,q,p,o⟩:∃H x q p,krS' l i=⟨[(0,.arr (twR l)),(5,H),(6,x),(7,i64 i)],q,p,105⟩:=by cases i <;> exact⟨_,_,_,_,rfl⟩
  by_cases hlt:i< l.length;rotate_left;have w:i=l.length:=by omega
  rw[o];refine ae (q_z 4 ?_);refine cF (aA ⟨(),(by rw[w,List.take_length] at k;exact k),?_⟩);show SEnt _ (krS' l l.length);rw[←w];cases i with
  |zero=>
   rw[krS'.eq_1] at o⊢;cases o;have:=dr l;exact s_f []
  |succ i=>
   rw[krS'.eq_2] at o⊢;cases o;refine s_x [(1,5),(2,6)] (fun hs=>e_19) (fun hs=>?_)
   ·repeat' (first|exact aI|refine h_c ?_ ?_|exact cv hs (eG _)|exact cv hs (kR _)|exact cu|refine aG ?_|exact aw|refine ai ?_ ?_|exact ao hs (dr l)|exact bm)
  obtain⟨t,ht⟩:∃t,l[i]?=some t:=⟨_,List.getElem?_eq_getElem hlt⟩;have g:=List.mem_of_getElem? ht;have a:(twR l)[((i:Nat):Int).toNat]?=some (twC t):=twR_get ht _ (by simp);have N:(nR t.1).length=t.1.length:=by simp[nR]
  have Q:(nR t.2).length=t.2.length:=by simp[nR]
  rw[o];by_cases l1:30< t.1.length;rw[e (ru g (by unfold jd ya;rw[decide_eq_true l1];rfl))];refine ae (q_z 4 ?_);refine cT (an (ae (am (ae (s_r 16 ?_)))));refine a_2 ?_;refine i_x a ?_;refine a_1 ?_;refine l_1 a ?_;refine d_z ?_;refine cT (r_z 3 ?_);refine ak (Fin.many ⟨_,_,rfl,rfl,⟨_,_,rfl,rfl,⟨_,_,rfl,rfl,rfl⟩⟩⟩ (nle rfl) ?_);exact ai (Cv.emp _) (ai (Cv.emp _) (ai (ao ay (ah _)) aw));by_cases l2:30< t.2.length;rw[e (ru g (by unfold jd ya;rw[decide_eq_true l2,Bool.or_true];rfl))];refine ae (q_z 4 ?_);refine cT (an (ae (am (ae (s_r 16 ?_)))));refine a_2 ?_;refine i_x a ?_;refine a_1 ?_;refine l_1 a ?_;refine d_5 ?_;refine bK rfl rfl rfl (.index_a rfl rfl (by omega) a rfl te_22.h) rfl rfl ?_;refine m_1 ?_;refine bK rfl rfl rfl (.load_a1 rfl a TG.h rfl) rfl rfl ?_;refine d_z ?_;refine cT (r_z 3 ?_);refine ak (Fin.many ⟨_,_,rfl,rfl,⟨_,_,rfl,rfl,⟨_,_,rfl,rfl,rfl⟩⟩⟩ (nle rfl) ?_);exact ai (Cv.emp _) (ai (Cv.emp _) (ai (ao ay (ah _)) aw));have F:=prF (ho t g) (by omega) (by omega);have b1:=F.b1;have b2:=F.b2;have t1:=F.t1;have t2:=F.t2;have d1:=F.d1;have d2:=F.d2;have d:ya t=false:=by unfold ya;rw[decide_eq_false l1,decide_eq_false l2];rfl
  refine ae (q_z 4 ?_);refine cT (an (ae (am (ae (s_r 16 ?_)))));refine a_2 ?_;refine i_x a ?_;refine a_1 ?_;refine l_1 a ?_;refine d_5 ?_;refine bK rfl rfl rfl (.index_a rfl rfl (by omega) a rfl te_22.h) rfl rfl ?_;refine m_1 ?_;refine bK rfl rfl rfl (.load_a1 rfl a TG.h rfl) rfl rfl ?_;refine d_z ?_;refine cF (an (s_r 11 ?_));refine a_2 ?_;refine i_x a ?_;refine a_1 ?_;refine l_1 a ?_;refine c_s (b1) ?_;refine a_z ?_;refine s_r 11 ?_;refine a_2 ?_;refine i_x a ?_;refine a_1 ?_;refine l_1 a ?_;refine c_s (b2) ?_;refine a_z ?_;refine bD (fun _:Unit=>⟨[(0,.arr (twR l)),(5,H),(6,x),(7,i64 i),(8,.arr (pE (nL t.1))),(9,.arr (rE (rP (nL t.1)))),(10,.arr (pE (nL t.2))),(11,.arr (rE (rP (nL t.2))))],q,p+100,105⟩) (fun _=>jd t=true) ?_ ?_;by_cases s1:gC t.1=true;by_cases s2:gC t.2=true;have f:jd t=true:=by unfold jd;rw[d,s1,s2];rfl
  cases e1:gz t.1 4 with
  |true=>
   rw[e1] at t1;cases e2:gz t.2 4 with
   |true=>
    rw[e2] at t2;refine s_r 26 ?_;refine a_2 ?_;refine i_x a ?_;refine a_1 ?_;refine l_1 a ?_;refine c_s (t1) ?_;refine d_8 ?_;refine m_1 ?_;refine bK rfl rfl rfl (.index_a rfl rfl (by omega) a rfl te_22.h) rfl rfl ?_;refine m_1 ?_;refine bK rfl rfl rfl (.load_a1 rfl a TG.h rfl) rfl rfl ?_;refine c_s (t2) ?_;refine d_z ?_;exact cF (an (⟨(),f,SEnt.keep (all_cons rfl (all_cons rfl (all_cons rfl (all_cons rfl (all_cons rfl (all_cons rfl (all_cons rfl (all_cons rfl u7)))))))) (by omega)⟩))
   |false=>
    rw[e2] at t2;have K:12< cQ (nL t.2):=by unfold gC at s2;rw[e2] at s2;simpa using s2
    refine s_r 26 ?_;refine a_2 ?_;refine i_x a ?_;refine a_1 ?_;refine l_1 a ?_;refine c_s (t1) ?_;refine d_8 ?_;refine m_1 ?_;refine bK rfl rfl rfl (.index_a rfl rfl (by omega) a rfl te_22.h) rfl rfl ?_;refine m_1 ?_;refine bK rfl rfl rfl (.load_a1 rfl a TG.h rfl) rfl rfl ?_;refine c_s (t2) ?_;refine e_s (d2) ?_;refine d_z ?_;exact cF (an (⟨(),f,SEnt.keep (all_cons rfl (all_cons rfl (all_cons rfl (all_cons rfl (all_cons rfl (all_cons rfl (all_cons rfl (all_cons rfl u7)))))))) (by omega)⟩))
  |false=>
   rw[e1] at t1;have J:12< cQ (nL t.1):=by unfold gC at s1;rw[e1] at s1;simpa using s1
   cases e2:gz t.2 4 with
   |true=>
    rw[e2] at t2;refine s_r 26 ?_;refine a_2 ?_;refine i_x a ?_;refine a_1 ?_;refine l_1 a ?_;refine c_s (t1) ?_;refine e_s (d1) ?_;refine d_5 ?_;refine bK rfl rfl rfl (.index_a rfl rfl (by omega) a rfl te_22.h) rfl rfl ?_;refine m_1 ?_;refine bK rfl rfl rfl (.load_a1 rfl a TG.h rfl) rfl rfl ?_;refine c_s (t2) ?_;refine d_z ?_;exact cF (an (⟨(),f,SEnt.keep (all_cons rfl (all_cons rfl (all_cons rfl (all_cons rfl (all_cons rfl (all_cons rfl (all_cons rfl (all_cons rfl u7)))))))) (by omega)⟩))
   |false=>
    rw[e2] at t2;have K:12< cQ (nL t.2):=by unfold gC at s2;rw[e2] at s2;simpa using s2
    refine s_r 26 ?_;refine a_2 ?_;refine i_x a ?_;refine a_1 ?_;refine l_1 a ?_;refine c_s (t1) ?_;refine e_s (d1) ?_;refine d_5 ?_;refine bK rfl rfl rfl (.index_a rfl rfl (by omega) a rfl te_22.h) rfl rfl ?_;refine m_1 ?_;refine bK rfl rfl rfl (.load_a1 rfl a TG.h rfl) rfl rfl ?_;refine c_s (t2) ?_;refine e_s (d2) ?_;refine d_z ?_;exact cF (an (⟨(),f,SEnt.keep (all_cons rfl (all_cons rfl (all_cons rfl (all_cons rfl (all_cons rfl (all_cons rfl (all_cons rfl (all_cons rfl u7)))))))) (by omega)⟩))
  have c:gC t.2=false:=by simpa using s2
  rw[e (ru g (by unfold jd;rw[d,c];simp))];have e2:gz t.2 4=false:=by unfold gC at c;rw[Bool.or_eq_false_iff] at c;exact c.1
  have K:¬12< cQ (nL t.2):=by unfold gC at c;rw[Bool.or_eq_false_iff] at c;exact of_decide_eq_false c.2
  rw[e2] at t2;cases e1:gz t.1 4 with
  |true=>
   rw[e1] at t1;refine s_r 26 ?_;refine a_2 ?_;refine i_x a ?_;refine a_1 ?_;refine l_1 a ?_;refine c_s (t1) ?_;refine d_8 ?_;refine m_1 ?_;refine bK rfl rfl rfl (.index_a rfl rfl (by omega) a rfl te_22.h) rfl rfl ?_;refine m_1 ?_;refine bK rfl rfl rfl (.load_a1 rfl a TG.h rfl) rfl rfl ?_;refine c_s (t2) ?_;refine e_s (d2) ?_;refine d_z ?_;refine cT (r_z 3 ?_);refine ak (Fin.many ⟨_,_,rfl,rfl,⟨_,_,rfl,rfl,⟨_,_,rfl,rfl,rfl⟩⟩⟩ (nle rfl) ?_);exact ai (Cv.emp _) (ai (Cv.emp _) (ai (ao ay (ah _)) aw))
  |false=>
   rw[e1] at t1;have J:12< cQ (nL t.1):=by unfold gC at s1;rw[e1] at s1;simpa using s1
   refine s_r 26 ?_;refine a_2 ?_;refine i_x a ?_;refine a_1 ?_;refine l_1 a ?_;refine c_s (t1) ?_;refine e_s (d1) ?_;refine d_5 ?_;refine bK rfl rfl rfl (.index_a rfl rfl (by omega) a rfl te_22.h) rfl rfl ?_;refine m_1 ?_;refine bK rfl rfl rfl (.load_a1 rfl a TG.h rfl) rfl rfl ?_;refine c_s (t2) ?_;refine e_s (d2) ?_;refine d_z ?_;refine cT (r_z 3 ?_);refine ak (Fin.many ⟨_,_,rfl,rfl,⟨_,_,rfl,rfl,⟨_,_,rfl,rfl,rfl⟩⟩⟩ (nle rfl) ?_);exact ai (Cv.emp _) (ai (Cv.emp _) (ai (ao ay (ah _)) aw))
  have b:gC t.1=false:=by simpa using s1
  rw[e (ru g (by unfold jd;rw[d,b];rfl))];have e1:gz t.1 4=false:=by unfold gC at b;rw[Bool.or_eq_false_iff] at b;exact b.1
  have J:¬12< cQ (nL t.1):=by unfold gC at b;rw[Bool.or_eq_false_iff] at b;exact of_decide_eq_false b.2
  rw[e1] at t1;refine s_r 26 ?_;refine a_2 ?_;refine i_x a ?_;refine a_1 ?_;refine l_1 a ?_;refine c_s (t1) ?_;refine e_s (d1) ?_;refine d_z ?_;refine cT (r_z 3 ?_);refine ak (Fin.many ⟨_,_,rfl,rfl,⟨_,_,rfl,rfl,⟨_,_,rfl,rfl,rfl⟩⟩⟩ (nle rfl) ?_);exact ai (Cv.emp _) (ai (Cv.emp _) (ai (ao ay (ah _)) aw));rintro _ f;have M:(keM l)[i]?=some (nL t.1,nL t.2):=by unfold keM;rw[List.getElem?_map,ht];rfl
  have v:(keM l).take (i+1)=(keM l).take i++[(nL t.1,nL t.2)]:=dt M;have e1:kE ((keM l).take i)++[prC (nL t.1,nL t.2)]=kE ((keM l).take (i+1)):=by rw[v,E6]
  have e2:keR ((keM l).take i)++[pkR (nL t.1,nL t.2)]=keR ((keM l).take (i+1)):=by rw[v,H9]
  have n:∀z∈l.take (i+1),jd z=true:=fun z h=>by
   rw[dt ht] at h;rcases List.mem_append.1 h with h|h
   exact k z h;rw[List.mem_singleton.1 h];exact f
  cases i with
  |zero=>
   rw[krS'.eq_1] at o;cases o;refine r_m 14 ?_;refine a_z ?_;refine r_m 3 ?_;refine a_z ?_;refine⟨0+1,by omega,⟨by omega,n⟩,?_⟩;rw[krS'.eq_2,←e1,←e2];refine s_x [(1,5),(2,6)] (fun hs=>e_19) (fun hs=>?_)
   ·repeat' (first|exact aI|refine h_c ?_ ?_|exact cv hs (eG [(nL t.1,nL t.2)])|exact cv hs (kR [(nL t.1,nL t.2)])|exact cu|refine aG ?_|exact aw|refine ai ?_ ?_|exact ao hs (dr l)|exact bm)
  |succ i=>
   rw[krS'.eq_2] at o;cases o;have o1:=Ie ((keM l).take (i+1));have o2:=keR_one ((keM l).take (i+1));have q1:(kE ((keM l).take (i+1))).length=i+1:=by rw[ec,List.length_take,gH];omega
   have q2:(keR ((keM l).take (i+1))).length=i+1:=by rw[p9,List.length_take,gH];omega
   refine r_m 14 ?_;refine o_0 (.move rfl) ?_;refine o_0 (.move rfl) ?_;refine o_0 (.move rfl) ?_;refine o_0 (.build TZ.h tp_61.h rfl rfl) ?_;refine o_1 (.buildSlice te_27.h TZ.h rfl (by decide) rfl rfl rfl (by first|(simp;done)|(simp[cC,ofV];done)|rfl)) ?_;refine o_2 (.append_l rfl rfl rfl te_27.h rfl rfl rfl rfl rfl d_o (by first|exact gf _|exact gd _|exact fc _|exact gi _|exact fW _|assumption|rfl|simp) (by first|rfl|exact gf _|exact gd _|exact fc _|exact gi _|exact fW _|simp) rfl (.lsl rfl (nle rfl)) TZ.h rfl TB.h d_o (by first|(simp[maxLen];done)|(simp[maxLen];omega))) ?_;refine o_0 (.move rfl) ?_;refine o_0 (.move rfl) ?_;refine o_0 (.move rfl) ?_;refine o_0 (.build TZ.h tp_147.h rfl rfl) ?_;refine o_1 (.buildSlice te_84.h TZ.h rfl (by decide) rfl rfl rfl (by first|(simp;done)|(simp[cC,ofV];done)|rfl)) ?_;refine o_2 (.append_l rfl rfl rfl te_84.h rfl rfl rfl rfl rfl d_o (by first|exact gf _|exact gd _|exact fc _|exact gi _|exact fW _|assumption|rfl|simp) (by first|rfl|exact gf _|exact gd _|exact fc _|exact gi _|exact fW _|simp) rfl (.lsl rfl (nle rfl)) TZ.h rfl TB.h d_o (by first|(simp[maxLen];done)|(simp[maxLen];omega))) ?_;refine o_0 (.assign rfl) ?_;refine o_0 (.assign rfl) ?_;refine au ?_;refine r_m 3 ?_;refine a_z ?_;refine⟨i+1+1,by omega,⟨by omega,n⟩,?_⟩;rw[krS'.eq_2];refine s_x [(1,5),(2,6)] (fun hs=>e_19) (fun hs=>?_)
   ·repeat' (first|exact aI|refine h_c ?_ ?_|exact aT hs e1 (eG _)|exact aT hs e2 (kR _)|exact cu|refine aG ?_|exact aw|refine ai ?_ ?_|exact ao hs (dr l)|exact bm)
 rintro _ u
 have E:r= .tup [.arr (kE (keM l)),.arr (keR (keM l)),bln true]:=by
  rw[D,keV,show uy l=true by unfold uy;rw[s,List.all_eq_true.2 u];rfl];rfl
 rw[E];cases hll:l.length with
 |zero=>
  have A:l=[]:=List.eq_nil_of_length_eq_zero hll;subst A;rw[krS'.eq_1];refine r_z 5 ?_;refine ak (Fin.many ⟨_,_,rfl,rfl,⟨_,_,rfl,rfl,⟨_,_,rfl,rfl,rfl⟩⟩⟩ (nle rfl) ?_);exact ai (Cv.emp _) (ai (Cv.emp _) (ai (ao ay (ah _)) aw))
 |succ m=>
  have y:(keM l).take (m+1)=keM l:=List.take_of_length_le (by rw[gH];omega);have q1:(kE (keM l)).length=m+1:=by rw[ec,gH];omega
  have q2:(keR (keM l)).length=m+1:=by rw[p9,gH];omega
  rw[krS'.eq_2,y];refine r_z 5 ?_;refine ak (Fin.many ⟨_,_,rfl,rfl,⟨_,_,rfl,rfl,⟨_,_,rfl,rfl,rfl⟩⟩⟩ (nle rfl) ?_);exact ai (Cv.shut (B:=⟨61,2,kE (keM l)⟩) ay rfl (fun j B G=>by cases G) (by show 0+(m+1)≤(kE (keM l)).length;omega) (wI q1.symm (eG _))) (ai (Cv.shut (B:=⟨147,2,keR (keM l)⟩) ay rfl (fun j B G=>by cases G) (by show 0+(m+1)≤(keR (keM l)).length;omega) (wI q2.symm (kR _))) (ai (ao ay (ah _)) aw))
def epS(k:Ke)(g:Nat)(cap:List AV)(f:List Rat×List Rat→Rat):Nat→AState
 |0=>⟨[(1,.clos g [] cap),(8,.arr (kE k)),(9,i64 k.length),(10,i64 0),(5,.emp)],[],1,22⟩
 |i+1=>⟨[(1,.clos g [] cap),(8,.arr (kE k)),(9,i64 k.length),(10,i64 ((i+1:Nat):Int)),(5,.lsl 1 0 (i+1) none 3)],[(1,some ⟨34,3,pE ((k.take (i+1)).map f)⟩)],2,22⟩
theorem wo(k:Ke)(g:Nat)(cap:List AV)(f:List Rat×List Rat→Rat)(hcap:∀c∈cap,Closed c)(hl:k.length≤1000)(hg:∀p∈k,FS g ((.agg (prC p)::cap).map coe) (.agg (qC (f p)))):FS 69 [.arr (kE k),.clos g [] cap] (.arr (pE (k.map f))):=by
 have o:(kE k).length=k.length:=ec k;have d:Closed (.clos g [] cap):=aU ag hcap;refine f_n Tryz.func69 ?_ ?_;exact ac (aX k) (ac d ag);refine r_z 1 ?_;refine r_z 1 ?_;refine ae (r_z 3 ?_);refine aH (fun _:Unit=>⟨[(5,.arr (pE (k.map f)))],[],1,22⟩) (fun _=>True) ?_ ?_;refine am (aD (epS k g cap f) (fun i=>k.length- i) (fun i=>i≤k.length) 0 (Nat.zero_le _) ?_ ?_);rw[epS.eq_1];exact s_x [] (fun hs=>e_4) (fun hs=>e_33);intro i q;by_cases hlt:i< k.length;obtain⟨p,hp⟩:∃p,k[i]?=some p:=⟨_,List.getElem?_eq_getElem hlt⟩;have j:=hg p (List.mem_of_getElem? hp);have m:(k.take (i+1)).length=i+1:=by rw[List.length_take];omega
 have b:pE ((k.take i).map f)++[qC (f p)]=pE ((k.take (i+1)).map f):=by rw[dt hp,List.map_append,List.map_singleton,lO];rfl
 cases i with
 |zero=>
  have a:(kE k)[((0:Int)).toNat]?=some (prC p):=kM hp _ rfl;rw[epS.eq_1];refine q_z 1 ?_;refine ae (cT (an (ae (am (s_r 4 ?_)))));refine i_x a ?_;refine l_x a ?_;refine a_z ?_;refine r_m 7 ?_;refine c_s (j) ?_;refine a_z ?_;refine r_m 2 ?_;refine a_z ?_;refine⟨0+1,by omega,by omega,?_⟩;rw[epS.eq_2];rw[←b];refine s_x [(1,5)] (fun hs=>e_4) (fun hs=>?_)
  ·repeat' (first|exact aI|refine h_c ?_ ?_|exact cv hs (aV [f p])|exact cu|refine aG ?_|exact aw|refine ai ?_ ?_|exact ao hs (aX k)|exact ao hs d|exact bm)
 |succ i=>
  have a:(kE k)[(((i+1:Nat):Int)).toNat]?=some (prC p):=kM hp _ (by simp);have n:=fc ((k.take (i+1)).map f);have e:(pE ((k.take (i+1)).map f)).length=i+1:=by simp[pE];omega
  rw[epS.eq_2];refine q_z 1 ?_;refine ae (cT (an (ae (am (s_r 4 ?_)))));refine i_x a ?_;refine l_x a ?_;refine a_z ?_;refine r_m 7 ?_;refine c_s (j) ?_;refine a_z ?_;refine r_m 2 ?_;refine a_z ?_;refine⟨i+1+1,by omega,by omega,?_⟩;rw[epS.eq_2];refine s_x [(1,5)] (fun hs=>e_4) (fun hs=>?_)
  ·repeat' (first|exact aI|refine h_c ?_ ?_|exact aT hs b (aV _)|exact cu|refine aG ?_|exact aw|refine ai ?_ ?_|exact ao hs (aX k)|exact ao hs d|exact bm)
 have h:i=k.length:=by omega
 cases i with
 |zero=>
  have l:k=[]:=List.eq_nil_of_length_eq_zero h.symm;subst l;rw[epS.eq_1];refine q_z 1 ?_;refine ae (cF (aA ⟨(),trivial,?_⟩));exact s_e []
 |succ i=>
  have e:(pE (k.map f)).length=i+1:=by simp[pE];omega
  rw[epS.eq_2,h,List.take_length];refine q_z 1 ?_;refine ae (cF (aA ⟨(),trivial,?_⟩));refine s_x [] (fun hs=>?_) (fun hs=>?_)
  ·repeat' (first|exact aS|refine az rfl ?_ ?_|(refine Cv.shut hs rfl (aQ rfl) (by simp) ?_;exact aT hs (by rw[List.drop_zero];exact List.take_of_length_le (by simp)) (aV _))|exact bm)
  ·repeat' (first|exact aI|refine h_c ?_ ?_|exact cu|refine aG ?_|exact aw|refine ai ?_ ?_|(refine Cv.shut hs rfl (aQ rfl) (by simp) ?_;exact aT hs (by rw[List.drop_zero];exact List.take_of_length_le (by simp)) (aV _))|exact bm)
 rintro _ _;refine r_z 2 ?_;exact ak (t_e (aC _))
theorem eK(n:Nat)(A:Mx)(L:List Nat):∀c∈[AV.arr (mE (pG n A)),.arr (lvE L),i64 n],Closed c:=ac (closed_mA _) (ac (aK (fg L)) (ac (ah _) ag))
theorem jv(n:Nat)(A:Mx)(L:List Nat):Closed (syV n (A,L)):=aB (eK n A L)
def bSy(n:Nat)(A:Mx)(L:List Nat):AV:= .aptr [[.arr (mE (pG n A)),.arr (lvE L),i64 n]] 0 0
theorem cX(n:Nat)(A:Mx)(L:List Nat):Closed (bSy n A L):=bC (eK n A L)
theorem E1{L:List Nat}{i c:Nat}(h:L[i]?=some c):∀e:Nat,e=i→(lvE L)[e]?=some [i64 c]:=fun e a=>by
 rw[a,lvE,List.getElem?_map,h];rfl
def onS(A:Mx)(n:Nat)(L:List Nat):Nat→AState
 |i=>⟨[(1,bSy n A L),(3,.lsl 1 0 n (some n) 3),(10,.arr (lvE L)),(11,i64 L.length),(12,i64 i)],[(1,some ⟨34,3,pE (qU A n L i)⟩)],2,31⟩
theorem zO(A:Mx)(n:Nat)(L:List Nat)(hE:Ech A n n L)(hn:n≤25):FS 68 [syV n (A,L)] (.arr (pE (zj A n L))):=by
 have k:(lvE L).length=L.length:=mN L;have o:=hE.len2;refine f_n Tryz.func68 ?_ ?_;exact ac (jv n A L) ag;refine r_z 2 ?_;refine AWp.ent (st':=⟨[(1,bSy n A L)],[],1,31⟩) ?_ ?_;have:=eK n A L;exact s_f [];refine r_z 4 ?_;refine ae (r_z 4 ?_);refine aH (fun _:Unit=>⟨[(3,.arr (pE (zj A n L)))],[],1,31⟩) (fun _=>True) ?_ ?_;refine am (aD (onS A n L) (fun i=>L.length- i) (fun i=>i≤L.length) 0 (Nat.zero_le _) ?_ ?_);rw[onS.eq_1,oneJ_0];refine s_x [(1,3)] (fun hs=>e_44) (fun hs=>?_)
 ·repeat' (first|exact aI|refine h_c ?_ ?_|exact CvLL.zeros hs n|exact cu|refine aG ?_|exact aw|refine ai ?_ ?_|exact ao hs (cX n A L)|exact ao hs (aK (fg L))|exact bm)
 intro i r;rw[onS.eq_1];by_cases hlt:i< L.length;obtain⟨c,hc⟩:∃c,L[i]?=some c:=⟨_,List.getElem?_eq_getElem hlt⟩;have e:=hE.lt i c hc;have f:i< n:=by omega
 have d:(lvE L)[((i:Nat):Int).toNat]?=some [i64 c]:=E1 hc _ (by simp);have a:(mE (pG n A))[((i:Nat):Int).toNat]?=some [.arr (pE (aW (n+1) (A i)))]:=zA (xT f) _ (by simp);have b:(pE (aW (n+1) (A i)))[((n:Nat):Int).toNat]?=some (qC (A i n)):=ir (by omega) _ (by simp);have p:(mE (pG n A)).length=n:=by simp
 have j:(pE (aW (n+1) (A i))).length=n+1:=by simp[pE]
 have l:(pE (qU A n L i)).length=n:=by simp[pE]
 obtain⟨q,g⟩:=HV (A:=A) (L:=L) (i:=i) e (0+((c:Nat):Int).toNat) (by omega);refine q_z 1 ?_;refine ae (cT (an (ae (am (s_r 5 ?_)))));refine a_1 ?_;refine i_x d ?_;refine l_1 d ?_;refine a_z ?_;refine r_d ba 13 ?_;refine a_5 ?_;refine i_x a ?_;refine l_1 a ?_;refine a_2 ?_;refine i_x b ?_;refine l_x b ?_;refine a_1 ?_;refine fY (.store rfl rfl g rfl rfl rfl TS.h (nle rfl)) ?_;refine au (n_k ?_);refine r_m 2 ?_;refine a_z ?_;refine⟨i+1,by omega,by omega,?_⟩;rw[onS.eq_1];refine s_x [] (fun hs=>e_44) (fun hs=>?_)
 ·repeat' (first|exact aI|refine h_c ?_ ?_|exact aT hs (oneJ_s hE hc e (0+((c:Nat):Int).toNat) (by omega)) (aV _)|exact cu|refine aG ?_|exact aw|refine ai ?_ ?_|exact ao hs (cX n A L)|exact ao hs (aK (fg L))|exact bm)
 have m:i=L.length:=by omega
 refine q_z 1 ?_;refine ae (cF (aA ⟨(),trivial,?_⟩));rw[oneJ_n (by omega)];refine s_x [] (fun hs=>?_) (fun hs=>?_)
 ·repeat' (first|exact aS|refine az rfl ?_ ?_|(refine Cv.shut hs rfl (aQ rfl) (by simp[pE]) ?_;exact aT hs (by rw[List.drop_zero];exact List.take_of_length_le (by simp[pE])) (aV _))|exact bm)
 ·repeat' (first|exact aI|refine h_c ?_ ?_|exact cu|refine aG ?_|exact aw|refine ai ?_ ?_|(refine Cv.shut hs rfl (aQ rfl) (by simp[pE]) ?_;exact aT hs (by rw[List.drop_zero];exact List.take_of_length_le (by simp[pE])) (aV _))|exact bm)
 rintro _ _;refine r_z 2 ?_;exact ak (t_e (aC _))
theorem Gg(A:Mx)(n:Nat)(L:List Nat)(e:List Rat)(hl:e.length=n+1):FS 123 [.arr (pE e),bSy n A L] (bln (decide (coP e n≠0))):=by
 have b:(pE e).length=e.length:=by simp[pE]
 have a:(pE e)[((n:Nat):Int).toNat]?=some (qC (coP e n)):=by
  have:=cK (p:=e) (i:=n) (by omega);simp[pE,this]
 refine f_n Tryz.func123 ?_ ?_;exact ac (aC e) (ac (cX n A L) ag);refine r_z 1 ?_;refine s_r 8 ?_;refine a_3 ?_;refine i_x a ?_;refine l_x a ?_;refine c_s (cx (coP e n)) ?_;refine a_z ?_;refine ak (aY rfl ?_ ?_);rw[show decide (coP e n≠0)=decide (sgZ (coP e n).num≠0) from decide_eq_decide.2 (not_congr sgZ_num_eq.symm)]
 first|rfl|(congr 1;cases hb:decide (sgZ (coP e n).num=0) with|true=>(have:=of_decide_eq_true hb;simp[this])|false=>(have:=of_decide_eq_false hb;simp[bln,bne,this]))
 exact ah _
theorem mE_el(k:List (List Rat)):∀e∈mE k,e.length=1:=fun e a=>by
 obtain⟨_,_,rfl⟩:=List.mem_map.1 a;rfl
theorem Iy(A:Mx)(n:Nat)(L:List Nat)(hLn:L.length≤n)(hn:n≤25):FS 64 [syV n (A,L)] (bln (xZ n A L)):=by
 have c:(lvE L).length=L.length:=mN L
 have hc:=zX ((pG n A).drop L.length) 123 [bSy n A L] (fun e=>decide (coP e n≠0)) (ac (cX n A L) ag) (by simp;omega) (fun e d=>Gg A n L e (by
  obtain⟨k,a⟩:=List.mem_iff_getElem?.1 (List.mem_of_mem_drop d)
  have b:k< n:=by
   have:=(List.getElem?_eq_some_iff.1 a).1;simpa using this
  rw[xT b] at a;cases a;simp)) rfl
 rw[←E0] at hc;refine f_n Tryz.func64 ?_ ?_;exact ac (jv n A L) ag;refine r_z 2 ?_;refine AWp.ent (st':=⟨[(1,bSy n A L)],[],1,11⟩) ?_ ?_;have:=eK n A L;exact s_f [];refine s_r 9 ?_;refine a_5 ?_;refine o_0 (.sa_l rfl rfl (l:=L.length) rfl (by simp;omega) te_123.h (mE_el _)) ?_;refine c_s (hc) ?_;refine a_z ?_;exact ak (t_e (ah _))
structure OkSm (k:Ke)(c:List Rat)(i:Nat)(p:List Rat×List Rat):Prop where
 p1:smL p.1
 p2:p.1.length≤1099511627776
 cs:sm (coP c i)
 o1:smL (smK k c i)
 o2:(smK k c i).length≤1099511627776
 s1:smL (aL p.1 (coP c i))
 s2:(aL p.1 (coP c i)).length≤1099511627776
def ksS(k:Ke)(c:List Rat):Nat→AState
 |i=>⟨[(1,.arr (pE c)),(5,.arr (pE (smK k c i))),(8,.arr (kE k)),(9,i64 k.length),(10,i64 i)],[],1,26⟩
theorem Fb(k:Ke)(c:List Rat)(hc:c.length=k.length)(hl:k.length≤1000)(h:∀i p,k[i]?=some p→OkSm k c i p):FS 67 [.arr (kE k),.arr (pE c)] (.arr (pE (smK k c k.length))):=by
 have f:(kE k).length=k.length:=ec k;refine f_n Tryz.func67 ?_ ?_;exact ac (aX k) (ac (aC c) ag);refine r_z 1 ?_;refine r_z 1 ?_;refine ae (r_z 3 ?_);refine aH (fun _:Unit=>⟨[(5,.arr (pE (smK k c k.length)))],[],1,26⟩) (fun _=>True) ?_ ?_;refine am (aD (ksS k c) (fun i=>k.length- i) (fun i=>i≤k.length) 0 (Nat.zero_le _) ?_ ?_);rw[ksS.eq_1];exact s_x [] (fun hs=>e_45) (fun hs=>e_46);intro i j;rw[ksS.eq_1];by_cases hlt:i< k.length;obtain⟨p,hp⟩:∃p,k[i]?=some p:=⟨_,List.getElem?_eq_getElem hlt⟩;have a:(kE k)[((i:Nat):Int).toNat]?=some (prC p):=kM hp _ (by simp);have g:(pE c).length=k.length:=by simp[pE,hc]
 have b:(pE c)[((i:Nat):Int).toNat]?=some (qC (coP c i)):=by
  have:=cK (p:=c) (i:=i) (by omega);simp[pE,this]
 have ok:=h i p hp;have h1:=iq p.1 (coP c i) ok.p1 ok.cs ok.p2;have e:=qj (smK k c i) _ ok.o1 ok.s1 ok.o2 ok.s2;refine q_z 1 ?_;refine ae (cT (an (ae (am (s_r 6 ?_)))));refine a_1 ?_;refine i_x a ?_;refine l_x a ?_;refine a_z ?_;refine r_d ba 10 ?_;refine a_5 ?_;refine i_x b ?_;refine l_x b ?_;refine c_s (h1) ?_;refine c_s (e) ?_;refine a_1 ?_;refine au (n_k ?_);refine r_m 2 ?_;refine a_z ?_;refine⟨i+1,by omega,by omega,?_⟩;rw[ksS.eq_1,smK_s hp];unfold smF;exact s_x [] (fun hs=>e_45) (fun hs=>e_46);have d:i=k.length:=by omega
 refine q_z 1 ?_;refine ae (cF (aA ⟨(),trivial,?_⟩));rw[d];exact s_e [];rintro _ _;refine r_z 2 ?_;exact ak (t_e (aC _))
def tkC(k:Ke)(l:Rat)(g:List Rat)(a b:Rat):List AV:=eqC k l g++spC a b
theorem ff(k:Ke)(l:Rat)(g:List Rat)(a b:Rat):∀c∈tkC k l g a b,Closed c:=dy (cG k l g) (bi a b)
def bTk(k:Ke)(l:Rat)(g:List Rat)(a b:Rat):AV:= .aptr [tkC k l g a b] 0 0
theorem da(k:Ke)(l:Rat)(g:List Rat)(a b:Rat):Closed (bTk k l g a b):=bC (ff k l g a b)
theorem fs_sys1(k:Ke)(l:Rat)(g:List Rat)(a b:Rat)(p:List Rat×List Rat)(hm:fx p.2 g)(ho:OkIn (aJ p.2 g) a b):
    FS 121 [.agg (prC p),bTk k l g a b] (.agg (qC (inQ (aJ p.2 g) a b))):=by
 refine f_n Tryz.func121 ?_ ?_;exact ac (aB (iw p)) (ac (da k l g a b) ag);refine r_z 2 ?_;refine ae (r_d ba 10 ?_);refine c_s (oI p.2 g hm) ?_;refine c_s (uo _ a b ho) ?_;refine a_1 ?_;refine au (n_k ?_);exact ak (c_e (aP _))
def rhK(k:Ke)(g:List Rat)(a b:Rat):List Rat:=k.map fun p=>inQ (aJ p.2 g) a b
@[simp] theorem rhK_length (k:Ke)(g:List Rat)(a b:Rat):(rhK k g a b).length=k.length:=by simp[rhK]
def syM(k:Ke)(l:Rat)(r:List Rat)(a b:Rat):Mx×List Nat:=slM (svM (maK k a b) l (fun t=>coP r t) k.length) k.length k.length
structure OkSy (k:Ke)(l:Rat)(a b:Rat)(s:Nat):Prop where
 m:OkMa k a b
 q:∀i j,i< k.length→j< k.length→qs (maK k a b i j)+qs l+2≤s
 s:slB s k.length≤100000000000
theorem OkSy.le{k:Ke}{l a b:Rat}{s:Nat}(h:OkSy k l a b s):s≤100000000000:=Nat.le_trans (AS (s:=s) (Nat.zero_le k.length)) h.s
theorem OkSy.bd{k:Ke}{l a b:Rat}{s:Nat}(h:OkSy k l a b s){r:List Rat}(hr:∀i,i< k.length→qs (coP r i)≤s):bdM (svM (maK k a b) l (fun t=>coP r t) k.length) k.length s:=fun i j c f=>by
 unfold svM;by_cases e1:j=k.length;rw[if_pos e1];exact hr i c;rw[if_neg e1];have h1:=h.q i j c (by omega);have e:=dk (maK k a b i j) l;split;have d:=fX (-(maK k a b i j* l)) 1;rw[fv] at d;have g:qs 1≤1:=by decide
 omega;rw[fv];omega
theorem vg(k:Ke)(l a b:Rat)(s:Nat)(r:List Rat)(h:OkSy k l a b s)(hrl:r.length=k.length)(hr:∀i,i< k.length→qs (coP r i)≤s):
    XSpec Tryz.prog 91 [.lsl 1 0 k.length (some k.length) 1,.agg (qC l),.arr (pE r)] (mzH 3 35 34 (mzO 3 (fun _=>k.length) (fun x=>x) k.length) (fiL (maK k a b) k.length k.length)) 40 (syV k.length (syM k l r a b)) [] 1:=by
 have n:=h.m.l;have g:=h.le;have e:=h.bd hr;refine FG (maK k a b) l r k.length (slB s k.length) (by omega) hrl h.s (fun i j d f=>by have:=h.q i j d f;omega) (fun i d=>?_) fun c hc i j d f=>Nat.le_trans (Jn e c hc i j d f) (AS hc);have h1:=h.q i i d d;have o:=dk (maK k a b i i) l;rw[fv];omega
theorem tn(k:Ke)(l:Rat)(g:List Rat)(a b:Rat)(s:Nat)(h:OkSy k l a b s)(hr:∀p∈k,fx p.2 g∧OkIn (aJ p.2 g) a b∧qs (inQ (aJ p.2 g) a b)≤s):
    FS 63 [.agg (tkC k l g a b)] (syV k.length (syM k l (rhK k g a b) a b)):=by
 have n:=h.m.l
 have f:=vg k l a b s (rhK k g a b) h (by simp) fun i d=>by
  have e:coP (rhK k g a b) i=inQ (aJ k[i].2 g) a b:=by
   unfold coP rhK;rw[List.getD_eq_getElem?_getD];simp[d]
  rw[e];exact(hr _ (List.getElem_mem d)).2.2
 have j:=wo k 121 [bTk k l g a b] (fun p=>inQ (aJ p.2 g) a b) (ac (da k l g a b) ag) (by omega) fun p hp=>fs_sys1 k l g a b p (hr p hp).1 (hr p hp).2.1;have c:Closed (syV k.length (syM k l (rhK k g a b) a b)):=jv _ _ _;refine f_n Tryz.func63 ?_ ?_;exact ac (aB (ff k l g a b)) ag;refine r_z 2 ?_;refine AWp.ent (st':=⟨[(1,bTk k l g a b),(2,.lptr 1 0 0)],[(1,some ⟨125,3,[[.emp,.emp,i64 0]]⟩)],2,18⟩) ?_ ?_;have:=ff k l g a b;exact s_f [(1,2)];refine ae (AWp.regAB 5 14 8 ba (sM k a b h.m) (f) (c) rfl rfl rfl rfl rfl rfl rfl rfl rfl rfl (by kernel_rfl) rfl rfl rfl ?_);refine AY.op0 (.fieldAddr_a rfl TF.h (by decide)) rfl rfl ?_;refine AY.op0 (.fieldAddr_a rfl TF.h (by decide)) rfl rfl ?_;refine AY.op0 (.load_a1 rfl rfl TG.h rfl) rfl rfl ?_;refine AY.op0 (.fieldAddr_a rfl TF.h (by decide)) rfl rfl ?_;refine AY.op0 (.load_a rfl rfl TG.h TS.h (nle rfl)) rfl rfl ?_;refine AY.sp rfl rfl (kAB.a rfl rfl rfl (ac (aX k) (ac (aB (bi a b)) ag)) rfl) ?_;refine AY.op0 (.fieldAddr_a rfl TF.h (by decide)) rfl rfl ?_;refine AY.op0 (.fieldAddr_a rfl TF.h (by decide)) rfl rfl ?_;refine AY.op0 (.load_a rfl rfl TG.h TS.h (nle rfl)) rfl rfl ?_;refine AY.op0 (.fieldAddr_a rfl TF.h (by decide)) rfl rfl ?_;refine AY.op0 (.fieldAddr_a rfl TF.h (by decide)) rfl rfl ?_;refine AY.op0 (.load_a1 rfl rfl TG.h rfl) rfl rfl ?_;refine AY.op0 (.makeFunc rfl rfl) rfl rfl ?_;refine AY.op0 (.call rfl rfl rfl (j)) rfl rfl ?_
 refine AY.sp rfl rfl (kAB.b rfl rfl (ArgsB.own (ArgsB.clo rfl (aB (a7 l)) (ArgsB.clo rfl (aC _) ArgsB.nil))) rfl) ?_;refine AY.on1 (.store rfl rfl rfl rfl rfl rfl TS.h (nle rfl)) rfl ?_;refine AY.nil ⟨by kernel_rfl,?_⟩;exact ak (c_e (c))
def yG(l:List (List Rat))(k:Nat):Option (List AV):=if k< l.length then some [i64 ((l.length- 1- k:Nat):Int),.arr (pE (l.getD (l.length- 1- k) []))] else none
def bM(l:List (List Rat)):AV:= .aptr [[.arr (mE l)]] 0 0
theorem eg(l:List (List Rat)):Closed (bM l):=bC (ac (closed_mA l) ag)
theorem mE_getD{l:List (List Rat)}{i:Nat}(h:i< l.length):(mE l)[i]?=some [.arr (pE (l.getD i []))]:=by
 refine zA ?_ i rfl;rw[List.getD_eq_getElem?_getD,List.getElem?_eq_getElem h];rfl
theorem Ik(l:List (List Rat))(hl:l.length≤281474976710656):GSpec Tryz.prog 161 [bM l] (yG l):=by
 refine GSpec.enter Tryz.func161 rfl (by kernel_rfl) rfl rfl rfl ?_ ?_ rfl ?_;exact ac (eg l) ag;intro k xs h;unfold yG at h;split at h;cases h;exact ac (ah _) (ac (aC _) ag);cases h;intro b N E;refine GWp.seq ?_;refine GWp.lift ?_;refine r_m 4 ?_;refine a_z ?_;refine GWp.block ?_;refine GWp.loopS (fun m:Nat=>⟨[(0,.v (.func (.yield b) #[] #[])),(1,bM l),(3,i64 ((m:Int)- 1))],[],1,19⟩) (fun m=>l.length- m) (fun m=>m) (fun m=>m≤l.length) l.length (Nat.le_refl _) (by simp) ?_ ?_;have:=eg l;exact s_f [];intro m e;refine GWp.seq ?_;refine GWp.seq ?_;refine GWp.lift ?_;refine r_m 2 ?_;refine a_z ?_;refine GWp.cond rfl (fun h=>?_) (fun h=>?_)
 ·refine GWp.skip ?_
  have d:1≤m:=by have:=of_decide_eq_true h;omega
  have a:(mE l)[((m:Int)- 1).toNat]?=some [.arr (pE (l.getD (m- 1) []))]:=by rw[show((m:Int)- 1).toNat=m- 1 by omega];exact mE_getD (by omega)
  refine GWp.seq ?_;refine GWp.block ?_;refine GWp.seq ?_;refine GWp.regY (fr2:=[(0,.v (.func (.yield b) #[] #[])),(1,bM l),(3,i64 ((m:Int)- 1)),(11,.v (.func (.yield b) #[] #[])),(12,i64 ((m:Int)- 1)),(16,.arr (pE (l.getD (m- 1) [])))]) (hp2:=[]) (nx2:=1) 6 rfl rfl rfl rfl rfl rfl ?_ rfl rfl rfl ?_ ?_ ?_;refine o_0 (.move rfl) ?_;refine o_0 (.move rfl) ?_;refine ci (.load_a1 rfl rfl TG.h rfl) rfl rfl ?_;refine o_0 (.move rfl) ?_;refine i_x a ?_;refine l_1 a ?_;refine au ?_;have:=eg l;exact s_t [];rotate_left 2;intro c;refine o_0 (.un rfl pQ) ?_;refine au ?_;rotate_left;unfold yG;rw[if_pos (by omega)];have e1:((l.length- 1- (l.length- m):Nat):Int)=(m:Int)- 1:=by omega
  have e2:l.length- 1- (l.length- m)=m- 1:=by omega
  rw[e1,e2];rfl;exact ac (ah _) (ac (aC _) ag);cases c with
  |false=>
   refine GWp.cond rfl (fun h=>?_) (fun h=>?_);exact GWp.ret ⟨.inr rfl,fun h=>by cases h⟩;cases h
  |true=>
   refine GWp.cond rfl (fun h=>?_) (fun h=>?_);cases h;refine GWp.skip ?_;refine GWp.lift ?_;refine r_m 3 ?_;refine a_z ?_;refine⟨rfl,m- 1,by omega,by omega,by omega,?_⟩;have:=eg l;exact s_f []
 refine GWp.exit ⟨.inl rfl,fun _=>?_⟩;have:m=0:=by have:=of_decide_eq_false h;omega
 subst this;unfold yG;rw[if_neg (by omega)]
theorem IR(l:List (List Rat)):FS 127 [.arr (mE l)] (.clos 161 [] [bM l]):=by
 refine f_c Tryz.func127 ?_;refine r_z 2 ?_;refine r_z 2 ?_;refine ak (⟨.inr rfl,[_],⟨_,[],rfl,rfl,rfl⟩,?_⟩);exact Cv.clos aw (ai (Cv.boxp ay rfl (fun _ _ h=>by cases h) rfl (ac (closed_mA l) ag)) aw)
theorem DB(p:List Rat)(hp:p.length≤1099511627776):FS 66 [.arr (pE p),.arr (mE [])] (.arr (pE (aj p))):=by
 have hb:=IR [];have b:=Ik [] (by simp);have ht:=eC p hp;refine f_c Tryz.func66 ?_;refine r_z 2 ?_;refine ae (r_c 2 (hb) ?_);refine au ?_;refine aH (fun _:Unit=>⟨[(2,.lptr 1 0 0)],[(1,some ⟨36,1,[[.arr (pE p)]]⟩)],2,28⟩) (fun _=>True) ?_ ?_;refine am (AWp.rangeFunc (α:=Unit) (γ:=Empty) 0 (fun _=>⟨[(2,.lptr 1 0 0),(9,.clos 161 [] [bM []])],[(1,some ⟨36,1,[[.arr (pE p)]]⟩)],2,28⟩) (fun _=>0) (fun _=>True) (fun e=>nomatch e) (fun _ e=>nomatch e) () rfl b rfl rfl ?_ (fun _=>⟨rfl,rfl⟩) (fun e=>nomatch e) trivial rfl (fun _ _=>Nat.le_refl _) ?_ ?_ ?_ ?_ (fun _ e=>nomatch e));intro k xs a;exact absurd a (by unfold yG;simp);refine s_y [(1,2)] (fun hs=>?_) (fun hs=>?_)
 ·repeat' (first|exact aS|refine az rfl ?_ ?_|exact ao hs (aU ag (ac (eg []) ag))|exact bm)
 ·repeat' (first|exact aI|refine h_c ?_ ?_|exact cu|refine aG ?_|exact aw|refine ai ?_ ?_|exact ao hs (aU ag (ac (eg []) ag))|exact bm)
 exact ac (eg []) ag;intro l k xs c a;exact absurd a (by unfold yG;simp);intro k c a;refine⟨(),trivial,?_⟩;exact s_e [];rintro _ _;refine r_c 3 (ht) ?_;refine a_z ?_;exact ak (t_e (aC _))
def ixS(L:List Nat)(f:Nat):Nat→AState
 |i=>⟨[(0,.arr (lvE L)),(1,i64 f),(7,i64 L.length),(8,i64 i)],[],1,19⟩
theorem Gx(L:List Nat)(f:Nat)(hl:L.length≤1099511627776):FS 194 [.arr (lvE L),i64 f] (i64 (kN (fun c:Nat=>((f:Int)==(c:Int))) L 0)):=by
 have g:(lvE L).length=L.length:=mN L;refine f_n Tryz.func194 ?_ ?_;exact ac (aK (fg L)) (ac (ah _) ag);obtain⟨R,e⟩:∃R,R=kN (fun c:Nat=>((f:Int)==(c:Int))) L 0:=⟨_,rfl⟩;rw[←e];refine r_z 1 ?_;refine ae (r_z 3 ?_);refine aH (fun _:Unit=>⟨[],[],1,19⟩) (fun _=>R= -1) ?_ ?_;refine am (aD (ixS L f) (fun i=>L.length- i) (fun i=>i≤L.length∧kN (fun c:Nat=>((f:Int)==(c:Int))) (L.drop i) i=R) 0 ⟨Nat.zero_le _,by rw[e];rfl⟩ ?_ ?_);simp only[ixS.eq_1];have:=(aK (fg L));exact s_f [];rintro i ⟨h,a⟩;rw[ixS.eq_1];by_cases hlt:i< L.length;refine q_z 1 ?_;refine ae (cT (an ?_));obtain⟨c,hc⟩:∃c,L[i]?=some c:=⟨_,List.getElem?_eq_getElem hlt⟩;have b:(lvE L)[((i:Nat):Int).toNat]?=some [i64 c]:=E1 hc _ (by simp);rw[Ah hc,kN] at a;refine ae (am (r_z 2 ?_));refine s_r 6 ?_;refine a_3 ?_;refine i_x b ?_;refine l_1 b ?_;refine a_z ?_;refine aq rfl (fun h1=>?_) (fun h1=>?_);rw[if_pos h1] at a;refine r_z 2 ?_;refine ak (aY rfl ?_ ?_);rw[←a];exact ah _;rw[if_neg (by rw[h1];decide)] at a;refine an (r_m 2 ?_);refine a_z ?_;refine⟨i+1,by omega,⟨hlt,a⟩,?_⟩;simp only[ixS.eq_1];have:=(aK (fg L));exact s_f [];have d:i=L.length:=by omega
 subst d;refine q_z 1 ?_;refine ae (cF ?_);rw[List.drop_length] at a;refine aA ⟨(),a.symm,?_⟩;exact s_e [];rintro _ a;refine r_z 1 ?_;refine ak (aY rfl ?_ ?_);rw[a];rfl;exact ah _
theorem sI(f:Nat):∀L:List Nat,L.any (fun c:Nat=>((f:Int)==(c:Int)))=L.contains f
 |[]=>rfl
 |a::L=>by
  rw[List.any_cons,sI f L,List.contains_cons];refine congrArg (· ||L.contains f) ?_;cases hb:(f==a) with
  |true=>rw[eq_of_beq hb];exact beq_self_eq_true _
  |false=>
   have h1:¬f=a:=fun e=>by rw[e] at hb;simp at hb
   exact beq_eq_false_iff_ne.2 (by omega)
theorem z6(L:List Nat)(f:Nat)(hl:L.length≤1099511627776):FS 160 [.arr (lvE L),i64 f] (bln (L.contains f)):=by
 have e:=ry (fun c:Nat=>((f:Int)==(c:Int))) L 0 (Int.le_refl 0);rw[sI] at e;have a:=Gx L f hl;refine f_n Tryz.func160 ?_ ?_;exact ac (aK (fg L)) (ac (ah _) ag);refine r_z 1 ?_;refine r_c 5 (a) ?_;refine a_z ?_;refine ak (aY rfl ?_ ?_);rw[←e];rfl;exact ah _
def z0S(A:Mx)(n:Nat)(L:List Nat):Nat→AState
 |f=>⟨[(1,bSy n A L),(3,.emp),(9,i64 n),(10,i64 f)],[],1,51⟩
theorem Ga(A:Mx)(n:Nat)(L:List Nat)(hn:n≤25)(hLn:L.length≤n)(hL:∀f,f< n→L.contains f=true):FS 126 [syV n (A,L)] (.arr (mE [])):=by
 refine f_n Tryz.func126 ?_ ?_;exact ac (jv n A L) ag;refine r_z 2 ?_;refine AWp.ent (st':=⟨[(1,bSy n A L)],[],1,51⟩) ?_ ?_;have:=eK n A L;exact s_f [];refine r_z 1 ?_;refine ae (r_z 3 ?_);refine aH (fun _:Unit=>⟨[(3,.emp)],[],1,51⟩) (fun _=>True) ?_ ?_;refine am (aD (z0S A n L) (fun f=>n- f) (fun f=>f≤n) 0 (Nat.zero_le _) ?_ ?_);rw[z0S.eq_1];have:=cX n A L;exact s_f [];intro f hf;rw[z0S.eq_1];by_cases hlt:f< n;have hc:=z6 L f (by omega);rw[hL f hlt] at hc;refine q_z 1 ?_;refine ae (cT (an (ae (am (r_z 2 ?_)))));refine ae (r_c 4 (hc) ?_);refine au ?_;refine cT (aA (r_m 2 ?_));refine a_z ?_;refine⟨f+1,by omega,by omega,?_⟩;rw[z0S.eq_1];have:=cX n A L;exact s_f [];refine q_z 1 ?_;refine ae (cF (aA ⟨(),trivial,?_⟩));exact s_e [];rintro _ _;refine r_z 2 ?_;exact ak (Fin.tmpN rfl)
theorem Gk(g:Nat)(bn:List AV)(hb:∀c∈bn,Closed c):FS 125 [.arr (mE []),.clos g bn []] (.arr (mE [])):=by
 have a:Closed (.clos g bn []):=aU hb ag;refine f_c Tryz.func125 ?_;refine r_z 1 ?_;refine r_z 1 ?_;refine ae (r_z 3 ?_);refine aH (fun _:Unit=>⟨[(5,.emp)],[],1,22⟩) (fun _=>True) ?_ ?_;refine am (aD (fun _:Unit=>⟨[(5,.emp),(9,i64 0),(10,i64 0)],[],1,22⟩) (fun _=>0) (fun _=>True) () trivial ?_ ?_);exact s_e [];rintro _ _;refine q_z 1 ?_;refine ae (cF (aA ⟨(),trivial,?_⟩));exact s_e [];rintro _ _;refine r_z 2 ?_;exact ak (Fin.tmpN rfl)
theorem BE:FS 124 [.arr (mE [])] (.arr (mE [])):=by
 refine f_c Tryz.func124 ?_;refine r_z 1 ?_;refine r_z 1 ?_;refine ae (r_z 3 ?_);refine aH (fun _:Unit=>⟨[(3,.emp)],[],1,49⟩) (fun _=>True) ?_ ?_;refine am (aD (fun _:Unit=>⟨[(3,.emp),(8,i64 0),(9,i64 0)],[],1,49⟩) (fun _=>0) (fun _=>True) () trivial ?_ ?_);exact s_e [];rintro _ _;refine q_z 1 ?_;refine ae (cF (aA ⟨(),trivial,?_⟩));exact s_e [];rintro _ _;refine r_z 2 ?_;exact ak (Fin.tmpN rfl)
theorem IE(k:Ke)(l:Rat)(g:List Rat)(a b:Rat)(A:Mx)(n:Nat)(L:List Nat)(hz:FS 126 [syV n (A,L)] (.arr (mE []))):FS 65 [.agg (tkC k l g a b),syV n (A,L)] (.arr (mE [])):=by
 have h1:=Gk 67 [.arr (kE k)] (ac (aX k) ag);have c:=BE;refine f_n Tryz.func65 ?_ ?_;exact ac (aB (ff k l g a b)) (ac (jv n A L) ag);refine r_z 3 ?_;refine AWp.ent (st':=⟨[(2,bTk k l g a b),(3,bSy n A L)],[],1,13⟩) ?_ ?_;refine s_x [] (fun hs=>?_) (fun hs=>?_)
 ·repeat' (first|exact aS|refine az rfl ?_ ?_|exact Cv.boxp hs rfl (aQ rfl) rfl (ff k l g a b)|exact Cv.boxp hs rfl (aQ rfl) rfl (eK n A L)|exact bm)
 ·repeat' (first|exact aI|refine h_c ?_ ?_|exact cu|refine aG ?_|exact aw|refine ai ?_ ?_|exact Cv.boxp hs rfl (aQ rfl) rfl (ff k l g a b)|exact Cv.boxp hs rfl (aQ rfl) rfl (eK n A L)|exact bm)
 refine ae (r_d ba 9 ?_);refine c_s (hz) ?_;refine c_s (h1) ?_;refine c_s (c) ?_;refine a_1 ?_;refine au (n_k ?_);exact ak (t_e (closed_mA _))
def vv(k:Ke)(l:Rat)(g:List Rat)(a b:Rat):List Rat:=zj (syM k l (rhK k g a b) a b).1 k.length (syM k l (rhK k g a b) a b).2
def syU(k:Ke)(l:Rat)(g:List Rat)(a b:Rat):List Rat:=fV g (aL (smK k (vv k l g a b) k.length) l)
structure OkTa (k:Ke)(l:Rat)(g:List Rat)(a b:Rat)(s:Nat):Prop where
 ke:qZ k
 ha:sm a
 hb:sm b
 ab:a≤b
 dg:cQ g≤20
 gl:g.length≤1099511627776
 sy:OkSy k l a b s
 rh:∀p∈k,fx p.2 g∧OkIn (aJ p.2 g) a b∧qs (inQ (aJ p.2 g) a b)≤s
structure OkSu (k:Ke)(l:Rat)(g:List Rat)(a b:Rat):Prop where
 ms:∀i p,k[i]?=some p→OkSm k (vv k l g a b) i p
 u1:smL (smK k (vv k l g a b) k.length)
 u2:(smK k (vv k l g a b) k.length).length≤1099511627776
 sl:sm l
 sg:smL g
 v1:smL (aL (smK k (vv k l g a b) k.length) l)
 v2:(aL (smK k (vv k l g a b) k.length) l).length≤1099511627776
theorem OkTa.none{k:Ke}{l:Rat}{g:List Rat}{a b:Rat}{s:Nat}(h:OkTa k l g a b s):FS 64 [syV k.length (syM k l (rhK k g a b) a b)] (bln (xZ k.length (syM k l (rhK k g a b) a b).1 (syM k l (rhK k g a b) a b).2)):=
 Iy (syM k l (rhK k g a b) a b).1 k.length (syM k l (rhK k g a b) a b).2 (k4 _ _ _).len (by have:=h.ke.1;omega)
theorem Gr(k:Ke)(l:Rat)(g:List Rat)(a b:Rat)(s:Nat)(h:OkTa k l g a b s)(h2:OkSu k l g a b)(hL:∀f,f< k.length→(syM k l (rhK k g a b) a b).2.contains f=true)(hN:xZ k.length (syM k l (rhK k g a b) a b).1 (syM k l (rhK k g a b) a b).2=false)(hu:(syU k l g a b).length≤1099511627776):
    FS 19 [.agg (eqC k l g),.agg (spC a b)] (.tup [.arr (pE (aj (syU k l g a b))),.arr (mE []),i64 0]):=by
 have o:=h.ke.1;have n:=j7 k l g a b h.ke h.ha h.hb h.ab h.dg h.gl;have hs:=tn k l g a b s h.sy h.rh;have j:=h.none;rw[hN] at j;have m:=Ga (syM k l (rhK k g a b) a b).1 k.length (syM k l (rhK k g a b) a b).2 (by omega) (k4 _ _ _).len hL;have hf:=IE k l g a b _ _ _ m;have p:=zO (syM k l (rhK k g a b) a b).1 k.length (syM k l (rhK k g a b) a b).2 (k4 _ _ _) (by omega);have c:=Fb k (vv k l g a b) (by unfold vv;simp) (by omega) h2.ms;have i:=iq _ l h2.u1 h2.sl h2.u2;have d:=qj g _ h2.sg h2.v1 h.gl h2.v2;have e:=DB (syU k l g a b) hu;refine f_n Tryz.func19 ?_ ?_;exact ac (aB (cG k l g)) (ac (aB (bi a b)) ag);refine r_z 5 ?_;refine r_z 5 ?_;refine AWp.ent (st':=⟨[(7,bTk k l g a b)],[],1,38⟩) ?_ ?_;have:=ff k l g a b;exact s_f [];refine ae (r_c 2 (n) ?_);refine au ?_;refine cF (an (r_c 4 (hs) ?_));refine a_z ?_;refine AWp.ent (st':=⟨[(7,bTk k l g a b),(8,bSy k.length (syM k l (rhK k g a b) a b).1 (syM k l (rhK k g a b) a b).2)],[],1,38⟩) ?_ ?_;exact s_x [] (fun hs=>e_47) (fun hs=>e_48);refine ae (r_c 2 (j) ?_);refine au ?_;refine cF (an (r_c 4 (hf) ?_));refine a_z ?_;refine ae (r_d ba 20 ?_);refine c_s (p) ?_;refine c_s (c) ?_;refine c_s (i) ?_;refine c_s (d) ?_;refine c_s (e) ?_;refine a_4 ?_;refine au (n_k ?_);refine ak (Fin.many ⟨_,_,rfl,rfl,⟨_,_,rfl,rfl,⟨_,_,rfl,rfl,rfl⟩⟩⟩ (nle rfl) ?_);exact ai (ao ay (aC _)) (ai (ao ay (closed_mA _)) (ai (ao ay (ah _)) aw))
theorem Gq(k:Ke)(l:Rat)(g:List Rat)(a b:Rat)(s:Nat)(h:OkTa k l g a b s)(hN:xZ k.length (syM k l (rhK k g a b) a b).1 (syM k l (rhK k g a b) a b).2=true):
    FS 19 [.agg (eqC k l g),.agg (spC a b)] (.tup [.arr (pE []),.arr (mE []),i64 12]):=by
 have e:=h.ke.1;have d:=j7 k l g a b h.ke h.ha h.hb h.ab h.dg h.gl;have hs:=tn k l g a b s h.sy h.rh;have c:=h.none;rw[hN] at c;refine f_n Tryz.func19 ?_ ?_;exact ac (aB (cG k l g)) (ac (aB (bi a b)) ag);refine r_z 5 ?_;refine r_z 5 ?_;refine AWp.ent (st':=⟨[(7,bTk k l g a b)],[],1,38⟩) ?_ ?_;have:=ff k l g a b;exact s_f [];refine ae (r_c 2 (d) ?_);refine au ?_;refine cF (an (r_c 4 (hs) ?_));refine a_z ?_;refine AWp.ent (st':=⟨[(7,bTk k l g a b),(8,bSy k.length (syM k l (rhK k g a b) a b).1 (syM k l (rhK k g a b) a b).2)],[],1,38⟩) ?_ ?_;exact s_x [] (fun hs=>e_47) (fun hs=>e_48);refine ae (r_c 2 (c) ?_);refine au ?_;refine cT (r_z 3 ?_);refine ak (Fin.many ⟨_,_,rfl,rfl,⟨_,_,rfl,rfl,⟨_,_,rfl,rfl,rfl⟩⟩⟩ (nle rfl) ?_);exact ai (Cv.emp _) (ai (Cv.emp _) (ai (ao ay (ah _)) aw))
end Go.Proofs.YtkhclghbcicapaaGreatDoor
