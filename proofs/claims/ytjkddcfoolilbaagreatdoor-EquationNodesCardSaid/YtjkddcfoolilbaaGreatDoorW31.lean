/- Part W31 of the proof. -/
import Derived.Test.YtjkddcfoolilbaaGreatDoorW30
set_option linter.all false
namespace Go.Proofs.YtjkddcfoolilbaaGreatDoor
open Go.Abs
set_option maxRecDepth 20000
set_option maxHeartbeats 4000000
abbrev TRow:=List NRow×List NRow
def twC(t:TRow):List AV:=[.arr (nR t.1),.arr (nR t.2)]
def twR(l:List TRow):List (List AV):=l.map twC
@[simp] theorem o9_ (l:List TRow):(twR l).length=l.length:=by simp[twR]
theorem pO_(l:List TRow):∀x∈twR l,∀c∈x,Closed c:=fun x hx=>by
 obtain⟨p,_,rfl⟩:=List.mem_map.1 hx;exact aa_ (ax_ (by_ _)) (aa_ (ax_ (by_ _)) ac_)
theorem cn_(l:List TRow):Closed (.arr (twR l)):=ax_ (pO_ l)
theorem twR_get{l:List TRow}{i:Nat}{t:TRow}(h:l[i]?=some t):∀e,e=i→(twR l)[e]?=some (twC t):=fun e he=>by
 rw[he,twR,List.getElem?_map,h];rfl
def okT2(t:TRow):Prop:=(okR t.1∧okR t.2)∧t.1.length≤9223372036854775807∧t.2.length≤9223372036854775807
def dn_(l:List NRow):Bool:=tameB l 4||decide (12< degP (nL l))
def longT(t:TRow):Bool:=decide (30< t.1.length)||decide (30< t.2.length)
def ef_(t:TRow):Bool:=!longT t && (dn_ t.1 && dn_ t.2)
def lenOk(n:Nat):Bool:=!((decide (3< n) && decide (n≤8))||decide (12< n))
def keOk(l:List TRow):Bool:=lenOk l.length && l.all ef_
def keM(l:List TRow):Ke:=l.map fun t=>(nL t.1,nL t.2)
@[simp] theorem cU_ (l:List TRow):(keM l).length=l.length:=by simp[keM]
def keV(l:List TRow):AV:=if keOk l then .tup [.arr (kE (keM l)),.arr (keR (keM l)),bln true] else .tup [.arr (kE []),.arr (keR []),bln false]
theorem keR_one(k:Ke):(keR k).all (·.all AV.one)=true:=by
 rw[List.all_eq_true];intro x hx;obtain⟨p,_,rfl⟩:=List.mem_map.1 hx;rfl
theorem keR_snoc(k:Ke)(p:List Rat×List Rat):keR (k++[p])=keR k++[pkR p]:=by simp[keR]
def krS'(l:List TRow):Nat→AState
 |0=>⟨[(0,.arr (twR l)),(5,.emp),(6,.emp),(7,i64 0)],[],1,105⟩
 |i+1=>⟨[(0,.arr (twR l)),(5,.lsl 1 0 (i+1) none 2),(6,.lsl 2 0 (i+1) none 2),(7,i64 ((i+1:Nat):Int))],[(1,some ⟨98,2,kE ((keM l).take (i+1))⟩),(2,some ⟨100,2,keR ((keM l).take (i+1))⟩)],3,105⟩
theorem hV_{l:List TRow}{t:TRow}(ht:t∈l)(h:ef_ t=false):keOk l=false:=by
 unfold keOk;rw[List.all_eq_false.2 ⟨t,ht,by rw[h];decide⟩,Bool.and_false]
structure PrF (t:TRow):Prop where
 b1:FS 31 [.arr (nR t.1)] (.tup [.arr (pE (nL t.1)),.arr (rE (rP (nL t.1)))])
 b2:FS 31 [.arr (nR t.2)] (.tup [.arr (pE (nL t.2)),.arr (rE (rP (nL t.2)))])
 t1:FS 8 [.arr (nR t.1),i64 4] (bln (tameB t.1 4))
 t2:FS 8 [.arr (nR t.2),i64 4] (bln (tameB t.2 4))
 d1:FS 32 [.arr (rE (rP (nL t.1)))] (i64 (degP (nL t.1)))
 d2:FS 32 [.arr (rE (rP (nL t.2)))] (i64 (degP (nL t.2)))
theorem prF{t:TRow}(h:okT2 t)(h1:t.1.length≤30)(h2:t.2.length≤30):PrF t:=by
 have d1:=dI_ (rP (nL t.1)) (by simp[nL];omega);have d2:=dI_ (rP (nL t.2)) (by simp[nL];omega);rw[vR_rP] at d1 d2;exact⟨kS_ t.1 (by omega) h.1.1,kS_ t.2 (by omega) h.1.2,gW_ t.1 4 h.2.1 (by decide),gW_ t.2 4 h.2.2 (by decide),d1,d2⟩
theorem pG_(l:List TRow)(ho:∀t∈l,okT2 t)(hl:l.length≤9223372036854775807):FS 6 [.arr (twR l)] (keV l):=by
 have htl:(twR l).length=l.length:=o9_ l;refine f_n Tryz.func6 ?_ ?_;exact aa_ (cn_ l) ac_;obtain⟨r,hr⟩:∃r,r=keV l:=⟨_,rfl⟩;rw[←hr];have bad:keOk l=false→r= .tup [.arr (kE []),.arr (keR []),bln false]:=fun h=>by rw[hr,keV,h];rfl
 refine r_z 3 ?_;refine r_z 1 ?_;refine r_z 1 ?_;have tail0:Cv (Ren.id 0) (lookB []) (fun _=>none) (.tup [.emp,.emp,bln false]) (.tup [.arr (kE []),.arr (keR []),bln false])→True:=fun _=>trivial;by_cases c1:12< l.length
 ·rw[bad (by unfold keOk lenOk;rw[decide_eq_true c1,Bool.or_true];rfl)]
  refine ab_ (s_r 13 ?_);refine a_2 ?_;refine o_0 (.bin rfl rfl (vT a3_ (decide_eq_true (by omega)))) ?_;refine a_1 ?_;refine al_ rfl rfl rfl (.move rfl) rfl rfl ?_;refine al_ rfl rfl rfl (.len rfl rfl rfl rfl rfl te_22.h) rfl rfl ?_;refine al_ rfl rfl rfl (.bin rfl rfl (vF bw_ (decide_eq_false (by omega)))) rfl rfl ?_;refine a_2 ?_;refine al_ rfl rfl rfl (.move rfl) rfl rfl ?_;refine al_ rfl rfl rfl (.len rfl rfl rfl rfl rfl te_22.h) rfl rfl ?_;refine al_ rfl rfl rfl (.bin rfl rfl (vT a3_ (decide_eq_true (by omega)))) rfl rfl ?_;refine a_z ?_;refine cT (r_z 3 ?_);refine ag_ (Fin.many ⟨_,_,rfl,rfl,⟨_,_,rfl,rfl,⟨_,_,rfl,rfl,rfl⟩⟩⟩ (nle rfl) ?_);exact ae_ (Cv.emp _) (ae_ (Cv.emp _) (ae_ (ai_ as_ (ad_ _)) am_))
 by_cases c2:3< l.length∧l.length≤8
 ·rw[bad (by unfold keOk lenOk;rw[decide_eq_true c2.1,decide_eq_true c2.2];rfl)]
  refine ab_ (s_r 13 ?_);refine a_2 ?_;refine o_0 (.bin rfl rfl (vT a3_ (decide_eq_true (by omega)))) ?_;refine a_1 ?_;refine al_ rfl rfl rfl (.move rfl) rfl rfl ?_;refine al_ rfl rfl rfl (.len rfl rfl rfl rfl rfl te_22.h) rfl rfl ?_;refine al_ rfl rfl rfl (.bin rfl rfl (vT bw_ (decide_eq_true (by omega)))) rfl rfl ?_;refine a_z ?_;refine cT (r_z 3 ?_);refine ag_ (Fin.many ⟨_,_,rfl,rfl,⟨_,_,rfl,rfl,⟨_,_,rfl,rfl,rfl⟩⟩⟩ (nle rfl) ?_);exact ae_ (Cv.emp _) (ae_ (Cv.emp _) (ae_ (ai_ as_ (ad_ _)) am_))
 have hlen:lenOk l.length=true:=by
  unfold lenOk;rw[decide_eq_false c1,Bool.or_false,Bool.not_eq_true',Bool.and_eq_false_iff];by_cases h3:3< l.length;exact .inr (decide_eq_false (by omega));exact .inl (decide_eq_false h3)
 refine aQ_ (fun _:Unit=>⟨[(0,.arr (twR l)),(5,.emp),(6,.emp)],[],1,105⟩) (fun _=>True) ?_ ?_;by_cases h3:3< l.length
 ·refine s_r 13 ?_
  refine a_2 ?_;refine o_0 (.bin rfl rfl (vT a3_ (decide_eq_true (by omega)))) ?_;refine a_1 ?_;refine al_ rfl rfl rfl (.move rfl) rfl rfl ?_;refine al_ rfl rfl rfl (.len rfl rfl rfl rfl rfl te_22.h) rfl rfl ?_;refine al_ rfl rfl rfl (.bin rfl rfl (vF bw_ (decide_eq_false (by omega)))) rfl rfl ?_;refine a_2 ?_;refine al_ rfl rfl rfl (.move rfl) rfl rfl ?_;refine al_ rfl rfl rfl (.len rfl rfl rfl rfl rfl te_22.h) rfl rfl ?_;refine al_ rfl rfl rfl (.bin rfl rfl (vF a3_ (decide_eq_false (by omega)))) rfl rfl ?_;refine a_z ?_;refine cF (ah_ (⟨(),trivial,?_⟩));have:=cn_ l;exact s_f []
 ·refine s_r 13 ?_
  refine a_2 ?_;refine o_0 (.bin rfl rfl (vF a3_ (decide_eq_false (by omega)))) ?_;refine a_1 ?_;refine aK_ rfl rfl (by first|(simp[aF_];done)|exact nofun) rfl rfl ?_;refine aK_ rfl rfl (by first|(simp[aF_];done)|exact nofun) rfl rfl ?_;refine aK_ rfl rfl (by first|(simp[aF_];done)|exact nofun) rfl rfl ?_;refine a_2 ?_;refine al_ rfl rfl rfl (.move rfl) rfl rfl ?_;refine al_ rfl rfl rfl (.len rfl rfl rfl rfl rfl te_22.h) rfl rfl ?_;refine al_ rfl rfl rfl (.bin rfl rfl (vF a3_ (decide_eq_false (by omega)))) rfl rfl ?_;refine a_z ?_;refine cF (ah_ (⟨(),trivial,?_⟩));have:=cn_ l;exact s_f []
 rintro _ _;refine ab_ (r_z 1 ?_);refine av_ (fun _:Unit=>krS' l l.length) (fun _=> ∀t∈l,ef_ t=true) ?_ ?_
 ·refine af_ (aq_ (krS' l) (fun i=>l.length- i) (fun i=>i≤l.length∧∀t∈l.take i,ef_ t=true) 0 ⟨Nat.zero_le _,fun t ht=>by simp at ht⟩ ?_ ?_)
  rw[krS'.eq_1];have:=cn_ l;exact s_f [];rintro i ⟨hi,hinv⟩;obtain⟨x5,x6,hpx,nxx,hS⟩:∃x5 x6 hpx nxx,krS' l i=⟨[(0,.arr (twR l)),(5,x5),(6,x6),(7,i64 i)],hpx,nxx,105⟩:=by cases i <;> exact⟨_,_,_,_,rfl⟩
  by_cases hlt:i< l.length;rotate_left;have hge:i=l.length:=by omega
  rw[hS];refine ab_ (s_r 4 ?_);refine a_3 ?_;refine o_0 (.bin rfl rfl (vF aT_ (decide_eq_false (by omega)))) ?_;refine ak_ ?_;refine cF (ao_ ⟨(),(by rw[hge,List.take_length] at hinv;exact hinv),?_⟩);show SEnt _ (krS' l l.length);rw[←hge];cases i with
  |zero=>
   rw[krS'.eq_1] at hS⊢;cases hS;have:=cn_ l;exact s_f []
  |succ i=>
   rw[krS'.eq_2] at hS⊢;cases hS;refine s_x [(1,5),(2,6)] (fun hs=>e_17) (fun hs=>?_)
   ·repeat' (first|exact au_|refine h_c ?_ ?_|exact aU_ hs (ca_ _)|exact aU_ hs (eo_ _)|exact au_e|refine ar_ ?_|exact am_|refine ae_ ?_ ?_|exact ai_ hs (cn_ l)|exact au_c)
  obtain⟨t,ht⟩:∃t,l[i]?=some t:=⟨_,List.getElem?_eq_getElem hlt⟩;have htm:=List.mem_of_getElem? ht;have hgt:(twR l)[((i:Nat):Int).toNat]?=some (twC t):=twR_get ht _ (by simp);have n1:(nR t.1).length=t.1.length:=by simp[nR]
  have n2:(nR t.2).length=t.2.length:=by simp[nR]
  rw[hS];by_cases l1:30< t.1.length;rw[bad (hV_ htm (by unfold ef_ longT;rw[decide_eq_true l1];rfl))];refine ab_ (s_r 4 ?_);refine a_3 ?_;refine o_0 (.bin rfl rfl (vT aT_ (decide_eq_true (by omega)))) ?_;refine ak_ ?_;refine cT (ah_ (ab_ (af_ (ab_ (s_r 16 ?_)))));refine a_2 ?_;refine i_x hgt ?_;refine a_1 ?_;refine l_1 hgt ?_;refine a_1 ?_;refine o_0 (.bin rfl rfl (vT a3_ (decide_eq_true (by omega)))) ?_;refine a_z ?_;refine cT (r_z 3 ?_);refine ag_ (Fin.many ⟨_,_,rfl,rfl,⟨_,_,rfl,rfl,⟨_,_,rfl,rfl,rfl⟩⟩⟩ (nle rfl) ?_);exact ae_ (Cv.emp _) (ae_ (Cv.emp _) (ae_ (ai_ as_ (ad_ _)) am_));by_cases l2:30< t.2.length
  ·rw[bad (hV_ htm (by unfold ef_ longT;rw[decide_eq_true l2,Bool.or_true];rfl))]
   refine ab_ (s_r 4 ?_);refine a_3 ?_;refine o_0 (.bin rfl rfl (vT aT_ (decide_eq_true (by omega)))) ?_;refine ak_ ?_;refine cT (ah_ (ab_ (af_ (ab_ (s_r 16 ?_)))));refine a_2 ?_;refine i_x hgt ?_;refine a_1 ?_;refine l_1 hgt ?_;refine a_1 ?_;refine o_0 (.bin rfl rfl (vF a3_ (decide_eq_false (by omega)))) ?_;refine a_1 ?_;refine al_ rfl rfl rfl (.move rfl) rfl rfl ?_;refine al_ rfl rfl rfl (.move rfl) rfl rfl ?_;refine al_ rfl rfl rfl (.index_a rfl rfl (by omega) hgt rfl te_22.h) rfl rfl ?_;refine al_ rfl rfl rfl (.fieldAddr_a rfl TF.h (by decide)) rfl rfl ?_;refine al_ rfl rfl rfl (.load_a1 rfl hgt TG.h rfl) rfl rfl ?_;refine al_ rfl rfl rfl (.len rfl rfl rfl rfl rfl te_25.h) rfl rfl ?_;refine al_ rfl rfl rfl (.bin rfl rfl (vT a3_ (decide_eq_true (by omega)))) rfl rfl ?_;refine a_z ?_;refine cT (r_z 3 ?_);refine ag_ (Fin.many ⟨_,_,rfl,rfl,⟨_,_,rfl,rfl,⟨_,_,rfl,rfl,rfl⟩⟩⟩ (nle rfl) ?_);exact ae_ (Cv.emp _) (ae_ (Cv.emp _) (ae_ (ai_ as_ (ad_ _)) am_))
  have F:=prF (ho t htm) (by omega) (by omega);have b1:=F.b1;have b2:=F.b2;have t1:=F.t1;have t2:=F.t2;have d1:=F.d1;have d2:=F.d2;have hlong:longT t=false:=by unfold longT;rw[decide_eq_false l1,decide_eq_false l2];rfl
  refine ab_ (s_r 4 ?_);refine a_3 ?_;refine o_0 (.bin rfl rfl (vT aT_ (decide_eq_true (by omega)))) ?_;refine ak_ ?_;refine cT (ah_ (ab_ (af_ (ab_ (s_r 16 ?_)))));refine a_2 ?_;refine i_x hgt ?_;refine a_1 ?_;refine l_1 hgt ?_;refine a_1 ?_;refine o_0 (.bin rfl rfl (vF a3_ (decide_eq_false (by omega)))) ?_;refine a_1 ?_;refine al_ rfl rfl rfl (.move rfl) rfl rfl ?_;refine al_ rfl rfl rfl (.move rfl) rfl rfl ?_;refine al_ rfl rfl rfl (.index_a rfl rfl (by omega) hgt rfl te_22.h) rfl rfl ?_;refine al_ rfl rfl rfl (.fieldAddr_a rfl TF.h (by decide)) rfl rfl ?_;refine al_ rfl rfl rfl (.load_a1 rfl hgt TG.h rfl) rfl rfl ?_;refine al_ rfl rfl rfl (.len rfl rfl rfl rfl rfl te_25.h) rfl rfl ?_;refine al_ rfl rfl rfl (.bin rfl rfl (vF a3_ (decide_eq_false (by omega)))) rfl rfl ?_;refine a_z ?_;refine cF (ah_ (s_r 11 ?_));refine a_2 ?_;refine i_x hgt ?_;refine a_1 ?_;refine l_1 hgt ?_;refine c_s (b1) ?_;refine a_z ?_;refine s_r 11 ?_;refine a_2 ?_;refine i_x hgt ?_;refine a_1 ?_;refine l_1 hgt ?_;refine c_s (b2) ?_;refine a_z ?_;refine aQ_ (fun _:Unit=>⟨[(0,.arr (twR l)),(5,x5),(6,x6),(7,i64 i),(8,.arr (pE (nL t.1))),(9,.arr (rE (rP (nL t.1)))),(10,.arr (pE (nL t.2))),(11,.arr (rE (rP (nL t.2))))],hpx,nxx+100,105⟩) (fun _=>ef_ t=true) ?_ ?_;by_cases s1:dn_ t.1=true;by_cases s2:dn_ t.2=true
  ·have hok:ef_ t=true:=by unfold ef_;rw[hlong,s1,s2];rfl
   cases e1:tameB t.1 4 with
   |true=>
    rw[e1] at t1;cases e2:tameB t.2 4 with
    |true=>
     rw[e2] at t2;refine s_r 26 ?_;refine a_2 ?_;refine i_x hgt ?_;refine a_1 ?_;refine l_1 hgt ?_;refine c_s (t1) ?_;refine a_2 ?_;refine aK_ rfl rfl (by first|(simp[aF_];done)|exact nofun) rfl rfl ?_
     first|refine aK_ rfl rfl (by first|(simp[aF_];done)|exact nofun) rfl rfl ?_
     refine aK_ rfl rfl (by first|(simp[aF_];done)|exact nofun) rfl rfl ?_;refine a_2 ?_;refine al_ rfl rfl rfl (.move rfl) rfl rfl ?_;refine al_ rfl rfl rfl (.move rfl) rfl rfl ?_;refine al_ rfl rfl rfl (.index_a rfl rfl (by omega) hgt rfl te_22.h) rfl rfl ?_;refine al_ rfl rfl rfl (.fieldAddr_a rfl TF.h (by decide)) rfl rfl ?_;refine al_ rfl rfl rfl (.load_a1 rfl hgt TG.h rfl) rfl rfl ?_;refine c_s (t2) ?_;refine a_z ?_;exact cF (ah_ (⟨(),hok,SEnt.keep (all_cons rfl (all_cons rfl (all_cons rfl (all_cons rfl (all_cons rfl (all_cons rfl (all_cons rfl (all_cons rfl k9_)))))))) (by omega)⟩))
    |false=>
     rw[e2] at t2;have g2:12< degP (nL t.2):=by unfold dn_ at s2;rw[e2] at s2;simpa using s2
     refine s_r 26 ?_;refine a_2 ?_;refine i_x hgt ?_;refine a_1 ?_;refine l_1 hgt ?_;refine c_s (t1) ?_;refine a_2 ?_;refine aK_ rfl rfl (by first|(simp[aF_];done)|exact nofun) rfl rfl ?_
     first|refine aK_ rfl rfl (by first|(simp[aF_];done)|exact nofun) rfl rfl ?_
     refine aK_ rfl rfl (by first|(simp[aF_];done)|exact nofun) rfl rfl ?_;refine a_2 ?_;refine al_ rfl rfl rfl (.move rfl) rfl rfl ?_;refine al_ rfl rfl rfl (.move rfl) rfl rfl ?_;refine al_ rfl rfl rfl (.index_a rfl rfl (by omega) hgt rfl te_22.h) rfl rfl ?_;refine al_ rfl rfl rfl (.fieldAddr_a rfl TF.h (by decide)) rfl rfl ?_;refine al_ rfl rfl rfl (.load_a1 rfl hgt TG.h rfl) rfl rfl ?_;refine c_s (t2) ?_;refine c_s (d2) ?_;refine al_ rfl rfl rfl (.bin rfl rfl (vF bw_ (decide_eq_false (by omega)))) rfl rfl ?_;refine a_z ?_;exact cF (ah_ (⟨(),hok,SEnt.keep (all_cons rfl (all_cons rfl (all_cons rfl (all_cons rfl (all_cons rfl (all_cons rfl (all_cons rfl (all_cons rfl k9_)))))))) (by omega)⟩))
   |false=>
    rw[e1] at t1;have g1:12< degP (nL t.1):=by unfold dn_ at s1;rw[e1] at s1;simpa using s1
    cases e2:tameB t.2 4 with
    |true=>
     rw[e2] at t2;refine s_r 26 ?_;refine a_2 ?_;refine i_x hgt ?_;refine a_1 ?_;refine l_1 hgt ?_;refine c_s (t1) ?_;refine c_s (d1) ?_;refine al_ rfl rfl rfl (.bin rfl rfl (vF bw_ (decide_eq_false (by omega)))) rfl rfl ?_;refine a_2 ?_;refine al_ rfl rfl rfl (.move rfl) rfl rfl ?_;refine al_ rfl rfl rfl (.move rfl) rfl rfl ?_;refine al_ rfl rfl rfl (.index_a rfl rfl (by omega) hgt rfl te_22.h) rfl rfl ?_;refine al_ rfl rfl rfl (.fieldAddr_a rfl TF.h (by decide)) rfl rfl ?_;refine al_ rfl rfl rfl (.load_a1 rfl hgt TG.h rfl) rfl rfl ?_;refine c_s (t2) ?_;refine a_z ?_;exact cF (ah_ (⟨(),hok,SEnt.keep (all_cons rfl (all_cons rfl (all_cons rfl (all_cons rfl (all_cons rfl (all_cons rfl (all_cons rfl (all_cons rfl k9_)))))))) (by omega)⟩))
    |false=>
     rw[e2] at t2;have g2:12< degP (nL t.2):=by unfold dn_ at s2;rw[e2] at s2;simpa using s2
     refine s_r 26 ?_;refine a_2 ?_;refine i_x hgt ?_;refine a_1 ?_;refine l_1 hgt ?_;refine c_s (t1) ?_;refine c_s (d1) ?_;refine al_ rfl rfl rfl (.bin rfl rfl (vF bw_ (decide_eq_false (by omega)))) rfl rfl ?_;refine a_2 ?_;refine al_ rfl rfl rfl (.move rfl) rfl rfl ?_;refine al_ rfl rfl rfl (.move rfl) rfl rfl ?_;refine al_ rfl rfl rfl (.index_a rfl rfl (by omega) hgt rfl te_22.h) rfl rfl ?_;refine al_ rfl rfl rfl (.fieldAddr_a rfl TF.h (by decide)) rfl rfl ?_;refine al_ rfl rfl rfl (.load_a1 rfl hgt TG.h rfl) rfl rfl ?_;refine c_s (t2) ?_;refine c_s (d2) ?_;refine al_ rfl rfl rfl (.bin rfl rfl (vF bw_ (decide_eq_false (by omega)))) rfl rfl ?_;refine a_z ?_;exact cF (ah_ (⟨(),hok,SEnt.keep (all_cons rfl (all_cons rfl (all_cons rfl (all_cons rfl (all_cons rfl (all_cons rfl (all_cons rfl (all_cons rfl k9_)))))))) (by omega)⟩))
  ·have s2':dn_ t.2=false:=by simpa using s2
   rw[bad (hV_ htm (by unfold ef_;rw[hlong,s2'];simp))];have e2:tameB t.2 4=false:=by unfold dn_ at s2';rw[Bool.or_eq_false_iff] at s2';exact s2'.1
   have g2:¬12< degP (nL t.2):=by unfold dn_ at s2';rw[Bool.or_eq_false_iff] at s2';exact of_decide_eq_false s2'.2
   rw[e2] at t2;cases e1:tameB t.1 4 with
   |true=>
    rw[e1] at t1;refine s_r 26 ?_;refine a_2 ?_;refine i_x hgt ?_;refine a_1 ?_;refine l_1 hgt ?_;refine c_s (t1) ?_;refine a_2 ?_;refine aK_ rfl rfl (by first|(simp[aF_];done)|exact nofun) rfl rfl ?_
    first|refine aK_ rfl rfl (by first|(simp[aF_];done)|exact nofun) rfl rfl ?_
    refine aK_ rfl rfl (by first|(simp[aF_];done)|exact nofun) rfl rfl ?_;refine a_2 ?_;refine al_ rfl rfl rfl (.move rfl) rfl rfl ?_;refine al_ rfl rfl rfl (.move rfl) rfl rfl ?_;refine al_ rfl rfl rfl (.index_a rfl rfl (by omega) hgt rfl te_22.h) rfl rfl ?_;refine al_ rfl rfl rfl (.fieldAddr_a rfl TF.h (by decide)) rfl rfl ?_;refine al_ rfl rfl rfl (.load_a1 rfl hgt TG.h rfl) rfl rfl ?_;refine c_s (t2) ?_;refine c_s (d2) ?_;refine al_ rfl rfl rfl (.bin rfl rfl (vT bw_ (decide_eq_true (by omega)))) rfl rfl ?_;refine a_z ?_;refine cT (r_z 3 ?_);refine ag_ (Fin.many ⟨_,_,rfl,rfl,⟨_,_,rfl,rfl,⟨_,_,rfl,rfl,rfl⟩⟩⟩ (nle rfl) ?_);exact ae_ (Cv.emp _) (ae_ (Cv.emp _) (ae_ (ai_ as_ (ad_ _)) am_))
   |false=>
    rw[e1] at t1;have g1:12< degP (nL t.1):=by unfold dn_ at s1;rw[e1] at s1;simpa using s1
    refine s_r 26 ?_;refine a_2 ?_;refine i_x hgt ?_;refine a_1 ?_;refine l_1 hgt ?_;refine c_s (t1) ?_;refine c_s (d1) ?_;refine al_ rfl rfl rfl (.bin rfl rfl (vF bw_ (decide_eq_false (by omega)))) rfl rfl ?_;refine a_2 ?_;refine al_ rfl rfl rfl (.move rfl) rfl rfl ?_;refine al_ rfl rfl rfl (.move rfl) rfl rfl ?_;refine al_ rfl rfl rfl (.index_a rfl rfl (by omega) hgt rfl te_22.h) rfl rfl ?_;refine al_ rfl rfl rfl (.fieldAddr_a rfl TF.h (by decide)) rfl rfl ?_;refine al_ rfl rfl rfl (.load_a1 rfl hgt TG.h rfl) rfl rfl ?_;refine c_s (t2) ?_;refine c_s (d2) ?_;refine al_ rfl rfl rfl (.bin rfl rfl (vT bw_ (decide_eq_true (by omega)))) rfl rfl ?_;refine a_z ?_;refine cT (r_z 3 ?_);refine ag_ (Fin.many ⟨_,_,rfl,rfl,⟨_,_,rfl,rfl,⟨_,_,rfl,rfl,rfl⟩⟩⟩ (nle rfl) ?_);exact ae_ (Cv.emp _) (ae_ (Cv.emp _) (ae_ (ai_ as_ (ad_ _)) am_))
  ·have s1':dn_ t.1=false:=by simpa using s1
   rw[bad (hV_ htm (by unfold ef_;rw[hlong,s1'];rfl))];have e1:tameB t.1 4=false:=by unfold dn_ at s1';rw[Bool.or_eq_false_iff] at s1';exact s1'.1
   have g1:¬12< degP (nL t.1):=by unfold dn_ at s1';rw[Bool.or_eq_false_iff] at s1';exact of_decide_eq_false s1'.2
   rw[e1] at t1;refine s_r 26 ?_;refine a_2 ?_;refine i_x hgt ?_;refine a_1 ?_;refine l_1 hgt ?_;refine c_s (t1) ?_;refine c_s (d1) ?_;refine al_ rfl rfl rfl (.bin rfl rfl (vT bw_ (decide_eq_true (by omega)))) rfl rfl ?_;refine az_ (.pick rfl (fun _=>rfl) (fun h=>absurd h (by decide))) rfl rfl ?_;refine o_0 (.move rfl) ?_;refine aK_ rfl rfl (by first|(simp[aF_];done)|exact nofun) rfl rfl ?_;refine aK_ rfl rfl (by first|(simp[aF_];done)|exact nofun) rfl rfl ?_;refine aK_ rfl rfl (by first|(simp[aF_];done)|exact nofun) rfl rfl ?_;refine aK_ rfl rfl (by first|(simp[aF_];done)|exact nofun) rfl rfl ?_;refine aK_ rfl rfl (by first|(simp[aF_];done)|exact nofun) rfl rfl ?_
   first|refine aK_ rfl rfl (by first|(simp[aF_];done)|exact nofun) rfl rfl ?_
   refine aK_ rfl rfl (by first|(simp[aF_];done)|exact nofun) rfl rfl ?_;refine aK_ rfl rfl (by first|(simp[aF_];done)|exact nofun) rfl rfl ?_;refine aK_ rfl rfl (by first|(simp[aF_];done)|exact nofun) rfl rfl ?_
   first|refine aK_ rfl rfl (by first|(simp[aF_];done)|exact nofun) rfl rfl ?_
   refine aK_ rfl rfl (by first|(simp[aF_];done)|exact nofun) rfl rfl ?_;refine aK_ rfl rfl (by first|(simp[aF_];done)|exact nofun) rfl rfl ?_;refine az_ (.pick rfl (fun _=>rfl) (fun h=>absurd h (by decide))) rfl rfl ?_;refine ak_ ?_;refine cT (r_z 3 ?_);refine ag_ (Fin.many ⟨_,_,rfl,rfl,⟨_,_,rfl,rfl,⟨_,_,rfl,rfl,rfl⟩⟩⟩ (nle rfl) ?_);exact ae_ (Cv.emp _) (ae_ (Cv.emp _) (ae_ (ai_ as_ (ad_ _)) am_))
  rintro _ hok;have hk:(keM l)[i]?=some (nL t.1,nL t.2):=by unfold keM;rw[List.getElem?_map,ht];rfl
  have hkt:(keM l).take (i+1)=(keM l).take i++[(nL t.1,nL t.2)]:=br_ hk;have e1:kE ((keM l).take i)++[prC (nL t.1,nL t.2)]=kE ((keM l).take (i+1)):=by rw[hkt,rg_]
  have e2:keR ((keM l).take i)++[pkR (nL t.1,nL t.2)]=keR ((keM l).take (i+1)):=by rw[hkt,keR_snoc]
  have hnext:∀t'∈l.take (i+1),ef_ t'=true:=fun t' h=>by
   rw[br_ ht] at h;rcases List.mem_append.1 h with h|h
   exact hinv t' h;rw[List.mem_singleton.1 h];exact hok
  cases i with
  |zero=>
   rw[krS'.eq_1] at hS;cases hS;refine r_m 14 ?_;refine a_z ?_;refine r_m 3 ?_;refine a_z ?_;refine⟨0+1,by omega,⟨by omega,hnext⟩,?_⟩;rw[krS'.eq_2,←e1,←e2];refine s_x [(1,5),(2,6)] (fun hs=>e_17) (fun hs=>?_)
   ·repeat' (first|exact au_|refine h_c ?_ ?_|exact aU_ hs (ca_ [(nL t.1,nL t.2)])|exact aU_ hs (eo_ [(nL t.1,nL t.2)])|exact au_e|refine ar_ ?_|exact am_|refine ae_ ?_ ?_|exact ai_ hs (cn_ l)|exact au_c)
  |succ i=>
   rw[krS'.eq_2] at hS;cases hS;have o1:=kE_one ((keM l).take (i+1));have o2:=keR_one ((keM l).take (i+1));have q1:(kE ((keM l).take (i+1))).length=i+1:=by rw[bX_,List.length_take,cU_];omega
   have q2:(keR ((keM l).take (i+1))).length=i+1:=by rw[fj_,List.length_take,cU_];omega
   refine r_m 14 ?_;refine o_0 (.move rfl) ?_;refine o_0 (.move rfl) ?_;refine o_0 (.move rfl) ?_;refine o_0 (.build TZ.h tp_98.h rfl rfl) ?_;refine o_1 (.buildSlice te_27.h TZ.h rfl (by decide) rfl rfl rfl (by first|(simp;done)|(simp[a7_,ofV];done)|rfl)) ?_;refine o_2 (.append_l rfl rfl rfl te_27.h rfl rfl rfl rfl rfl d_o (by first|exact cw_ _|exact cu_ _|exact b6_ _|exact cx_ _|exact ct_ _|assumption|rfl|simp) (by first|rfl|exact cw_ _|exact cu_ _|exact b6_ _|exact cx_ _|exact ct_ _|simp) rfl (.lsl rfl (nle rfl)) TZ.h rfl TB.h d_o (by first|(simp[maxLen];done)|(simp[maxLen];omega))) ?_;refine o_0 (.move rfl) ?_;refine o_0 (.move rfl) ?_;refine o_0 (.move rfl) ?_;refine o_0 (.build TZ.h tp_100.h rfl rfl) ?_;refine o_1 (.buildSlice te_29.h TZ.h rfl (by decide) rfl rfl rfl (by first|(simp;done)|(simp[a7_,ofV];done)|rfl)) ?_;refine o_2 (.append_l rfl rfl rfl te_29.h rfl rfl rfl rfl rfl d_o (by first|exact cw_ _|exact cu_ _|exact b6_ _|exact cx_ _|exact ct_ _|assumption|rfl|simp) (by first|rfl|exact cw_ _|exact cu_ _|exact b6_ _|exact cx_ _|exact ct_ _|simp) rfl (.lsl rfl (nle rfl)) TZ.h rfl TB.h d_o (by first|(simp[maxLen];done)|(simp[maxLen];omega))) ?_;refine o_0 (.assign rfl) ?_;refine o_0 (.assign rfl) ?_;refine ak_ ?_;refine r_m 3 ?_;refine a_z ?_;refine⟨i+1+1,by omega,⟨by omega,hnext⟩,?_⟩;rw[krS'.eq_2];refine s_x [(1,5),(2,6)] (fun hs=>e_17) (fun hs=>?_)
   ·repeat' (first|exact au_|refine h_c ?_ ?_|exact ay_ hs e1 (ca_ _)|exact ay_ hs e2 (eo_ _)|exact au_e|refine ar_ ?_|exact am_|refine ae_ ?_ ?_|exact ai_ hs (cn_ l)|exact au_c)
 rintro _ hall
 have hr1:r= .tup [.arr (kE (keM l)),.arr (keR (keM l)),bln true]:=by
  rw[hr,keV,show keOk l=true by unfold keOk;rw[hlen,List.all_eq_true.2 hall];rfl];rfl
 rw[hr1];cases hll:l.length with
 |zero=>
  have hl0:l=[]:=List.eq_nil_of_length_eq_zero hll;subst hl0;rw[krS'.eq_1];refine r_z 5 ?_;refine ag_ (Fin.many ⟨_,_,rfl,rfl,⟨_,_,rfl,rfl,⟨_,_,rfl,rfl,rfl⟩⟩⟩ (nle rfl) ?_);exact ae_ (Cv.emp _) (ae_ (Cv.emp _) (ae_ (ai_ as_ (ad_ _)) am_))
 |succ m=>
  have hkm:(keM l).take (m+1)=keM l:=List.take_of_length_le (by rw[cU_];omega);have q1:(kE (keM l)).length=m+1:=by rw[bX_,cU_];omega
  have q2:(keR (keM l)).length=m+1:=by rw[fj_,cU_];omega
  rw[krS'.eq_2,hkm];refine r_z 5 ?_;refine ag_ (Fin.many ⟨_,_,rfl,rfl,⟨_,_,rfl,rfl,⟨_,_,rfl,rfl,rfl⟩⟩⟩ (nle rfl) ?_);exact ae_ (Cv.shut (B:=⟨98,2,kE (keM l)⟩) as_ rfl (fun j B hj=>by cases hj) (by show 0+(m+1)≤(kE (keM l)).length;omega) (kZ_ q1.symm (ca_ _))) (ae_ (Cv.shut (B:=⟨100,2,keR (keM l)⟩) as_ rfl (fun j B hj=>by cases hj) (by show 0+(m+1)≤(keR (keM l)).length;omega) (kZ_ q2.symm (eo_ _))) (ae_ (ai_ as_ (ad_ _)) am_))
def epS(k:Ke)(g:Nat)(cap:List AV)(f:List Rat×List Rat→Rat):Nat→AState
 |0=>⟨[(1,.clos g [] cap),(8,.arr (kE k)),(9,i64 k.length),(10,i64 0),(5,.emp)],[],1,22⟩
 |i+1=>⟨[(1,.clos g [] cap),(8,.arr (kE k)),(9,i64 k.length),(10,i64 ((i+1:Nat):Int)),(5,.lsl 1 0 (i+1) none 3)],[(1,some ⟨46,3,pE ((k.take (i+1)).map f)⟩)],2,22⟩
theorem kI_(k:Ke)(g:Nat)(cap:List AV)(f:List Rat×List Rat→Rat)(hcap:∀c∈cap,Closed c)(hl:k.length≤1000)(hg:∀p∈k,FS g ((.agg (prC p)::cap).map coe) (.agg (qC (f p)))):FS 73 [.arr (kE k),.clos g [] cap] (.arr (pE (k.map f))):=by
 have hkl:(kE k).length=k.length:=bX_ k;have hcc:Closed (.clos g [] cap):=aE_ ac_ hcap;refine f_n Tryz.func73 ?_ ?_;exact aa_ (aA_ k) (aa_ hcc ac_);refine r_z 1 ?_;refine r_z 1 ?_;refine ab_ (r_z 3 ?_);refine av_ (fun _:Unit=>⟨[(5,.arr (pE (k.map f)))],[],1,22⟩) (fun _=>True) ?_ ?_;refine af_ (aq_ (epS k g cap f) (fun i=>k.length- i) (fun i=>i≤k.length) 0 (Nat.zero_le _) ?_ ?_);rw[epS.eq_1];exact s_x [] (fun hs=>e_5) (fun hs=>e_38);intro i hi;by_cases hlt:i< k.length;obtain⟨p,hp⟩:∃p,k[i]?=some p:=⟨_,List.getElem?_eq_getElem hlt⟩;have hg1:=hg p (List.mem_of_getElem? hp);have hlen:(k.take (i+1)).length=i+1:=by rw[List.length_take];omega
 have hnew:pE ((k.take i).map f)++[qC (f p)]=pE ((k.take (i+1)).map f):=by rw[br_ hp,List.map_append,List.map_singleton,eg_];rfl
 cases i with
 |zero=>
  have hgt:(kE k)[((0:Int)).toNat]?=some (prC p):=fF_ hp _ rfl;rw[epS.eq_1];refine q_z 1 ?_;refine ab_ (cT (ah_ (ab_ (af_ (s_r 4 ?_)))));refine i_x hgt ?_;refine l_x hgt ?_;refine a_z ?_;refine r_m 7 ?_;refine c_s (hg1) ?_;refine a_z ?_;refine r_m 2 ?_;refine a_z ?_;refine⟨0+1,by omega,by omega,?_⟩;rw[epS.eq_2];rw[←hnew];refine s_x [(1,5)] (fun hs=>e_5) (fun hs=>?_)
  ·repeat' (first|exact au_|refine h_c ?_ ?_|exact aU_ hs (aG_ [f p])|exact au_e|refine ar_ ?_|exact am_|refine ae_ ?_ ?_|exact ai_ hs (aA_ k)|exact ai_ hs hcc|exact au_c)
 |succ i=>
  have hgt:(kE k)[(((i+1:Nat):Int)).toNat]?=some (prC p):=fF_ hp _ (by simp);have hone:=b6_ ((k.take (i+1)).map f);have hlen2:(pE ((k.take (i+1)).map f)).length=i+1:=by simp[pE];omega
  rw[epS.eq_2];refine q_z 1 ?_;refine ab_ (cT (ah_ (ab_ (af_ (s_r 4 ?_)))));refine i_x hgt ?_;refine l_x hgt ?_;refine a_z ?_;refine r_m 7 ?_;refine c_s (hg1) ?_;refine a_z ?_;refine r_m 2 ?_;refine a_z ?_;refine⟨i+1+1,by omega,by omega,?_⟩;rw[epS.eq_2];refine s_x [(1,5)] (fun hs=>e_5) (fun hs=>?_)
  ·repeat' (first|exact au_|refine h_c ?_ ?_|exact ay_ hs hnew (aG_ _)|exact au_e|refine ar_ ?_|exact am_|refine ae_ ?_ ?_|exact ai_ hs (aA_ k)|exact ai_ hs hcc|exact au_c)
 have hge:i=k.length:=by omega
 cases i with
 |zero=>
  have hk0:k=[]:=List.eq_nil_of_length_eq_zero hge.symm;subst hk0;rw[epS.eq_1];refine q_z 1 ?_;refine ab_ (cF (ao_ ⟨(),trivial,?_⟩));exact s_e []
 |succ i=>
  have hlen2:(pE (k.map f)).length=i+1:=by simp[pE];omega
  rw[epS.eq_2,hge,List.take_length];refine q_z 1 ?_;refine ab_ (cF (ao_ ⟨(),trivial,?_⟩));exact s_x [] (fun hs=>e_41) (fun hs=>e_42)
 rintro _ _;refine r_z 2 ?_;exact ag_ (t_e (ap_ _))
theorem b9_(n:Nat)(A:Mx)(L:List Nat):∀c∈[AV.arr (mE (rowsL n A)),.arr (lvE L),i64 n],Closed c:=aa_ (closed_mA _) (aa_ (ax_ (co_ L)) (aa_ (ad_ _) ac_))
theorem de_(n:Nat)(A:Mx)(L:List Nat):Closed (syV n (A,L)):=aw_ (b9_ n A L)
def bSy(n:Nat)(A:Mx)(L:List Nat):AV:= .aptr [[.arr (mE (rowsL n A)),.arr (lvE L),i64 n]] 0 0
theorem bl_(n:Nat)(A:Mx)(L:List Nat):Closed (bSy n A L):=aM_ (b9_ n A L)
theorem q7_{L:List Nat}{i c:Nat}(h:L[i]?=some c):∀e:Nat,e=i→(lvE L)[e]?=some [i64 c]:=fun e he=>by
 rw[he,lvE,List.getElem?_map,h];rfl
def onS(A:Mx)(n:Nat)(L:List Nat):Nat→AState
 |i=>⟨[(1,bSy n A L),(3,.lsl 1 0 n (some n) 3),(10,.arr (lvE L)),(11,i64 L.length),(12,i64 i)],[(1,some ⟨46,3,pE (oneJ A n L i)⟩)],2,31⟩
theorem kF_(A:Mx)(n:Nat)(L:List Nat)(hE:Ech A n n L)(hn:n≤25):FS 60 [syV n (A,L)] (.arr (pE (oneL A n L))):=by
 have hll:(lvE L).length=L.length:=ei_ L;have hLn:=hE.len2;refine f_n Tryz.func60 ?_ ?_;exact aa_ (de_ n A L) ac_;refine r_z 2 ?_;refine AWp.ent (st':=⟨[(1,bSy n A L)],[],1,31⟩) ?_ ?_;have:=b9_ n A L;exact s_f [];refine r_z 4 ?_;refine ab_ (r_z 4 ?_);refine av_ (fun _:Unit=>⟨[(3,.arr (pE (oneL A n L)))],[],1,31⟩) (fun _=>True) ?_ ?_;refine af_ (aq_ (onS A n L) (fun i=>L.length- i) (fun i=>i≤L.length) 0 (Nat.zero_le _) ?_ ?_);rw[onS.eq_1,oneJ_0];refine s_x [(1,3)] (fun hs=>e_43) (fun hs=>?_)
 ·repeat' (first|exact au_|refine h_c ?_ ?_|exact CvLL.zeros hs n|exact au_e|refine ar_ ?_|exact am_|refine ae_ ?_ ?_|exact ai_ hs (bl_ n A L)|exact ai_ hs (ax_ (co_ L))|exact au_c)
 intro i hi;rw[onS.eq_1];by_cases hlt:i< L.length;obtain⟨c,hc⟩:∃c,L[i]?=some c:=⟨_,List.getElem?_eq_getElem hlt⟩;have hcn:=hE.lt i c hc;have hin:i< n:=by omega
 have hgt:(lvE L)[((i:Nat):Int).toNat]?=some [i64 c]:=q7_ hc _ (by simp);have hrow:(mE (rowsL n A))[((i:Nat):Int).toNat]?=some [.arr (pE (tabP (n+1) (A i)))]:=oh_ (lH_ hin) _ (by simp);have hval:(pE (tabP (n+1) (A i)))[((n:Nat):Int).toNat]?=some (qC (A i n)):=dc_ (by omega) _ (by simp);have hrl:(mE (rowsL n A)).length=n:=by simp
 have hpl:(pE (tabP (n+1) (A i))).length=n+1:=by simp[pE]
 have hol:(pE (oneJ A n L i)).length=n:=by simp[pE]
 obtain⟨v0,hv0⟩:=oneJ_get (A:=A) (L:=L) (i:=i) hcn (0+((c:Nat):Int).toNat) (by omega);refine q_z 1 ?_;refine ab_ (cT (ah_ (ab_ (af_ (s_r 5 ?_)))));refine a_1 ?_;refine i_x hgt ?_;refine l_1 hgt ?_;refine a_z ?_;refine r_d hmix 13 ?_;refine a_5 ?_;refine i_x hrow ?_;refine l_1 hrow ?_;refine a_2 ?_;refine i_x hval ?_;refine l_x hval ?_;refine a_1 ?_;refine o_1n (.store rfl rfl hv0 rfl rfl rfl TS.h (nle rfl)) ?_;refine ak_ (n_k ?_);refine r_m 2 ?_;refine a_z ?_;refine⟨i+1,by omega,by omega,?_⟩;rw[onS.eq_1];refine s_x [] (fun hs=>e_43) (fun hs=>?_)
 ·repeat' (first|exact au_|refine h_c ?_ ?_|exact ay_ hs (oneJ_s hE hc hcn (0+((c:Nat):Int).toNat) (by omega)) (aG_ _)|exact au_e|refine ar_ ?_|exact am_|refine ae_ ?_ ?_|exact ai_ hs (bl_ n A L)|exact ai_ hs (ax_ (co_ L))|exact au_c)
 have hge:i=L.length:=by omega
 refine q_z 1 ?_;refine ab_ (cF (ao_ ⟨(),trivial,?_⟩));rw[oneJ_n (by omega)];refine s_x [] (fun hs=>?_) (fun hs=>?_)
 ·repeat' (first|exact aD_|refine an_ rfl ?_ ?_|(refine Cv.shut hs rfl (aB_ rfl) (by simp[pE]) ?_;exact ay_ hs (by rw[List.drop_zero];exact List.take_of_length_le (by simp[pE])) (aG_ _))|exact au_c)
 ·repeat' (first|exact au_|refine h_c ?_ ?_|exact au_e|refine ar_ ?_|exact am_|refine ae_ ?_ ?_|(refine Cv.shut hs rfl (aB_ rfl) (by simp[pE]) ?_;exact ay_ hs (by rw[List.drop_zero];exact List.take_of_length_le (by simp[pE])) (aG_ _))|exact au_c)
 rintro _ _;refine r_z 2 ?_;exact ag_ (t_e (ap_ _))
theorem rD_(A:Mx)(n:Nat)(L:List Nat)(e:List Rat)(hl:e.length=n+1):FS 138 [.arr (pE e),bSy n A L] (bln (decide (coP e n≠0))):=by
 have hl2:(pE e).length=e.length:=by simp[pE]
 have g1:(pE e)[((n:Nat):Int).toNat]?=some (qC (coP e n)):=by
  have:=bo_ (p:=e) (i:=n) (by omega);simp[pE,this]
 refine f_n Tryz.func138 ?_ ?_;exact aa_ (ap_ e) (aa_ (bl_ n A L) ac_);refine r_z 1 ?_;refine s_r 8 ?_;refine a_3 ?_;refine i_x g1 ?_;refine l_x g1 ?_;refine c_s (bt_ (coP e n)) ?_;refine a_z ?_;refine ag_ (aH_ rfl ?_ ?_);rw[show decide (coP e n≠0)=decide (sgZ (coP e n).num≠0) from decide_eq_decide.2 (not_congr sgZ_num_eq.symm)]
 first|rfl|(congr 1;cases hb:decide (sgZ (coP e n).num=0) with|true=>(have:=of_decide_eq_true hb;simp[this])|false=>(have:=of_decide_eq_false hb;simp[bln,bne,this]))
 exact ad_ _
theorem mE_el(k:List (List Rat)):∀e∈mE k,e.length=1:=fun e he=>by
 obtain⟨_,_,rfl⟩:=List.mem_map.1 he;rfl
theorem fs_noneS(A:Mx)(n:Nat)(L:List Nat)(hLn:L.length≤n)(hn:n≤25):FS 69 [syV n (A,L)] (bln (noneB n A L)):=by
 have hll:(lvE L).length=L.length:=ei_ L
 have hc:=l6_ ((rowsL n A).drop L.length) 138 [bSy n A L] (fun e=>decide (coP e n≠0)) (aa_ (bl_ n A L) ac_) (by simp;omega) (fun e he=>rD_ A n L e (by
  obtain⟨k,hk⟩:=List.mem_iff_getElem?.1 (List.mem_of_mem_drop he)
  have hlt:k< n:=by
   have:=(List.getElem?_eq_some_iff.1 hk).1;simpa using this
  rw[lH_ hlt] at hk;cases hk;simp)) rfl
 rw[←q6_] at hc;refine f_n Tryz.func69 ?_ ?_;exact aa_ (de_ n A L) ac_;refine r_z 2 ?_;refine AWp.ent (st':=⟨[(1,bSy n A L)],[],1,11⟩) ?_ ?_;have:=b9_ n A L;exact s_f [];refine s_r 9 ?_;refine a_5 ?_;refine o_0 (.sa_l rfl rfl (l:=L.length) rfl (by simp;omega) te_126.h (mE_el _)) ?_;refine c_s (hc) ?_;refine a_z ?_;exact ag_ (t_e (ad_ _))
structure OkSm (k:Ke)(c:List Rat)(i:Nat)(p:List Rat×List Rat):Prop where
 p1:smL p.1
 p2:p.1.length≤1099511627776
 cs:sm (coP c i)
 o1:smL (smK k c i)
 o2:(smK k c i).length≤1099511627776
 s1:smL (bd_ p.1 (coP c i))
 s2:(bd_ p.1 (coP c i)).length≤1099511627776
def ksS(k:Ke)(c:List Rat):Nat→AState
 |i=>⟨[(1,.arr (pE c)),(5,.arr (pE (smK k c i))),(8,.arr (kE k)),(9,i64 k.length),(10,i64 i)],[],1,26⟩
theorem rG_(k:Ke)(c:List Rat)(hc:c.length=k.length)(hl:k.length≤1000)(h:∀i p,k[i]?=some p→OkSm k c i p):FS 72 [.arr (kE k),.arr (pE c)] (.arr (pE (smK k c k.length))):=by
 have hkl:(kE k).length=k.length:=bX_ k;refine f_n Tryz.func72 ?_ ?_;exact aa_ (aA_ k) (aa_ (ap_ c) ac_);refine r_z 1 ?_;refine r_z 1 ?_;refine ab_ (r_z 3 ?_);refine av_ (fun _:Unit=>⟨[(5,.arr (pE (smK k c k.length)))],[],1,26⟩) (fun _=>True) ?_ ?_;refine af_ (aq_ (ksS k c) (fun i=>k.length- i) (fun i=>i≤k.length) 0 (Nat.zero_le _) ?_ ?_);rw[ksS.eq_1];exact s_x [] (fun hs=>e_44) (fun hs=>e_45);intro i hi;rw[ksS.eq_1];by_cases hlt:i< k.length;obtain⟨p,hp⟩:∃p,k[i]?=some p:=⟨_,List.getElem?_eq_getElem hlt⟩;have hgt:(kE k)[((i:Nat):Int).toNat]?=some (prC p):=fF_ hp _ (by simp);have hcl:(pE c).length=k.length:=by simp[pE,hc]
 have hcg:(pE c)[((i:Nat):Int).toNat]?=some (qC (coP c i)):=by
  have:=bo_ (p:=c) (i:=i) (by omega);simp[pE,this]
 have ok:=h i p hp;have h1:=d7_ p.1 (coP c i) ok.p1 ok.cs ok.p2;have h2:=i0_ (smK k c i) _ ok.o1 ok.s1 ok.o2 ok.s2;refine q_z 1 ?_;refine ab_ (cT (ah_ (ab_ (af_ (s_r 6 ?_)))));refine a_1 ?_;refine i_x hgt ?_;refine l_x hgt ?_;refine a_z ?_;refine r_d hmix 10 ?_;refine a_5 ?_;refine i_x hcg ?_;refine l_x hcg ?_;refine c_s (h1) ?_;refine c_s (h2) ?_;refine a_1 ?_;refine ak_ (n_k ?_);refine r_m 2 ?_;refine a_z ?_;refine⟨i+1,by omega,by omega,?_⟩;rw[ksS.eq_1,smK_s hp];unfold smF;exact s_x [] (fun hs=>e_44) (fun hs=>e_45);have hge:i=k.length:=by omega
 refine q_z 1 ?_;refine ab_ (cF (ao_ ⟨(),trivial,?_⟩));rw[hge];exact s_e [];rintro _ _;refine r_z 2 ?_;exact ag_ (t_e (ap_ _))
def tkC(k:Ke)(l:Rat)(g:List Rat)(a b:Rat):List AV:=eqC k l g++spC a b
theorem b8_(k:Ke)(l:Rat)(g:List Rat)(a b:Rat):∀c∈tkC k l g a b,Closed c:=bG_ (bv_ k l g) (a4_ a b)
def bTk(k:Ke)(l:Rat)(g:List Rat)(a b:Rat):AV:= .aptr [tkC k l g a b] 0 0
theorem a5_(k:Ke)(l:Rat)(g:List Rat)(a b:Rat):Closed (bTk k l g a b):=aM_ (b8_ k l g a b)
theorem fs_sys1(k:Ke)(l:Rat)(g:List Rat)(a b:Rat)(p:List Rat×List Rat)(hm:okMul p.2 g)(ho:OkIn (mulP p.2 g) a b):
    FS 136 [.agg (prC p),bTk k l g a b] (.agg (qC (inQ (mulP p.2 g) a b))):=by
 refine f_n Tryz.func136 ?_ ?_;exact aa_ (aw_ (dg_ p)) (aa_ (a5_ k l g a b) ac_);refine r_z 2 ?_;refine ab_ (r_d hmix 10 ?_);refine c_s (kO_ p.2 g hm) ?_;refine c_s (iR_ _ a b ho) ?_;refine a_1 ?_;refine ak_ (n_k ?_);exact ag_ (c_e (aC_ _))
def rhK(k:Ke)(g:List Rat)(a b:Rat):List Rat:=k.map fun p=>inQ (mulP p.2 g) a b
@[simp] theorem rhK_length (k:Ke)(g:List Rat)(a b:Rat):(rhK k g a b).length=k.length:=by simp[rhK]
def syM(k:Ke)(l:Rat)(r:List Rat)(a b:Rat):Mx×List Nat:=slM (svM (maK k a b) l (fun t=>coP r t) k.length) k.length k.length
structure OkSy (k:Ke)(l:Rat)(a b:Rat)(s:Nat):Prop where
 m:OkMa k a b
 q:∀i j,i< k.length→j< k.length→qs (maK k a b i j)+qs l+2≤s
 s:slB s k.length≤100000000000
theorem OkSy.le{k:Ke}{l a b:Rat}{s:Nat}(h:OkSy k l a b s):s≤100000000000:=Nat.le_trans (hK_ (s:=s) (Nat.zero_le k.length)) h.s
theorem OkSy.bd{k:Ke}{l a b:Rat}{s:Nat}(h:OkSy k l a b s){r:List Rat}(hr:∀i,i< k.length→qs (coP r i)≤s):bdM (svM (maK k a b) l (fun t=>coP r t) k.length) k.length s:=fun i j hi hj=>by
 unfold svM;by_cases e1:j=k.length;rw[if_pos e1];exact hr i hi;rw[if_neg e1];have h1:=h.q i j hi (by omega);have h2:=bH_ (maK k a b i j) l;split;have h3:=fD_ (-(maK k a b i j* l)) 1;rw[dA_] at h3;have h4:qs 1≤1:=by decide
 omega;rw[dA_];omega
theorem jn_(k:Ke)(l a b:Rat)(s:Nat)(r:List Rat)(h:OkSy k l a b s)(hrl:r.length=k.length)(hr:∀i,i< k.length→qs (coP r i)≤s):
    XSpec Tryz.prog 57 [.lsl 1 0 k.length (some k.length) 1,.agg (qC l),.arr (pE r)] (mzH 3 32 46 (mzO 3 (fun _=>k.length) (fun x=>x) k.length) (fiL (maK k a b) k.length k.length)) 40 (syV k.length (syM k l r a b)) [] 1:=by
 have hl8:=h.m.l;have hle:=h.le;have hbd:=h.bd hr;refine lk_ (maK k a b) l r k.length (slB s k.length) (by omega) hrl h.s (fun i j hi hj=>by have:=h.q i j hi hj;omega) (fun i hi=>?_) fun c hc i j hi hj=>Nat.le_trans (o0_ hbd c hc i j hi hj) (hK_ hc);have h1:=h.q i i hi hi;have h2:=bH_ (maK k a b i i) l;rw[dA_];omega
theorem iQ_(k:Ke)(l:Rat)(g:List Rat)(a b:Rat)(s:Nat)(h:OkSy k l a b s)(hr:∀p∈k,okMul p.2 g∧OkIn (mulP p.2 g) a b∧qs (inQ (mulP p.2 g) a b)≤s):
    FS 68 [.agg (tkC k l g a b)] (syV k.length (syM k l (rhK k g a b) a b)):=by
 have hl8:=h.m.l
 have hX:=jn_ k l a b s (rhK k g a b) h (by simp) fun i hi=>by
  have e:coP (rhK k g a b) i=inQ (mulP k[i].2 g) a b:=by
   unfold coP rhK;rw[List.getD_eq_getElem?_getD];simp[hi]
  rw[e];exact(hr _ (List.getElem_mem hi)).2.2
 have hE:=kI_ k 136 [bTk k l g a b] (fun p=>inQ (mulP p.2 g) a b) (aa_ (a5_ k l g a b) ac_) (by omega) fun p hp=>fs_sys1 k l g a b p (hr p hp).1 (hr p hp).2.1;have hcl:Closed (syV k.length (syM k l (rhK k g a b) a b)):=de_ _ _ _;refine f_n Tryz.func68 ?_ ?_;exact aa_ (aw_ (b8_ k l g a b)) ac_;refine r_z 2 ?_;refine AWp.ent (st':=⟨[(1,bTk k l g a b),(2,.lptr 1 0 0)],[(1,some ⟨131,3,[[.emp,.emp,i64 0]]⟩)],2,18⟩) ?_ ?_;have:=b8_ k l g a b;exact s_f [(1,2)];refine ab_ (AWp.regAB 5 14 8 hmix (ic_ k a b h.m) (hX) (hcl) rfl rfl rfl rfl rfl rfl rfl rfl rfl rfl (by kernel_rfl) rfl rfl rfl ?_);refine AY.op0 (.fieldAddr_a rfl TF.h (by decide)) rfl rfl ?_;refine AY.op0 (.fieldAddr_a rfl TF.h (by decide)) rfl rfl ?_;refine AY.op0 (.load_a1 rfl rfl TG.h rfl) rfl rfl ?_;refine AY.op0 (.fieldAddr_a rfl TF.h (by decide)) rfl rfl ?_;refine AY.op0 (.load_a rfl rfl TG.h TS.h (nle rfl)) rfl rfl ?_;refine AY.sp rfl rfl (kAB.a rfl rfl rfl (aa_ (aA_ k) (aa_ (aw_ (a4_ a b)) ac_)) rfl) ?_;refine AY.op0 (.fieldAddr_a rfl TF.h (by decide)) rfl rfl ?_;refine AY.op0 (.fieldAddr_a rfl TF.h (by decide)) rfl rfl ?_;refine AY.op0 (.load_a rfl rfl TG.h TS.h (nle rfl)) rfl rfl ?_;refine AY.op0 (.fieldAddr_a rfl TF.h (by decide)) rfl rfl ?_;refine AY.op0 (.fieldAddr_a rfl TF.h (by decide)) rfl rfl ?_;refine AY.op0 (.load_a1 rfl rfl TG.h rfl) rfl rfl ?_;refine AY.op0 (.makeFunc rfl rfl) rfl rfl ?_;refine AY.op0 (.call rfl rfl rfl (hE)) rfl rfl ?_
 refine AY.sp rfl rfl (kAB.b rfl rfl (ArgsB.own (ArgsB.clo rfl (aw_ (aN_ l)) (ArgsB.clo rfl (ap_ _) ArgsB.nil))) rfl) ?_;refine AY.on1 (.store rfl rfl rfl rfl rfl rfl TS.h (nle rfl)) rfl ?_;refine AY.nil ⟨by kernel_rfl,?_⟩;exact ag_ (c_e (hcl))
end Go.Proofs.YtjkddcfoolilbaaGreatDoor
