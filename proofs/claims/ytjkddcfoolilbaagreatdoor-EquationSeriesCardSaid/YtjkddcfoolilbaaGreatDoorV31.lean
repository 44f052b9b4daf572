/- Part V31 of the proof. -/
import Derived.Test.YtjkddcfoolilbaaGreatDoorV30
set_option linter.all false
namespace Go.Proofs.YtjkddcfoolilbaaGreatDoor
open Go.Abs
set_option maxRecDepth 20000
set_option maxHeartbeats 4000000
abbrev TRow:=List NRow×List NRow
def twC(t:TRow):List AV:=[.arr (nR t.1),.arr (nR t.2)]
def twR(l:List TRow):List (List AV):=l.map twC
@[simp] theorem pm_ (l:List TRow):(twR l).length=l.length:=by simp[twR]
theorem p7_(l:List TRow):∀x∈twR l,∀c∈x,Closed c:=fun x hx=>by
 obtain⟨p,_,rfl⟩:=List.mem_map.1 hx;exact aa_ (aB_ (bC_ _)) (aa_ (aB_ (bC_ _)) ac_)
theorem cq_(l:List TRow):Closed (.arr (twR l)):=aB_ (p7_ l)
theorem twR_get{l:List TRow}{i:Nat}{t:TRow}(h:l[i]?=some t):∀e,e=i→(twR l)[e]?=some (twC t):=fun e he=>by
 rw[he,twR,List.getElem?_map,h];rfl
def okT2(t:TRow):Prop:=(okR t.1∧okR t.2)∧t.1.length≤9223372036854775807∧t.2.length≤9223372036854775807
def dr_(l:List NRow):Bool:=tameB l 4||decide (12< degP (nL l))
def longT(t:TRow):Bool:=decide (30< t.1.length)||decide (30< t.2.length)
def en_(t:TRow):Bool:=!longT t && (dr_ t.1 && dr_ t.2)
def lenOk(n:Nat):Bool:=!((decide (3< n) && decide (n≤8))||decide (12< n))
def keOk(l:List TRow):Bool:=lenOk l.length && l.all en_
def keM(l:List TRow):Ke:=l.map fun t=>(nL t.1,nL t.2)
@[simp] theorem c1_ (l:List TRow):(keM l).length=l.length:=by simp[keM]
def keV(l:List TRow):AV:=if keOk l then .tup [.arr (kE (keM l)),.arr (keR (keM l)),bln true] else .tup [.arr (kE []),.arr (keR []),bln false]
theorem keR_one(k:Ke):(keR k).all (·.all AV.one)=true:=by
 rw[List.all_eq_true];intro x hx;obtain⟨p,_,rfl⟩:=List.mem_map.1 hx;rfl
theorem keR_snoc(k:Ke)(p:List Rat×List Rat):keR (k++[p])=keR k++[pkR p]:=by simp[keR]
def krS'(l:List TRow):Nat→AState
 |0=>⟨[(0,.arr (twR l)),(5,.emp),(6,.emp),(7,i64 0)],[],1,105⟩
 |i+1=>⟨[(0,.arr (twR l)),(5,.lsl 1 0 (i+1) none 2),(6,.lsl 2 0 (i+1) none 2),(7,i64 ((i+1:Nat):Int))],[(1,some ⟨98,2,kE ((keM l).take (i+1))⟩),(2,some ⟨100,2,keR ((keM l).take (i+1))⟩)],3,105⟩
theorem h3_{l:List TRow}{t:TRow}(ht:t∈l)(h:en_ t=false):keOk l=false:=by
 unfold keOk;rw[List.all_eq_false.2 ⟨t,ht,by rw[h];decide⟩,Bool.and_false]
structure PrF (t:TRow):Prop where
 b1:FS 31 [.arr (nR t.1)] (.tup [.arr (pE (nL t.1)),.arr (rE (rP (nL t.1)))])
 b2:FS 31 [.arr (nR t.2)] (.tup [.arr (pE (nL t.2)),.arr (rE (rP (nL t.2)))])
 t1:FS 8 [.arr (nR t.1),i64 4] (bln (tameB t.1 4))
 t2:FS 8 [.arr (nR t.2),i64 4] (bln (tameB t.2 4))
 d1:FS 32 [.arr (rE (rP (nL t.1)))] (i64 (degP (nL t.1)))
 d2:FS 32 [.arr (rE (rP (nL t.2)))] (i64 (degP (nL t.2)))
theorem prF{t:TRow}(h:okT2 t)(h1:t.1.length≤30)(h2:t.2.length≤30):PrF t:=by
 have d1:=dQ_ (rP (nL t.1)) (by simp[nL];omega);have d2:=dQ_ (rP (nL t.2)) (by simp[nL];omega);rw[vR_rP] at d1 d2;exact⟨kW_ t.1 (by omega) h.1.1,kW_ t.2 (by omega) h.1.2,kO_ t.1 4 h.2.1 (by decide),kO_ t.2 4 h.2.2 (by decide),d1,d2⟩
theorem pW_(l:List TRow)(ho:∀t∈l,okT2 t)(hl:l.length≤9223372036854775807):FS 6 [.arr (twR l)] (keV l):=by
 have htl:(twR l).length=l.length:=pm_ l;refine f_n Tryz.func6 ?_ ?_;exact aa_ (cq_ l) ac_;obtain⟨r,hr⟩:∃r,r=keV l:=⟨_,rfl⟩;rw[←hr];have bad:keOk l=false→r= .tup [.arr (kE []),.arr (keR []),bln false]:=fun h=>by rw[hr,keV,h];rfl
 refine r_z 3 ?_;refine r_z 1 ?_;refine r_z 1 ?_;have tail0:Cv (Ren.id 0) (lookB []) (fun _=>none) (.tup [.emp,.emp,bln false]) (.tup [.arr (kE []),.arr (keR []),bln false])→True:=fun _=>trivial;by_cases c1:12< l.length
 ·rw[bad (by unfold keOk lenOk;rw[decide_eq_true c1,Bool.or_true];rfl)]
  refine ab_ (s_r 13 ?_);refine a_2 ?_;refine o_0 (.bin rfl rfl (vT aU_ (decide_eq_true (by omega)))) ?_;refine a_1 ?_
  first|refine ag_ rfl rfl rfl (.move rfl) rfl rfl ?_|refine au_ rfl rfl (by first|(simp[as_];done)|exact nofun) rfl rfl ?_
  first|refine ag_ rfl rfl rfl (.lenD rfl rfl rfl rfl te_22.h) rfl rfl ?_|refine ag_ rfl rfl rfl (.lenI rfl rfl rfl rfl te_22.h) rfl rfl ?_|refine ag_ rfl rfl rfl (.lenP rfl rfl rfl rfl te_22.h) rfl rfl ?_|refine ag_ rfl rfl rfl (.lenC rfl rfl rfl rfl te_22.h) rfl rfl ?_|refine ag_ rfl rfl rfl (.lenR rfl rfl rfl rfl te_22.h) rfl rfl ?_|refine ag_ rfl rfl rfl (.len rfl rfl rfl rfl rfl te_22.h) rfl rfl ?_|refine au_ rfl rfl (by first|(simp[as_];done)|exact nofun) rfl rfl ?_
  refine ag_ rfl rfl rfl (.bin rfl rfl (vF a7_ (decide_eq_false (by omega)))) rfl rfl ?_;refine a_2 ?_
  first|refine ag_ rfl rfl rfl (.move rfl) rfl rfl ?_|refine au_ rfl rfl (by first|(simp[as_];done)|exact nofun) rfl rfl ?_
  first|refine ag_ rfl rfl rfl (.lenD rfl rfl rfl rfl te_22.h) rfl rfl ?_|refine ag_ rfl rfl rfl (.lenI rfl rfl rfl rfl te_22.h) rfl rfl ?_|refine ag_ rfl rfl rfl (.lenP rfl rfl rfl rfl te_22.h) rfl rfl ?_|refine ag_ rfl rfl rfl (.lenC rfl rfl rfl rfl te_22.h) rfl rfl ?_|refine ag_ rfl rfl rfl (.lenR rfl rfl rfl rfl te_22.h) rfl rfl ?_|refine ag_ rfl rfl rfl (.len rfl rfl rfl rfl rfl te_22.h) rfl rfl ?_|refine au_ rfl rfl (by first|(simp[as_];done)|exact nofun) rfl rfl ?_
  refine ag_ rfl rfl rfl (.bin rfl rfl (vT aU_ (decide_eq_true (by omega)))) rfl rfl ?_;refine a_z ?_;refine cT (r_z 3 ?_);refine af_ (Fin.many ⟨_,_,rfl,rfl,⟨_,_,rfl,rfl,⟨_,_,rfl,rfl,rfl⟩⟩⟩ (nle rfl) ?_);exact ai_ (Cv.emp _) (ai_ (Cv.emp _) (ai_ (ak_ ax_ (ad_ _)) an_))
 by_cases c2:3< l.length∧l.length≤8
 ·rw[bad (by unfold keOk lenOk;rw[decide_eq_true c2.1,decide_eq_true c2.2];rfl)]
  refine ab_ (s_r 13 ?_);refine a_2 ?_;refine o_0 (.bin rfl rfl (vT aU_ (decide_eq_true (by omega)))) ?_;refine a_1 ?_
  first|refine ag_ rfl rfl rfl (.move rfl) rfl rfl ?_|refine au_ rfl rfl (by first|(simp[as_];done)|exact nofun) rfl rfl ?_
  first|refine ag_ rfl rfl rfl (.lenD rfl rfl rfl rfl te_22.h) rfl rfl ?_|refine ag_ rfl rfl rfl (.lenI rfl rfl rfl rfl te_22.h) rfl rfl ?_|refine ag_ rfl rfl rfl (.lenP rfl rfl rfl rfl te_22.h) rfl rfl ?_|refine ag_ rfl rfl rfl (.lenC rfl rfl rfl rfl te_22.h) rfl rfl ?_|refine ag_ rfl rfl rfl (.lenR rfl rfl rfl rfl te_22.h) rfl rfl ?_|refine ag_ rfl rfl rfl (.len rfl rfl rfl rfl rfl te_22.h) rfl rfl ?_|refine au_ rfl rfl (by first|(simp[as_];done)|exact nofun) rfl rfl ?_
  refine ag_ rfl rfl rfl (.bin rfl rfl (vT a7_ (decide_eq_true (by omega)))) rfl rfl ?_;refine a_z ?_;refine cT (r_z 3 ?_);refine af_ (Fin.many ⟨_,_,rfl,rfl,⟨_,_,rfl,rfl,⟨_,_,rfl,rfl,rfl⟩⟩⟩ (nle rfl) ?_);exact ai_ (Cv.emp _) (ai_ (Cv.emp _) (ai_ (ak_ ax_ (ad_ _)) an_))
 have hlen:lenOk l.length=true:=by
  unfold lenOk;rw[decide_eq_false c1,Bool.or_false,Bool.not_eq_true',Bool.and_eq_false_iff];by_cases h3:3< l.length;exact .inr (decide_eq_false (by omega));exact .inl (decide_eq_false h3)
 refine aP_ (fun _:Unit=>⟨[(0,.arr (twR l)),(5,.emp),(6,.emp)],[],1,105⟩) (fun _=>True) ?_ ?_;by_cases h3:3< l.length
 ·refine s_r 13 ?_
  refine a_2 ?_;refine o_0 (.bin rfl rfl (vT aU_ (decide_eq_true (by omega)))) ?_;refine a_1 ?_
  first|refine ag_ rfl rfl rfl (.move rfl) rfl rfl ?_|refine au_ rfl rfl (by first|(simp[as_];done)|exact nofun) rfl rfl ?_
  first|refine ag_ rfl rfl rfl (.lenD rfl rfl rfl rfl te_22.h) rfl rfl ?_|refine ag_ rfl rfl rfl (.lenI rfl rfl rfl rfl te_22.h) rfl rfl ?_|refine ag_ rfl rfl rfl (.lenP rfl rfl rfl rfl te_22.h) rfl rfl ?_|refine ag_ rfl rfl rfl (.lenC rfl rfl rfl rfl te_22.h) rfl rfl ?_|refine ag_ rfl rfl rfl (.lenR rfl rfl rfl rfl te_22.h) rfl rfl ?_|refine ag_ rfl rfl rfl (.len rfl rfl rfl rfl rfl te_22.h) rfl rfl ?_|refine au_ rfl rfl (by first|(simp[as_];done)|exact nofun) rfl rfl ?_
  refine ag_ rfl rfl rfl (.bin rfl rfl (vF a7_ (decide_eq_false (by omega)))) rfl rfl ?_;refine a_2 ?_
  first|refine ag_ rfl rfl rfl (.move rfl) rfl rfl ?_|refine au_ rfl rfl (by first|(simp[as_];done)|exact nofun) rfl rfl ?_
  first|refine ag_ rfl rfl rfl (.lenD rfl rfl rfl rfl te_22.h) rfl rfl ?_|refine ag_ rfl rfl rfl (.lenI rfl rfl rfl rfl te_22.h) rfl rfl ?_|refine ag_ rfl rfl rfl (.lenP rfl rfl rfl rfl te_22.h) rfl rfl ?_|refine ag_ rfl rfl rfl (.lenC rfl rfl rfl rfl te_22.h) rfl rfl ?_|refine ag_ rfl rfl rfl (.lenR rfl rfl rfl rfl te_22.h) rfl rfl ?_|refine ag_ rfl rfl rfl (.len rfl rfl rfl rfl rfl te_22.h) rfl rfl ?_|refine au_ rfl rfl (by first|(simp[as_];done)|exact nofun) rfl rfl ?_
  refine ag_ rfl rfl rfl (.bin rfl rfl (vF aU_ (decide_eq_false (by omega)))) rfl rfl ?_;refine a_z ?_;refine cF (ah_ (⟨(),trivial,?_⟩));have:=cq_ l;exact s_f []
 ·refine s_r 13 ?_
  refine a_2 ?_;refine o_0 (.bin rfl rfl (vF aU_ (decide_eq_false (by omega)))) ?_;refine a_1 ?_
  first|refine ag_ rfl rfl rfl (.move rfl) rfl rfl ?_|refine au_ rfl rfl (by first|(simp[as_];done)|exact nofun) rfl rfl ?_
  first|refine ag_ rfl rfl rfl (.lenD rfl rfl rfl rfl te_22.h) rfl rfl ?_|refine ag_ rfl rfl rfl (.lenI rfl rfl rfl rfl te_22.h) rfl rfl ?_|refine ag_ rfl rfl rfl (.lenP rfl rfl rfl rfl te_22.h) rfl rfl ?_|refine ag_ rfl rfl rfl (.lenC rfl rfl rfl rfl te_22.h) rfl rfl ?_|refine ag_ rfl rfl rfl (.lenR rfl rfl rfl rfl te_22.h) rfl rfl ?_|refine ag_ rfl rfl rfl (.len rfl rfl rfl rfl rfl te_22.h) rfl rfl ?_|refine au_ rfl rfl (by first|(simp[as_];done)|exact nofun) rfl rfl ?_
  first|refine ag_ rfl rfl rfl (.bin rfl rfl a7_) rfl rfl ?_|refine au_ rfl rfl (by first|(simp[as_];done)|exact nofun) rfl rfl ?_
  refine a_2 ?_
  first|refine ag_ rfl rfl rfl (.move rfl) rfl rfl ?_|refine au_ rfl rfl (by first|(simp[as_];done)|exact nofun) rfl rfl ?_
  first|refine ag_ rfl rfl rfl (.lenD rfl rfl rfl rfl te_22.h) rfl rfl ?_|refine ag_ rfl rfl rfl (.lenI rfl rfl rfl rfl te_22.h) rfl rfl ?_|refine ag_ rfl rfl rfl (.lenP rfl rfl rfl rfl te_22.h) rfl rfl ?_|refine ag_ rfl rfl rfl (.lenC rfl rfl rfl rfl te_22.h) rfl rfl ?_|refine ag_ rfl rfl rfl (.lenR rfl rfl rfl rfl te_22.h) rfl rfl ?_|refine ag_ rfl rfl rfl (.len rfl rfl rfl rfl rfl te_22.h) rfl rfl ?_|refine au_ rfl rfl (by first|(simp[as_];done)|exact nofun) rfl rfl ?_
  refine ag_ rfl rfl rfl (.bin rfl rfl (vF aU_ (decide_eq_false (by omega)))) rfl rfl ?_;refine a_z ?_;refine cF (ah_ (⟨(),trivial,?_⟩));have:=cq_ l;exact s_f []
 rintro _ _;refine ab_ (r_z 1 ?_);refine aw_ (fun _:Unit=>krS' l l.length) (fun _=> ∀t∈l,en_ t=true) ?_ ?_
 ·refine ae_ (aq_ (krS' l) (fun i=>l.length- i) (fun i=>i≤l.length∧∀t∈l.take i,en_ t=true) 0 ⟨Nat.zero_le _,fun t ht=>by simp at ht⟩ ?_ ?_)
  rw[krS'.eq_1];have:=cq_ l;exact s_f [];rintro i ⟨hi,hinv⟩;obtain⟨x5,x6,hpx,nxx,hS⟩:∃x5 x6 hpx nxx,krS' l i=⟨[(0,.arr (twR l)),(5,x5),(6,x6),(7,i64 i)],hpx,nxx,105⟩:=by cases i <;> exact⟨_,_,_,_,rfl⟩
  by_cases hlt:i< l.length;rotate_left;have hge:i=l.length:=by omega
  rw[hS];refine ab_ (s_r 4 ?_);refine a_3 ?_;refine o_0 (.bin rfl rfl (vF a6_ (decide_eq_false (by omega)))) ?_;refine al_ ?_;refine cF (ao_ ⟨(),(by rw[hge,List.take_length] at hinv;exact hinv),?_⟩);show SEnt _ (krS' l l.length);rw[←hge];cases i with
  |zero=>
   rw[krS'.eq_1] at hS⊢;cases hS;have:=cq_ l;exact s_f []
  |succ i=>
   rw[krS'.eq_2] at hS⊢;cases hS;refine s_x [(1,5),(2,6)] (fun hs=>e_18) (fun hs=>?_)
   ·repeat' (first|exact az_|refine h_c ?_ ?_|exact a9_ hs (b9_ _)|exact a9_ hs (eu_ _)|exact au_e|refine av_ ?_|exact an_|refine ai_ ?_ ?_|exact ak_ hs (cq_ l)|exact au_c)
  obtain⟨t,ht⟩:∃t,l[i]?=some t:=⟨_,List.getElem?_eq_getElem hlt⟩;have htm:=List.mem_of_getElem? ht;have hgt:(twR l)[((i:Nat):Int).toNat]?=some (twC t):=twR_get ht _ (by simp);have n1:(nR t.1).length=t.1.length:=by simp[nR]
  have n2:(nR t.2).length=t.2.length:=by simp[nR]
  rw[hS];by_cases l1:30< t.1.length;rw[bad (h3_ htm (by unfold en_ longT;rw[decide_eq_true l1];rfl))];refine ab_ (s_r 4 ?_);refine a_3 ?_;refine o_0 (.bin rfl rfl (vT a6_ (decide_eq_true (by omega)))) ?_;refine al_ ?_;refine cT (ah_ (ab_ (ae_ (ab_ (s_r 16 ?_)))));refine a_2 ?_;refine i_x hgt ?_;refine a_1 ?_;refine l_1 hgt ?_;refine a_1 ?_;refine o_0 (.bin rfl rfl (vT aU_ (decide_eq_true (by omega)))) ?_;refine a_z ?_;refine cT (r_z 3 ?_);refine af_ (Fin.many ⟨_,_,rfl,rfl,⟨_,_,rfl,rfl,⟨_,_,rfl,rfl,rfl⟩⟩⟩ (nle rfl) ?_);exact ai_ (Cv.emp _) (ai_ (Cv.emp _) (ai_ (ak_ ax_ (ad_ _)) an_));by_cases l2:30< t.2.length
  ·rw[bad (h3_ htm (by unfold en_ longT;rw[decide_eq_true l2,Bool.or_true];rfl))]
   refine ab_ (s_r 4 ?_);refine a_3 ?_;refine o_0 (.bin rfl rfl (vT a6_ (decide_eq_true (by omega)))) ?_;refine al_ ?_;refine cT (ah_ (ab_ (ae_ (ab_ (s_r 16 ?_)))));refine a_2 ?_;refine i_x hgt ?_;refine a_1 ?_;refine l_1 hgt ?_;refine a_1 ?_;refine o_0 (.bin rfl rfl (vF aU_ (decide_eq_false (by omega)))) ?_;refine a_1 ?_
   first|refine ag_ rfl rfl rfl (.move rfl) rfl rfl ?_|refine au_ rfl rfl (by first|(simp[as_];done)|exact nofun) rfl rfl ?_
   first|refine ag_ rfl rfl rfl (.move rfl) rfl rfl ?_|refine au_ rfl rfl (by first|(simp[as_];done)|exact nofun) rfl rfl ?_
   first|refine ag_ rfl rfl rfl (.index_l rfl rfl (by omega) (by omega) te_22.h) rfl rfl ?_|refine ag_ rfl rfl rfl (.index_a rfl rfl (by omega) hgt rfl te_22.h) rfl rfl ?_
   first|refine ag_ rfl rfl rfl (.fieldAddr_l rfl TF.h (by decide)) rfl rfl ?_|refine ag_ rfl rfl rfl (.fieldAddr_a rfl TF.h (by decide)) rfl rfl ?_|refine au_ rfl rfl (by first|(simp[as_];done)|exact nofun) rfl rfl ?_
   first|refine ag_ rfl rfl rfl (.load_l1 rfl rfl hgt TG.h rfl) rfl rfl ?_|refine ag_ rfl rfl rfl (.load_a1 rfl hgt TG.h rfl) rfl rfl ?_
   first|refine ag_ rfl rfl rfl (.lenD rfl rfl rfl rfl te_25.h) rfl rfl ?_|refine ag_ rfl rfl rfl (.lenI rfl rfl rfl rfl te_25.h) rfl rfl ?_|refine ag_ rfl rfl rfl (.lenP rfl rfl rfl rfl te_25.h) rfl rfl ?_|refine ag_ rfl rfl rfl (.lenC rfl rfl rfl rfl te_25.h) rfl rfl ?_|refine ag_ rfl rfl rfl (.lenR rfl rfl rfl rfl te_25.h) rfl rfl ?_|refine ag_ rfl rfl rfl (.len rfl rfl rfl rfl rfl te_25.h) rfl rfl ?_|refine au_ rfl rfl (by first|(simp[as_];done)|exact nofun) rfl rfl ?_
   refine ag_ rfl rfl rfl (.bin rfl rfl (vT aU_ (decide_eq_true (by omega)))) rfl rfl ?_;refine a_z ?_;refine cT (r_z 3 ?_);refine af_ (Fin.many ⟨_,_,rfl,rfl,⟨_,_,rfl,rfl,⟨_,_,rfl,rfl,rfl⟩⟩⟩ (nle rfl) ?_);exact ai_ (Cv.emp _) (ai_ (Cv.emp _) (ai_ (ak_ ax_ (ad_ _)) an_))
  have F:=prF (ho t htm) (by omega) (by omega);have b1:=F.b1;have b2:=F.b2;have t1:=F.t1;have t2:=F.t2;have d1:=F.d1;have d2:=F.d2;have hlong:longT t=false:=by unfold longT;rw[decide_eq_false l1,decide_eq_false l2];rfl
  refine ab_ (s_r 4 ?_);refine a_3 ?_;refine o_0 (.bin rfl rfl (vT a6_ (decide_eq_true (by omega)))) ?_;refine al_ ?_;refine cT (ah_ (ab_ (ae_ (ab_ (s_r 16 ?_)))));refine a_2 ?_;refine i_x hgt ?_;refine a_1 ?_;refine l_1 hgt ?_;refine a_1 ?_;refine o_0 (.bin rfl rfl (vF aU_ (decide_eq_false (by omega)))) ?_;refine a_1 ?_
  first|refine ag_ rfl rfl rfl (.move rfl) rfl rfl ?_|refine au_ rfl rfl (by first|(simp[as_];done)|exact nofun) rfl rfl ?_
  first|refine ag_ rfl rfl rfl (.move rfl) rfl rfl ?_|refine au_ rfl rfl (by first|(simp[as_];done)|exact nofun) rfl rfl ?_
  first|refine ag_ rfl rfl rfl (.index_l rfl rfl (by omega) (by omega) te_22.h) rfl rfl ?_|refine ag_ rfl rfl rfl (.index_a rfl rfl (by omega) hgt rfl te_22.h) rfl rfl ?_
  first|refine ag_ rfl rfl rfl (.fieldAddr_l rfl TF.h (by decide)) rfl rfl ?_|refine ag_ rfl rfl rfl (.fieldAddr_a rfl TF.h (by decide)) rfl rfl ?_|refine au_ rfl rfl (by first|(simp[as_];done)|exact nofun) rfl rfl ?_
  first|refine ag_ rfl rfl rfl (.load_l1 rfl rfl hgt TG.h rfl) rfl rfl ?_|refine ag_ rfl rfl rfl (.load_a1 rfl hgt TG.h rfl) rfl rfl ?_
  first|refine ag_ rfl rfl rfl (.lenD rfl rfl rfl rfl te_25.h) rfl rfl ?_|refine ag_ rfl rfl rfl (.lenI rfl rfl rfl rfl te_25.h) rfl rfl ?_|refine ag_ rfl rfl rfl (.lenP rfl rfl rfl rfl te_25.h) rfl rfl ?_|refine ag_ rfl rfl rfl (.lenC rfl rfl rfl rfl te_25.h) rfl rfl ?_|refine ag_ rfl rfl rfl (.lenR rfl rfl rfl rfl te_25.h) rfl rfl ?_|refine ag_ rfl rfl rfl (.len rfl rfl rfl rfl rfl te_25.h) rfl rfl ?_|refine au_ rfl rfl (by first|(simp[as_];done)|exact nofun) rfl rfl ?_
  refine ag_ rfl rfl rfl (.bin rfl rfl (vF aU_ (decide_eq_false (by omega)))) rfl rfl ?_;refine a_z ?_;refine cF (ah_ (s_r 11 ?_));refine a_2 ?_;refine i_x hgt ?_;refine a_1 ?_;refine l_1 hgt ?_;refine c_s (b1) ?_;refine a_z ?_;refine s_r 11 ?_;refine a_2 ?_;refine i_x hgt ?_;refine a_1 ?_;refine l_1 hgt ?_;refine c_s (b2) ?_;refine a_z ?_;refine aP_ (fun _:Unit=>⟨[(0,.arr (twR l)),(5,x5),(6,x6),(7,i64 i),(8,.arr (pE (nL t.1))),(9,.arr (rE (rP (nL t.1)))),(10,.arr (pE (nL t.2))),(11,.arr (rE (rP (nL t.2))))],hpx,nxx+100,105⟩) (fun _=>en_ t=true) ?_ ?_;by_cases s1:dr_ t.1=true;by_cases s2:dr_ t.2=true
  ·have hok:en_ t=true:=by unfold en_;rw[hlong,s1,s2];rfl
   cases e1:tameB t.1 4 with
   |true=>
    rw[e1] at t1;cases e2:tameB t.2 4 with
    |true=>
     rw[e2] at t2;refine s_r 26 ?_;refine a_2 ?_;refine i_x hgt ?_;refine a_1 ?_;refine l_1 hgt ?_;refine c_s (t1) ?_;refine a_2 ?_
     first|refine ag_ rfl rfl rfl (.move rfl) rfl rfl ?_|refine au_ rfl rfl (by first|(simp[as_];done)|exact nofun) rfl rfl ?_
     first|refine au_ rfl rfl (by first|(simp[as_];done)|exact nofun) rfl rfl ?_
     first|refine ag_ rfl rfl rfl (.bin rfl rfl a7_) rfl rfl ?_|refine au_ rfl rfl (by first|(simp[as_];done)|exact nofun) rfl rfl ?_
     refine a_2 ?_
     first|refine ag_ rfl rfl rfl (.move rfl) rfl rfl ?_|refine au_ rfl rfl (by first|(simp[as_];done)|exact nofun) rfl rfl ?_
     first|refine ag_ rfl rfl rfl (.move rfl) rfl rfl ?_|refine au_ rfl rfl (by first|(simp[as_];done)|exact nofun) rfl rfl ?_
     first|refine ag_ rfl rfl rfl (.index_l rfl rfl (by omega) (by omega) te_22.h) rfl rfl ?_|refine ag_ rfl rfl rfl (.index_a rfl rfl (by omega) hgt rfl te_22.h) rfl rfl ?_
     first|refine ag_ rfl rfl rfl (.fieldAddr_l rfl TF.h (by decide)) rfl rfl ?_|refine ag_ rfl rfl rfl (.fieldAddr_a rfl TF.h (by decide)) rfl rfl ?_|refine au_ rfl rfl (by first|(simp[as_];done)|exact nofun) rfl rfl ?_
     first|refine ag_ rfl rfl rfl (.load_l1 rfl rfl hgt TG.h rfl) rfl rfl ?_|refine ag_ rfl rfl rfl (.load_a1 rfl hgt TG.h rfl) rfl rfl ?_
     refine c_s (t2) ?_;refine a_z ?_;exact cF (ah_ (⟨(),hok,SEnt.keep (all_cons rfl (all_cons rfl (all_cons rfl (all_cons rfl (all_cons rfl (all_cons rfl (all_cons rfl (all_cons rfl lg_)))))))) (by omega)⟩))
    |false=>
     rw[e2] at t2;have g2:12< degP (nL t.2):=by unfold dr_ at s2;rw[e2] at s2;simpa using s2
     refine s_r 26 ?_;refine a_2 ?_;refine i_x hgt ?_;refine a_1 ?_;refine l_1 hgt ?_;refine c_s (t1) ?_;refine a_2 ?_
     first|refine ag_ rfl rfl rfl (.move rfl) rfl rfl ?_|refine au_ rfl rfl (by first|(simp[as_];done)|exact nofun) rfl rfl ?_
     first|refine au_ rfl rfl (by first|(simp[as_];done)|exact nofun) rfl rfl ?_
     first|refine ag_ rfl rfl rfl (.bin rfl rfl a7_) rfl rfl ?_|refine au_ rfl rfl (by first|(simp[as_];done)|exact nofun) rfl rfl ?_
     refine a_2 ?_
     first|refine ag_ rfl rfl rfl (.move rfl) rfl rfl ?_|refine au_ rfl rfl (by first|(simp[as_];done)|exact nofun) rfl rfl ?_
     first|refine ag_ rfl rfl rfl (.move rfl) rfl rfl ?_|refine au_ rfl rfl (by first|(simp[as_];done)|exact nofun) rfl rfl ?_
     first|refine ag_ rfl rfl rfl (.index_l rfl rfl (by omega) (by omega) te_22.h) rfl rfl ?_|refine ag_ rfl rfl rfl (.index_a rfl rfl (by omega) hgt rfl te_22.h) rfl rfl ?_
     first|refine ag_ rfl rfl rfl (.fieldAddr_l rfl TF.h (by decide)) rfl rfl ?_|refine ag_ rfl rfl rfl (.fieldAddr_a rfl TF.h (by decide)) rfl rfl ?_|refine au_ rfl rfl (by first|(simp[as_];done)|exact nofun) rfl rfl ?_
     first|refine ag_ rfl rfl rfl (.load_l1 rfl rfl hgt TG.h rfl) rfl rfl ?_|refine ag_ rfl rfl rfl (.load_a1 rfl hgt TG.h rfl) rfl rfl ?_
     refine c_s (t2) ?_;refine c_s (d2) ?_;refine ag_ rfl rfl rfl (.bin rfl rfl (vF a7_ (decide_eq_false (by omega)))) rfl rfl ?_;refine a_z ?_;exact cF (ah_ (⟨(),hok,SEnt.keep (all_cons rfl (all_cons rfl (all_cons rfl (all_cons rfl (all_cons rfl (all_cons rfl (all_cons rfl (all_cons rfl lg_)))))))) (by omega)⟩))
   |false=>
    rw[e1] at t1;have g1:12< degP (nL t.1):=by unfold dr_ at s1;rw[e1] at s1;simpa using s1
    cases e2:tameB t.2 4 with
    |true=>
     rw[e2] at t2;refine s_r 26 ?_;refine a_2 ?_;refine i_x hgt ?_;refine a_1 ?_;refine l_1 hgt ?_;refine c_s (t1) ?_;refine c_s (d1) ?_;refine ag_ rfl rfl rfl (.bin rfl rfl (vF a7_ (decide_eq_false (by omega)))) rfl rfl ?_;refine a_2 ?_
     first|refine ag_ rfl rfl rfl (.move rfl) rfl rfl ?_|refine au_ rfl rfl (by first|(simp[as_];done)|exact nofun) rfl rfl ?_
     first|refine ag_ rfl rfl rfl (.move rfl) rfl rfl ?_|refine au_ rfl rfl (by first|(simp[as_];done)|exact nofun) rfl rfl ?_
     first|refine ag_ rfl rfl rfl (.index_l rfl rfl (by omega) (by omega) te_22.h) rfl rfl ?_|refine ag_ rfl rfl rfl (.index_a rfl rfl (by omega) hgt rfl te_22.h) rfl rfl ?_
     first|refine ag_ rfl rfl rfl (.fieldAddr_l rfl TF.h (by decide)) rfl rfl ?_|refine ag_ rfl rfl rfl (.fieldAddr_a rfl TF.h (by decide)) rfl rfl ?_|refine au_ rfl rfl (by first|(simp[as_];done)|exact nofun) rfl rfl ?_
     first|refine ag_ rfl rfl rfl (.load_l1 rfl rfl hgt TG.h rfl) rfl rfl ?_|refine ag_ rfl rfl rfl (.load_a1 rfl hgt TG.h rfl) rfl rfl ?_
     refine c_s (t2) ?_;refine a_z ?_;exact cF (ah_ (⟨(),hok,SEnt.keep (all_cons rfl (all_cons rfl (all_cons rfl (all_cons rfl (all_cons rfl (all_cons rfl (all_cons rfl (all_cons rfl lg_)))))))) (by omega)⟩))
    |false=>
     rw[e2] at t2;have g2:12< degP (nL t.2):=by unfold dr_ at s2;rw[e2] at s2;simpa using s2
     refine s_r 26 ?_;refine a_2 ?_;refine i_x hgt ?_;refine a_1 ?_;refine l_1 hgt ?_;refine c_s (t1) ?_;refine c_s (d1) ?_;refine ag_ rfl rfl rfl (.bin rfl rfl (vF a7_ (decide_eq_false (by omega)))) rfl rfl ?_;refine a_2 ?_
     first|refine ag_ rfl rfl rfl (.move rfl) rfl rfl ?_|refine au_ rfl rfl (by first|(simp[as_];done)|exact nofun) rfl rfl ?_
     first|refine ag_ rfl rfl rfl (.move rfl) rfl rfl ?_|refine au_ rfl rfl (by first|(simp[as_];done)|exact nofun) rfl rfl ?_
     first|refine ag_ rfl rfl rfl (.index_l rfl rfl (by omega) (by omega) te_22.h) rfl rfl ?_|refine ag_ rfl rfl rfl (.index_a rfl rfl (by omega) hgt rfl te_22.h) rfl rfl ?_
     first|refine ag_ rfl rfl rfl (.fieldAddr_l rfl TF.h (by decide)) rfl rfl ?_|refine ag_ rfl rfl rfl (.fieldAddr_a rfl TF.h (by decide)) rfl rfl ?_|refine au_ rfl rfl (by first|(simp[as_];done)|exact nofun) rfl rfl ?_
     first|refine ag_ rfl rfl rfl (.load_l1 rfl rfl hgt TG.h rfl) rfl rfl ?_|refine ag_ rfl rfl rfl (.load_a1 rfl hgt TG.h rfl) rfl rfl ?_
     refine c_s (t2) ?_;refine c_s (d2) ?_;refine ag_ rfl rfl rfl (.bin rfl rfl (vF a7_ (decide_eq_false (by omega)))) rfl rfl ?_;refine a_z ?_;exact cF (ah_ (⟨(),hok,SEnt.keep (all_cons rfl (all_cons rfl (all_cons rfl (all_cons rfl (all_cons rfl (all_cons rfl (all_cons rfl (all_cons rfl lg_)))))))) (by omega)⟩))
  ·have s2':dr_ t.2=false:=by simpa using s2
   rw[bad (h3_ htm (by unfold en_;rw[hlong,s2'];simp))];have e2:tameB t.2 4=false:=by unfold dr_ at s2';rw[Bool.or_eq_false_iff] at s2';exact s2'.1
   have g2:¬12< degP (nL t.2):=by unfold dr_ at s2';rw[Bool.or_eq_false_iff] at s2';exact of_decide_eq_false s2'.2
   rw[e2] at t2;cases e1:tameB t.1 4 with
   |true=>
    rw[e1] at t1;refine s_r 26 ?_;refine a_2 ?_;refine i_x hgt ?_;refine a_1 ?_;refine l_1 hgt ?_;refine c_s (t1) ?_;refine a_2 ?_
    first|refine ag_ rfl rfl rfl (.move rfl) rfl rfl ?_|refine au_ rfl rfl (by first|(simp[as_];done)|exact nofun) rfl rfl ?_
    first|refine au_ rfl rfl (by first|(simp[as_];done)|exact nofun) rfl rfl ?_
    first|refine ag_ rfl rfl rfl (.bin rfl rfl a7_) rfl rfl ?_|refine au_ rfl rfl (by first|(simp[as_];done)|exact nofun) rfl rfl ?_
    refine a_2 ?_
    first|refine ag_ rfl rfl rfl (.move rfl) rfl rfl ?_|refine au_ rfl rfl (by first|(simp[as_];done)|exact nofun) rfl rfl ?_
    first|refine ag_ rfl rfl rfl (.move rfl) rfl rfl ?_|refine au_ rfl rfl (by first|(simp[as_];done)|exact nofun) rfl rfl ?_
    first|refine ag_ rfl rfl rfl (.index_l rfl rfl (by omega) (by omega) te_22.h) rfl rfl ?_|refine ag_ rfl rfl rfl (.index_a rfl rfl (by omega) hgt rfl te_22.h) rfl rfl ?_
    first|refine ag_ rfl rfl rfl (.fieldAddr_l rfl TF.h (by decide)) rfl rfl ?_|refine ag_ rfl rfl rfl (.fieldAddr_a rfl TF.h (by decide)) rfl rfl ?_|refine au_ rfl rfl (by first|(simp[as_];done)|exact nofun) rfl rfl ?_
    first|refine ag_ rfl rfl rfl (.load_l1 rfl rfl hgt TG.h rfl) rfl rfl ?_|refine ag_ rfl rfl rfl (.load_a1 rfl hgt TG.h rfl) rfl rfl ?_
    refine c_s (t2) ?_;refine c_s (d2) ?_;refine ag_ rfl rfl rfl (.bin rfl rfl (vT a7_ (decide_eq_true (by omega)))) rfl rfl ?_;refine a_z ?_;refine cT (r_z 3 ?_);refine af_ (Fin.many ⟨_,_,rfl,rfl,⟨_,_,rfl,rfl,⟨_,_,rfl,rfl,rfl⟩⟩⟩ (nle rfl) ?_);exact ai_ (Cv.emp _) (ai_ (Cv.emp _) (ai_ (ak_ ax_ (ad_ _)) an_))
   |false=>
    rw[e1] at t1;have g1:12< degP (nL t.1):=by unfold dr_ at s1;rw[e1] at s1;simpa using s1
    refine s_r 26 ?_;refine a_2 ?_;refine i_x hgt ?_;refine a_1 ?_;refine l_1 hgt ?_;refine c_s (t1) ?_;refine c_s (d1) ?_;refine ag_ rfl rfl rfl (.bin rfl rfl (vF a7_ (decide_eq_false (by omega)))) rfl rfl ?_;refine a_2 ?_
    first|refine ag_ rfl rfl rfl (.move rfl) rfl rfl ?_|refine au_ rfl rfl (by first|(simp[as_];done)|exact nofun) rfl rfl ?_
    first|refine ag_ rfl rfl rfl (.move rfl) rfl rfl ?_|refine au_ rfl rfl (by first|(simp[as_];done)|exact nofun) rfl rfl ?_
    first|refine ag_ rfl rfl rfl (.index_l rfl rfl (by omega) (by omega) te_22.h) rfl rfl ?_|refine ag_ rfl rfl rfl (.index_a rfl rfl (by omega) hgt rfl te_22.h) rfl rfl ?_
    first|refine ag_ rfl rfl rfl (.fieldAddr_l rfl TF.h (by decide)) rfl rfl ?_|refine ag_ rfl rfl rfl (.fieldAddr_a rfl TF.h (by decide)) rfl rfl ?_|refine au_ rfl rfl (by first|(simp[as_];done)|exact nofun) rfl rfl ?_
    first|refine ag_ rfl rfl rfl (.load_l1 rfl rfl hgt TG.h rfl) rfl rfl ?_|refine ag_ rfl rfl rfl (.load_a1 rfl hgt TG.h rfl) rfl rfl ?_
    refine c_s (t2) ?_;refine c_s (d2) ?_;refine ag_ rfl rfl rfl (.bin rfl rfl (vT a7_ (decide_eq_true (by omega)))) rfl rfl ?_;refine a_z ?_;refine cT (r_z 3 ?_);refine af_ (Fin.many ⟨_,_,rfl,rfl,⟨_,_,rfl,rfl,⟨_,_,rfl,rfl,rfl⟩⟩⟩ (nle rfl) ?_);exact ai_ (Cv.emp _) (ai_ (Cv.emp _) (ai_ (ak_ ax_ (ad_ _)) an_))
  ·have s1':dr_ t.1=false:=by simpa using s1
   rw[bad (h3_ htm (by unfold en_;rw[hlong,s1'];rfl))];have e1:tameB t.1 4=false:=by unfold dr_ at s1';rw[Bool.or_eq_false_iff] at s1';exact s1'.1
   have g1:¬12< degP (nL t.1):=by unfold dr_ at s1';rw[Bool.or_eq_false_iff] at s1';exact of_decide_eq_false s1'.2
   rw[e1] at t1;refine s_r 26 ?_;refine a_2 ?_;refine i_x hgt ?_;refine a_1 ?_;refine l_1 hgt ?_;refine c_s (t1) ?_;refine c_s (d1) ?_;refine ag_ rfl rfl rfl (.bin rfl rfl (vT a7_ (decide_eq_true (by omega)))) rfl rfl ?_
   first|refine aA_ (.pick rfl (fun _=>rfl) (fun _=>rfl)) rfl rfl ?_|refine aA_ (.pick rfl (fun _=>rfl) (fun h=>absurd h (by decide))) rfl rfl ?_|refine aA_ (.pick rfl (fun h=>absurd h (by decide)) (fun _=>rfl)) rfl rfl ?_
   refine o_0 (.move rfl) ?_
   first|refine ag_ rfl rfl rfl (.move rfl) rfl rfl ?_|refine au_ rfl rfl (by first|(simp[as_];done)|exact nofun) rfl rfl ?_
   first|refine ag_ rfl rfl rfl (.move rfl) rfl rfl ?_|refine au_ rfl rfl (by first|(simp[as_];done)|exact nofun) rfl rfl ?_
   first|refine ag_ rfl rfl rfl (.index_l rfl rfl (by omega) (by omega) te_22.h) rfl rfl ?_|refine ag_ rfl rfl rfl (.index_a rfl rfl (by omega) rfl rfl te_22.h) rfl rfl ?_|refine au_ rfl rfl (by first|(simp[as_];done)|exact nofun) rfl rfl ?_
   first|refine ag_ rfl rfl rfl (.fieldAddr_l rfl TF.h (by decide)) rfl rfl ?_|refine ag_ rfl rfl rfl (.fieldAddr_a rfl TF.h (by decide)) rfl rfl ?_|refine au_ rfl rfl (by first|(simp[as_];done)|exact nofun) rfl rfl ?_
   first|refine ag_ rfl rfl rfl (.load_l1 rfl rfl rfl TG.h rfl) rfl rfl ?_|refine ag_ rfl rfl rfl (.load_a1 rfl rfl TG.h rfl) rfl rfl ?_|refine au_ rfl rfl (by first|(simp[as_];done)|exact nofun) rfl rfl ?_
   first|refine au_ rfl rfl (by first|(simp[as_];done)|exact nofun) rfl rfl ?_
   first|refine ag_ rfl rfl rfl (.un rfl cR_) rfl rfl ?_|refine au_ rfl rfl (by first|(simp[as_];done)|exact nofun) rfl rfl ?_
   first|refine ag_ rfl rfl rfl (.move rfl) rfl rfl ?_|refine au_ rfl rfl (by first|(simp[as_];done)|exact nofun) rfl rfl ?_
   first|refine ag_ rfl rfl rfl (.move rfl) rfl rfl ?_|refine au_ rfl rfl (by first|(simp[as_];done)|exact nofun) rfl rfl ?_
   first|refine au_ rfl rfl (by first|(simp[as_];done)|exact nofun) rfl rfl ?_
   first|refine ag_ rfl rfl rfl (.bin rfl rfl a7_) rfl rfl ?_|refine au_ rfl rfl (by first|(simp[as_];done)|exact nofun) rfl rfl ?_
   first|refine ag_ rfl rfl rfl (.pick rfl (fun _=>rfl) (fun _=>rfl)) rfl rfl ?_|refine ag_ rfl rfl rfl (.pick rfl (fun _=>rfl) (fun h=>absurd h (by decide))) rfl rfl ?_|refine ag_ rfl rfl rfl (.pick rfl (fun h=>absurd h (by decide)) (fun _=>rfl)) rfl rfl ?_|refine au_ rfl rfl (by first|(simp[as_];done)|exact nofun) rfl rfl ?_
   first|refine aA_ (.pick rfl (fun _=>rfl) (fun _=>rfl)) rfl rfl ?_|refine aA_ (.pick rfl (fun _=>rfl) (fun h=>absurd h (by decide))) rfl rfl ?_|refine aA_ (.pick rfl (fun h=>absurd h (by decide)) (fun _=>rfl)) rfl rfl ?_
   refine al_ ?_;refine cT (r_z 3 ?_);refine af_ (Fin.many ⟨_,_,rfl,rfl,⟨_,_,rfl,rfl,⟨_,_,rfl,rfl,rfl⟩⟩⟩ (nle rfl) ?_);exact ai_ (Cv.emp _) (ai_ (Cv.emp _) (ai_ (ak_ ax_ (ad_ _)) an_))
  rintro _ hok;have hk:(keM l)[i]?=some (nL t.1,nL t.2):=by unfold keM;rw[List.getElem?_map,ht];rfl
  have hkt:(keM l).take (i+1)=(keM l).take i++[(nL t.1,nL t.2)]:=bm_ hk;have e1:kE ((keM l).take i)++[prC (nL t.1,nL t.2)]=kE ((keM l).take (i+1)):=by rw[hkt,rE_]
  have e2:keR ((keM l).take i)++[pkR (nL t.1,nL t.2)]=keR ((keM l).take (i+1)):=by rw[hkt,keR_snoc]
  have hnext:∀t'∈l.take (i+1),en_ t'=true:=fun t' h=>by
   rw[bm_ ht] at h;rcases List.mem_append.1 h with h|h
   exact hinv t' h;rw[List.mem_singleton.1 h];exact hok
  cases i with
  |zero=>
   rw[krS'.eq_1] at hS;cases hS;refine r_m 14 ?_;refine a_z ?_;refine r_m 3 ?_;refine a_z ?_;refine⟨0+1,by omega,⟨by omega,hnext⟩,?_⟩;rw[krS'.eq_2,←e1,←e2];refine s_x [(1,5),(2,6)] (fun hs=>e_18) (fun hs=>?_)
   ·repeat' (first|exact az_|refine h_c ?_ ?_|exact a9_ hs (b9_ [(nL t.1,nL t.2)])|exact a9_ hs (eu_ [(nL t.1,nL t.2)])|exact au_e|refine av_ ?_|exact an_|refine ai_ ?_ ?_|exact ak_ hs (cq_ l)|exact au_c)
  |succ i=>
   rw[krS'.eq_2] at hS;cases hS;have o1:=kE_one ((keM l).take (i+1));have o2:=keR_one ((keM l).take (i+1));have q1:(kE ((keM l).take (i+1))).length=i+1:=by rw[b4_,List.length_take,c1_];omega
   have q2:(keR ((keM l).take (i+1))).length=i+1:=by rw[fv_,List.length_take,c1_];omega
   refine r_m 14 ?_;refine o_0 (.move rfl) ?_;refine o_0 (.move rfl) ?_;refine o_0 (.move rfl) ?_;refine o_0 (.build TZ.h tp_98.h rfl rfl) ?_;refine o_1 (.buildSlice te_27.h TZ.h rfl (by decide) rfl rfl rfl (by first|(simp;done)|(simp[a4_,ofV];done)|rfl)) ?_;refine o_2 (.append_l rfl rfl rfl te_27.h rfl rfl rfl rfl rfl d_o (by first|exact cU_ _|exact cT_ _|exact ci_ _|exact cV_ _|exact cD_ _|assumption|rfl|simp) (by first|rfl|exact cU_ _|exact cT_ _|exact ci_ _|exact cV_ _|exact cD_ _|simp) rfl (.lsl rfl (nle rfl)) TZ.h rfl TB.h d_o (by first|(simp[maxLen];done)|(simp[maxLen];omega))) ?_;refine o_0 (.move rfl) ?_;refine o_0 (.move rfl) ?_;refine o_0 (.move rfl) ?_;refine o_0 (.build TZ.h tp_100.h rfl rfl) ?_;refine o_1 (.buildSlice te_29.h TZ.h rfl (by decide) rfl rfl rfl (by first|(simp;done)|(simp[a4_,ofV];done)|rfl)) ?_;refine o_2 (.append_l rfl rfl rfl te_29.h rfl rfl rfl rfl rfl d_o (by first|exact cU_ _|exact cT_ _|exact ci_ _|exact cV_ _|exact cD_ _|assumption|rfl|simp) (by first|rfl|exact cU_ _|exact cT_ _|exact ci_ _|exact cV_ _|exact cD_ _|simp) rfl (.lsl rfl (nle rfl)) TZ.h rfl TB.h d_o (by first|(simp[maxLen];done)|(simp[maxLen];omega))) ?_;refine o_0 (.assign rfl) ?_;refine o_0 (.assign rfl) ?_;refine al_ ?_;refine r_m 3 ?_;refine a_z ?_;refine⟨i+1+1,by omega,⟨by omega,hnext⟩,?_⟩;rw[krS'.eq_2];refine s_x [(1,5),(2,6)] (fun hs=>e_18) (fun hs=>?_)
   ·repeat' (first|exact az_|refine h_c ?_ ?_|exact aF_ hs e1 (b9_ _)|exact aF_ hs e2 (eu_ _)|exact au_e|refine av_ ?_|exact an_|refine ai_ ?_ ?_|exact ak_ hs (cq_ l)|exact au_c)
 rintro _ hall
 have hr1:r= .tup [.arr (kE (keM l)),.arr (keR (keM l)),bln true]:=by
  rw[hr,keV,show keOk l=true by unfold keOk;rw[hlen,List.all_eq_true.2 hall];rfl];rfl
 rw[hr1];cases hll:l.length with
 |zero=>
  have hl0:l=[]:=List.eq_nil_of_length_eq_zero hll;subst hl0;rw[krS'.eq_1];refine r_z 5 ?_;refine af_ (Fin.many ⟨_,_,rfl,rfl,⟨_,_,rfl,rfl,⟨_,_,rfl,rfl,rfl⟩⟩⟩ (nle rfl) ?_);exact ai_ (Cv.emp _) (ai_ (Cv.emp _) (ai_ (ak_ ax_ (ad_ _)) an_))
 |succ m=>
  have hkm:(keM l).take (m+1)=keM l:=List.take_of_length_le (by rw[c1_];omega);have q1:(kE (keM l)).length=m+1:=by rw[b4_,c1_];omega
  have q2:(keR (keM l)).length=m+1:=by rw[fv_,c1_];omega
  rw[krS'.eq_2,hkm];refine r_z 5 ?_;refine af_ (Fin.many ⟨_,_,rfl,rfl,⟨_,_,rfl,rfl,⟨_,_,rfl,rfl,rfl⟩⟩⟩ (nle rfl) ?_);exact ai_ (Cv.shut (B:=⟨98,2,kE (keM l)⟩) ax_ rfl (fun j B hj=>by cases hj) (by show 0+(m+1)≤(kE (keM l)).length;omega) (k4_ q1.symm (b9_ _))) (ai_ (Cv.shut (B:=⟨100,2,keR (keM l)⟩) ax_ rfl (fun j B hj=>by cases hj) (by show 0+(m+1)≤(keR (keM l)).length;omega) (k4_ q2.symm (eu_ _))) (ai_ (ak_ ax_ (ad_ _)) an_))
def epS(k:Ke)(g:Nat)(cap:List AV)(f:List Rat×List Rat→Rat):Nat→AState
 |0=>⟨[(1,.clos g [] cap),(8,.arr (kE k)),(9,i64 k.length),(10,i64 0),(5,.emp)],[],1,22⟩
 |i+1=>⟨[(1,.clos g [] cap),(8,.arr (kE k)),(9,i64 k.length),(10,i64 ((i+1:Nat):Int)),(5,.lsl 1 0 (i+1) none 3)],[(1,some ⟨46,3,pE ((k.take (i+1)).map f)⟩)],2,22⟩
theorem kL_(k:Ke)(g:Nat)(cap:List AV)(f:List Rat×List Rat→Rat)(hcap:∀c∈cap,Closed c)(hl:k.length≤1000)(hg:∀p∈k,FS g ((.agg (prC p)::cap).map coe) (.agg (qC (f p)))):FS 73 [.arr (kE k),.clos g [] cap] (.arr (pE (k.map f))):=by
 have hkl:(kE k).length=k.length:=b4_ k;have hcc:Closed (.clos g [] cap):=aG_ ac_ hcap;refine f_n Tryz.func73 ?_ ?_;exact aa_ (aE_ k) (aa_ hcc ac_);refine r_z 1 ?_;refine r_z 1 ?_;refine ab_ (r_z 3 ?_);refine aw_ (fun _:Unit=>⟨[(5,.arr (pE (k.map f)))],[],1,22⟩) (fun _=>True) ?_ ?_;refine ae_ (aq_ (epS k g cap f) (fun i=>k.length- i) (fun i=>i≤k.length) 0 (Nat.zero_le _) ?_ ?_);rw[epS.eq_1];exact s_x [] (fun hs=>e_5) (fun hs=>e_42);intro i hi;by_cases hlt:i< k.length;obtain⟨p,hp⟩:∃p,k[i]?=some p:=⟨_,List.getElem?_eq_getElem hlt⟩;have hg1:=hg p (List.mem_of_getElem? hp);have hlen:(k.take (i+1)).length=i+1:=by rw[List.length_take];omega
 have hnew:pE ((k.take i).map f)++[qC (f p)]=pE ((k.take (i+1)).map f):=by rw[bm_ hp,List.map_append,List.map_singleton,e2_];rfl
 cases i with
 |zero=>
  have hgt:(kE k)[((0:Int)).toNat]?=some (prC p):=gv_ hp _ rfl;rw[epS.eq_1];refine q_z 1 ?_;refine ab_ (cT (ah_ (ab_ (ae_ (s_r 4 ?_)))));refine i_x hgt ?_;refine l_x hgt ?_;refine a_z ?_;refine r_m 7 ?_;refine c_s (hg1) ?_;refine a_z ?_;refine r_m 2 ?_;refine a_z ?_;refine⟨0+1,by omega,by omega,?_⟩;rw[epS.eq_2];rw[←hnew];refine s_x [(1,5)] (fun hs=>e_5) (fun hs=>?_)
  ·repeat' (first|exact az_|refine h_c ?_ ?_|exact a9_ hs (aI_ [f p])|exact au_e|refine av_ ?_|exact an_|refine ai_ ?_ ?_|exact ak_ hs (aE_ k)|exact ak_ hs hcc|exact au_c)
 |succ i=>
  have hgt:(kE k)[(((i+1:Nat):Int)).toNat]?=some (prC p):=gv_ hp _ (by simp);have hone:=ci_ ((k.take (i+1)).map f);have hlen2:(pE ((k.take (i+1)).map f)).length=i+1:=by simp[pE];omega
  rw[epS.eq_2];refine q_z 1 ?_;refine ab_ (cT (ah_ (ab_ (ae_ (s_r 4 ?_)))));refine i_x hgt ?_;refine l_x hgt ?_;refine a_z ?_;refine r_m 7 ?_;refine c_s (hg1) ?_;refine a_z ?_;refine r_m 2 ?_;refine a_z ?_;refine⟨i+1+1,by omega,by omega,?_⟩;rw[epS.eq_2];refine s_x [(1,5)] (fun hs=>e_5) (fun hs=>?_)
  ·repeat' (first|exact az_|refine h_c ?_ ?_|exact aF_ hs hnew (aI_ _)|exact au_e|refine av_ ?_|exact an_|refine ai_ ?_ ?_|exact ak_ hs (aE_ k)|exact ak_ hs hcc|exact au_c)
 have hge:i=k.length:=by omega
 cases i with
 |zero=>
  have hk0:k=[]:=List.eq_nil_of_length_eq_zero hge.symm;subst hk0;rw[epS.eq_1];refine q_z 1 ?_;refine ab_ (cF (ao_ ⟨(),trivial,?_⟩));exact s_e []
 |succ i=>
  have hlen2:(pE (k.map f)).length=i+1:=by simp[pE];omega
  rw[epS.eq_2,hge,List.take_length];refine q_z 1 ?_;refine ab_ (cF (ao_ ⟨(),trivial,?_⟩));refine s_x [] (fun hs=>?_) (fun hs=>?_)
  ·repeat' (first|exact aH_|refine ap_ rfl ?_ ?_|(refine Cv.shut hs rfl (aK_ rfl) (by simp) ?_;exact aF_ hs (by rw[List.drop_zero];exact List.take_of_length_le (by simp)) (aI_ _))|exact au_c)
  ·repeat' (first|exact az_|refine h_c ?_ ?_|exact au_e|refine av_ ?_|exact an_|refine ai_ ?_ ?_|(refine Cv.shut hs rfl (aK_ rfl) (by simp) ?_;exact aF_ hs (by rw[List.drop_zero];exact List.take_of_length_le (by simp)) (aI_ _))|exact au_c)
 rintro _ _;refine r_z 2 ?_;exact af_ (t_e (ar_ _))
theorem b7_(n:Nat)(A:Mx)(L:List Nat):∀c∈[AV.arr (mE (rowsL n A)),.arr (lvE L),i64 n],Closed c:=aa_ (closed_mA _) (aa_ (aB_ (cs_ L)) (aa_ (ad_ _) ac_))
theorem dT_(n:Nat)(A:Mx)(L:List Nat):Closed (syV n (A,L)):=ay_ (b7_ n A L)
def bSy(n:Nat)(A:Mx)(L:List Nat):AV:= .aptr [[.arr (mE (rowsL n A)),.arr (lvE L),i64 n]] 0 0
theorem bg_(n:Nat)(A:Mx)(L:List Nat):Closed (bSy n A L):=aL_ (b7_ n A L)
theorem rx_{L:List Nat}{i c:Nat}(h:L[i]?=some c):∀e:Nat,e=i→(lvE L)[e]?=some [i64 c]:=fun e he=>by
 rw[he,lvE,List.getElem?_map,h];rfl
def onS(A:Mx)(n:Nat)(L:List Nat):Nat→AState
 |i=>⟨[(1,bSy n A L),(3,.lsl 1 0 n (some n) 3),(10,.arr (lvE L)),(11,i64 L.length),(12,i64 i)],[(1,some ⟨46,3,pE (oneJ A n L i)⟩)],2,31⟩
theorem nc_(A:Mx)(n:Nat)(L:List Nat)(hE:Ech A n n L)(hn:n≤25):FS 60 [syV n (A,L)] (.arr (pE (oneL A n L))):=by
 have hll:(lvE L).length=L.length:=fs_ L;have hLn:=hE.len2;refine f_n Tryz.func60 ?_ ?_;exact aa_ (dT_ n A L) ac_;refine r_z 2 ?_;refine AWp.ent (st':=⟨[(1,bSy n A L)],[],1,31⟩) ?_ ?_;have:=b7_ n A L;exact s_f [];refine r_z 4 ?_;refine ab_ (r_z 4 ?_);refine aw_ (fun _:Unit=>⟨[(3,.arr (pE (oneL A n L)))],[],1,31⟩) (fun _=>True) ?_ ?_;refine ae_ (aq_ (onS A n L) (fun i=>L.length- i) (fun i=>i≤L.length) 0 (Nat.zero_le _) ?_ ?_);rw[onS.eq_1,oneJ_0];refine s_x [(1,3)] (fun hs=>e_45) (fun hs=>?_)
 ·repeat' (first|exact az_|refine h_c ?_ ?_|exact CvLL.zeros hs n|exact au_e|refine av_ ?_|exact an_|refine ai_ ?_ ?_|exact ak_ hs (bg_ n A L)|exact ak_ hs (aB_ (cs_ L))|exact au_c)
 intro i hi;rw[onS.eq_1];by_cases hlt:i< L.length;obtain⟨c,hc⟩:∃c,L[i]?=some c:=⟨_,List.getElem?_eq_getElem hlt⟩;have hcn:=hE.lt i c hc;have hin:i< n:=by omega
 have hgt:(lvE L)[((i:Nat):Int).toNat]?=some [i64 c]:=rx_ hc _ (by simp);have hrow:(mE (rowsL n A))[((i:Nat):Int).toNat]?=some [.arr (pE (tabP (n+1) (A i)))]:=or_ (lM_ hin) _ (by simp);have hval:(pE (tabP (n+1) (A i)))[((n:Nat):Int).toNat]?=some (qC (A i n)):=df_ (by omega) _ (by simp);have hrl:(mE (rowsL n A)).length=n:=by simp
 have hpl:(pE (tabP (n+1) (A i))).length=n+1:=by simp[pE]
 have hol:(pE (oneJ A n L i)).length=n:=by simp[pE]
 obtain⟨v0,hv0⟩:=oneJ_get (A:=A) (L:=L) (i:=i) hcn (0+((c:Nat):Int).toNat) (by omega);refine q_z 1 ?_;refine ab_ (cT (ah_ (ab_ (ae_ (s_r 5 ?_)))));refine a_1 ?_;refine i_x hgt ?_;refine l_1 hgt ?_;refine a_z ?_;refine r_d hmix 13 ?_;refine a_5 ?_;refine i_x hrow ?_;refine l_1 hrow ?_;refine a_2 ?_;refine i_x hval ?_;refine l_x hval ?_;refine a_1 ?_;refine o_1n (.store rfl rfl hv0 rfl rfl rfl TS.h (nle rfl)) ?_;refine al_ (n_k ?_);refine r_m 2 ?_;refine a_z ?_;refine⟨i+1,by omega,by omega,?_⟩;rw[onS.eq_1];refine s_x [] (fun hs=>e_45) (fun hs=>?_)
 ·repeat' (first|exact az_|refine h_c ?_ ?_|exact aF_ hs (oneJ_s hE hc hcn (0+((c:Nat):Int).toNat) (by omega)) (aI_ _)|exact au_e|refine av_ ?_|exact an_|refine ai_ ?_ ?_|exact ak_ hs (bg_ n A L)|exact ak_ hs (aB_ (cs_ L))|exact au_c)
 have hge:i=L.length:=by omega
 refine q_z 1 ?_;refine ab_ (cF (ao_ ⟨(),trivial,?_⟩));rw[oneJ_n (by omega)];refine s_x [] (fun hs=>?_) (fun hs=>?_)
 ·repeat' (first|exact aH_|refine ap_ rfl ?_ ?_|(refine Cv.shut hs rfl (aK_ rfl) (by simp[pE]) ?_;exact aF_ hs (by rw[List.drop_zero];exact List.take_of_length_le (by simp[pE])) (aI_ _))|exact au_c)
 ·repeat' (first|exact az_|refine h_c ?_ ?_|exact au_e|refine av_ ?_|exact an_|refine ai_ ?_ ?_|(refine Cv.shut hs rfl (aK_ rfl) (by simp[pE]) ?_;exact aF_ hs (by rw[List.drop_zero];exact List.take_of_length_le (by simp[pE])) (aI_ _))|exact au_c)
 rintro _ _;refine r_z 2 ?_;exact af_ (t_e (ar_ _))
theorem rX_(A:Mx)(n:Nat)(L:List Nat)(e:List Rat)(hl:e.length=n+1):FS 138 [.arr (pE e),bSy n A L] (bln (decide (coP e n≠0))):=by
 have hl2:(pE e).length=e.length:=by simp[pE]
 have g1:(pE e)[((n:Nat):Int).toNat]?=some (qC (coP e n)):=by
  have:=bw_ (p:=e) (i:=n) (by omega);simp[pE,this]
 refine f_n Tryz.func138 ?_ ?_;exact aa_ (ar_ e) (aa_ (bg_ n A L) ac_);refine r_z 1 ?_;refine s_r 8 ?_;refine a_3 ?_;refine i_x g1 ?_;refine l_x g1 ?_;refine c_s (br_ (coP e n)) ?_;refine a_z ?_;refine af_ (aD_ rfl ?_ ?_);rw[show decide (coP e n≠0)=decide (sgZ (coP e n).num≠0) from decide_eq_decide.2 (not_congr sgZ_num_eq.symm)]
 first|rfl|(congr 1;cases hb:decide (sgZ (coP e n).num=0) with|true=>(have:=of_decide_eq_true hb;simp[this])|false=>(have:=of_decide_eq_false hb;simp[bln,bne,this]))
 exact ad_ _
theorem mE_el(k:List (List Rat)):∀e∈mE k,e.length=1:=fun e he=>by
 obtain⟨_,_,rfl⟩:=List.mem_map.1 he;rfl
theorem fs_noneS(A:Mx)(n:Nat)(L:List Nat)(hLn:L.length≤n)(hn:n≤25):FS 69 [syV n (A,L)] (bln (noneB n A L)):=by
 have hll:(lvE L).length=L.length:=fs_ L
 have hc:=mb_ ((rowsL n A).drop L.length) 138 [bSy n A L] (fun e=>decide (coP e n≠0)) (aa_ (bg_ n A L) ac_) (by simp;omega) (fun e he=>rX_ A n L e (by
  obtain⟨k,hk⟩:=List.mem_iff_getElem?.1 (List.mem_of_mem_drop he)
  have hlt:k< n:=by
   have:=(List.getElem?_eq_some_iff.1 hk).1;simpa using this
  rw[lM_ hlt] at hk;cases hk;simp)) rfl
 rw[←rv_] at hc;refine f_n Tryz.func69 ?_ ?_;exact aa_ (dT_ n A L) ac_;refine r_z 2 ?_;refine AWp.ent (st':=⟨[(1,bSy n A L)],[],1,11⟩) ?_ ?_;have:=b7_ n A L;exact s_f [];refine s_r 9 ?_;refine a_5 ?_;refine o_0 (.sa_l rfl rfl (l:=L.length) rfl (by simp;omega) te_126.h (mE_el _)) ?_;refine c_s (hc) ?_;refine a_z ?_;exact af_ (t_e (ad_ _))
end Go.Proofs.YtjkddcfoolilbaaGreatDoor
