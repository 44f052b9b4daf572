/- Part V24 of the proof. -/
import Derived.Test.YtdgbhlkabelmbaaGreatDoorV23
set_option linter.all false
namespace Go.Proofs.YtdgbhlkabelmbaaGreatDoor
open Go.Abs
set_option maxRecDepth 20000
def mulS(p:List Rat)(q:List Rat):Nat×List Rat→AState
 |(i,o)=>⟨[(1,.arr (pE q)),(5,.lsl 1 0 o.length (some o.length) 3),(25,.arr (pE p)),(26,i64 p.length),(27,i64 i)],[(1,some ⟨36,3,pE o⟩)],2,61⟩
def mulT(p:List Rat)(q:List Rat)(i:Nat)(a:Rat):Nat×List Rat→AState
 |(k,o)=>⟨[(1,.arr (pE q)),(5,.lsl 1 0 o.length (some o.length) 3),(6,i64 i),(7,.lptr 2 0 0),(25,.arr (pE p)),(26,i64 p.length),(27,i64 i),(35,.arr (pE q)),(36,i64 q.length),(37,i64 k)],[(1,some ⟨36,3,pE o⟩),(2,some ⟨36,3,[qC a]⟩)],3,61⟩
theorem HL(p q:List Rat)(s t:Nat)(hp:bdL p s)(hq:bdL q t)(hs:1≤s)(ht:1≤t)(h:p.length* (s+t+1)+1≤137438953472)(ht2:t≤137438953472)(hp1:p.length≤274877906944)(hq1:q.length≤274877906944):FS 87 [.arr (pE p),.arr (pE q)] (.arr (pE (aL p q))):=by
 refine f_c Tryz.func87 ?_;refine r_z 1 ?_;refine bi (fun _:Unit=>⟨[(0,.arr (pE p)),(1,.arr (pE q))],[],1,61⟩) (fun _=>p≠[]∧q≠[]) ?_ ?_;by_cases h1:p=[];subst h1;refine s_r 8 ?_;refine a_4 ?_;refine n_g rfl (by simp) ?_;refine n_g rfl (by simp) ?_;refine n_g rfl (by simp) ?_;refine o_0 (.pickT rfl (by simp) rfl) ?_;refine ao ?_;refine ap rfl (fun h=>?_) (fun h=>?_);refine r_z 1 ?_;refine ai ?_;unfold aL;rw[if_pos (.inl rfl)];exact Fin.tmpN rfl;cases h;have hp0:p.length≠0:=fun e=>h1 (List.length_eq_zero_iff.1 e);refine s_r 8 ?_;refine a_4 ?_;refine y_g rfl (by simp <;> omega) (.move rfl) ?_
 first|refine y_g rfl (by simp <;> omega) (.lenD rfl rfl rfl rfl te_38.h) ?_|refine y_g rfl (by simp <;> omega) (.lenI rfl rfl rfl rfl te_38.h) ?_|refine y_g rfl (by simp <;> omega) (.lenP rfl rfl rfl rfl te_38.h) ?_|refine y_g rfl (by simp <;> omega) (.lenC rfl rfl rfl rfl te_38.h) ?_|refine y_g rfl (by simp <;> omega) (.lenR rfl rfl rfl rfl te_38.h) ?_|refine y_g rfl (by simp <;> omega) (.len rfl rfl rfl rfl rfl te_38.h) ?_
 refine y_g rfl (by simp <;> omega) (.bin rfl rfl ci) ?_;refine o_0 (.pickF rfl (by simp <;> omega) rfl) ?_;refine ao ?_;refine ap rfl (fun h2=>?_) (fun h2=>?_)
 have hq0:q=[]:=by
  have:q.length=0:=by simpa using h2
  exact List.length_eq_zero_iff.1 this
 refine r_z 1 ?_;refine ai ?_;unfold aL;rw[if_pos (.inr hq0)];exact Fin.tmpN rfl
 have hq0:q≠[]:=by
  have:¬q.length=0:=by simpa using h2
  exact fun e=>this (by rw[e];rfl)
 refine ak ⟨(),⟨h1,hq0⟩,?_⟩;exact s_e [];rintro _ ⟨hp0,hq0⟩;have hpl:=List.length_pos_iff.2 hp0;have hql:=List.length_pos_iff.2 hq0;have hN:(p.length:Int)+q.length- 1=((p.length+q.length- 1:Nat):Int):=by omega
 refine s_r 8 ?_;refine a_6 ?_;refine o_1 (.makeSlice (l:=p.length+q.length- 1) (c:=p.length+q.length- 1) (by rw[←hN];rfl) (by rw[←hN];rfl) te_38.h TZ.h rfl TB.h (by first|omega|(simp;done)|(simp;omega)) (by first|omega|(simp;done)|(simp;omega)) (by unfold maxLen;first|omega|(simp;done)|(simp;omega))) ?_;refine a_z ?_;refine ae (r_z 3 ?_);have hbd:=fun i=>sw (eP hp hs) (eP hq ht) i
 have hbi:∀i,i≤p.length→i* (s+t+1)+1≤137438953472:=fun i hi=>by
  have:=Nat.mul_le_mul_right (s+t+1) hi;omega
 have hs2:s≤137438953472:=by
  have:=hbi 1 hpl;omega
 refine aG (fun _:Unit=>mulS p q (p.length,eQ p q p.length)) (fun _=>True) ?_ ?_;refine aj (aB (fun i:Nat=>mulS p q (i,eQ p q i)) (fun i=>p.length- i) (fun i=>i≤p.length) 0 (Nat.zero_le _) ?_ ?_);simp only[mulS.eq_1,eQ];exact s_x [(1,5)] (fun hs=>dU) (fun hs=>e_37);rintro i hi;simp only[mulS.eq_1];refine r_z 1 ?_;refine ae (ap rfl (fun h=>?_) (fun h=>?_));refine ak ?_;have hlt:i< p.length:=by simpa using h
 have hgp:(pE p)[((i:Nat):Int).toNat]?=some (qC (coP p i)):=pE_get (ca hlt);refine ae (aj (s_r 6 ?_));refine a_1 ?_;refine i_x hgp ?_;refine l_x hgp ?_;refine a_z ?_;refine ae (r_c 3 (cw (coP p i)) ?_);refine a_z ?_;refine ap rfl (fun h1=>?_) (fun h1=>?_)
 have h0:coP p i=0:=by
  have h1:sgZ (coP p i).num=0:=by simpa using h1
  exact sgZ_num_eq.1 h1
 have hst:eQ p q (i+1)=eQ p q i:=by rw[eQ,if_pos h0]
 refine ay (r_m 2 ?_);refine a_z ?_;refine⟨i+1,by omega,hlt,?_⟩;simp only[mulS.eq_1,hst];exact s_e []
 have h0:coP p i≠0:=by
  intro e;have h1:¬sgZ (coP p i).num=0:=by simpa using h1
  exact h1 (sgZ_num_eq.2 e)
 have hst:eQ p q (i+1)=jD (eQ p q i) (coP p i) q i q.length:=by rw[eQ,if_neg h0]
 refine ak (r_z 3 ?_);refine AWp.cutB (fun _:Unit=>mulS p q (i,eQ p q (i+1))) (fun _=>True) ?_ ?_;refine aj (aB (fun k:Nat=>mulT p q i (coP p i) (k,jD (eQ p q i) (coP p i) q i k)) (fun k=>q.length- k) (fun k=>k≤q.length) 0 (Nat.zero_le _) ?_ ?_);simp only[mulT.eq_1,jD];exact s_e [(2,7)];rintro k hk;simp only[mulT.eq_1];refine r_z 1 ?_;refine ae (ap rfl (fun h2=>?_) (fun h2=>?_));refine ak ?_;have hlt2:k< q.length:=by simpa using h2
 have hgq:(pE q)[((k:Nat):Int).toNat]?=some (qC (coP q k)):=pE_get (ca hlt2);refine ae (aj (s_r 6 ?_));refine a_1 ?_;refine i_x hgq ?_;refine l_x hgq ?_;refine a_z ?_;have hb1:=hbd i;have hb2:=hbi (i+1) hlt;have hb3:=hbi i hi
 have hcur:qs (coP (jD (eQ p q i) (coP p i) q i k) (i+k))≤137438953472:=by
  rw[tG _ _ _ _ _ _ (by omega)];exact Nat.le_trans (hb1 (i+k)) hb3
 have hab:=dK (coP p i) (coP q k);have hqa:=eP hp hs i;have hqb:=eP hq ht k;have hik:i+k< (jD (eQ p q i) (coP p i) q i k).length:=by simp;omega
 have hgo:(pE (jD (eQ p q i) (coP p i) q i k))[(0+(((i:Nat):Int)+(k:Nat)).toNat)]?=some (qC (coP (jD (eQ p q i) (coP p i) q i k) (i+k))):=by
  rw[show 0+(((i:Nat):Int)+(k:Nat)).toNat=i+k by omega];exact pE_get (ca hik)
 refine r_d a6 16 ?_;refine a_8 ?_;refine a_1 ?_
 first|refine aF (.load_l rfl rfl hgo TG.h TS.h (nle rfl)) rfl rfl ?_|refine aF (.load_a rfl hgo TG.h TS.h (nle rfl)) rfl rfl ?_
 refine c_s (cJ (coP p i) (coP q k) (by omega)) ?_;refine c_s (fh (coP (jD (eQ p q i) (coP p i) q i k) (i+k)) (coP p i* coP q k) (by omega)) ?_;refine a_1 ?_;refine dX (.store rfl rfl hgo rfl rfl rfl TS.h (nle rfl)) ?_;refine ao (n_k ?_);refine r_m 2 ?_;refine a_z ?_;refine⟨k+1,by omega,hlt2,?_⟩
 have hst2:(pE (jD (eQ p q i) (coP p i) q i k)).set (0+(((i:Nat):Int)+(k:Nat)).toNat) (qC (coP (jD (eQ p q i) (coP p i) q i k) (i+k)+coP p i* coP q k))=pE (jD (eQ p q i) (coP p i) q i (k+1)):=by
  rw[show 0+(((i:Nat):Int)+(k:Nat)).toNat=i+k by omega,iY];rfl
 have hl2:(jD (eQ p q i) (coP p i) q i (k+1)).length=(jD (eQ p q i) (coP p i) q i k).length:=by simp
 simp only[mulT.eq_1,hl2];exact s_x [] (fun hs=>dU) (fun hs=>e_38) e_8
 have hge:k=q.length:=by
  have:¬k< q.length:=by simpa using h2
  omega
 subst hge;refine ay ⟨(),trivial,?_⟩;simp only[mulS.eq_1,hst];exact s_e [];rintro _ _;simp only[mulS.eq_1];refine r_m 2 ?_;refine a_z ?_;refine⟨i+1,by omega,hlt,?_⟩;exact s_e []
 have hge:i=p.length:=by
  have:¬i< p.length:=by simpa using h
  omega
 subst hge;refine ay ⟨(),trivial,?_⟩;simp only[mulS.eq_1];exact s_e [];rintro _ _;simp only[mulS.eq_1]
 have hfull:List.take (eQ p q p.length).length (List.drop 0 (pE (eQ p q p.length)))=pE (eQ p q p.length):=by
  rw[List.drop_zero,List.take_of_length_le (by simp)]
 have hfin:aL p q=aq (eQ p q p.length):=by
  unfold aL;rw[if_neg (by rintro(h|h);exact hp0 h;exact hq0 h)]
 rw[hfin];refine s_r 3 ?_;refine a_1 ?_;refine o_1 (.callS1 rfl rfl rfl (.shut rfl d_n (.nil)) rfl ((by rw[hfull];exact dd (eQ p q p.length) (by simp;omega)))) ?_;refine a_z ?_;exact ai (t_e (ax _))
theorem GG(l:List Rat)(h0:l≠[])(hl:l.length≤1099511627776):OSpec Tryz.prog 94 [.arr (pE l)] 36 3 (pE l):=by
 have a:pE l≠[]:=by
  intro e;exact h0 (List.length_eq_zero_iff.1 (by rw[←EK,e];rfl))
 refine OSpec.enter Tryz.func94 rfl (by kernel_rfl) rfl rfl rfl ?_ ?_ rfl ?_;exact ac (aH (aJ _)) af;exact aJ l;refine r_z 1 ?_;refine ae (s_r 2 ?_);refine a_1 ?_
 first|refine aF (.nilq_v rfl rfl te_38.h) rfl rfl ?_|refine aF (.nilq_arr rfl (a) rfl te_38.h) rfl rfl ?_
 refine ao ?_;refine cF ?_
 ·refine ak (s_r 4 ?_)
  refine a_2 ?_;refine o_2 (.append_l rfl rfl rfl te_38.h rfl rfl rfl rfl rfl d_o (by first|exact dq _|exact dp _|exact cW _|exact dr _|exact dn _|assumption|rfl|simp) (by first|rfl|exact dq _|exact dp _|exact cW _|exact dr _|exact dn _|simp) rfl (.arr (lh _)) TZ.h rfl TB.h d_o (by first|(simp[maxLen];done)|(simp[maxLen];omega))) ?_;refine a_z ?_;exact ai (FinO.tmp rfl rfl rfl (by simp))
theorem os_Trim(l:List Rat)(h0:aq l≠[])(hl:l.length≤1099511627776):OSpec Tryz.prog 43 [.arr (pE l)] 36 3 (pE (aq l)):=by
 refine OSpec.enter Tryz.func43 rfl (by kernel_rfl) rfl rfl rfl ?_ ?_ rfl ?_;exact ac (aH (aJ _)) af;exact aJ _;refine r_z 1 ?_;refine r_z 3 ?_;refine bi (trS l) (fun n=>n≤l.length∧aq l=l.take n) ?_ ?_;refine aj (aB (trS l) (fun n=>n) (fun n=>n≤l.length∧aq l=aq (l.take n)) l.length ⟨Nat.le_refl _,by rw[List.take_length]⟩ ?_ ?_);simp only[trS.eq_1];exact s_e [];rintro n ⟨d,ht⟩;rw[trS.eq_1];cases n with
 |zero=>exact absurd (ht.trans rfl) h0
 |succ n=>
  obtain⟨q,c⟩:∃q,l[n]?=some q:=⟨_,List.getElem?_eq_getElem (by omega)⟩
  have a:(pE l)[(((n+1:Nat):Int)- 1).toNat]?=some (qC q):=by
   rw[show(((n+1:Nat):Int)- 1).toNat=n by omega];exact pE_get c
  have hs:aq (l.take (n+1))=if q=0 then aq (l.take n) else l.take (n+1):=by
   rw[cx c,jt]
  refine ae (s_r 11 ?_);refine a_3 ?_;refine y_g rfl (by simp <;> omega) (.move rfl) ?_;refine y_g rfl (by simp <;> omega) (.move rfl) ?_;refine y_g rfl (by simp <;> omega) (.bin rfl rfl (qh (by omega))) ?_
  first|refine y_g rfl (by simp <;> omega) (.index_l rfl rfl (by omega) (by omega) te_38.h) ?_|refine y_g rfl (by simp <;> omega) (.index_a rfl rfl (by omega) a rfl te_38.h) ?_
  first|refine y_g rfl (by simp <;> omega) (.load_l rfl rfl a TG.h TS.h (nle rfl)) ?_|refine y_g rfl (by simp <;> omega) (.load_a rfl a TG.h TS.h (nle rfl)) ?_
  refine y_g rfl (by simp <;> omega) (.call rfl rfl rfl (cw q)) ?_;refine y_g rfl (by simp <;> omega) (.bin rfl rfl ci) ?_;refine o_0 (.pickT rfl (by simp <;> omega) rfl) ?_;refine ao ?_;refine ap rfl (fun h=>?_) (fun h=>?_)
  have h0:q=0:=by
   have h1:sgZ q.num=0:=by simpa using h
   exact sgZ_num_eq.1 h1
  refine ak (aj (r_m 3 ?_));refine a_z ?_;refine⟨n,Nat.lt_succ_self n,⟨by omega,?_⟩,?_⟩;rw[ht,hs,if_pos h0];simp only[trS.eq_1];exact s_e []
  have h0:q≠0:=by
   intro e;have h1:¬sgZ q.num=0:=by simpa using h
   exact h1 (sgZ_num_eq.2 e)
  refine ay ⟨n+1,⟨d,?_⟩,?_⟩;rw[ht,hs,if_neg h0];simp only[trS.eq_1];exact s_e []
 rintro n ⟨d,ht⟩;rw[trS.eq_1];rw[ht] at h0;have b:=GG (l.take n) h0 (by simp;omega);refine s_r 5 ?_;refine a_2 ?_;refine o_0 (.sa_h rfl rfl (h:=n) rfl (by simp;omega) te_38.h (lh _)) ?_;refine o_1 (.callO rfl rfl rfl ((by rw[sj];exact b))) ?_;refine a_z ?_;refine ai ?_;rw[ht];exact FinO.tmp rfl rfl rfl (by simp)
def dvS(q:List Rat)(lead:Rat):Nat×List Rat×List Rat→AState
 |(c,u,o)=>⟨[(0,.lsl 1 0 o.length none 3),(1,.arr (pE q)),(4,.lsl 2 0 u.length (some u.length) 3),(6,.lptr 3 0 0),(7,i64 ((c:Int)- 1))],[(1,some ⟨36,3,pE o⟩),(2,some ⟨36,3,pE u⟩),(3,some ⟨36,3,[qC lead]⟩)],4,82⟩
def dvT(q:List Rat)(lead:Rat)(n:Nat)(u:List Rat)(k:Rat):Nat×List Rat→AState
 |(i,o)=>⟨[(0,.lsl 1 0 o.length none 3),(1,.arr (pE q)),(4,.lsl 2 0 u.length (some u.length) 3),(6,.lptr 3 0 0),(7,i64 n),(8,.lptr 4 0 0),(55,.arr (pE q)),(56,i64 q.length),(57,i64 i)],[(1,some ⟨36,3,pE o⟩),(2,some ⟨36,3,pE u⟩),(3,some ⟨36,3,[qC lead]⟩),(4,some ⟨36,3,[qC k]⟩)],5,82⟩
theorem qN(p q:List Rat)(s t:Nat)(hp:bdL p s)(hq:bdL q t)(hs:1≤s)(ht:1≤t)(h:2^ ((aq p).length+1- (aq q).length) * (s+2* t+1)≤137438953472)(hq0:aq q≠[])(hp1:p.length≤274877906944)(hq1:q.length≤274877906944):FS 225 [.arr (pE p),.arr (pE q)] (.tup [.arr (pE (fW p q).1),.arr (pE (fW p q).2)]):=by
 have hlp:=bF p;have hlq:=bF q;have hql:=List.length_pos_iff.2 hq0
 have hg:(pE (aq q))[(((aq q).length:Int)- 1).toNat]?=some (qC (aS q)):=by
  rw[show(((aq q).length:Int)- 1).toNat=(aq q).length- 1 by omega];exact pE_get (ef (by omega))
 have hne:=fZ hq0;obtain⟨m,hm⟩:∃m,m=(aq p).length+1- (aq q).length:=⟨_,rfl⟩;have hmx:(if (0:Int)>((aq p).length:Int)- (aq q).length+1 then(0:Int) else((aq p).length:Int)- (aq q).length+1)=(m:Int):=by split <;> omega
 have hB:CJ (aq q) (aS q) 137438953472 m (List.replicate m 0) (aq p):=by
  refine⟨s,t,eP (fun x hx=>hp x (c7 hx)) hs,eP (fun x hx=>hq x (c7 hx)) ht,hq _ (c7 (List.mem_of_getElem? (ef (n:=(aq q).length- 1) (by omega)))),ht,fun n=>?_,by rw[hm];exact h⟩
  have:coP (List.replicate m 0) n=0:=by
   unfold coP;rw[List.getD_eq_getElem?_getD,List.getElem?_replicate];split <;> rfl
  rw[this];decide
 have hdv:fW p q=(aq (pY (aq q) (aS q) m (List.replicate m 0) (aq p)).1,aq (pY (aq q) (aS q) m (List.replicate m 0) (aq p)).2):=by rw[hm];rfl
 rw[hdv];refine f_c Tryz.func225 ?_;refine r_z 2 ?_;by_cases hp0:aq p=[]
 ·have hm0:m=0:=by rw[hm,hp0];simp;omega
  subst hm0;rw[hp0] at hmx⊢;have htp:=dd p (by omega);rw[hp0] at htp;refine r_c 6 (htp) ?_;refine c_s (dd q (by omega)) ?_;refine a_z ?_;refine s_r 8 ?_;refine a_4 ?_;refine i_x hg ?_;refine l_x hg ?_;refine a_z ?_;refine s_r 9 ?_;refine a_7 ?_;refine o_1 (.makeSlice (l:=0) (c:=0) (by rw[←hmx];rfl) (by rw[←hmx];rfl) te_38.h TZ.h rfl TB.h (by first|omega|(simp;done)|(simp;omega)) (by first|omega|(simp;done)|(simp;omega)) (by unfold maxLen;first|omega|(simp;done)|(simp;omega))) ?_;refine a_z ?_;refine ae (r_z 6 ?_);refine aG (fun _:Unit=>⟨[(0,.arr (pE [])),(4,.lsl 2 0 0 (some 0) 3)],[(2,some ⟨36,3,[]⟩)],3,82⟩) (fun _=>True) ?_ ?_;refine aj (aB (fun _:Unit=>⟨[(0,.arr (pE [])),(4,.lsl 2 0 0 (some 0) 3),(7,i64 (0- ((aq q).length:Int)))],[(2,some ⟨36,3,[]⟩)],3,82⟩) (fun _=>0) (fun _=>True) () trivial ?_ ?_);exact s_x [(2,4)] (fun hs=>dU) (fun hs=>e_19);rintro _ _;refine ae (r_z 2 ?_);refine ap rfl (fun h1=>?_) (fun h1=>?_);exact absurd h1 (by simp;omega);refine ay ⟨(),trivial,?_⟩;exact s_x [] (fun hs=>dU) (fun hs=>e_19);rintro _ _;refine s_r 6 ?_;refine a_1 ?_;refine o_1 (.callS1 rfl rfl rfl (.shut rfl d_n (.nil)) rfl ((dd [] (by simp)))) ?_;refine c_s (dd [] (by simp)) ?_;refine a_z ?_;refine ai (Fin.many ⟨_,_,rfl,rfl,⟨_,_,rfl,rfl,rfl⟩⟩ (nle rfl) ?_);exact ah (am aD (ax _)) (ah (am aD (ax _)) av)
 have hpl:=List.length_pos_iff.2 hp0;have hto:=os_Trim p hp0 (by omega);have hdl:=j7 (aq q) (aS q) m (List.replicate m 0) (aq p);have hend:=yp hB;refine s_r 6 ?_;refine a_1 ?_;refine o_1 (.callO rfl rfl rfl (hto)) ?_;refine c_s (dd q (by omega)) ?_;refine a_z ?_;refine AWp.ent (st':=⟨[(0,.lsl 1 0 (aq p).length none 3),(1,.arr (pE (aq q)))],[(1,some ⟨36,3,pE (aq p)⟩)],2,82⟩) ?_ ?_;exact s_e [(1,0)];refine s_r 8 ?_;refine a_4 ?_;refine i_x hg ?_;refine l_x hg ?_;refine a_z ?_;refine s_r 9 ?_;refine a_7 ?_;refine o_1 (.makeSlice (l:=m) (c:=m) (by rw[←hmx];rfl) (by rw[←hmx];rfl) te_38.h TZ.h rfl TB.h (by first|omega|(simp;done)|(simp;omega)) (by first|omega|(simp;done)|(simp;omega)) (by unfold maxLen;first|omega|(simp;done)|(simp;omega))) ?_;refine a_z ?_;refine ae (r_z 6 ?_);refine aG (fun x:List Rat×List Rat=>⟨[(0,.lsl 1 0 x.2.length none 3),(4,.lsl 2 0 x.1.length (some x.1.length) 3)],[(1,some ⟨36,3,pE x.2⟩),(2,some ⟨36,3,pE x.1⟩)],3,82⟩) (fun x=>x=pY (aq q) (aS q) m (List.replicate m 0) (aq p)) ?_ ?_;refine aj ?_;by_cases hab:(aq p).length< (aq q).length;have hm0:m=0:=by omega
 subst hm0;refine aB (fun _:Unit=>⟨[(0,.lsl 1 0 (aq p).length none 3),(4,.lsl 2 0 0 (some 0) 3),(7,i64 (((aq p).length:Int)- ((aq q).length:Int)))],[(1,some ⟨36,3,pE (aq p)⟩),(2,some ⟨36,3,[]⟩)],3,82⟩) (fun _=>0) (fun _=>True) () trivial ?_ ?_;exact s_x [(1,0),(2,4)] (fun hs=>dU) (fun hs=>e_19);rintro _ _;refine ae (r_z 2 ?_);refine ap rfl (fun h1=>?_) (fun h1=>?_);exact absurd h1 (by simp;omega);refine ay ⟨([],aq p),rfl,?_⟩;exact s_f [];refine aB (fun x:Nat×List Rat×List Rat=>dvS (aq q) (aS q) x) (fun x=>x.1) (fun x=>x.1≤m∧x.2.1.length=m∧x.2.2.length=(aq p).length∧CJ (aq q) (aS q) 137438953472 x.1 x.2.1 x.2.2∧pY (aq q) (aS q) x.1 x.2.1 x.2.2=pY (aq q) (aS q) m (List.replicate m 0) (aq p)) (m,List.replicate m 0,aq p) ⟨Nat.le_refl _,by simp,rfl,hB,rfl⟩ ?_ ?_;simp only[dvS.eq_1];have hm1:((aq p).length:Int)- (aq q).length=(m:Int)- 1:=by omega
 rw[hm1];exact s_x [(1,0),(2,4),(3,6)] (fun hs=>dU) (fun hs=>e_37);rintro⟨c,u,o⟩ ⟨hc,hu,ho,hb,hr⟩;simp only at hc hu ho hb hr;simp only[dvS.eq_1];cases c with
 |zero=>
  refine ae (r_z 2 ?_);refine ap rfl (fun h1=>?_) (fun h1=>?_);exact absurd h1 (by simp);refine ay ⟨(u,o),hr,?_⟩;exact s_e []
 |succ n=>
  obtain⟨B,tt,hb1,hb2,hb3,hb4⟩:=Ay hb;have hcn:((n+1:Nat):Int)- 1=(n:Int):=by omega
  rw[hcn];refine ae (r_z 2 ?_);refine ap rfl (fun h1=>?_) (fun h1=>?_);refine ak ?_;obtain⟨k,hk⟩:∃k,k=coP o (n+(aq q).length- 1) / aS q:=⟨_,rfl⟩;have hst:=wA hb;rw[pY] at hr;rw[←hk] at hst hr
  have hgo:(pE o)[(0+(((n:Nat):Int)+((aq q).length:Nat)- 1).toNat)]?=some (qC (coP o (n+(aq q).length- 1))):=by
   rw[show 0+(((n:Nat):Int)+((aq q).length:Nat)- 1).toNat=n+(aq q).length- 1 by omega];exact pE_get (ca (by omega))
  have hov:=gU (coP o (n+(aq q).length- 1)) (aS q) hne (by have:=hb1 (n+(aq q).length- 1);omega);rw[←hk] at hov
  have hgu:(pE u)[0+((n:Nat):Int).toNat]?=some (qC (coP u n)):=by
   rw[show 0+((n:Nat):Int).toNat=n by omega];exact pE_get (ca (by omega))
  refine ae (aj (ae (r_d a6 12 ?_)));refine a_7 ?_
  first|refine aF (.load_l rfl rfl hgo TG.h TS.h (nle rfl)) rfl rfl ?_|refine aF (.load_a rfl hgo TG.h TS.h (nle rfl)) rfl rfl ?_
  refine c_s (hov) ?_;refine a_2 ?_;refine ao (n_k ?_);refine s_r 5 ?_;refine a_4 ?_;refine dX (.store rfl rfl hgu rfl rfl rfl TS.h (nle rfl)) ?_;refine ao ?_
  have hsu:(pE u).set (0+((n:Nat):Int).toNat) (qC k)=pE (u.set n k):=by
   rw[show 0+((n:Nat):Int).toNat=n by omega,iY]
  have hlu:(u.set n k).length=u.length:=by simp
  refine ae (r_c 3 (cw k) ?_);refine a_z ?_;refine ap rfl (fun h2=>?_) (fun h2=>?_)
  have h0:k=0:=by
   have h2:sgZ k.num=0:=by simpa using h2
   exact sgZ_num_eq.1 h2
  rw[if_pos h0] at hst hr;refine ay (r_m 3 ?_);refine a_z ?_;refine⟨(n,u.set n k,o),Nat.lt_succ_self n,⟨by omega,by simp only;omega,ho,hst,hr⟩,?_⟩;simp only[dvS.eq_1,hlu];exact s_f []
  have h0:k≠0:=by
   intro e;have h2:¬sgZ k.num=0:=by simpa using h2
   exact h2 (sgZ_num_eq.2 e)
  rw[if_neg h0] at hst hr;refine ak (r_z 3 ?_);refine AWp.cutB (fun _:Unit=>⟨[(0,.lsl 1 0 o.length none 3),(1,.arr (pE (aq q))),(4,.lsl 2 0 u.length (some u.length) 3),(6,.lptr 3 0 0),(7,i64 n)],[(1,some ⟨36,3,pE (jE o k (aq q) n (aq q).length)⟩),(2,some ⟨36,3,pE (u.set n k)⟩),(3,some ⟨36,3,[qC (aS q)]⟩)],4,82⟩) (fun _=>True) ?_ ?_;refine aj (aB (fun i:Nat=>dvT (aq q) (aS q) n (u.set n k) k (i,jE o k (aq q) n i)) (fun i=>(aq q).length- i) (fun i=>i≤(aq q).length) 0 (Nat.zero_le _) ?_ ?_);simp only[dvT.eq_1,jE,hlu];exact s_f [(4,8)];rintro i hi;simp only[dvT.eq_1];refine r_z 1 ?_;refine ae (ap rfl (fun h3=>?_) (fun h3=>?_));refine ak ?_;have hlt2:i< (aq q).length:=by simpa using h3
  have hgq:(pE (aq q))[((i:Nat):Int).toNat]?=some (qC (coP (aq q) i)):=pE_get (ca hlt2)
  have hcur:qs (coP (jE o k (aq q) n i) (n+i))≤B:=by
   rw[y5 _ _ _ _ _ _ (by omega)];exact hb1 _
  have hkq:qs k≤B+tt:=by
   have e1:=gO (coP o (n+(aq q).length- 1)) (aS q);have e2:=hb1 (n+(aq q).length- 1);rw[hk];omega
  have hkm:=dK k (coP (aq q) i);have hqi:=hb2 i;have hik:n+i< (jE o k (aq q) n i).length:=by simp;omega
  have hgr:(pE (jE o k (aq q) n i))[(0+(((n:Nat):Int)+(i:Nat)).toNat)]?=some (qC (coP (jE o k (aq q) n i) (n+i))):=by
   rw[show 0+(((n:Nat):Int)+(i:Nat)).toNat=n+i by omega];exact pE_get (ca hik)
  refine ae (aj (s_r 6 ?_));refine a_1 ?_;refine i_x hgq ?_;refine l_x hgq ?_;refine a_z ?_;refine r_d a6 16 ?_;refine a_8 ?_;refine a_1 ?_
  first|refine aF (.load_l rfl rfl hgr TG.h TS.h (nle rfl)) rfl rfl ?_|refine aF (.load_a rfl hgr TG.h TS.h (nle rfl)) rfl rfl ?_
  refine c_s (cJ k (coP (aq q) i) (by omega)) ?_;refine c_s (jL (coP (jE o k (aq q) n i) (n+i)) (k* coP (aq q) i) (by omega)) ?_;refine a_1 ?_;refine dX (.store rfl rfl hgr rfl rfl rfl TS.h (nle rfl)) ?_;refine ao (n_k ?_);refine r_m 2 ?_;refine a_z ?_;refine⟨i+1,by omega,hlt2,?_⟩
  have hst2:(pE (jE o k (aq q) n i)).set (0+(((n:Nat):Int)+(i:Nat)).toNat) (qC (coP (jE o k (aq q) n i) (n+i)- k* coP (aq q) i))=pE (jE o k (aq q) n (i+1)):=by
   rw[show 0+(((n:Nat):Int)+(i:Nat)).toNat=n+i by omega,iY];rfl
  have hl2:(jE o k (aq q) n (i+1)).length=(jE o k (aq q) n i).length:=by simp
  simp only[dvT.eq_1,hl2];exact s_x [] (fun hs=>dU) (fun hs=>e_38) e_8
  have hge:i=(aq q).length:=by
   have:¬i< (aq q).length:=by simpa using h3
   omega
  subst hge;refine ay ⟨(),trivial,?_⟩;rw[lS,hlu];exact s_e [];rintro _ _;refine r_m 3 ?_;refine a_z ?_;refine⟨(n,u.set n k,jE o k (aq q) n (aq q).length),Nat.lt_succ_self n,⟨by omega,by simp only;omega,by simp only;rw[lS];exact ho,hst,hr⟩,?_⟩;simp only[dvS.eq_1,hlu,lS];exact s_e [];exact absurd h1 (by simp)
 rintro⟨u,o⟩ hx;rw[←hx] at hdl hend⊢;simp only at hdl hend⊢;have hlu:u.length≤274877906945:=by rw[hdl.1];simp;omega
 have hfu:List.take u.length (List.drop 0 (pE u))=pE u:=by rw[List.drop_zero,List.take_of_length_le (by simp)]
 have hfo:List.take o.length (List.drop 0 (pE o))=pE o:=by rw[List.drop_zero,List.take_of_length_le (by simp)]
 refine s_r 6 ?_;refine a_1 ?_;refine o_1 (.callS1 rfl rfl rfl (.shut rfl d_n (.nil)) rfl ((by rw[hfu];exact dd u (by omega)))) ?_;refine a_1 ?_;refine o_1 (.callS1 rfl rfl rfl (.shut rfl d_n (.nil)) rfl ((by rw[hfo];exact dd o (by rw[hdl.2];omega)))) ?_;refine a_z ?_;refine ai (Fin.many ⟨_,_,rfl,rfl,⟨_,_,rfl,rfl,rfl⟩⟩ (nle rfl) ?_);exact ah (am aD (ax _)) (ah (am aD (ax _)) av)
def gcS:List Rat×List Rat→AState
 |(p,q)=>⟨[(0,.arr (pE p)),(1,.arr (pE q))],[],1,21⟩
theorem B6(p:List Rat)(q:List Rat):gcS (p,q)=⟨[(0,.arr (pE p)),(1,.arr (pE q))],[],1,21⟩:=rfl
theorem degP_neg{l:List Rat}:bD l< 0↔aq l=[]:=by
 unfold bD;constructor;intro h;exact List.length_eq_zero_iff.1 (by omega);intro h;rw[h];decide
theorem HN(f:Nat)(p q g:List Rat)(h:EX f p q=some g)(hp1:p.length≤274877906944)(hq1:q.length≤274877906944):FS 226 [.arr (pE p),.arr (pE q)] (.arr (pE g)):=by
 refine f_c Tryz.func226 ?_;refine r_z 1 ?_;refine bi (fun p:List Rat=>⟨[(0,.arr (pE p))],[],1,21⟩) (fun p=>smL p∧p.length≤274877906944∧g=ki p) ?_ ?_;refine aj (aB (fun x:Nat×List Rat×List Rat=>gcS x.2) (fun x=>x.1) (fun x=>EX x.1 x.2.1 x.2.2=some g∧x.2.1.length≤274877906944∧x.2.2.length≤274877906944) (f,p,q) ⟨h,hp1,hq1⟩ ?_ ?_);simp only[B6];exact s_e [];rintro⟨f,p,q⟩ ⟨h,hp1,hq1⟩;simp only at h hp1 hq1;simp only[B6];cases f with
 |zero=>cases h
 |succ f=>
  rw[EX] at h;refine ae (r_c 3 (dk q (by omega)) ?_);refine a_z ?_;refine ap rfl (fun h1=>?_) (fun h1=>?_)
  ·have a:aq q≠[]:=by
    intro e;have e2:=degP_neg.2 e;simp at h1;omega
   rw[if_neg a] at h;split at h
   case isFalse=>cases h
   case isTrue hs=>
   have b:=uK (p:=p) (q:=q);have c:=BQ (fW p q).2;refine ak (aj (r_c 8 (qN p q (mxL p) (mxL q) (eO p) (eO q) (ew p) (ew q) hs.1 a hp1 hq1) ?_));refine a_z ?_;refine r_m 5 ?_;refine c_s (ui (fW p q).2 (yq hs a).2 (by omega)) ?_;refine a_z ?_;refine⟨(f,q,ki (fW p q).2),Nat.lt_succ_self f,⟨h,hq1,by simp only;omega⟩,?_⟩;simp only[B6];exact s_e []
  ·have a:aq q=[]:=by
    refine degP_neg.1 ?_;simp at h1;omega
   rw[if_pos a] at h;split at h
   case isFalse=>cases h
   case isTrue hs=>
   cases h;refine ay ⟨p,⟨hs,hp1,rfl⟩,?_⟩;exact s_e []
 rintro p ⟨hs,hp1,rfl⟩;refine r_c 3 (ui p hs (by omega)) ?_;refine a_z ?_;exact ai (t_e (ax _))

theorem kp(l:List Rat)(hl:l.length≤281474976710656):GSpec Tryz.prog 239 [bP l] (kX l):=by
 refine GSpec.enter Tryz.func239 rfl (by kernel_rfl) rfl rfl rfl ?_ ?_ rfl ?_;exact ac (cV l) af;intro k xs h;unfold kX at h;split at h;cases h;exact ac (ag _) (ac (aT _) af);cases h;intro b N E;refine GWp.seq ?_;refine GWp.lift ?_;refine r_m 4 ?_;refine a_z ?_;refine GWp.block ?_;refine GWp.loopS (fun m:Nat=>⟨[(0,.v (.func (.yield b) #[] #[])),(1,bP l),(3,i64 ((m:Int)- 1))],[],1,19⟩) (fun m=>l.length- m) (fun m=>m) (fun m=>m≤l.length) l.length (Nat.le_refl _) (by simp) ?_ ?_;exact s_e [];intro m e;refine GWp.seq ?_;refine GWp.seq ?_;refine GWp.lift ?_;refine r_m 2 ?_;refine a_z ?_;refine GWp.cond rfl (fun h=>?_) (fun h=>?_)
 ·refine GWp.skip ?_
  have c:1≤m:=by have:=of_decide_eq_true h;omega
  have a:(pE l)[((m:Int)- 1).toNat]?=some (qC (coP l (m- 1))):=by rw[show((m:Int)- 1).toNat=m- 1 by omega];exact pE_get (ca (by omega))
  refine GWp.seq ?_;refine GWp.block ?_;refine GWp.seq ?_;refine GWp.regY (fr2:=[(0,.v (.func (.yield b) #[] #[])),(1,bP l),(3,i64 ((m:Int)- 1)),(11,.v (.func (.yield b) #[] #[])),(12,i64 ((m:Int)- 1)),(16,.agg (qC (coP l (m- 1))))]) (hp2:=[]) (nx2:=1) 6 rfl rfl rfl rfl rfl rfl ?_ rfl rfl rfl ?_ ?_ ?_;refine o_0 (.move rfl) ?_;refine o_0 (.move rfl) ?_
  first|refine aF (.load_l1 rfl rfl rfl TG.h rfl) rfl rfl ?_|refine aF (.load_a1 rfl rfl TG.h rfl) rfl rfl ?_
  refine o_0 (.move rfl) ?_;refine i_x a ?_;refine l_x a ?_;refine ao ?_;exact s_y [] (fun hs=>dU) (fun hs=>kZ);rotate_left 2;intro d;refine o_0 (.un rfl lM) ?_;refine ao ?_;rotate_left;unfold kX;rw[if_pos (by omega)];have e1:((l.length- 1- (l.length- m):Nat):Int)=(m:Int)- 1:=by omega
  have e2:l.length- 1- (l.length- m)=m- 1:=by omega
  rw[e1,e2];rfl;exact ac (ag _) (ac (aT _) af);cases d with
  |false=>
   refine GWp.cond rfl (fun h=>?_) (fun h=>?_);exact GWp.ret ⟨.inr rfl,fun h=>by cases h⟩;cases h
  |true=>
   refine GWp.cond rfl (fun h=>?_) (fun h=>?_);cases h;refine GWp.skip ?_;refine GWp.lift ?_;refine r_m 3 ?_;refine a_z ?_;refine⟨rfl,m- 1,by omega,by omega,by omega,?_⟩;exact s_e []
 refine GWp.exit ⟨.inl rfl,fun _=>?_⟩;have:m=0:=by have:=of_decide_eq_false h;omega
 subst this;unfold kX;rw[if_neg (by omega)]
theorem kr(l:List Rat):FS 199 [.arr (pE l)] (.clos 239 [] [bP l]):=by
 refine f_c Tryz.func199 ?_;refine r_z 2 ?_;refine r_z 2 ?_;refine ai (⟨.inr rfl,[_],⟨_,[],rfl,rfl,rfl⟩,?_⟩);exact Cv.clos av (ah (Cv.boxp aD rfl (fun _ _ h=>by cases h) rfl (ac (ax l) af)) av)
def hoS(p:List Rat)(g:Nat)(cap:List AV)(w:Nat→Rat):Nat→AState
 |k=>⟨[(4,.lptr 1 0 0),(5,.aptr [[.clos g [] cap]] 0 0),(6,.lptr 2 0 0),(10,.clos 239 [] [bP p])],[(1,some ⟨36,3,[qC (w k)]⟩),(2,some ⟨36,3,[zC]⟩)],3,18⟩
theorem Ck(p:List Rat)(g:Nat)(cap:List AV)(w:Nat→Rat)(hl:p.length≤281474976710656)(hcap:∀c∈cap,Closed c)(hg:∀k,k< p.length→FS g ((.agg (qC (w k)):: .agg (qC (coP p (p.length- 1- k)))::cap).map coe) (.agg (qC (w (k+1))))):FS 157 [.arr (pE p),.agg (qC (w 0)),.clos g [] cap] (.agg (qC (w p.length))):=by
 have hb:=kr p;have d:=kp p hl;have b:Closed (.clos g [] cap):=aP af hcap;have i:Closed (.aptr [[.clos g [] cap]] 0 0):=ba (ac b af);have f:Closed (.clos 239 [] [bP p]):=aP af (ac (cV p) af);refine f_c Tryz.func157 ?_;refine r_z 3 ?_;refine AWp.ent (st':=⟨[(0,.arr (pE p)),(4,.lptr 1 0 0),(5,.aptr [[.clos g [] cap]] 0 0),(6,.lptr 2 0 0)],[(1,some ⟨36,3,[qC (w 0)]⟩),(2,some ⟨36,3,[zC]⟩)],3,18⟩) ?_ ?_;have:=ac b af;exact s_f [(1,4),(2,6)];refine ae (r_c 2 (hb) ?_);refine ao ?_;refine aG (fun _:Unit=>⟨[(4,.lptr 1 0 0),(6,.lptr 2 0 0)],[(1,some ⟨36,3,[qC (w p.length)]⟩),(2,some ⟨36,3,[zC]⟩)],3,18⟩) (fun _=>True) ?_ ?_;refine aj (AWp.rangeFunc (α:=Nat) (γ:=Empty) p.length (hoS p g cap w) (fun k=>k) (fun k=>k≤p.length) (fun e=>nomatch e) (fun _ e=>nomatch e) 0 rfl d rfl rfl ?_ (fun _=>⟨rfl,rfl⟩) (fun e=>nomatch e) (Nat.zero_le _) rfl (fun _ h=>h) ?_ ?_ ?_ ?_ (fun _ e=>nomatch e));intro k xs a;unfold kX at a;split at a;cases a;rfl;cases a;rw[hoS.eq_1];exact s_y [] (fun hs=>dU) (fun hs=>kZ);exact ac (cV p) af
 ·intro l k xs j a
  unfold kX at a;split at a;rotate_left;cases a;rename_i hlt;cases a;show AWp _ _ _ _ ⟨[(12,.agg (qC (coP p (p.length- 1- k)))),(11,i64 (p.length- 1- k:Nat)),(4,.lptr 1 0 0),(5,.aptr [[.clos g [] cap]] 0 0),(6,.lptr 2 0 0),(10,.clos 239 [] [bP p]),(1004,.lptr 1 0 0),(1005,.aptr [[.clos g [] cap]] 0 0),(1006,.lptr 2 0 0),(1010,.clos 239 [] [bP p])],[(1,some ⟨36,3,[qC (w k)]⟩),(2,some ⟨36,3,[zC]⟩)],3,18⟩;refine r_m 2 ?_;refine a_z ?_;refine aj (r_m 5 ?_);refine c_s (hg k hlt) ?_;refine a_z ?_;refine⟨k+1,⟨hlt,rfl⟩,?_⟩;show SEntT _ ⟨[(1004,.lptr 1 0 0),(1005,.aptr [[.clos g [] cap]] 0 0),(1006,.lptr 2 0 0),(1010,.clos 239 [] [bP p])],[(1,some ⟨36,3,[qC (w (k+1))]⟩),(2,some ⟨36,3,[zC]⟩)],3,18⟩;exact s_y [] (fun hs=>dU) (fun hs=>kZ)
 intro k j a;unfold kX at a;split at a;cases a;refine⟨(),trivial,?_⟩;rw[hoS.eq_1];have h1:k=p.length:=by omega
 subst h1;exact s_e [];rintro _ _;refine r_z 2 ?_;exact ai (c_e (aT _))
theorem HO(v c x:Rat)(h1:qs v+qs x≤549755813888)(h2:qs (v* x)+qs c≤549755813888):FS 158 [.agg (qC v),.agg (qC c),bQ x] (.agg (qC (v* x+c))):=by
 refine f_c Tryz.func158 ?_;refine r_z 3 ?_;refine ae (r_d a6 6 ?_);refine c_s (cJ v x h1) ?_;refine c_s (fh (v* x) c h2) ?_;refine a_1 ?_;refine ao (n_k ?_);exact ai (c_e (aT _))
theorem j5(p:List Rat)(x:Rat)(h:ff p x):FS 116 [.arr (pE p),.agg (qC x)] (.agg (qC (au p x))):=by
 have c:∀k,k< p.length→FS 158 [.agg (qC (au (p.drop (p.length- k)) x)),.agg (qC (coP p (p.length- 1- k))),bQ x] (.agg (qC (au (p.drop (p.length- (k+1))) x))):=fun k b=>by
  have:=CC h k b;rw[qX b];exact HO _ _ _ this.1 this.2
 have a:=Ck p 158 [bQ x] (fun k=>au (p.drop (p.length- k)) x) (by have:=h.2;omega) (ac (cu x) af) c;simp only[Nat.sub_zero,Nat.sub_self,List.drop_zero,List.drop_length] at a;rw[show au [] x=0 from rfl,qC0] at a;refine f_c Tryz.func116 ?_;refine r_z 2 ?_;refine AWp.ent (st':=⟨[(0,.arr (pE p)),(3,bQ x),(4,.lptr 1 0 0)],[(1,some ⟨36,3,[zC]⟩)],2,9⟩) ?_ ?_;exact s_e [(1,4)];refine r_c 5 (a) ?_;refine a_z ?_;exact ai (c_e (aT _))
def hsS(p:List Rat)(g:Nat)(cap:List AV)(w:Nat→Rat×Rat):Nat→AState
 |k=>⟨[(4,.lptr 1 0 0),(5,.aptr [[.clos g [] cap]] 0 0),(6,.lptr 2 0 0),(10,.clos 239 [] [bP p])],[(1,some ⟨42,6,[spC (w k).1 (w k).2]⟩),(2,some ⟨42,6,[zC++zC]⟩)],3,18⟩
theorem Cj(p:List Rat)(g:Nat)(cap:List AV)(w:Nat→Rat×Rat)(hl:p.length≤281474976710656)(hcap:∀c∈cap,Closed c)(hg:∀k,k< p.length→FS g ((.agg (spC (w k).1 (w k).2):: .agg (qC (coP p (p.length- 1- k)))::cap).map coe) (.agg (spC (w (k+1)).1 (w (k+1)).2))):FS 234 [.arr (pE p),.agg (spC (w 0).1 (w 0).2),.clos g [] cap] (.agg (spC (w p.length).1 (w p.length).2)):=by
 have hb:=kr p;have d:=kp p hl;have b:Closed (.clos g [] cap):=aP af hcap;have i:Closed (.aptr [[.clos g [] cap]] 0 0):=ba (ac b af);have f:Closed (.clos 239 [] [bP p]):=aP af (ac (cV p) af);refine f_c Tryz.func234 ?_;refine r_z 3 ?_;refine AWp.ent (st':=⟨[(0,.arr (pE p)),(4,.lptr 1 0 0),(5,.aptr [[.clos g [] cap]] 0 0),(6,.lptr 2 0 0)],[(1,some ⟨42,6,[spC (w 0).1 (w 0).2]⟩),(2,some ⟨42,6,[zC++zC]⟩)],3,18⟩) ?_ ?_;have:=ac b af;exact s_f [(1,4),(2,6)];refine ae (r_c 2 (hb) ?_);refine ao ?_;refine aG (fun _:Unit=>⟨[(4,.lptr 1 0 0),(6,.lptr 2 0 0)],[(1,some ⟨42,6,[spC (w p.length).1 (w p.length).2]⟩),(2,some ⟨42,6,[zC++zC]⟩)],3,18⟩) (fun _=>True) ?_ ?_;refine aj (AWp.rangeFunc (α:=Nat) (γ:=Empty) p.length (hsS p g cap w) (fun k=>k) (fun k=>k≤p.length) (fun e=>nomatch e) (fun _ e=>nomatch e) 0 rfl d rfl rfl ?_ (fun _=>⟨rfl,rfl⟩) (fun e=>nomatch e) (Nat.zero_le _) rfl (fun _ h=>h) ?_ ?_ ?_ ?_ (fun _ e=>nomatch e));intro k xs a;unfold kX at a;split at a;cases a;rfl;cases a;rw[hsS.eq_1];exact s_y [] (fun hs=>dU) (fun hs=>kZ);exact ac (cV p) af
 ·intro l k xs j a
  unfold kX at a;split at a;rotate_left;cases a;rename_i hlt;cases a;show AWp _ _ _ _ ⟨[(12,.agg (qC (coP p (p.length- 1- k)))),(11,i64 (p.length- 1- k:Nat)),(4,.lptr 1 0 0),(5,.aptr [[.clos g [] cap]] 0 0),(6,.lptr 2 0 0),(10,.clos 239 [] [bP p]),(1004,.lptr 1 0 0),(1005,.aptr [[.clos g [] cap]] 0 0),(1006,.lptr 2 0 0),(1010,.clos 239 [] [bP p])],[(1,some ⟨42,6,[spC (w k).1 (w k).2]⟩),(2,some ⟨42,6,[zC++zC]⟩)],3,18⟩;refine r_m 2 ?_;refine a_z ?_;refine aj (r_m 5 ?_);refine c_s (hg k hlt) ?_;refine a_z ?_;refine⟨k+1,⟨hlt,rfl⟩,?_⟩;show SEntT _ ⟨[(1004,.lptr 1 0 0),(1005,.aptr [[.clos g [] cap]] 0 0),(1006,.lptr 2 0 0),(1010,.clos 239 [] [bP p])],[(1,some ⟨42,6,[spC (w (k+1)).1 (w (k+1)).2]⟩),(2,some ⟨42,6,[zC++zC]⟩)],3,18⟩;exact s_y [] (fun hs=>dU) (fun hs=>kZ)
 intro k j a;unfold kX at a;split at a;cases a;refine⟨(),trivial,?_⟩;rw[hsS.eq_1];have h1:k=p.length:=by omega
 subst h1;exact s_e [];rintro _ _;refine r_z 2 ?_;exact ai (c_e (bG _ _))
abbrev bS(s:Sp):AV:= .aptr [spC s.1 s.2] 0 0
theorem nj(s:Sp):Closed (bS s):=ba (aY _ _)
theorem F2{a b:Sp}(h:smL (zi a b)):smS (tp a b):=⟨oC h,oC h⟩
theorem HK(v s:Sp)(c:Rat)(hv:smS v)(hs:smS s)(hc:sm c)(hp:smL (zi v s)):FS 235 [.agg (spC v.1 v.2),.agg (qC c),bS s] (.agg (spC (Dg (tp v s) (c,c)).1 (Dg (tp v s) (c,c)).2)):=by
 have a:=F2 hp;refine f_n Tryz.func235 ?_ ?_;exact ac (bG _ _) (ac (aT c) (ac (nj s) af));refine r_z 3 ?_;refine ae (r_d a6 7 ?_);refine c_s (fs_SMul v.1 v.2 s.1 s.2 hv.1 hv.2 hs.1 hs.2 hp) ?_;refine c_s (Ah c) ?_;refine c_s (fs_SAdd (tp v s).1 (tp v s).2 c c a.1 a.2 hc hc) ?_;refine a_1 ?_;refine ao (n_k ?_);exact ai (c_e (bG _ _))
theorem fs_Over(p:List Rat)(s:Sp)(h:xy p s):FS 191 [.arr (pE p),.agg (spC s.1 s.2)] (.agg (spC (ii p s).1 (ii p s).2)):=by
 obtain⟨f,hs,u,d⟩:=h;have r:=bF p;refine f_c Tryz.func191 ?_;refine r_z 2 ?_;refine AWp.ent (st':=⟨[(0,.arr (pE p)),(3,bS s),(4,.lptr 1 0 0)],[(1,some ⟨42,6,[zC++zC]⟩)],2,30⟩) ?_ ?_;exact s_e [(1,4)];refine r_c 3 (dd p (by omega)) ?_;refine a_z ?_;refine bi (fun _:Unit=>⟨[(0,.arr (pE (aq p))),(3,bS s),(4,.lptr 1 0 0)],[(1,some ⟨42,6,[zC++zC]⟩)],2,30⟩) (fun _=>fy s.1 s.2≤0∧aq p≠[]) ?_ ?_;by_cases hv:fy s.1 s.2≤0;refine r_c 8 (mZ s.1 s.2 hs.1 hs.2) ?_;refine a_2 ?_;refine y_g rfl (by simp[hv]) (.move rfl) ?_
 first|refine y_g rfl (by simp[hv]) (.lenD rfl rfl rfl rfl te_38.h) ?_|refine y_g rfl (by simp[hv]) (.lenI rfl rfl rfl rfl te_38.h) ?_|refine y_g rfl (by simp[hv]) (.lenP rfl rfl rfl rfl te_38.h) ?_|refine y_g rfl (by simp[hv]) (.lenC rfl rfl rfl rfl te_38.h) ?_|refine y_g rfl (by simp[hv]) (.lenR rfl rfl rfl rfl te_38.h) ?_|refine y_g rfl (by simp[hv]) (.len rfl rfl rfl rfl rfl te_38.h) ?_
 refine y_g rfl (by simp[hv]) (.bin rfl rfl ci) ?_;refine o_0 (.pickF rfl (by simp[hv]) rfl) ?_;refine ao ?_;refine ap rfl (fun h1=>?_) (fun h1=>?_)
 have b:aq p=[]:=by
  have:(aq p).length=0:=by simpa using h1
  exact List.length_eq_zero_iff.1 this
 have c:ii p s=(0,0):=by unfold ii;rw[if_pos (.inr b)]
 rw[c];refine r_z 2 ?_;refine ai (Fin.cell rfl rfl rfl TG.h TS.h (nle rfl) (Cv.agg ?_));show CvL _ _ _ _ (qC 0++qC 0);rw[qC0];exact ah (Cv.emp _) (ah (am aD (ag _)) (ah (Cv.emp _) (ah (Cv.emp _) (ah (am aD (ag _)) (ah (Cv.emp _) av)))))
 have b:aq p≠[]:=by
  have:¬(aq p).length=0:=by simpa using h1
  exact fun e=>this (by rw[e];rfl)
 refine ak ⟨(),⟨hv,b⟩,?_⟩;exact s_e [];refine r_c 8 (mZ s.1 s.2 hs.1 hs.2) ?_;refine a_2 ?_;refine n_g rfl (by simp[hv]) ?_;refine n_g rfl (by simp[hv]) ?_;refine n_g rfl (by simp[hv]) ?_;refine o_0 (.pickT rfl (by simp[hv]) rfl) ?_;refine ao ?_;refine ap rfl (fun h1=>?_) (fun h1=>?_);have c:ii p s=(0,0):=by unfold ii;rw[if_pos (.inl hv)]
 rw[c];refine r_z 2 ?_;refine ai (Fin.cell rfl rfl rfl TG.h TS.h (nle rfl) (Cv.agg ?_));show CvL _ _ _ _ (qC 0++qC 0);rw[qC0];exact ah (Cv.emp _) (ah (am aD (ag _)) (ah (Cv.emp _) (ah (Cv.emp _) (ah (am aD (ag _)) (ah (Cv.emp _) av)))));cases h1;rintro _ ⟨hv,b⟩;have m:=List.length_pos_iff.2 b
 have c:ii p s=ovP (aS p,aS p) s ((aq p).take ((aq p).length- 1)):=by
  unfold ii;rw[if_neg (by rintro(e|e);exact e hv;exact b e)]
 obtain⟨l,a⟩:∃l,l=(aq p).take ((aq p).length- 1):=⟨_,rfl⟩;rw[←a] at d c;rw[c];have i:l.length=(aq p).length- 1:=by rw[a];simp
 have j:∀q∈l,sm q:=fun q t=>f q (c7 (List.mem_of_mem_take (by rw[←a];exact t)))
 have n:∀k,k< l.length→FS 235 [.agg (spC (ovP (aS p,aS p) s (l.drop (l.length- k))).1 (ovP (aS p,aS p) s (l.drop (l.length- k))).2),.agg (qC (coP l (l.length- 1- k))),bS s] (.agg (spC (ovP (aS p,aS p) s (l.drop (l.length- (k+1)))).1 (ovP (aS p,aS p) s (l.drop (l.length- (k+1)))).2)):=fun k o=>by
  have h1:=vS (l.length- (k+1)) d;rw[qX o] at h1⊢;exact HK _ s _ (okOv_sm h1.1) hs h1.2.2.1 h1.2.1
 have g:=Cj l 235 [bS s] (fun k=>ovP (aS p,aS p) s (l.drop (l.length- k))) (by omega) (ac (nj s) af) n;simp only[Nat.sub_zero,Nat.sub_self,List.drop_zero,List.drop_length] at g
 have hg:(pE (aq p))[(((aq p).length:Int)- 1).toNat]?=some (qC (aS p)):=by
  rw[show(((aq p).length:Int)- 1).toNat=(aq p).length- 1 by omega];exact pE_get (ef (by omega))
 refine r_z 4 ?_;refine ae (r_d a6 11 ?_);refine a_2 ?_;refine o_0 (.sa_h rfl rfl (h:=(aq p).length- 1) (by omega) (by simp) te_38.h (lh _)) ?_;refine a_2 ?_;refine i_x hg ?_;refine l_x hg ?_;refine c_s (Ah (aS p)) ?_;refine o_0 (.makeFunc rfl rfl) ?_;refine o_0 (.call rfl rfl rfl ((by rw[sj,←a];exact g))) ?_;refine dX (.store rfl rfl rfl rfl rfl rfl TS.h (nle rfl)) ?_;refine ao (n_k ?_);exact ai (c_e (bG _ _))
def hpS(p:List Rat)(g:Nat)(cap:List AV)(w:Nat→List Rat):Nat→AState
 |k=>⟨[(4,.lptr 1 0 0),(5,.aptr [[.clos g [] cap]] 0 0),(10,.clos 239 [] [bP p])],[(1,some ⟨38,1,[[.arr (pE (w k))]]⟩)],2,18⟩
theorem Cm(p:List Rat)(g:Nat)(cap:List AV)(w:Nat→List Rat)(hl:p.length≤281474976710656)(hcap:∀c∈cap,Closed c)(hg:∀k,k< p.length→FS g ((.arr (pE (w k)):: .agg (qC (coP p (p.length- 1- k)))::cap).map coe) (.arr (pE (w (k+1))))):FS 197 [.arr (pE p),.arr (pE (w 0)),.clos g [] cap] (.arr (pE (w p.length))):=by
 have hb:=kr p;have d:=kp p hl;have b:Closed (.clos g [] cap):=aP af hcap;have i:Closed (.aptr [[.clos g [] cap]] 0 0):=ba (ac b af);have f:Closed (.clos 239 [] [bP p]):=aP af (ac (cV p) af);refine f_c Tryz.func197 ?_;refine r_z 3 ?_;refine AWp.ent (st':=⟨[(0,.arr (pE p)),(4,.lptr 1 0 0),(5,.aptr [[.clos g [] cap]] 0 0)],[(1,some ⟨38,1,[[.arr (pE (w 0))]]⟩)],2,18⟩) ?_ ?_;have:=ac b af;exact s_f [(1,4)];refine ae (r_c 2 (hb) ?_);refine ao ?_;refine aG (fun _:Unit=>⟨[(4,.lptr 1 0 0)],[(1,some ⟨38,1,[[.arr (pE (w p.length))]]⟩)],2,18⟩) (fun _=>True) ?_ ?_;refine aj (AWp.rangeFunc (α:=Nat) (γ:=Empty) p.length (hpS p g cap w) (fun k=>k) (fun k=>k≤p.length) (fun e=>nomatch e) (fun _ e=>nomatch e) 0 rfl d rfl rfl ?_ (fun _=>⟨rfl,rfl⟩) (fun e=>nomatch e) (Nat.zero_le _) rfl (fun _ h=>h) ?_ ?_ ?_ ?_ (fun _ e=>nomatch e));intro k xs a;unfold kX at a;split at a;cases a;rfl;cases a;rw[hpS.eq_1];exact s_y [] (fun hs=>dU) (fun hs=>kZ);exact ac (cV p) af
 ·intro l k xs j a
  unfold kX at a;split at a;rotate_left;cases a;rename_i hlt;cases a;show AWp _ _ _ _ ⟨[(12,.agg (qC (coP p (p.length- 1- k)))),(11,i64 (p.length- 1- k:Nat)),(4,.lptr 1 0 0),(5,.aptr [[.clos g [] cap]] 0 0),(10,.clos 239 [] [bP p]),(1004,.lptr 1 0 0),(1005,.aptr [[.clos g [] cap]] 0 0),(1010,.clos 239 [] [bP p])],[(1,some ⟨38,1,[[.arr (pE (w k))]]⟩)],2,18⟩;refine r_m 2 ?_;refine a_z ?_;refine aj (r_m 5 ?_);refine c_s (hg k hlt) ?_;refine a_z ?_;refine⟨k+1,⟨hlt,rfl⟩,?_⟩;show SEntT _ ⟨[(1004,.lptr 1 0 0),(1005,.aptr [[.clos g [] cap]] 0 0),(1010,.clos 239 [] [bP p])],[(1,some ⟨38,1,[[.arr (pE (w (k+1)))]]⟩)],2,18⟩;exact s_y [] (fun hs=>dU) (fun hs=>kZ)
 intro k j a;unfold kX at a;split at a;cases a;refine⟨(),trivial,?_⟩;rw[hpS.eq_1];have h1:k=p.length:=by omega
 subst h1;exact s_e [];rintro _ _;refine r_z 2 ?_;exact ai (t_e (ax _))
theorem Aa(v q:List Rat)(c:Rat)(h:eS v q)(hc:sm c)(hl:(aL v q).length≤274877906944):FS 198 [.arr (pE v),.agg (qC c),bP q] (.arr (pE (fR (aL v q) (ed c)))):=by
 have a:=ow c;refine f_c Tryz.func198 ?_;refine r_z 2 ?_;refine ae (r_d a6 7 ?_);refine c_s (HL v q (mxL v) (mxL q) (eO v) (eO q) (ew v) (ew q) h.1 h.2.1 h.2.2.1 h.2.2.2) ?_;refine c_s (rM c) ?_;refine c_s (mh (aL v q) (ed c) (tW h) (lP fun x b=>by rw[List.mem_singleton.1 b];exact hc) (by omega) (by omega)) ?_;refine a_1 ?_;refine ao (n_k ?_);exact ai (t_e (ax _))
theorem Cq(p q:List Rat)(h:gu q p)(hp:p.length≤274877906944):FS 153 [.arr (pE p),.arr (pE q)] (.arr (pE (ce q p))):=by
 have b:∀k,k< p.length→FS 198 [.arr (pE (ce q (p.drop (p.length- k)))),.agg (qC (coP p (p.length- 1- k))),bP q] (.arr (pE (ce q (p.drop (p.length- (k+1)))))):=fun k c=>by
  have h1:=rI (p.length- (k+1)) h;rw[qX c] at h1⊢;exact Aa _ q _ h1.2.1 h1.2.2.1 h1.2.2.2
 have a:=Cm p 198 [bP q] (fun k=>ce q (p.drop (p.length- k))) (by omega) (ac (cV q) af) b;simp only[Nat.sub_zero,Nat.sub_self,List.drop_zero,List.drop_length] at a;refine f_c Tryz.func153 ?_;refine r_z 2 ?_;refine AWp.ent (st':=⟨[(0,.arr (pE p)),(3,bP q)],[],1,8⟩) ?_ ?_;exact s_e [];refine r_c 4 (a) ?_;refine a_z ?_;exact ai (t_e (ax _))
theorem uu(p:List Rat)(c:Rat)(h:gu [c,1] p)(hp:p.length≤274877906944):FS 114 [.arr (pE p),.agg (qC c)] (.arr (pE (ce [c,1] p))):=by
 refine f_c Tryz.func114 ?_;refine r_z 2 ?_;refine r_c 5 (fs_line c) ?_;refine c_s (Cq p [c,1] h hp) ?_;refine a_z ?_;exact ai (t_e (ax _))
def coS:Nat×Nat→AState
 |(a,b)=>⟨[(2,.lptr 1 0 0),(3,.lptr 2 0 0),(4,.lptr 3 0 0)],[(1,some ⟨36,3,[qC (nQ a)]⟩),(2,some ⟨36,3,[qC (nQ b)]⟩),(3,some ⟨36,3,[zC]⟩)],4,18⟩
theorem uQ(a:Nat)(b:Nat):coS (a,b)=⟨[(2,.lptr 1 0 0),(3,.lptr 2 0 0),(4,.lptr 3 0 0)],[(1,some ⟨36,3,[qC (nQ a)]⟩),(2,some ⟨36,3,[qC (nQ b)]⟩),(3,some ⟨36,3,[zC]⟩)],4,18⟩:=rfl
theorem ur(a b:Nat)(ha:bl a≤68719476736)(hb:bl b≤68719476736):FS 254 [.agg (qC (nQ a)),.agg (qC (nQ b))] (.agg (qC (nQ (Nat.gcd a b)))):=by
 refine f_c Tryz.func254 ?_;refine r_z 3 ?_;refine bi (fun _:Unit=>coS (Nat.gcd a b,0)) (fun _=>True) ?_ ?_;refine aj (aB coS (fun x=>x.2) (fun x=>Nat.gcd x.1 x.2=Nat.gcd a b∧bl x.1≤68719476736∧bl x.2≤68719476736) (a,b) ⟨rfl,ha,hb⟩ ?_ ?_);simp only[uQ];exact s_e [];rintro⟨u,v⟩ ⟨hg,i,hv⟩;simp only at hg i hv;rw[uQ];refine ae (r_c 3 (cw (nQ v)) ?_);refine a_z ?_;refine ap rfl (fun h=>?_) (fun h=>?_)
 have c:v≠0:=by
  intro e;subst e;exact absurd h (by decide)
 refine ak ?_;have h1:=ns (n:=u) i (by decide);have q:=ns (n:=v) hv (by decide);have p:=gO (nQ u) (nQ v);have f:=gU (nQ u) (nQ v) (fun e=>c (nQ_zero.1 e)) (by omega);have g:=pG (nQ u/ nQ v) (by omega);rw[BP u v c,zA u v c] at g;rw[BP u v c] at f;have m:=ns (n:=u/ v) (k:=68719476736) (Nat.le_trans (eM u v) i) (by decide);have d:=cJ (nQ v) (nQ (u/ v)) (by omega);rw[GW] at d;have j:v* (u/ v)≤u:=Nat.mul_div_le u v;have o:=ns (n:=v* (u/ v)) (k:=68719476736) (Nat.le_trans (dJ j) i) (by decide);have l:=jL (nQ u) (nQ (v* (u/ v))) (by omega);rw[nQ_sub j,show u- v* (u/ v)=u % v by have:=Nat.div_add_mod u v;omega] at l;refine aj (r_d a6 11 ?_);refine c_s (f) ?_;refine c_s (g) ?_;refine c_s (d) ?_;refine c_s (l) ?_;refine a_2 ?_;refine ao (n_k ?_);refine⟨(v,u % v),Nat.mod_lt _ (by omega),⟨?_,hv,Nat.le_trans (dJ (Nat.mod_le u v)) i⟩,?_⟩;rw[←hg];show Nat.gcd v (u % v)=Nat.gcd u v;rw[Nat.gcd_comm v,Nat.gcd_comm u v,←Nat.gcd_rec];simp only[uQ];exact s_e []
 have c:v=0:=by
  have h1:sgZ (nQ v).num=0:=by simpa using h
  exact nQ_zero.1 (sgZ_num_eq.1 h1)
 subst c;rw[Nat.gcd_zero_right] at hg;refine ay ⟨(),trivial,?_⟩;rw[←hg];simp only[uQ];exact s_e [];rintro _ _;simp only[uQ];refine r_z 2 ?_;exact ai (c_e (aT _))
end Go.Proofs.YtdgbhlkabelmbaaGreatDoor
