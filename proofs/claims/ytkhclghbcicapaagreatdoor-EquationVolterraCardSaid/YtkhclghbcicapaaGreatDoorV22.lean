/- Part V22 of the proof. -/
import Derived.Test.YtkhclghbcicapaaGreatDoorV21
set_option linter.all false
namespace Go.Proofs.YtkhclghbcicapaaGreatDoor
open Go.Abs
set_option maxRecDepth 20000
def mulS(p:List Rat)(q:List Rat):Nat×List Rat→AState
 |(i,o)=>⟨[(1,.arr (pE q)),(5,.lsl 1 0 o.length (some o.length) 3),(25,.arr (pE p)),(26,i64 p.length),(27,i64 i)],[(1,some ⟨34,3,pE o⟩)],2,61⟩
def mulT(p:List Rat)(q:List Rat)(i:Nat)(a:Rat):Nat×List Rat→AState
 |(k,o)=>⟨[(1,.arr (pE q)),(5,.lsl 1 0 o.length (some o.length) 3),(6,i64 i),(7,.lptr 2 0 0),(25,.arr (pE p)),(26,i64 p.length),(27,i64 i),(35,.arr (pE q)),(36,i64 q.length),(37,i64 k)],[(1,some ⟨34,3,pE o⟩),(2,some ⟨34,3,[qC a]⟩)],3,61⟩
theorem IM(p q:List Rat)(s t:Nat)(hp:bdL p s)(hq:bdL q t)(hs:1≤s)(ht:1≤t)(h:p.length* (s+t+1)+1≤137438953472)(ht2:t≤137438953472)(hp1:p.length≤274877906944)(hq1:q.length≤274877906944):FS 13 [.arr (pE p),.arr (pE q)] (.arr (pE (aJ p q))):=by
 refine f_c Tryz.func13 ?_;refine r_z 1 ?_;refine bD (fun _:Unit=>⟨[(0,.arr (pE p)),(1,.arr (pE q))],[],1,61⟩) (fun _=>p≠[]∧q≠[]) ?_ ?_;by_cases h1:p=[];subst h1;refine s_r 8 ?_;refine a_4 ?_;refine n_g rfl (by simp) ?_;refine n_g rfl (by simp) ?_;refine n_g rfl (by simp) ?_;refine o_0 (.pickT rfl (by simp) rfl) ?_;refine au ?_;refine aq rfl (fun h=>?_) (fun h=>?_);refine r_z 1 ?_;refine ak ?_;unfold aJ;rw[if_pos (.inl rfl)];exact Fin.tmpN rfl;cases h;have hp0:p.length≠0:=fun e=>h1 (List.length_eq_zero_iff.1 e);refine s_r 8 ?_;refine a_4 ?_;refine y_g rfl (by simp <;> omega) (.move rfl) ?_;refine y_g rfl (by simp <;> omega) (.lenP rfl rfl rfl rfl te_36.h) ?_;refine y_g rfl (by simp <;> omega) (.bin rfl rfl db) ?_;refine o_0 (.pickF rfl (by simp <;> omega) rfl) ?_;refine au ?_;refine aq rfl (fun h2=>?_) (fun h2=>?_)
 have hq0:q=[]:=by
  have:q.length=0:=by simpa using h2
  exact List.length_eq_zero_iff.1 this
 refine r_z 1 ?_;refine ak ?_;unfold aJ;rw[if_pos (.inr hq0)];exact Fin.tmpN rfl
 have hq0:q≠[]:=by
  have:¬q.length=0:=by simpa using h2
  exact fun e=>this (by rw[e];rfl)
 refine an ⟨(),⟨h1,hq0⟩,?_⟩;exact s_e [];rintro _ ⟨hp0,hq0⟩;have hpl:=List.length_pos_iff.2 hp0;have hql:=List.length_pos_iff.2 hq0;have hN:(p.length:Int)+q.length- 1=((p.length+q.length- 1:Nat):Int):=by omega
 refine s_r 8 ?_;refine a_6 ?_;refine o_1 (.makeSlice (l:=p.length+q.length- 1) (c:=p.length+q.length- 1) (by rw[←hN];rfl) (by rw[←hN];rfl) te_36.h TZ.h rfl TB.h (by first|omega|(simp;done)|(simp;omega)) (by first|omega|(simp;done)|(simp;omega)) (by unfold maxLen;first|omega|(simp;done)|(simp;omega))) ?_;refine a_z ?_;refine ae (r_z 3 ?_);have hbd:=fun i=>uM (fI hp hs) (fI hq ht) i
 have hbi:∀i,i≤p.length→i* (s+t+1)+1≤137438953472:=fun i hi=>by
  have:=Nat.mul_le_mul_right (s+t+1) hi;omega
 have hs2:s≤137438953472:=by
  have:=hbi 1 hpl;omega
 refine aH (fun _:Unit=>mulS p q (p.length,fJ p q p.length)) (fun _=>True) ?_ ?_;refine am (aD (fun i:Nat=>mulS p q (i,fJ p q i)) (fun i=>p.length- i) (fun i=>i≤p.length) 0 (Nat.zero_le _) ?_ ?_);simp only[mulS.eq_1,fJ];exact s_x [(1,5)] (fun hs=>eA) (fun hs=>e_27);rintro i hi;simp only[mulS.eq_1];refine r_z 1 ?_;refine ae (aq rfl (fun h=>?_) (fun h=>?_));refine an ?_;have hlt:i< p.length:=by simpa using h
 have hgp:(pE p)[((i:Nat):Int).toNat]?=some (qC (coP p i)):=pE_get (cK hlt);refine ae (am (s_r 6 ?_));refine a_1 ?_;refine i_x hgp ?_;refine l_x hgp ?_;refine a_z ?_;refine ae (r_c 3 (cx (coP p i)) ?_);refine a_z ?_;refine aq rfl (fun h1=>?_) (fun h1=>?_)
 have h0:coP p i=0:=by
  have h1:sgZ (coP p i).num=0:=by simpa using h1
  exact sgZ_num_eq.1 h1
 have hst:fJ p q (i+1)=fJ p q i:=by rw[fJ,if_pos h0]
 refine aA (r_m 2 ?_);refine a_z ?_;refine⟨i+1,by omega,hlt,?_⟩;simp only[mulS.eq_1,hst];exact s_e []
 have h0:coP p i≠0:=by
  intro e;have h1:¬sgZ (coP p i).num=0:=by simpa using h1
  exact h1 (sgZ_num_eq.2 e)
 have hst:fJ p q (i+1)=kJ (fJ p q i) (coP p i) q i q.length:=by rw[fJ,if_neg h0]
 refine an (r_z 3 ?_);refine AWp.cutB (fun _:Unit=>mulS p q (i,fJ p q (i+1))) (fun _=>True) ?_ ?_;refine am (aD (fun k:Nat=>mulT p q i (coP p i) (k,kJ (fJ p q i) (coP p i) q i k)) (fun k=>q.length- k) (fun k=>k≤q.length) 0 (Nat.zero_le _) ?_ ?_);simp only[mulT.eq_1,kJ];exact s_e [(2,7)];rintro k hk;simp only[mulT.eq_1];refine r_z 1 ?_;refine ae (aq rfl (fun h2=>?_) (fun h2=>?_));refine an ?_;have hlt2:k< q.length:=by simpa using h2
 have hgq:(pE q)[((k:Nat):Int).toNat]?=some (qC (coP q k)):=pE_get (cK hlt2);refine ae (am (s_r 6 ?_));refine a_1 ?_;refine i_x hgq ?_;refine l_x hgq ?_;refine a_z ?_;have hb1:=hbd i;have hb2:=hbi (i+1) hlt;have hb3:=hbi i hi
 have hcur:qs (coP (kJ (fJ p q i) (coP p i) q i k) (i+k))≤137438953472:=by
  rw[vL _ _ _ _ _ _ (by omega)];exact Nat.le_trans (hb1 (i+k)) hb3
 have hab:=dk (coP p i) (coP q k);have hqa:=fI hp hs i;have hqb:=fI hq ht k;have hik:i+k< (kJ (fJ p q i) (coP p i) q i k).length:=by simp;omega
 have hgo:(pE (kJ (fJ p q i) (coP p i) q i k))[(0+(((i:Nat):Int)+(k:Nat)).toNat)]?=some (qC (coP (kJ (fJ p q i) (coP p i) q i k) (i+k))):=by
  rw[show 0+(((i:Nat):Int)+(k:Nat)).toNat=i+k by omega];exact pE_get (cK hik)
 refine r_d ba 16 ?_;refine a_8 ?_;refine a_1 ?_;refine ci (.load_l rfl rfl hgo TG.h TS.h (nle rfl)) rfl rfl ?_;refine c_s (cN (coP p i) (coP q k) (by omega)) ?_;refine c_s (fD (coP (kJ (fJ p q i) (coP p i) q i k) (i+k)) (coP p i* coP q k) (by omega)) ?_;refine a_1 ?_;refine fY (.store rfl rfl hgo rfl rfl rfl TS.h (nle rfl)) ?_;refine au (n_k ?_);refine r_m 2 ?_;refine a_z ?_;refine⟨k+1,by omega,hlt2,?_⟩
 have hst2:(pE (kJ (fJ p q i) (coP p i) q i k)).set (0+(((i:Nat):Int)+(k:Nat)).toNat) (qC (coP (kJ (fJ p q i) (coP p i) q i k) (i+k)+coP p i* coP q k))=pE (kJ (fJ p q i) (coP p i) q i (k+1)):=by
  rw[show 0+(((i:Nat):Int)+(k:Nat)).toNat=i+k by omega,mK];rfl
 have hl2:(kJ (fJ p q i) (coP p i) q i (k+1)).length=(kJ (fJ p q i) (coP p i) q i k).length:=by simp
 simp only[mulT.eq_1,hl2];exact s_x [] (fun hs=>eA) (fun hs=>e_28) e_7
 have hge:k=q.length:=by
  have:¬k< q.length:=by simpa using h2
  omega
 subst hge;refine aA ⟨(),trivial,?_⟩;simp only[mulS.eq_1,hst];exact s_e [];rintro _ _;simp only[mulS.eq_1];refine r_m 2 ?_;refine a_z ?_;refine⟨i+1,by omega,hlt,?_⟩;exact s_e []
 have hge:i=p.length:=by
  have:¬i< p.length:=by simpa using h
  omega
 subst hge;refine aA ⟨(),trivial,?_⟩;simp only[mulS.eq_1];exact s_e [];rintro _ _;simp only[mulS.eq_1]
 have hfull:List.take (fJ p q p.length).length (List.drop 0 (pE (fJ p q p.length)))=pE (fJ p q p.length):=by
  rw[List.drop_zero,List.take_of_length_le (by simp)]
 have hfin:aJ p q=aj (fJ p q p.length):=by
  unfold aJ;rw[if_neg (by rintro(h|h);exact hp0 h;exact hq0 h)]
 rw[hfin];refine s_r 3 ?_;refine a_1 ?_;refine o_1 (.callS1 rfl rfl rfl (.shut rfl d_n (.nil)) rfl ((by rw[hfull];exact eC (fJ p q p.length) (by simp;omega)))) ?_;refine a_z ?_;exact ak (t_e (aC _))
theorem HT(l:List Rat)(h0:l≠[])(hl:l.length≤1099511627776):OSpec Tryz.prog 109 [.arr (pE l)] 34 3 (pE l):=by
 have a:pE l≠[]:=by
  intro e;exact h0 (List.length_eq_zero_iff.1 (by rw[←FV,e];rfl))
 refine OSpec.enter Tryz.func109 rfl (by kernel_rfl) rfl rfl rfl ?_ ?_ rfl ?_;exact ac (aK (aV _)) ag;exact aV l;refine r_z 1 ?_;refine ae (s_r 2 ?_);refine a_1 ?_;refine ci (.nilq_arr rfl (a) rfl te_36.h) rfl rfl ?_;refine au ?_;refine cF ?_
 ·refine an (s_r 4 ?_)
  refine a_2 ?_;refine o_2 (.append_l rfl rfl rfl te_36.h rfl rfl rfl rfl rfl d_o (by first|exact gf _|exact gd _|exact fc _|exact gi _|exact fW _|assumption|rfl|simp) (by first|rfl|exact gf _|exact gd _|exact fc _|exact gi _|exact fW _|simp) rfl (.arr (mL _)) TZ.h rfl TB.h d_o (by first|(simp[maxLen];done)|(simp[maxLen];omega))) ?_;refine a_z ?_;exact ak (FinO.tmp rfl rfl rfl (by simp))
theorem os_Trim(l:List Rat)(h0:aj l≠[])(hl:l.length≤1099511627776):OSpec Tryz.prog 46 [.arr (pE l)] 34 3 (pE (aj l)):=by
 refine OSpec.enter Tryz.func46 rfl (by kernel_rfl) rfl rfl rfl ?_ ?_ rfl ?_;exact ac (aK (aV _)) ag;exact aV _;refine r_z 1 ?_;refine r_z 3 ?_;refine bD (trS l) (fun n=>n≤l.length∧aj l=l.take n) ?_ ?_;refine am (aD (trS l) (fun n=>n) (fun n=>n≤l.length∧aj l=aj (l.take n)) l.length ⟨Nat.le_refl _,by rw[List.take_length]⟩ ?_ ?_);simp only[trS.eq_1];exact s_e [];rintro n ⟨d,ht⟩;rw[trS.eq_1];cases n with
 |zero=>exact absurd (ht.trans rfl) h0
 |succ n=>
  obtain⟨q,c⟩:∃q,l[n]?=some q:=⟨_,List.getElem?_eq_getElem (by omega)⟩
  have a:(pE l)[(((n+1:Nat):Int)- 1).toNat]?=some (qC q):=by
   rw[show(((n+1:Nat):Int)- 1).toNat=n by omega];exact pE_get c
  have hs:aj (l.take (n+1))=if q=0 then aj (l.take n) else l.take (n+1):=by
   rw[dt c,mD]
  refine ae (s_r 11 ?_);refine a_3 ?_;refine y_g rfl (by simp <;> omega) (.move rfl) ?_;refine y_g rfl (by simp <;> omega) (.move rfl) ?_;refine y_g rfl (by simp <;> omega) (.bin rfl rfl (sG (by omega))) ?_;refine y_g rfl (by simp <;> omega) (.index_a rfl rfl (by omega) a rfl te_36.h) ?_;refine y_g rfl (by simp <;> omega) (.load_a rfl a TG.h TS.h (nle rfl)) ?_;refine y_g rfl (by simp <;> omega) (.call rfl rfl rfl (cx q)) ?_;refine y_g rfl (by simp <;> omega) (.bin rfl rfl db) ?_;refine o_0 (.pickT rfl (by simp <;> omega) rfl) ?_;refine au ?_;refine aq rfl (fun h=>?_) (fun h=>?_)
  have h0:q=0:=by
   have h1:sgZ q.num=0:=by simpa using h
   exact sgZ_num_eq.1 h1
  refine an (am (r_m 3 ?_));refine a_z ?_;refine⟨n,Nat.lt_succ_self n,⟨by omega,?_⟩,?_⟩;rw[ht,hs,if_pos h0];simp only[trS.eq_1];exact s_e []
  have h0:q≠0:=by
   intro e;have h1:¬sgZ q.num=0:=by simpa using h
   exact h1 (sgZ_num_eq.2 e)
  refine aA ⟨n+1,⟨d,?_⟩,?_⟩;rw[ht,hs,if_neg h0];simp only[trS.eq_1];exact s_e []
 rintro n ⟨d,ht⟩;rw[trS.eq_1];rw[ht] at h0;have b:=HT (l.take n) h0 (by simp;omega);refine s_r 5 ?_;refine a_2 ?_;refine o_0 (.sa_h rfl rfl (h:=n) rfl (by simp;omega) te_36.h (mL _)) ?_;refine o_1 (.callO rfl rfl rfl ((by rw[uI];exact b))) ?_;refine a_z ?_;refine ak ?_;rw[ht];exact FinO.tmp rfl rfl rfl (by simp)
def dvS(q:List Rat)(lead:Rat):Nat×List Rat×List Rat→AState
 |(c,u,o)=>⟨[(0,.lsl 1 0 o.length none 3),(1,.arr (pE q)),(4,.lsl 2 0 u.length (some u.length) 3),(6,.lptr 3 0 0),(7,i64 ((c:Int)- 1))],[(1,some ⟨34,3,pE o⟩),(2,some ⟨34,3,pE u⟩),(3,some ⟨34,3,[qC lead]⟩)],4,82⟩
def dvT(q:List Rat)(lead:Rat)(n:Nat)(u:List Rat)(k:Rat):Nat×List Rat→AState
 |(i,o)=>⟨[(0,.lsl 1 0 o.length none 3),(1,.arr (pE q)),(4,.lsl 2 0 u.length (some u.length) 3),(6,.lptr 3 0 0),(7,i64 n),(8,.lptr 4 0 0),(55,.arr (pE q)),(56,i64 q.length),(57,i64 i)],[(1,some ⟨34,3,pE o⟩),(2,some ⟨34,3,pE u⟩),(3,some ⟨34,3,[qC lead]⟩),(4,some ⟨34,3,[qC k]⟩)],5,82⟩
theorem tp(p q:List Rat)(s t:Nat)(hp:bdL p s)(hq:bdL q t)(hs:1≤s)(ht:1≤t)(h:2^ ((aj p).length+1- (aj q).length) * (s+2* t+1)≤137438953472)(hq0:aj q≠[])(hp1:p.length≤274877906944)(hq1:q.length≤274877906944):FS 235 [.arr (pE p),.arr (pE q)] (.tup [.arr (pE (cf p q).1),.arr (pE (cf p q).2)]):=by
 have hlp:=bO p;have hlq:=bO q;have hql:=List.length_pos_iff.2 hq0
 have hg:(pE (aj q))[(((aj q).length:Int)- 1).toNat]?=some (qC (aF q)):=by
  rw[show(((aj q).length:Int)- 1).toNat=(aj q).length- 1 by omega];exact pE_get (c8 (by omega))
 have hne:=c9 hq0;obtain⟨m,hm⟩:∃m,m=(aj p).length+1- (aj q).length:=⟨_,rfl⟩;have hmx:(if (0:Int)>((aj p).length:Int)- (aj q).length+1 then(0:Int) else((aj p).length:Int)- (aj q).length+1)=(m:Int):=by split <;> omega
 have hB:D2 (aj q) (aF q) 137438953472 m (List.replicate m 0) (aj p):=by
  refine⟨s,t,fI (fun x hx=>hp x (df hx)) hs,fI (fun x hx=>hq x (df hx)) ht,hq _ (df (List.mem_of_getElem? (c8 (n:=(aj q).length- 1) (by omega)))),ht,fun n=>?_,by rw[hm];exact h⟩
  have:coP (List.replicate m 0) n=0:=by
   unfold coP;rw[List.getD_eq_getElem?_getD,List.getElem?_replicate];split <;> rfl
  rw[this];decide
 have hdv:cf p q=(aj (jQ (aj q) (aF q) m (List.replicate m 0) (aj p)).1,aj (jQ (aj q) (aF q) m (List.replicate m 0) (aj p)).2):=by rw[hm];rfl
 rw[hdv];refine f_c Tryz.func235 ?_;refine r_z 2 ?_;by_cases hp0:aj p=[]
 ·have hm0:m=0:=by rw[hm,hp0];simp;omega
  subst hm0;rw[hp0] at hmx⊢;have htp:=eC p (by omega);rw[hp0] at htp;refine r_c 6 (htp) ?_;refine c_s (eC q (by omega)) ?_;refine a_z ?_;refine s_r 8 ?_;refine a_4 ?_;refine i_x hg ?_;refine l_x hg ?_;refine a_z ?_;refine s_r 9 ?_;refine a_7 ?_;refine o_1 (.makeSlice (l:=0) (c:=0) (by rw[←hmx];rfl) (by rw[←hmx];rfl) te_36.h TZ.h rfl TB.h (by first|omega|(simp;done)|(simp;omega)) (by first|omega|(simp;done)|(simp;omega)) (by unfold maxLen;first|omega|(simp;done)|(simp;omega))) ?_;refine a_z ?_;refine ae (r_z 6 ?_);refine aH (fun _:Unit=>⟨[(0,.arr (pE [])),(4,.lsl 2 0 0 (some 0) 3)],[(2,some ⟨34,3,[]⟩)],3,82⟩) (fun _=>True) ?_ ?_;refine am (aD (fun _:Unit=>⟨[(0,.arr (pE [])),(4,.lsl 2 0 0 (some 0) 3),(7,i64 (0- ((aj q).length:Int)))],[(2,some ⟨34,3,[]⟩)],3,82⟩) (fun _=>0) (fun _=>True) () trivial ?_ ?_);exact s_x [(2,4)] (fun hs=>eA) (fun hs=>e_16);rintro _ _;refine ae (r_z 2 ?_);refine aq rfl (fun h1=>?_) (fun h1=>?_);exact absurd h1 (by simp;omega);refine aA ⟨(),trivial,?_⟩;exact s_x [] (fun hs=>eA) (fun hs=>e_16);rintro _ _;refine s_r 6 ?_;refine a_1 ?_;refine o_1 (.callS1 rfl rfl rfl (.shut rfl d_n (.nil)) rfl ((eC [] (by simp)))) ?_;refine c_s (eC [] (by simp)) ?_;refine a_z ?_;refine ak (Fin.many ⟨_,_,rfl,rfl,⟨_,_,rfl,rfl,rfl⟩⟩ (nle rfl) ?_);exact ai (ao ay (aC _)) (ai (ao ay (aC _)) aw)
 have hpl:=List.length_pos_iff.2 hp0;have hto:=os_Trim p hp0 (by omega);have hdl:=jP (aj q) (aF q) m (List.replicate m 0) (aj p);have hend:=Aj hB;refine s_r 6 ?_;refine a_1 ?_;refine o_1 (.callO rfl rfl rfl (hto)) ?_;refine c_s (eC q (by omega)) ?_;refine a_z ?_;refine AWp.ent (st':=⟨[(0,.lsl 1 0 (aj p).length none 3),(1,.arr (pE (aj q)))],[(1,some ⟨34,3,pE (aj p)⟩)],2,82⟩) ?_ ?_;exact s_e [(1,0)];refine s_r 8 ?_;refine a_4 ?_;refine i_x hg ?_;refine l_x hg ?_;refine a_z ?_;refine s_r 9 ?_;refine a_7 ?_;refine o_1 (.makeSlice (l:=m) (c:=m) (by rw[←hmx];rfl) (by rw[←hmx];rfl) te_36.h TZ.h rfl TB.h (by first|omega|(simp;done)|(simp;omega)) (by first|omega|(simp;done)|(simp;omega)) (by unfold maxLen;first|omega|(simp;done)|(simp;omega))) ?_;refine a_z ?_;refine ae (r_z 6 ?_);refine aH (fun x:List Rat×List Rat=>⟨[(0,.lsl 1 0 x.2.length none 3),(4,.lsl 2 0 x.1.length (some x.1.length) 3)],[(1,some ⟨34,3,pE x.2⟩),(2,some ⟨34,3,pE x.1⟩)],3,82⟩) (fun x=>x=jQ (aj q) (aF q) m (List.replicate m 0) (aj p)) ?_ ?_;refine am ?_;by_cases hab:(aj p).length< (aj q).length;have hm0:m=0:=by omega
 subst hm0;refine aD (fun _:Unit=>⟨[(0,.lsl 1 0 (aj p).length none 3),(4,.lsl 2 0 0 (some 0) 3),(7,i64 (((aj p).length:Int)- ((aj q).length:Int)))],[(1,some ⟨34,3,pE (aj p)⟩),(2,some ⟨34,3,[]⟩)],3,82⟩) (fun _=>0) (fun _=>True) () trivial ?_ ?_;exact s_x [(1,0),(2,4)] (fun hs=>eA) (fun hs=>e_16);rintro _ _;refine ae (r_z 2 ?_);refine aq rfl (fun h1=>?_) (fun h1=>?_);exact absurd h1 (by simp;omega);refine aA ⟨([],aj p),rfl,?_⟩;exact s_f [];refine aD (fun x:Nat×List Rat×List Rat=>dvS (aj q) (aF q) x) (fun x=>x.1) (fun x=>x.1≤m∧x.2.1.length=m∧x.2.2.length=(aj p).length∧D2 (aj q) (aF q) 137438953472 x.1 x.2.1 x.2.2∧jQ (aj q) (aF q) x.1 x.2.1 x.2.2=jQ (aj q) (aF q) m (List.replicate m 0) (aj p)) (m,List.replicate m 0,aj p) ⟨Nat.le_refl _,by simp,rfl,hB,rfl⟩ ?_ ?_;simp only[dvS.eq_1];have hm1:((aj p).length:Int)- (aj q).length=(m:Int)- 1:=by omega
 rw[hm1];exact s_x [(1,0),(2,4),(3,6)] (fun hs=>eA) (fun hs=>e_27);rintro⟨c,u,o⟩ ⟨hc,hu,ho,hb,hr⟩;simp only at hc hu ho hb hr;simp only[dvS.eq_1];cases c with
 |zero=>
  refine ae (r_z 2 ?_);refine aq rfl (fun h1=>?_) (fun h1=>?_);exact absurd h1 (by simp);refine aA ⟨(u,o),hr,?_⟩;exact s_e []
 |succ n=>
  obtain⟨B,tt,hb1,hb2,hb3,hb4⟩:=B3 hb;have hcn:((n+1:Nat):Int)- 1=(n:Int):=by omega
  rw[hcn];refine ae (r_z 2 ?_);refine aq rfl (fun h1=>?_) (fun h1=>?_);refine an ?_;obtain⟨k,hk⟩:∃k,k=coP o (n+(aj q).length- 1) / aF q:=⟨_,rfl⟩;have hst:=yA hb;rw[jQ] at hr;rw[←hk] at hst hr
  have hgo:(pE o)[(0+(((n:Nat):Int)+((aj q).length:Nat)- 1).toNat)]?=some (qC (coP o (n+(aj q).length- 1))):=by
   rw[show 0+(((n:Nat):Int)+((aj q).length:Nat)- 1).toNat=n+(aj q).length- 1 by omega];exact pE_get (cK (by omega))
  have hov:=iR (coP o (n+(aj q).length- 1)) (aF q) hne (by have:=hb1 (n+(aj q).length- 1);omega);rw[←hk] at hov
  have hgu:(pE u)[0+((n:Nat):Int).toNat]?=some (qC (coP u n)):=by
   rw[show 0+((n:Nat):Int).toNat=n by omega];exact pE_get (cK (by omega))
  refine ae (am (ae (r_d ba 12 ?_)));refine a_7 ?_;refine ci (.load_l rfl rfl hgo TG.h TS.h (nle rfl)) rfl rfl ?_;refine c_s (hov) ?_;refine a_2 ?_;refine au (n_k ?_);refine s_r 5 ?_;refine a_4 ?_;refine fY (.store rfl rfl hgu rfl rfl rfl TS.h (nle rfl)) ?_;refine au ?_
  have hsu:(pE u).set (0+((n:Nat):Int).toNat) (qC k)=pE (u.set n k):=by
   rw[show 0+((n:Nat):Int).toNat=n by omega,mK]
  have hlu:(u.set n k).length=u.length:=by simp
  refine ae (r_c 3 (cx k) ?_);refine a_z ?_;refine aq rfl (fun h2=>?_) (fun h2=>?_)
  have h0:k=0:=by
   have h2:sgZ k.num=0:=by simpa using h2
   exact sgZ_num_eq.1 h2
  rw[if_pos h0] at hst hr;refine aA (r_m 3 ?_);refine a_z ?_;refine⟨(n,u.set n k,o),Nat.lt_succ_self n,⟨by omega,by simp only;omega,ho,hst,hr⟩,?_⟩;simp only[dvS.eq_1,hlu];exact s_f []
  have h0:k≠0:=by
   intro e;have h2:¬sgZ k.num=0:=by simpa using h2
   exact h2 (sgZ_num_eq.2 e)
  rw[if_neg h0] at hst hr;refine an (r_z 3 ?_);refine AWp.cutB (fun _:Unit=>⟨[(0,.lsl 1 0 o.length none 3),(1,.arr (pE (aj q))),(4,.lsl 2 0 u.length (some u.length) 3),(6,.lptr 3 0 0),(7,i64 n)],[(1,some ⟨34,3,pE (gE o k (aj q) n (aj q).length)⟩),(2,some ⟨34,3,pE (u.set n k)⟩),(3,some ⟨34,3,[qC (aF q)]⟩)],4,82⟩) (fun _=>True) ?_ ?_;refine am (aD (fun i:Nat=>dvT (aj q) (aF q) n (u.set n k) k (i,gE o k (aj q) n i)) (fun i=>(aj q).length- i) (fun i=>i≤(aj q).length) 0 (Nat.zero_le _) ?_ ?_);simp only[dvT.eq_1,gE,hlu];exact s_f [(4,8)];rintro i hi;simp only[dvT.eq_1];refine r_z 1 ?_;refine ae (aq rfl (fun h3=>?_) (fun h3=>?_));refine an ?_;have hlt2:i< (aj q).length:=by simpa using h3
  have hgq:(pE (aj q))[((i:Nat):Int).toNat]?=some (qC (coP (aj q) i)):=pE_get (cK hlt2)
  have hcur:qs (coP (gE o k (aj q) n i) (n+i))≤B:=by
   rw[nB _ _ _ _ _ _ (by omega)];exact hb1 _
  have hkq:qs k≤B+tt:=by
   have e1:=iN (coP o (n+(aj q).length- 1)) (aF q);have e2:=hb1 (n+(aj q).length- 1);rw[hk];omega
  have hkm:=dk k (coP (aj q) i);have hqi:=hb2 i;have hik:n+i< (gE o k (aj q) n i).length:=by simp;omega
  have hgr:(pE (gE o k (aj q) n i))[(0+(((n:Nat):Int)+(i:Nat)).toNat)]?=some (qC (coP (gE o k (aj q) n i) (n+i))):=by
   rw[show 0+(((n:Nat):Int)+(i:Nat)).toNat=n+i by omega];exact pE_get (cK hik)
  refine ae (am (s_r 6 ?_));refine a_1 ?_;refine i_x hgq ?_;refine l_x hgq ?_;refine a_z ?_;refine r_d ba 16 ?_;refine a_8 ?_;refine a_1 ?_;refine ci (.load_l rfl rfl hgr TG.h TS.h (nle rfl)) rfl rfl ?_;refine c_s (cN k (coP (aj q) i) (by omega)) ?_;refine c_s (lE (coP (gE o k (aj q) n i) (n+i)) (k* coP (aj q) i) (by omega)) ?_;refine a_1 ?_;refine fY (.store rfl rfl hgr rfl rfl rfl TS.h (nle rfl)) ?_;refine au (n_k ?_);refine r_m 2 ?_;refine a_z ?_;refine⟨i+1,by omega,hlt2,?_⟩
  have hst2:(pE (gE o k (aj q) n i)).set (0+(((n:Nat):Int)+(i:Nat)).toNat) (qC (coP (gE o k (aj q) n i) (n+i)- k* coP (aj q) i))=pE (gE o k (aj q) n (i+1)):=by
   rw[show 0+(((n:Nat):Int)+(i:Nat)).toNat=n+i by omega,mK];rfl
  have hl2:(gE o k (aj q) n (i+1)).length=(gE o k (aj q) n i).length:=by simp
  simp only[dvT.eq_1,hl2];exact s_x [] (fun hs=>eA) (fun hs=>e_28) e_7
  have hge:i=(aj q).length:=by
   have:¬i< (aj q).length:=by simpa using h3
   omega
  subst hge;refine aA ⟨(),trivial,?_⟩;rw[iD,hlu];exact s_e [];rintro _ _;refine r_m 3 ?_;refine a_z ?_;refine⟨(n,u.set n k,gE o k (aj q) n (aj q).length),Nat.lt_succ_self n,⟨by omega,by simp only;omega,by simp only;rw[iD];exact ho,hst,hr⟩,?_⟩;simp only[dvS.eq_1,hlu,iD];exact s_e [];exact absurd h1 (by simp)
 rintro⟨u,o⟩ hx;rw[←hx] at hdl hend⊢;simp only at hdl hend⊢;have hlu:u.length≤274877906945:=by rw[hdl.1];simp;omega
 have hfu:List.take u.length (List.drop 0 (pE u))=pE u:=by rw[List.drop_zero,List.take_of_length_le (by simp)]
 have hfo:List.take o.length (List.drop 0 (pE o))=pE o:=by rw[List.drop_zero,List.take_of_length_le (by simp)]
 refine s_r 6 ?_;refine a_1 ?_;refine o_1 (.callS1 rfl rfl rfl (.shut rfl d_n (.nil)) rfl ((by rw[hfu];exact eC u (by omega)))) ?_;refine a_1 ?_;refine o_1 (.callS1 rfl rfl rfl (.shut rfl d_n (.nil)) rfl ((by rw[hfo];exact eC o (by rw[hdl.2];omega)))) ?_;refine a_z ?_;refine ak (Fin.many ⟨_,_,rfl,rfl,⟨_,_,rfl,rfl,rfl⟩⟩ (nle rfl) ?_);exact ai (ao ay (aC _)) (ai (ao ay (aC _)) aw)
def gcS:List Rat×List Rat→AState
 |(p,q)=>⟨[(0,.arr (pE p)),(1,.arr (pE q))],[],1,21⟩
theorem Dx(p:List Rat)(q:List Rat):gcS (p,q)=⟨[(0,.arr (pE p)),(1,.arr (pE q))],[],1,21⟩:=rfl
theorem degP_neg{l:List Rat}:cQ l< 0↔aj l=[]:=by
 unfold cQ;constructor;intro h;exact List.length_eq_zero_iff.1 (by omega);intro h;rw[h];decide
theorem IN(f:Nat)(p q g:List Rat)(h:qf f p q=some g)(hp1:p.length≤274877906944)(hq1:q.length≤274877906944):FS 236 [.arr (pE p),.arr (pE q)] (.arr (pE g)):=by
 refine f_c Tryz.func236 ?_;refine r_z 1 ?_;refine bD (fun p:List Rat=>⟨[(0,.arr (pE p))],[],1,21⟩) (fun p=>smL p∧p.length≤274877906944∧g=cI p) ?_ ?_;refine am (aD (fun x:Nat×List Rat×List Rat=>gcS x.2) (fun x=>x.1) (fun x=>qf x.1 x.2.1 x.2.2=some g∧x.2.1.length≤274877906944∧x.2.2.length≤274877906944) (f,p,q) ⟨h,hp1,hq1⟩ ?_ ?_);simp only[Dx];exact s_e [];rintro⟨f,p,q⟩ ⟨h,hp1,hq1⟩;simp only at h hp1 hq1;simp only[Dx];cases f with
 |zero=>cases h
 |succ f=>
  rw[qf] at h;refine ae (r_c 3 (eE q (by omega)) ?_);refine a_z ?_;refine aq rfl (fun h1=>?_) (fun h1=>?_)
  ·have a:aj q≠[]:=by
    intro e;have e2:=degP_neg.2 e;simp at h1;omega
   rw[if_neg a] at h;split at h
   case isFalse=>cases h
   case isTrue hs=>
   have b:=sa (p:=p) (q:=q);have c:=pZ (cf p q).2;refine an (am (r_c 8 (tp p q (mxL p) (mxL q) (fj p) (fj q) (fo p) (fo q) hs.1 a hp1 hq1) ?_));refine a_z ?_;refine r_m 5 ?_;refine c_s (wl (cf p q).2 (Ak hs a).2 (by omega)) ?_;refine a_z ?_;refine⟨(f,q,cI (cf p q).2),Nat.lt_succ_self f,⟨h,hq1,by simp only;omega⟩,?_⟩;simp only[Dx];exact s_e []
  ·have a:aj q=[]:=by
    refine degP_neg.1 ?_;simp at h1;omega
   rw[if_pos a] at h;split at h
   case isFalse=>cases h
   case isTrue hs=>
   cases h;refine aA ⟨p,⟨hs,hp1,rfl⟩,?_⟩;exact s_e []
 rintro p ⟨hs,hp1,rfl⟩;refine r_c 3 (wl p hs (by omega)) ?_;refine a_z ?_;exact ak (t_e (aC _))

theorem lD(l:List Rat)(hl:l.length≤281474976710656):GSpec Tryz.prog 191 [bP l] (my l):=by
 refine GSpec.enter Tryz.func191 rfl (by kernel_rfl) rfl rfl rfl ?_ ?_ rfl ?_;exact ac (dj l) ag;intro k xs h;unfold my at h;split at h;cases h;exact ac (ah _) (ac (aP _) ag);cases h;intro b N E;refine GWp.seq ?_;refine GWp.lift ?_;refine r_m 4 ?_;refine a_z ?_;refine GWp.block ?_;refine GWp.loopS (fun m:Nat=>⟨[(0,.v (.func (.yield b) #[] #[])),(1,bP l),(3,i64 ((m:Int)- 1))],[],1,19⟩) (fun m=>l.length- m) (fun m=>m) (fun m=>m≤l.length) l.length (Nat.le_refl _) (by simp) ?_ ?_;exact s_e [];intro m e;refine GWp.seq ?_;refine GWp.seq ?_;refine GWp.lift ?_;refine r_m 2 ?_;refine a_z ?_;refine GWp.cond rfl (fun h=>?_) (fun h=>?_)
 ·refine GWp.skip ?_
  have d:1≤m:=by have:=of_decide_eq_true h;omega
  have a:(pE l)[((m:Int)- 1).toNat]?=some (qC (coP l (m- 1))):=by rw[show((m:Int)- 1).toNat=m- 1 by omega];exact pE_get (cK (by omega))
  refine GWp.seq ?_;refine GWp.block ?_;refine GWp.seq ?_;refine GWp.regY (fr2:=[(0,.v (.func (.yield b) #[] #[])),(1,bP l),(3,i64 ((m:Int)- 1)),(11,.v (.func (.yield b) #[] #[])),(12,i64 ((m:Int)- 1)),(16,.agg (qC (coP l (m- 1))))]) (hp2:=[]) (nx2:=1) 6 rfl rfl rfl rfl rfl rfl ?_ rfl rfl rfl ?_ ?_ ?_;refine o_0 (.move rfl) ?_;refine o_0 (.move rfl) ?_;refine ci (.load_a1 rfl rfl TG.h rfl) rfl rfl ?_;refine o_0 (.move rfl) ?_;refine i_x a ?_;refine l_x a ?_;refine au ?_;exact s_y [] (fun hs=>eA) (fun hs=>kX);rotate_left 2;intro c;refine o_0 (.un rfl pQ) ?_;refine au ?_;rotate_left;unfold my;rw[if_pos (by omega)];have e1:((l.length- 1- (l.length- m):Nat):Int)=(m:Int)- 1:=by omega
  have e2:l.length- 1- (l.length- m)=m- 1:=by omega
  rw[e1,e2];rfl;exact ac (ah _) (ac (aP _) ag);cases c with
  |false=>
   refine GWp.cond rfl (fun h=>?_) (fun h=>?_);exact GWp.ret ⟨.inr rfl,fun h=>by cases h⟩;cases h
  |true=>
   refine GWp.cond rfl (fun h=>?_) (fun h=>?_);cases h;refine GWp.skip ?_;refine GWp.lift ?_;refine r_m 3 ?_;refine a_z ?_;refine⟨rfl,m- 1,by omega,by omega,by omega,?_⟩;exact s_e []
 refine GWp.exit ⟨.inl rfl,fun _=>?_⟩;have:m=0:=by have:=of_decide_eq_false h;omega
 subst this;unfold my;rw[if_neg (by omega)]
theorem lF(l:List Rat):FS 157 [.arr (pE l)] (.clos 191 [] [bP l]):=by
 refine f_c Tryz.func157 ?_;refine r_z 2 ?_;refine r_z 2 ?_;refine ak (⟨.inr rfl,[_],⟨_,[],rfl,rfl,rfl⟩,?_⟩);exact Cv.clos aw (ai (Cv.boxp ay rfl (fun _ _ h=>by cases h) rfl (ac (aC l) ag)) aw)
def hoS(p:List Rat)(g:Nat)(cap:List AV)(w:Nat→Rat):Nat→AState
 |k=>⟨[(4,.lptr 1 0 0),(5,.aptr [[.clos g [] cap]] 0 0),(6,.lptr 2 0 0),(10,.clos 191 [] [bP p])],[(1,some ⟨34,3,[qC (w k)]⟩),(2,some ⟨34,3,[zC]⟩)],3,18⟩
theorem DJ(p:List Rat)(g:Nat)(cap:List AV)(w:Nat→Rat)(hl:p.length≤281474976710656)(hcap:∀c∈cap,Closed c)(hg:∀k,k< p.length→FS g ((.agg (qC (w k)):: .agg (qC (coP p (p.length- 1- k)))::cap).map coe) (.agg (qC (w (k+1))))):FS 115 [.arr (pE p),.agg (qC (w 0)),.clos g [] cap] (.agg (qC (w p.length))):=by
 have hb:=lF p;have d:=lD p hl;have b:Closed (.clos g [] cap):=aU ag hcap;have i:Closed (.aptr [[.clos g [] cap]] 0 0):=bC (ac b ag);have f:Closed (.clos 191 [] [bP p]):=aU ag (ac (dj p) ag);refine f_c Tryz.func115 ?_;refine r_z 3 ?_;refine AWp.ent (st':=⟨[(0,.arr (pE p)),(4,.lptr 1 0 0),(5,.aptr [[.clos g [] cap]] 0 0),(6,.lptr 2 0 0)],[(1,some ⟨34,3,[qC (w 0)]⟩),(2,some ⟨34,3,[zC]⟩)],3,18⟩) ?_ ?_;have:=ac b ag;exact s_f [(1,4),(2,6)];refine ae (r_c 2 (hb) ?_);refine au ?_;refine aH (fun _:Unit=>⟨[(4,.lptr 1 0 0),(6,.lptr 2 0 0)],[(1,some ⟨34,3,[qC (w p.length)]⟩),(2,some ⟨34,3,[zC]⟩)],3,18⟩) (fun _=>True) ?_ ?_;refine am (AWp.rangeFunc (α:=Nat) (γ:=Empty) p.length (hoS p g cap w) (fun k=>k) (fun k=>k≤p.length) (fun e=>nomatch e) (fun _ e=>nomatch e) 0 rfl d rfl rfl ?_ (fun _=>⟨rfl,rfl⟩) (fun e=>nomatch e) (Nat.zero_le _) rfl (fun _ h=>h) ?_ ?_ ?_ ?_ (fun _ e=>nomatch e));intro k xs a;unfold my at a;split at a;cases a;rfl;cases a;rw[hoS.eq_1];exact s_y [] (fun hs=>eA) (fun hs=>kX);exact ac (dj p) ag
 ·intro l k xs j a
  unfold my at a;split at a;rotate_left;cases a;rename_i hlt;cases a;show AWp _ _ _ _ ⟨[(12,.agg (qC (coP p (p.length- 1- k)))),(11,i64 (p.length- 1- k:Nat)),(4,.lptr 1 0 0),(5,.aptr [[.clos g [] cap]] 0 0),(6,.lptr 2 0 0),(10,.clos 191 [] [bP p]),(1004,.lptr 1 0 0),(1005,.aptr [[.clos g [] cap]] 0 0),(1006,.lptr 2 0 0),(1010,.clos 191 [] [bP p])],[(1,some ⟨34,3,[qC (w k)]⟩),(2,some ⟨34,3,[zC]⟩)],3,18⟩;refine r_m 2 ?_;refine a_z ?_;refine am (r_m 5 ?_);refine c_s (hg k hlt) ?_;refine a_z ?_;refine⟨k+1,⟨hlt,rfl⟩,?_⟩;show SEntT _ ⟨[(1004,.lptr 1 0 0),(1005,.aptr [[.clos g [] cap]] 0 0),(1006,.lptr 2 0 0),(1010,.clos 191 [] [bP p])],[(1,some ⟨34,3,[qC (w (k+1))]⟩),(2,some ⟨34,3,[zC]⟩)],3,18⟩;exact s_y [] (fun hs=>eA) (fun hs=>kX)
 intro k j a;unfold my at a;split at a;cases a;refine⟨(),trivial,?_⟩;rw[hoS.eq_1];have h1:k=p.length:=by omega
 subst h1;exact s_e [];rintro _ _;refine r_z 2 ?_;exact ak (c_e (aP _))
theorem IP(v c x:Rat)(h1:qs v+qs x≤549755813888)(h2:qs (v* x)+qs c≤549755813888):FS 116 [.agg (qC v),.agg (qC c),bQ x] (.agg (qC (v* x+c))):=by
 refine f_c Tryz.func116 ?_;refine r_z 3 ?_;refine ae (r_d ba 6 ?_);refine c_s (cN v x h1) ?_;refine c_s (fD (v* x) c h2) ?_;refine a_1 ?_;refine au (n_k ?_);exact ak (c_e (aP _))
theorem j8(p:List Rat)(x:Rat)(h:fe p x):FS 57 [.arr (pE p),.agg (qC x)] (.agg (qC (af p x))):=by
 have c:∀k,k< p.length→FS 116 [.agg (qC (af (p.drop (p.length- k)) x)),.agg (qC (coP p (p.length- 1- k))),bQ x] (.agg (qC (af (p.drop (p.length- (k+1))) x))):=fun k b=>by
  have:=DW h k b;rw[tG b];exact IP _ _ _ this.1 this.2
 have a:=DJ p 116 [bQ x] (fun k=>af (p.drop (p.length- k)) x) (by have:=h.2;omega) (ac (b7 x) ag) c;simp only[Nat.sub_zero,Nat.sub_self,List.drop_zero,List.drop_length] at a;rw[show af [] x=0 from rfl,qC0] at a;refine f_c Tryz.func57 ?_;refine r_z 2 ?_;refine AWp.ent (st':=⟨[(0,.arr (pE p)),(3,bQ x),(4,.lptr 1 0 0)],[(1,some ⟨34,3,[zC]⟩)],2,9⟩) ?_ ?_;exact s_e [(1,4)];refine r_c 5 (a) ?_;refine a_z ?_;exact ak (c_e (aP _))
def hsS(p:List Rat)(g:Nat)(cap:List AV)(w:Nat→Rat×Rat):Nat→AState
 |k=>⟨[(4,.lptr 1 0 0),(5,.aptr [[.clos g [] cap]] 0 0),(6,.lptr 2 0 0),(10,.clos 191 [] [bP p])],[(1,some ⟨40,6,[spC (w k).1 (w k).2]⟩),(2,some ⟨40,6,[zC++zC]⟩)],3,18⟩
theorem DI(p:List Rat)(g:Nat)(cap:List AV)(w:Nat→Rat×Rat)(hl:p.length≤281474976710656)(hcap:∀c∈cap,Closed c)(hg:∀k,k< p.length→FS g ((.agg (spC (w k).1 (w k).2):: .agg (qC (coP p (p.length- 1- k)))::cap).map coe) (.agg (spC (w (k+1)).1 (w (k+1)).2))):FS 244 [.arr (pE p),.agg (spC (w 0).1 (w 0).2),.clos g [] cap] (.agg (spC (w p.length).1 (w p.length).2)):=by
 have hb:=lF p;have d:=lD p hl;have b:Closed (.clos g [] cap):=aU ag hcap;have i:Closed (.aptr [[.clos g [] cap]] 0 0):=bC (ac b ag);have f:Closed (.clos 191 [] [bP p]):=aU ag (ac (dj p) ag);refine f_c Tryz.func244 ?_;refine r_z 3 ?_;refine AWp.ent (st':=⟨[(0,.arr (pE p)),(4,.lptr 1 0 0),(5,.aptr [[.clos g [] cap]] 0 0),(6,.lptr 2 0 0)],[(1,some ⟨40,6,[spC (w 0).1 (w 0).2]⟩),(2,some ⟨40,6,[zC++zC]⟩)],3,18⟩) ?_ ?_;have:=ac b ag;exact s_f [(1,4),(2,6)];refine ae (r_c 2 (hb) ?_);refine au ?_;refine aH (fun _:Unit=>⟨[(4,.lptr 1 0 0),(6,.lptr 2 0 0)],[(1,some ⟨40,6,[spC (w p.length).1 (w p.length).2]⟩),(2,some ⟨40,6,[zC++zC]⟩)],3,18⟩) (fun _=>True) ?_ ?_;refine am (AWp.rangeFunc (α:=Nat) (γ:=Empty) p.length (hsS p g cap w) (fun k=>k) (fun k=>k≤p.length) (fun e=>nomatch e) (fun _ e=>nomatch e) 0 rfl d rfl rfl ?_ (fun _=>⟨rfl,rfl⟩) (fun e=>nomatch e) (Nat.zero_le _) rfl (fun _ h=>h) ?_ ?_ ?_ ?_ (fun _ e=>nomatch e));intro k xs a;unfold my at a;split at a;cases a;rfl;cases a;rw[hsS.eq_1];exact s_y [] (fun hs=>eA) (fun hs=>kX);exact ac (dj p) ag
 ·intro l k xs j a
  unfold my at a;split at a;rotate_left;cases a;rename_i hlt;cases a;show AWp _ _ _ _ ⟨[(12,.agg (qC (coP p (p.length- 1- k)))),(11,i64 (p.length- 1- k:Nat)),(4,.lptr 1 0 0),(5,.aptr [[.clos g [] cap]] 0 0),(6,.lptr 2 0 0),(10,.clos 191 [] [bP p]),(1004,.lptr 1 0 0),(1005,.aptr [[.clos g [] cap]] 0 0),(1006,.lptr 2 0 0),(1010,.clos 191 [] [bP p])],[(1,some ⟨40,6,[spC (w k).1 (w k).2]⟩),(2,some ⟨40,6,[zC++zC]⟩)],3,18⟩;refine r_m 2 ?_;refine a_z ?_;refine am (r_m 5 ?_);refine c_s (hg k hlt) ?_;refine a_z ?_;refine⟨k+1,⟨hlt,rfl⟩,?_⟩;show SEntT _ ⟨[(1004,.lptr 1 0 0),(1005,.aptr [[.clos g [] cap]] 0 0),(1006,.lptr 2 0 0),(1010,.clos 191 [] [bP p])],[(1,some ⟨40,6,[spC (w (k+1)).1 (w (k+1)).2]⟩),(2,some ⟨40,6,[zC++zC]⟩)],3,18⟩;exact s_y [] (fun hs=>eA) (fun hs=>kX)
 intro k j a;unfold my at a;split at a;cases a;refine⟨(),trivial,?_⟩;rw[hsS.eq_1];have h1:k=p.length:=by omega
 subst h1;exact s_e [];rintro _ _;refine r_z 2 ?_;exact ak (c_e (bJ _ _))
abbrev bS(s:Sp):AV:= .aptr [spC s.1 s.2] 0 0
theorem oX(s:Sp):Closed (bS s):=bC (bi _ _)
theorem Hh{a b:Sp}(h:smL (fM a b)):smS (iC a b):=⟨qt h,qt h⟩
theorem IL(v s:Sp)(c:Rat)(hv:smS v)(hs:smS s)(hc:sm c)(hp:smL (fM v s)):FS 245 [.agg (spC v.1 v.2),.agg (qC c),bS s] (.agg (spC (AO (iC v s) (c,c)).1 (AO (iC v s) (c,c)).2)):=by
 have a:=Hh hp;refine f_n Tryz.func245 ?_ ?_;exact ac (bJ _ _) (ac (aP c) (ac (oX s) ag));refine r_z 3 ?_;refine ae (r_d ba 7 ?_);refine c_s (fs_SMul v.1 v.2 s.1 s.2 hv.1 hv.2 hs.1 hs.2 hp) ?_;refine c_s (BK c) ?_;refine c_s (fs_SAdd (iC v s).1 (iC v s).2 c c a.1 a.2 hc hc) ?_;refine a_1 ?_;refine au (n_k ?_);exact ak (c_e (bJ _ _))
theorem fs_Over(p:List Rat)(s:Sp)(h:vZ p s):FS 208 [.arr (pE p),.agg (spC s.1 s.2)] (.agg (spC (dl p s).1 (dl p s).2)):=by
 obtain⟨f,hs,u,d⟩:=h;have o:=bO p;refine f_c Tryz.func208 ?_;refine r_z 2 ?_;refine AWp.ent (st':=⟨[(0,.arr (pE p)),(3,bS s),(4,.lptr 1 0 0)],[(1,some ⟨40,6,[zC++zC]⟩)],2,30⟩) ?_ ?_;exact s_e [(1,4)];refine r_c 3 (eC p (by omega)) ?_;refine a_z ?_;refine bD (fun _:Unit=>⟨[(0,.arr (pE (aj p))),(3,bS s),(4,.lptr 1 0 0)],[(1,some ⟨40,6,[zC++zC]⟩)],2,30⟩) (fun _=>dB s.1 s.2≤0∧aj p≠[]) ?_ ?_;by_cases hv:dB s.1 s.2≤0;refine r_c 8 (lZ s.1 s.2 hs.1 hs.2) ?_;refine a_2 ?_;refine y_g rfl (by simp[hv]) (.move rfl) ?_;refine y_g rfl (by simp[hv]) (.lenP rfl rfl rfl rfl te_36.h) ?_;refine y_g rfl (by simp[hv]) (.bin rfl rfl db) ?_;refine o_0 (.pickF rfl (by simp[hv]) rfl) ?_;refine au ?_;refine aq rfl (fun h1=>?_) (fun h1=>?_)
 have c:aj p=[]:=by
  have:(aj p).length=0:=by simpa using h1
  exact List.length_eq_zero_iff.1 this
 have b:dl p s=(0,0):=by unfold dl;rw[if_pos (.inr c)]
 rw[b];refine r_z 2 ?_;refine ak (Fin.cell rfl rfl rfl TG.h TS.h (nle rfl) (Cv.agg ?_));show CvL _ _ _ _ (qC 0++qC 0);rw[qC0];exact ai (Cv.emp _) (ai (ao ay (ah _)) (ai (Cv.emp _) (ai (Cv.emp _) (ai (ao ay (ah _)) (ai (Cv.emp _) aw)))))
 have c:aj p≠[]:=by
  have:¬(aj p).length=0:=by simpa using h1
  exact fun e=>this (by rw[e];rfl)
 refine an ⟨(),⟨hv,c⟩,?_⟩;exact s_e [];refine r_c 8 (lZ s.1 s.2 hs.1 hs.2) ?_;refine a_2 ?_;refine n_g rfl (by simp[hv]) ?_;refine n_g rfl (by simp[hv]) ?_;refine n_g rfl (by simp[hv]) ?_;refine o_0 (.pickT rfl (by simp[hv]) rfl) ?_;refine au ?_;refine aq rfl (fun h1=>?_) (fun h1=>?_);have b:dl p s=(0,0):=by unfold dl;rw[if_pos (.inl hv)]
 rw[b];refine r_z 2 ?_;refine ak (Fin.cell rfl rfl rfl TG.h TS.h (nle rfl) (Cv.agg ?_));show CvL _ _ _ _ (qC 0++qC 0);rw[qC0];exact ai (Cv.emp _) (ai (ao ay (ah _)) (ai (Cv.emp _) (ai (Cv.emp _) (ai (ao ay (ah _)) (ai (Cv.emp _) aw)))));cases h1;rintro _ ⟨hv,c⟩;have n:=List.length_pos_iff.2 c
 have b:dl p s=ovP (aF p,aF p) s ((aj p).take ((aj p).length- 1)):=by
  unfold dl;rw[if_neg (by rintro(e|e);exact e hv;exact c e)]
 obtain⟨l,a⟩:∃l,l=(aj p).take ((aj p).length- 1):=⟨_,rfl⟩;rw[←a] at d b;rw[b];have g:l.length=(aj p).length- 1:=by rw[a];simp
 have i:∀q∈l,sm q:=fun q m=>f q (df (List.mem_of_mem_take (by rw[←a];exact m)))
 have t:∀k,k< l.length→FS 245 [.agg (spC (ovP (aF p,aF p) s (l.drop (l.length- k))).1 (ovP (aF p,aF p) s (l.drop (l.length- k))).2),.agg (qC (coP l (l.length- 1- k))),bS s] (.agg (spC (ovP (aF p,aF p) s (l.drop (l.length- (k+1)))).1 (ovP (aF p,aF p) s (l.drop (l.length- (k+1)))).2)):=fun k r=>by
  have h1:=xW (l.length- (k+1)) d;rw[tG r] at h1⊢;exact IL _ s _ (okOv_sm h1.1) hs h1.2.2.1 h1.2.1
 have j:=DI l 245 [bS s] (fun k=>ovP (aF p,aF p) s (l.drop (l.length- k))) (by omega) (ac (oX s) ag) t;simp only[Nat.sub_zero,Nat.sub_self,List.drop_zero,List.drop_length] at j
 have hg:(pE (aj p))[(((aj p).length:Int)- 1).toNat]?=some (qC (aF p)):=by
  rw[show(((aj p).length:Int)- 1).toNat=(aj p).length- 1 by omega];exact pE_get (c8 (by omega))
 refine r_z 4 ?_;refine ae (r_d ba 11 ?_);refine a_2 ?_;refine o_0 (.sa_h rfl rfl (h:=(aj p).length- 1) (by omega) (by simp) te_36.h (mL _)) ?_;refine a_2 ?_;refine i_x hg ?_;refine l_x hg ?_;refine c_s (BK (aF p)) ?_;refine o_0 (.makeFunc rfl rfl) ?_;refine o_0 (.call rfl rfl rfl ((by rw[uI,←a];exact j))) ?_;refine fY (.store rfl rfl rfl rfl rfl rfl TS.h (nle rfl)) ?_;refine au (n_k ?_);exact ak (c_e (bJ _ _))
def hpS(p:List Rat)(g:Nat)(cap:List AV)(w:Nat→List Rat):Nat→AState
 |k=>⟨[(4,.lptr 1 0 0),(5,.aptr [[.clos g [] cap]] 0 0),(10,.clos 191 [] [bP p])],[(1,some ⟨36,1,[[.arr (pE (w k))]]⟩)],2,18⟩
theorem DK(p:List Rat)(g:Nat)(cap:List AV)(w:Nat→List Rat)(hl:p.length≤281474976710656)(hcap:∀c∈cap,Closed c)(hg:∀k,k< p.length→FS g ((.arr (pE (w k)):: .agg (qC (coP p (p.length- 1- k)))::cap).map coe) (.arr (pE (w (k+1))))):FS 110 [.arr (pE p),.arr (pE (w 0)),.clos g [] cap] (.arr (pE (w p.length))):=by
 have hb:=lF p;have d:=lD p hl;have b:Closed (.clos g [] cap):=aU ag hcap;have i:Closed (.aptr [[.clos g [] cap]] 0 0):=bC (ac b ag);have f:Closed (.clos 191 [] [bP p]):=aU ag (ac (dj p) ag);refine f_c Tryz.func110 ?_;refine r_z 3 ?_;refine AWp.ent (st':=⟨[(0,.arr (pE p)),(4,.lptr 1 0 0),(5,.aptr [[.clos g [] cap]] 0 0)],[(1,some ⟨36,1,[[.arr (pE (w 0))]]⟩)],2,18⟩) ?_ ?_;have:=ac b ag;exact s_f [(1,4)];refine ae (r_c 2 (hb) ?_);refine au ?_;refine aH (fun _:Unit=>⟨[(4,.lptr 1 0 0)],[(1,some ⟨36,1,[[.arr (pE (w p.length))]]⟩)],2,18⟩) (fun _=>True) ?_ ?_;refine am (AWp.rangeFunc (α:=Nat) (γ:=Empty) p.length (hpS p g cap w) (fun k=>k) (fun k=>k≤p.length) (fun e=>nomatch e) (fun _ e=>nomatch e) 0 rfl d rfl rfl ?_ (fun _=>⟨rfl,rfl⟩) (fun e=>nomatch e) (Nat.zero_le _) rfl (fun _ h=>h) ?_ ?_ ?_ ?_ (fun _ e=>nomatch e));intro k xs a;unfold my at a;split at a;cases a;rfl;cases a;rw[hpS.eq_1];exact s_y [] (fun hs=>eA) (fun hs=>kX);exact ac (dj p) ag
 ·intro l k xs j a
  unfold my at a;split at a;rotate_left;cases a;rename_i hlt;cases a;show AWp _ _ _ _ ⟨[(12,.agg (qC (coP p (p.length- 1- k)))),(11,i64 (p.length- 1- k:Nat)),(4,.lptr 1 0 0),(5,.aptr [[.clos g [] cap]] 0 0),(10,.clos 191 [] [bP p]),(1004,.lptr 1 0 0),(1005,.aptr [[.clos g [] cap]] 0 0),(1010,.clos 191 [] [bP p])],[(1,some ⟨36,1,[[.arr (pE (w k))]]⟩)],2,18⟩;refine r_m 2 ?_;refine a_z ?_;refine am (r_m 5 ?_);refine c_s (hg k hlt) ?_;refine a_z ?_;refine⟨k+1,⟨hlt,rfl⟩,?_⟩;show SEntT _ ⟨[(1004,.lptr 1 0 0),(1005,.aptr [[.clos g [] cap]] 0 0),(1010,.clos 191 [] [bP p])],[(1,some ⟨36,1,[[.arr (pE (w (k+1)))]]⟩)],2,18⟩;exact s_y [] (fun hs=>eA) (fun hs=>kX)
 intro k j a;unfold my at a;split at a;cases a;refine⟨(),trivial,?_⟩;rw[hpS.eq_1];have h1:k=p.length:=by omega
 subst h1;exact s_e [];rintro _ _;refine r_z 2 ?_;exact ak (t_e (aC _))
theorem BF(v q:List Rat)(c:Rat)(h:fx v q)(hc:sm c)(hl:(aJ v q).length≤274877906944):FS 111 [.arr (pE v),.agg (qC c),bP q] (.arr (pE (fV (aJ v q) (b9 c)))):=by
 have b:=kP c;refine f_c Tryz.func111 ?_;refine r_z 2 ?_;refine ae (r_d ba 7 ?_);refine c_s (IM v q (mxL v) (mxL q) (fj v) (fj q) (fo v) (fo q) h.1 h.2.1 h.2.2.1 h.2.2.2) ?_;refine c_s (uq c) ?_;refine c_s (qj (aJ v q) (b9 c) (nJ h) (vy fun x a=>by rw[List.mem_singleton.1 a];exact hc) (by omega) (by omega)) ?_;refine a_1 ?_;refine au (n_k ?_);exact ak (t_e (aC _))
theorem DN(p q:List Rat)(h:iu q p)(hp:p.length≤274877906944):FS 47 [.arr (pE p),.arr (pE q)] (.arr (pE (ca q p))):=by
 have c:∀k,k< p.length→FS 111 [.arr (pE (ca q (p.drop (p.length- k)))),.agg (qC (coP p (p.length- 1- k))),bP q] (.arr (pE (ca q (p.drop (p.length- (k+1)))))):=fun k b=>by
  have h1:=ui (p.length- (k+1)) h;rw[tG b] at h1⊢;exact BF _ q _ h1.2.1 h1.2.2.1 h1.2.2.2
 have a:=DK p 111 [bP q] (fun k=>ca q (p.drop (p.length- k))) (by omega) (ac (dj q) ag) c;simp only[Nat.sub_zero,Nat.sub_self,List.drop_zero,List.drop_length] at a;refine f_c Tryz.func47 ?_;refine r_z 2 ?_;refine AWp.ent (st':=⟨[(0,.arr (pE p)),(3,bP q)],[],1,8⟩) ?_ ?_;exact s_e [];refine r_c 4 (a) ?_;refine a_z ?_;exact ak (t_e (aC _))
theorem lY(p:List Rat)(c:Rat)(h:iu [c,1] p)(hp:p.length≤274877906944):FS 12 [.arr (pE p),.agg (qC c)] (.arr (pE (ca [c,1] p))):=by
 refine f_c Tryz.func12 ?_;refine r_z 2 ?_;refine r_c 5 (fs_line c) ?_;refine c_s (DN p [c,1] h hp) ?_;refine a_z ?_;exact ak (t_e (aC _))
def coS:Nat×Nat→AState
 |(a,b)=>⟨[(2,.lptr 1 0 0),(3,.lptr 2 0 0),(4,.lptr 3 0 0)],[(1,some ⟨34,3,[qC (nQ a)]⟩),(2,some ⟨34,3,[qC (nQ b)]⟩),(3,some ⟨34,3,[zC]⟩)],4,18⟩
theorem wO(a:Nat)(b:Nat):coS (a,b)=⟨[(2,.lptr 1 0 0),(3,.lptr 2 0 0),(4,.lptr 3 0 0)],[(1,some ⟨34,3,[qC (nQ a)]⟩),(2,some ⟨34,3,[qC (nQ b)]⟩),(3,some ⟨34,3,[zC]⟩)],4,18⟩:=rfl
theorem wt(a b:Nat)(ha:bl a≤68719476736)(hb:bl b≤68719476736):FS 263 [.agg (qC (nQ a)),.agg (qC (nQ b))] (.agg (qC (nQ (Nat.gcd a b)))):=by
 refine f_c Tryz.func263 ?_;refine r_z 3 ?_;refine bD (fun _:Unit=>coS (Nat.gcd a b,0)) (fun _=>True) ?_ ?_;refine am (aD coS (fun x=>x.2) (fun x=>Nat.gcd x.1 x.2=Nat.gcd a b∧bl x.1≤68719476736∧bl x.2≤68719476736) (a,b) ⟨rfl,ha,hb⟩ ?_ ?_);simp only[wO];exact s_e [];rintro⟨u,v⟩ ⟨hg,f,hv⟩;simp only at hg f hv;rw[wO];refine ae (r_c 3 (cx (nQ v)) ?_);refine a_z ?_;refine aq rfl (fun h=>?_) (fun h=>?_)
 have c:v≠0:=by
  intro e;subst e;exact absurd h (by decide)
 refine an ?_;have h1:=nk (n:=u) f (by decide);have p:=nk (n:=v) hv (by decide);have o:=iN (nQ u) (nQ v);have d:=iR (nQ u) (nQ v) (fun e=>c (nQ_zero.1 e)) (by omega);have l:=rM (nQ u/ nQ v) (by omega);rw[zp u v c,Bn u v c] at l;rw[zp u v c] at d;have m:=nk (n:=u/ v) (k:=68719476736) (Nat.le_trans (fG u v) f) (by decide);have g:=cN (nQ v) (nQ (u/ v)) (by omega);rw[HZ] at g;have j:v* (u/ v)≤u:=Nat.mul_div_le u v;have q:=nk (n:=v* (u/ v)) (k:=68719476736) (Nat.le_trans (dP j) f) (by decide);have i:=lE (nQ u) (nQ (v* (u/ v))) (by omega);rw[nQ_sub j,show u- v* (u/ v)=u % v by have:=Nat.div_add_mod u v;omega] at i;refine am (r_d ba 11 ?_);refine c_s (d) ?_;refine c_s (l) ?_;refine c_s (g) ?_;refine c_s (i) ?_;refine a_2 ?_;refine au (n_k ?_);refine⟨(v,u % v),Nat.mod_lt _ (by omega),⟨?_,hv,Nat.le_trans (dP (Nat.mod_le u v)) f⟩,?_⟩;rw[←hg];show Nat.gcd v (u % v)=Nat.gcd u v;rw[Nat.gcd_comm v,Nat.gcd_comm u v,←Nat.gcd_rec];simp only[wO];exact s_e []
 have c:v=0:=by
  have h1:sgZ (nQ v).num=0:=by simpa using h
  exact nQ_zero.1 (sgZ_num_eq.1 h1)
 subst c;rw[Nat.gcd_zero_right] at hg;refine aA ⟨(),trivial,?_⟩;rw[←hg];simp only[wO];exact s_e [];rintro _ _;simp only[wO];refine r_z 2 ?_;exact ak (c_e (aP _))
end Go.Proofs.YtkhclghbcicapaaGreatDoor
