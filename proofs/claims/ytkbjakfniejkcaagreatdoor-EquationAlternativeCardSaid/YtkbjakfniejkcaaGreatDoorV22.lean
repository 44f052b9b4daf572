/- Part V22 of the proof. -/
import Derived.Test.YtkbjakfniejkcaaGreatDoorV21
set_option linter.all false
namespace Go.Proofs.YtkbjakfniejkcaaGreatDoor
open Go.Abs
set_option maxRecDepth 20000
def mulS(p:Lq)(q:Lq):Nat×Lq->AState
 |(i,o)=>⟨[(1,.arr (pE q)),(5,.lsl 1 0 o.length (some o.length) 3),(25,.arr (pE p)),(26,i64 p.length),(27,i64 i)],[(1,some ⟨36,3,pE o⟩)],2,61⟩
def mulT(p:Lq)(q:Lq)(i:Nat)(a:Rat):Nat×Lq->AState
 |(k,o)=>⟨[(1,.arr (pE q)),(5,.lsl 1 0 o.length (some o.length) 3),(6,i64 i),(7,.lptr 2 0 0),(25,.arr (pE p)),(26,i64 p.length),(27,i64 i),(35,.arr (pE q)),(36,i64 q.length),(37,i64 k)],[(1,some ⟨36,3,pE o⟩),(2,some ⟨36,3,[qC a]⟩)],3,61⟩
theorem Jk(p q:Lq)(s t:Nat)(hp:bdL p s)(hq:bdL q t)(hs:1<=s)(ht:1<=t)(h:p.length* (s+t+1)+1<=137438953472)(ht2:t<=137438953472)(hp1:p.length<=274877906944)(hq1:q.length<=274877906944):FS 15 [.arr (pE p),.arr (pE q)] (.arr (pE (aK p q))):=by
 refine f_c Tryz.func15 ?_;refine r_z 1 ?_;refine bH (fun _:Unit=>⟨[(0,.arr (pE p)),(1,.arr (pE q))],[],1,61⟩) (fun _=>p≠[]/\q≠[]) ?_ ?_;by_cases h1:p=[];subst h1;refine s_r 8 ?_;refine a_4 ?_;refine n_g rfl (by simp) ?_;refine n_g rfl (by simp) ?_;refine n_g rfl (by simp) ?_;refine o_0 (.pickT rfl (by simp) rfl) ?_;refine aq ?_;refine au rfl (fun h=>?_) (fun h=>?_);refine r_z 1 ?_;refine ai ?_;unfold aK;rw[if_pos (.inl rfl)];exact Fin.tmpN rfl;cases h;have hp0:p.length≠0:=fun e=>h1 (List.length_eq_zero_iff.1 e);refine s_r 8 ?_;refine a_4 ?_;refine y_g rfl (by simp <;> omega) (.move rfl) ?_
 first|refine y_g rfl (by simp <;> omega) (.lenD rfl rfl rfl rfl te_38.h) ?_|refine y_g rfl (by simp <;> omega) (.lenI rfl rfl rfl rfl te_38.h) ?_|refine y_g rfl (by simp <;> omega) (.lenP rfl rfl rfl rfl te_38.h) ?_|refine y_g rfl (by simp <;> omega) (.lenC rfl rfl rfl rfl te_38.h) ?_|refine y_g rfl (by simp <;> omega) (.lenR rfl rfl rfl rfl te_38.h) ?_|refine y_g rfl (by simp <;> omega) (.len rfl rfl rfl rfl rfl te_38.h) ?_
 refine y_g rfl (by simp <;> omega) (.bin rfl rfl cb) ?_;refine o_0 (.pickF rfl (by simp <;> omega) rfl) ?_;refine aq ?_;refine au rfl (fun h2=>?_) (fun h2=>?_)
 have hq0:q=[]:=by
  have:q.length=0:=by simpa using h2
  exact List.length_eq_zero_iff.1 this
 refine r_z 1 ?_;refine ai ?_;unfold aK;rw[if_pos (.inr hq0)];exact Fin.tmpN rfl
 have hq0:q≠[]:=by
  have:¬q.length=0:=by simpa using h2
  exact fun e=>this (by rw[e];rfl)
 refine am ⟨(),⟨h1,hq0⟩,?_⟩;exact s_e [];rintro _ ⟨hp0,hq0⟩;have hpl:=List.length_pos_iff.2 hp0;have hql:=List.length_pos_iff.2 hq0;have hN:(p.length:Int)+q.length- 1=((p.length+q.length- 1:Nat):Int):=by omega
 refine s_r 8 ?_;refine a_6 ?_;refine o_1 (.makeSlice (l:=p.length+q.length- 1) (c:=p.length+q.length- 1) (by rw[<-hN];rfl) (by rw[<-hN];rfl) te_38.h TZ.h rfl TB.h (by first|omega|(simp;done)|(simp;omega)) (by first|omega|(simp;done)|(simp;omega)) (by unfold maxLen;first|omega|(simp;done)|(simp;omega))) ?_;refine a_z ?_;refine ae (r_z 3 ?_);have hbd:=fun i=>tK (eM hp hs) (eM hq ht) i
 have hbi:∀i,i<=p.length->i* (s+t+1)+1<=137438953472:=fun i hi=>by
  have:=Nat.mul_le_mul_right (s+t+1) hi;omega
 have hs2:s<=137438953472:=by
  have:=hbi 1 hpl;omega
 refine aF (fun _:Unit=>mulS p q (p.length,e9 p q p.length)) (fun _=>True) ?_ ?_;refine aj (aC (fun i:Nat=>mulS p q (i,e9 p q i)) (fun i=>p.length- i) (fun i=>i<=p.length) 0 (Nat.zero_le _) ?_ ?_);simp only[mulS.eq_1,e9];exact s_x [(1,5)] (fun hs=>ek) (fun hs=>e_36);rintro i hi;simp only[mulS.eq_1];refine r_z 1 ?_;refine ae (au rfl (fun h=>?_) (fun h=>?_));refine am ?_;have hlt:i< p.length:=by simpa using h
 have hgp:(pE p)[((i:Nat):Int).toNat]?=some (qC (coP p i)):=pE_get (ci hlt);refine ae (aj (s_r 6 ?_));refine a_1 ?_;refine i_x hgp ?_;refine l_x hgp ?_;refine a_z ?_;refine ae (r_c 3 (cC (coP p i)) ?_);refine a_z ?_;refine au rfl (fun h1=>?_) (fun h1=>?_)
 have h0:coP p i=0:=by
  have h1:sgZ (coP p i).num=0:=by simpa using h1
  exact sgZ_num_eq.1 h1
 have hst:e9 p q (i+1)=e9 p q i:=by rw[e9,if_pos h0]
 refine ax (r_m 2 ?_);refine a_z ?_;refine⟨i+1,by omega,hlt,?_⟩;simp only[mulS.eq_1,hst];exact s_e []
 have h0:coP p i≠0:=by
  intro e;have h1:¬sgZ (coP p i).num=0:=by simpa using h1
  exact h1 (sgZ_num_eq.2 e)
 have hst:e9 p q (i+1)=j2 (e9 p q i) (coP p i) q i q.length:=by rw[e9,if_neg h0]
 refine am (r_z 3 ?_);refine AWp.cutB (fun _:Unit=>mulS p q (i,e9 p q (i+1))) (fun _=>True) ?_ ?_;refine aj (aC (fun k:Nat=>mulT p q i (coP p i) (k,j2 (e9 p q i) (coP p i) q i k)) (fun k=>q.length- k) (fun k=>k<=q.length) 0 (Nat.zero_le _) ?_ ?_);simp only[mulT.eq_1,j2];exact s_e [(2,7)];rintro k hk;simp only[mulT.eq_1];refine r_z 1 ?_;refine ae (au rfl (fun h2=>?_) (fun h2=>?_));refine am ?_;have hlt2:k< q.length:=by simpa using h2
 have hgq:(pE q)[((k:Nat):Int).toNat]?=some (qC (coP q k)):=pE_get (ci hlt2);refine ae (aj (s_r 6 ?_));refine a_1 ?_;refine i_x hgq ?_;refine l_x hgq ?_;refine a_z ?_;have hb1:=hbd i;have hb2:=hbi (i+1) hlt;have hb3:=hbi i hi
 have hcur:qs (coP (j2 (e9 p q i) (coP p i) q i k) (i+k))<=137438953472:=by
  rw[uN _ _ _ _ _ _ (by omega)];exact Nat.le_trans (hb1 (i+k)) hb3
 have hab:=dw (coP p i) (coP q k);have hqa:=eM hp hs i;have hqb:=eM hq ht k;have hik:i+k< (j2 (e9 p q i) (coP p i) q i k).length:=by simp;omega
 have hgo:(pE (j2 (e9 p q i) (coP p i) q i k))[(0+(((i:Nat):Int)+(k:Nat)).toNat)]?=some (qC (coP (j2 (e9 p q i) (coP p i) q i k) (i+k))):=by
  rw[show 0+(((i:Nat):Int)+(k:Nat)).toNat=i+k by omega];exact pE_get (ci hik)
 refine r_d a7 16 ?_;refine a_8 ?_;refine a_1 ?_
 first|refine aY (.load_l rfl rfl hgo TG.h TS.h (nle rfl)) rfl rfl ?_|refine aY (.load_a rfl hgo TG.h TS.h (nle rfl)) rfl rfl ?_
 refine c_s (c6 (coP p i) (coP q k) (by omega)) ?_;refine c_s (fy (coP (j2 (e9 p q i) (coP p i) q i k) (i+k)) (coP p i* coP q k) (by omega)) ?_;refine a_1 ?_;refine eF (.store rfl rfl hgo rfl rfl rfl TS.h (nle rfl)) ?_;refine aq (n_k ?_);refine r_m 2 ?_;refine a_z ?_;refine⟨k+1,by omega,hlt2,?_⟩
 have hst2:(pE (j2 (e9 p q i) (coP p i) q i k)).set (0+(((i:Nat):Int)+(k:Nat)).toNat) (qC (coP (j2 (e9 p q i) (coP p i) q i k) (i+k)+coP p i* coP q k))=pE (j2 (e9 p q i) (coP p i) q i (k+1)):=by
  rw[show 0+(((i:Nat):Int)+(k:Nat)).toNat=i+k by omega,jy];rfl
 have hl2:(j2 (e9 p q i) (coP p i) q i (k+1)).length=(j2 (e9 p q i) (coP p i) q i k).length:=by simp
 simp only[mulT.eq_1,hl2];exact s_x [] (fun hs=>ek) (fun hs=>e_37) e_9
 have hge:k=q.length:=by
  have:¬k< q.length:=by simpa using h2
  omega
 subst hge;refine ax ⟨(),trivial,?_⟩;simp only[mulS.eq_1,hst];exact s_e [];rintro _ _;simp only[mulS.eq_1];refine r_m 2 ?_;refine a_z ?_;refine⟨i+1,by omega,hlt,?_⟩;exact s_e []
 have hge:i=p.length:=by
  have:¬i< p.length:=by simpa using h
  omega
 subst hge;refine ax ⟨(),trivial,?_⟩;simp only[mulS.eq_1];exact s_e [];rintro _ _;simp only[mulS.eq_1]
 have hfull:List.take (e9 p q p.length).length (List.drop 0 (pE (e9 p q p.length)))=pE (e9 p q p.length):=by
  rw[List.drop_zero,List.take_of_length_le (by simp)]
 have hfin:aK p q=ao (e9 p q p.length):=by
  unfold aK;rw[if_neg (by rintro(h|h);exact hp0 h;exact hq0 h)]
 rw[hfin];refine s_r 3 ?_;refine a_1 ?_;refine o_1 (.callS1 rfl rfl rfl (.shut rfl d_n (.nil)) rfl ((by rw[hfull];exact c9 (e9 p q p.length) (by simp;omega)))) ?_;refine a_z ?_;exact ai (t_e (aB _))
theorem Iq(l:Lq)(h0:l≠[])(hl:l.length<=1099511627776):OSpec Tryz.prog 105 [.arr (pE l)] 36 3 (pE l):=by
 have a:pE l≠[]:=by
  intro e;exact h0 (List.length_eq_zero_iff.1 (by rw[<-Gk,e];rfl))
 refine OSpec.enter Tryz.func105 rfl (by kernel_rfl) rfl rfl rfl ?_ ?_ rfl ?_;exact ac (aG (aJ _)) af;exact aJ l;refine r_z 1 ?_;refine ae (s_r 2 ?_);refine a_1 ?_
 first|refine aY (.nilq_v rfl rfl te_38.h) rfl rfl ?_|refine aY (.nilq_arr rfl (a) rfl te_38.h) rfl rfl ?_
 refine aq ?_;refine cF ?_
 ·refine am (s_r 4 ?_)
  refine a_2 ?_;refine o_2 (.append_l rfl rfl rfl te_38.h rfl rfl rfl rfl rfl d_o (by first|exact dV _|exact dT _|exact dy _|exact dX _|exact dS _|assumption|rfl|simp) (by first|rfl|exact dV _|exact dT _|exact dy _|exact dX _|exact dS _|simp) rfl (.arr (mj _)) TZ.h rfl TB.h d_o (by first|(simp[maxLen];done)|(simp[maxLen];omega))) ?_;refine a_z ?_;exact ai (FinO.tmp rfl rfl rfl (by simp))
theorem os_Trim(l:Lq)(h0:ao l≠[])(hl:l.length<=1099511627776):OSpec Tryz.prog 42 [.arr (pE l)] 36 3 (pE (ao l)):=by
 refine OSpec.enter Tryz.func42 rfl (by kernel_rfl) rfl rfl rfl ?_ ?_ rfl ?_;exact ac (aG (aJ _)) af;exact aJ _;refine r_z 1 ?_;refine r_z 3 ?_;refine bH (trS l) (fun n=>n<=l.length/\ao l=l.take n) ?_ ?_;refine aj (aC (trS l) (fun n=>n) (fun n=>n<=l.length/\ao l=ao (l.take n)) l.length ⟨Nat.le_refl _,by rw[List.take_length]⟩ ?_ ?_);simp only[trS.eq_1];exact s_e [];rintro n ⟨g,b⟩;rw[trS.eq_1];cases n with
 |zero=>exact absurd (b.trans rfl) h0
 |succ n=>
  obtain⟨q,f⟩:∃q,l[n]?=some q:=⟨_,List.getElem?_eq_getElem (by omega)⟩
  have a:(pE l)[(((n+1:Nat):Int)- 1).toNat]?=some (qC q):=by
   rw[show(((n+1:Nat):Int)- 1).toNat=n by omega];exact pE_get f
  have hs:ao (l.take (n+1))=if q=0 then ao (l.take n) else l.take (n+1):=by
   rw[cJ f,l3]
  refine ae (s_r 11 ?_);refine a_3 ?_;refine y_g rfl (by simp <;> omega) (.move rfl) ?_;refine y_g rfl (by simp <;> omega) (.move rfl) ?_;refine y_g rfl (by simp <;> omega) (.bin rfl rfl (rv (by omega))) ?_
  first|refine y_g rfl (by simp <;> omega) (.index_l rfl rfl (by omega) (by omega) te_38.h) ?_|refine y_g rfl (by simp <;> omega) (.index_a rfl rfl (by omega) a rfl te_38.h) ?_
  first|refine y_g rfl (by simp <;> omega) (.load_l rfl rfl a TG.h TS.h (nle rfl)) ?_|refine y_g rfl (by simp <;> omega) (.load_a rfl a TG.h TS.h (nle rfl)) ?_
  refine y_g rfl (by simp <;> omega) (.call rfl rfl rfl (cC q)) ?_;refine y_g rfl (by simp <;> omega) (.bin rfl rfl cb) ?_;refine o_0 (.pickT rfl (by simp <;> omega) rfl) ?_;refine aq ?_;refine au rfl (fun h=>?_) (fun h=>?_)
  have h0:q=0:=by
   have c:sgZ q.num=0:=by simpa using h
   exact sgZ_num_eq.1 c
  refine am (aj (r_m 3 ?_));refine a_z ?_;refine⟨n,Nat.lt_succ_self n,⟨by omega,?_⟩,?_⟩;rw[b,hs,if_pos h0];simp only[trS.eq_1];exact s_e []
  have h0:q≠0:=by
   intro e;have c:¬sgZ q.num=0:=by simpa using h
   exact c (sgZ_num_eq.2 e)
  refine ax ⟨n+1,⟨g,?_⟩,?_⟩;rw[b,hs,if_neg h0];simp only[trS.eq_1];exact s_e []
 rintro n ⟨g,b⟩;rw[trS.eq_1];rw[b] at h0;have d:=Iq (l.take n) h0 (by simp;omega);refine s_r 5 ?_;refine a_2 ?_;refine o_0 (.sa_h rfl rfl (h:=n) rfl (by simp;omega) te_38.h (mj _)) ?_;refine o_1 (.callO rfl rfl rfl ((by rw[tG];exact d))) ?_;refine a_z ?_;refine ai ?_;rw[b];exact FinO.tmp rfl rfl rfl (by simp)
def dvS(q:Lq)(lead:Rat):Nat×Lq×Lq->AState
 |(c,u,o)=>⟨[(0,.lsl 1 0 o.length none 3),(1,.arr (pE q)),(4,.lsl 2 0 u.length (some u.length) 3),(6,.lptr 3 0 0),(7,i64 ((c:Int)- 1))],[(1,some ⟨36,3,pE o⟩),(2,some ⟨36,3,pE u⟩),(3,some ⟨36,3,[qC lead]⟩)],4,82⟩
def dvT(q:Lq)(lead:Rat)(n:Nat)(u:Lq)(k:Rat):Nat×Lq->AState
 |(i,o)=>⟨[(0,.lsl 1 0 o.length none 3),(1,.arr (pE q)),(4,.lsl 2 0 u.length (some u.length) 3),(6,.lptr 3 0 0),(7,i64 n),(8,.lptr 4 0 0),(55,.arr (pE q)),(56,i64 q.length),(57,i64 i)],[(1,some ⟨36,3,pE o⟩),(2,some ⟨36,3,pE u⟩),(3,some ⟨36,3,[qC lead]⟩),(4,some ⟨36,3,[qC k]⟩)],5,82⟩
theorem r9(p q:Lq)(s t:Nat)(hp:bdL p s)(hq:bdL q t)(hs:1<=s)(ht:1<=t)(h:2^ ((ao p).length+1- (ao q).length) * (s+2* t+1)<=137438953472)(hq0:ao q≠[])(hp1:p.length<=274877906944)(hq1:q.length<=274877906944):FS 193 [.arr (pE p),.arr (pE q)] (.tup [.arr (pE (dq p q).1),.arr (pE (dq p q).2)]):=by
 have hlp:=bR p;have hlq:=bR q;have hql:=List.length_pos_iff.2 hq0
 have hg:(pE (ao q))[(((ao q).length:Int)- 1).toNat]?=some (qC (aM q)):=by
  rw[show(((ao q).length:Int)- 1).toNat=(ao q).length- 1 by omega];exact pE_get (dn (by omega))
 have hne:=dd hq0;obtain⟨m,hm⟩:∃m,m=(ao p).length+1- (ao q).length:=⟨_,rfl⟩;have hmx:(if (0:Int)>((ao p).length:Int)- (ao q).length+1 then(0:Int) else((ao p).length:Int)- (ao q).length+1)=(m:Int):=by split <;> omega
 have hB:D6 (ao q) (aM q) 137438953472 m (List.replicate m 0) (ao p):=by
  refine⟨s,t,eM (fun x hx=>hp x (cI hx)) hs,eM (fun x hx=>hq x (cI hx)) ht,hq _ (cI (List.mem_of_getElem? (dn (n:=(ao q).length- 1) (by omega)))),ht,fun n=>?_,by rw[hm];exact h⟩
  have:coP (List.replicate m 0) n=0:=by
   unfold coP;rw[List.getD_eq_getElem?_getD,List.getElem?_replicate];split <;> rfl
  rw[this];decide
 have hdv:dq p q=(ao (kx (ao q) (aM q) m (List.replicate m 0) (ao p)).1,ao (kx (ao q) (aM q) m (List.replicate m 0) (ao p)).2):=by rw[hm];rfl
 rw[hdv];refine f_c Tryz.func193 ?_;refine r_z 2 ?_;by_cases hp0:ao p=[]
 ·have hm0:m=0:=by rw[hm,hp0];simp;omega
  subst hm0;rw[hp0] at hmx⊢;have htp:=c9 p (by omega);rw[hp0] at htp;refine r_c 6 (htp) ?_;refine c_s (c9 q (by omega)) ?_;refine a_z ?_;refine s_r 8 ?_;refine a_4 ?_;refine i_x hg ?_;refine l_x hg ?_;refine a_z ?_;refine s_r 9 ?_;refine a_7 ?_;refine o_1 (.makeSlice (l:=0) (c:=0) (by rw[<-hmx];rfl) (by rw[<-hmx];rfl) te_38.h TZ.h rfl TB.h (by first|omega|(simp;done)|(simp;omega)) (by first|omega|(simp;done)|(simp;omega)) (by unfold maxLen;first|omega|(simp;done)|(simp;omega))) ?_;refine a_z ?_;refine ae (r_z 6 ?_);refine aF (fun _:Unit=>⟨[(0,.arr (pE [])),(4,.lsl 2 0 0 (some 0) 3)],[(2,some ⟨36,3,[]⟩)],3,82⟩) (fun _=>True) ?_ ?_;refine aj (aC (fun _:Unit=>⟨[(0,.arr (pE [])),(4,.lsl 2 0 0 (some 0) 3),(7,i64 (0- ((ao q).length:Int)))],[(2,some ⟨36,3,[]⟩)],3,82⟩) (fun _=>0) (fun _=>True) () trivial ?_ ?_);exact s_x [(2,4)] (fun hs=>ek) (fun hs=>e_22);rintro _ _;refine ae (r_z 2 ?_);refine au rfl (fun h1=>?_) (fun h1=>?_);exact absurd h1 (by simp;omega);refine ax ⟨(),trivial,?_⟩;exact s_x [] (fun hs=>ek) (fun hs=>e_22);rintro _ _;refine s_r 6 ?_;refine a_1 ?_;refine o_1 (.callS1 rfl rfl rfl (.shut rfl d_n (.nil)) rfl ((c9 [] (by simp)))) ?_;refine c_s (c9 [] (by simp)) ?_;refine a_z ?_;refine ai (Fin.many ⟨_,_,rfl,rfl,⟨_,_,rfl,rfl,rfl⟩⟩ (nle rfl) ?_);exact ah (an aA (aB _)) (ah (an aA (aB _)) av)
 have hpl:=List.length_pos_iff.2 hp0;have hto:=os_Trim p hp0 (by omega);have hdl:=kP (ao q) (aM q) m (List.replicate m 0) (ao p);have hend:=zS hB;refine s_r 6 ?_;refine a_1 ?_;refine o_1 (.callO rfl rfl rfl (hto)) ?_;refine c_s (c9 q (by omega)) ?_;refine a_z ?_;refine AWp.ent (st':=⟨[(0,.lsl 1 0 (ao p).length none 3),(1,.arr (pE (ao q)))],[(1,some ⟨36,3,pE (ao p)⟩)],2,82⟩) ?_ ?_;exact s_e [(1,0)];refine s_r 8 ?_;refine a_4 ?_;refine i_x hg ?_;refine l_x hg ?_;refine a_z ?_;refine s_r 9 ?_;refine a_7 ?_;refine o_1 (.makeSlice (l:=m) (c:=m) (by rw[<-hmx];rfl) (by rw[<-hmx];rfl) te_38.h TZ.h rfl TB.h (by first|omega|(simp;done)|(simp;omega)) (by first|omega|(simp;done)|(simp;omega)) (by unfold maxLen;first|omega|(simp;done)|(simp;omega))) ?_;refine a_z ?_;refine ae (r_z 6 ?_);refine aF (fun x:Lq×Lq=>⟨[(0,.lsl 1 0 x.2.length none 3),(4,.lsl 2 0 x.1.length (some x.1.length) 3)],[(1,some ⟨36,3,pE x.2⟩),(2,some ⟨36,3,pE x.1⟩)],3,82⟩) (fun x=>x=kx (ao q) (aM q) m (List.replicate m 0) (ao p)) ?_ ?_;refine aj ?_;by_cases hab:(ao p).length< (ao q).length;have hm0:m=0:=by omega
 subst hm0;refine aC (fun _:Unit=>⟨[(0,.lsl 1 0 (ao p).length none 3),(4,.lsl 2 0 0 (some 0) 3),(7,i64 (((ao p).length:Int)- ((ao q).length:Int)))],[(1,some ⟨36,3,pE (ao p)⟩),(2,some ⟨36,3,[]⟩)],3,82⟩) (fun _=>0) (fun _=>True) () trivial ?_ ?_;exact s_x [(1,0),(2,4)] (fun hs=>ek) (fun hs=>e_22);rintro _ _;refine ae (r_z 2 ?_);refine au rfl (fun h1=>?_) (fun h1=>?_);exact absurd h1 (by simp;omega);refine ax ⟨([],ao p),rfl,?_⟩;exact s_f [];refine aC (fun x:Nat×Lq×Lq=>dvS (ao q) (aM q) x) (fun x=>x.1) (fun x=>x.1<=m/\x.2.1.length=m/\x.2.2.length=(ao p).length/\D6 (ao q) (aM q) 137438953472 x.1 x.2.1 x.2.2/\kx (ao q) (aM q) x.1 x.2.1 x.2.2=kx (ao q) (aM q) m (List.replicate m 0) (ao p)) (m,List.replicate m 0,ao p) ⟨Nat.le_refl _,by simp,rfl,hB,rfl⟩ ?_ ?_;simp only[dvS.eq_1];have hm1:((ao p).length:Int)- (ao q).length=(m:Int)- 1:=by omega
 rw[hm1];exact s_x [(1,0),(2,4),(3,6)] (fun hs=>ek) (fun hs=>e_36);rintro⟨c,u,o⟩ ⟨hc,hu,ho,hb,hr⟩;simp only at hc hu ho hb hr;simp only[dvS.eq_1];cases c with
 |zero=>
  refine ae (r_z 2 ?_);refine au rfl (fun h1=>?_) (fun h1=>?_);exact absurd h1 (by simp);refine ax ⟨(u,o),hr,?_⟩;exact s_e []
 |succ n=>
  obtain⟨B,tt,hb1,hb2,hb3,hb4⟩:=BT hb;have hcn:((n+1:Nat):Int)- 1=(n:Int):=by omega
  rw[hcn];refine ae (r_z 2 ?_);refine au rfl (fun h1=>?_) (fun h1=>?_);refine am ?_;obtain⟨k,hk⟩:∃k,k=coP o (n+(ao q).length- 1) / aM q:=⟨_,rfl⟩;have hst:=xT hb;rw[kx] at hr;rw[<-hk] at hst hr
  have hgo:(pE o)[(0+(((n:Nat):Int)+((ao q).length:Nat)- 1).toNat)]?=some (qC (coP o (n+(ao q).length- 1))):=by
   rw[show 0+(((n:Nat):Int)+((ao q).length:Nat)- 1).toNat=n+(ao q).length- 1 by omega];exact pE_get (ci (by omega))
  have hov:=iu (coP o (n+(ao q).length- 1)) (aM q) hne (by have:=hb1 (n+(ao q).length- 1);omega);rw[<-hk] at hov
  have hgu:(pE u)[0+((n:Nat):Int).toNat]?=some (qC (coP u n)):=by
   rw[show 0+((n:Nat):Int).toNat=n by omega];exact pE_get (ci (by omega))
  refine ae (aj (ae (r_d a7 12 ?_)));refine a_7 ?_
  first|refine aY (.load_l rfl rfl hgo TG.h TS.h (nle rfl)) rfl rfl ?_|refine aY (.load_a rfl hgo TG.h TS.h (nle rfl)) rfl rfl ?_
  refine c_s (hov) ?_;refine a_2 ?_;refine aq (n_k ?_);refine s_r 5 ?_;refine a_4 ?_;refine eF (.store rfl rfl hgu rfl rfl rfl TS.h (nle rfl)) ?_;refine aq ?_
  have hsu:(pE u).set (0+((n:Nat):Int).toNat) (qC k)=pE (u.set n k):=by
   rw[show 0+((n:Nat):Int).toNat=n by omega,jy]
  have hlu:(u.set n k).length=u.length:=by simp
  refine ae (r_c 3 (cC k) ?_);refine a_z ?_;refine au rfl (fun h2=>?_) (fun h2=>?_)
  have h0:k=0:=by
   have h2:sgZ k.num=0:=by simpa using h2
   exact sgZ_num_eq.1 h2
  rw[if_pos h0] at hst hr;refine ax (r_m 3 ?_);refine a_z ?_;refine⟨(n,u.set n k,o),Nat.lt_succ_self n,⟨by omega,by simp only;omega,ho,hst,hr⟩,?_⟩;simp only[dvS.eq_1,hlu];exact s_f []
  have h0:k≠0:=by
   intro e;have h2:¬sgZ k.num=0:=by simpa using h2
   exact h2 (sgZ_num_eq.2 e)
  rw[if_neg h0] at hst hr;refine am (r_z 3 ?_);refine AWp.cutB (fun _:Unit=>⟨[(0,.lsl 1 0 o.length none 3),(1,.arr (pE (ao q))),(4,.lsl 2 0 u.length (some u.length) 3),(6,.lptr 3 0 0),(7,i64 n)],[(1,some ⟨36,3,pE (fE o k (ao q) n (ao q).length)⟩),(2,some ⟨36,3,pE (u.set n k)⟩),(3,some ⟨36,3,[qC (aM q)]⟩)],4,82⟩) (fun _=>True) ?_ ?_;refine aj (aC (fun i:Nat=>dvT (ao q) (aM q) n (u.set n k) k (i,fE o k (ao q) n i)) (fun i=>(ao q).length- i) (fun i=>i<=(ao q).length) 0 (Nat.zero_le _) ?_ ?_);simp only[dvT.eq_1,fE,hlu];exact s_f [(4,8)];rintro i hi;simp only[dvT.eq_1];refine r_z 1 ?_;refine ae (au rfl (fun h3=>?_) (fun h3=>?_));refine am ?_;have hlt2:i< (ao q).length:=by simpa using h3
  have hgq:(pE (ao q))[((i:Nat):Int).toNat]?=some (qC (coP (ao q) i)):=pE_get (ci hlt2)
  have hcur:qs (coP (fE o k (ao q) n i) (n+i))<=B:=by
   rw[nB _ _ _ _ _ _ (by omega)];exact hb1 _
  have hkq:qs k<=B+tt:=by
   have e1:=ik (coP o (n+(ao q).length- 1)) (aM q);have e2:=hb1 (n+(ao q).length- 1);rw[hk];omega
  have hkm:=dw k (coP (ao q) i);have hqi:=hb2 i;have hik:n+i< (fE o k (ao q) n i).length:=by simp;omega
  have hgr:(pE (fE o k (ao q) n i))[(0+(((n:Nat):Int)+(i:Nat)).toNat)]?=some (qC (coP (fE o k (ao q) n i) (n+i))):=by
   rw[show 0+(((n:Nat):Int)+(i:Nat)).toNat=n+i by omega];exact pE_get (ci hik)
  refine ae (aj (s_r 6 ?_));refine a_1 ?_;refine i_x hgq ?_;refine l_x hgq ?_;refine a_z ?_;refine r_d a7 16 ?_;refine a_8 ?_;refine a_1 ?_
  first|refine aY (.load_l rfl rfl hgr TG.h TS.h (nle rfl)) rfl rfl ?_|refine aY (.load_a rfl hgr TG.h TS.h (nle rfl)) rfl rfl ?_
  refine c_s (c6 k (coP (ao q) i) (by omega)) ?_;refine c_s (jC (coP (fE o k (ao q) n i) (n+i)) (k* coP (ao q) i) (by omega)) ?_;refine a_1 ?_;refine eF (.store rfl rfl hgr rfl rfl rfl TS.h (nle rfl)) ?_;refine aq (n_k ?_);refine r_m 2 ?_;refine a_z ?_;refine⟨i+1,by omega,hlt2,?_⟩
  have hst2:(pE (fE o k (ao q) n i)).set (0+(((n:Nat):Int)+(i:Nat)).toNat) (qC (coP (fE o k (ao q) n i) (n+i)- k* coP (ao q) i))=pE (fE o k (ao q) n (i+1)):=by
   rw[show 0+(((n:Nat):Int)+(i:Nat)).toNat=n+i by omega,jy];rfl
  have hl2:(fE o k (ao q) n (i+1)).length=(fE o k (ao q) n i).length:=by simp
  simp only[dvT.eq_1,hl2];exact s_x [] (fun hs=>ek) (fun hs=>e_37) e_9
  have hge:i=(ao q).length:=by
   have:¬i< (ao q).length:=by simpa using h3
   omega
  subst hge;refine ax ⟨(),trivial,?_⟩;rw[gV,hlu];exact s_e [];rintro _ _;refine r_m 3 ?_;refine a_z ?_;refine⟨(n,u.set n k,fE o k (ao q) n (ao q).length),Nat.lt_succ_self n,⟨by omega,by simp only;omega,by simp only;rw[gV];exact ho,hst,hr⟩,?_⟩;simp only[dvS.eq_1,hlu,gV];exact s_e [];exact absurd h1 (by simp)
 rintro⟨u,o⟩ hx;rw[<-hx] at hdl hend⊢;simp only at hdl hend⊢;have hlu:u.length<=274877906945:=by rw[hdl.1];simp;omega
 have hfu:List.take u.length (List.drop 0 (pE u))=pE u:=by rw[List.drop_zero,List.take_of_length_le (by simp)]
 have hfo:List.take o.length (List.drop 0 (pE o))=pE o:=by rw[List.drop_zero,List.take_of_length_le (by simp)]
 refine s_r 6 ?_;refine a_1 ?_;refine o_1 (.callS1 rfl rfl rfl (.shut rfl d_n (.nil)) rfl ((by rw[hfu];exact c9 u (by omega)))) ?_;refine a_1 ?_;refine o_1 (.callS1 rfl rfl rfl (.shut rfl d_n (.nil)) rfl ((by rw[hfo];exact c9 o (by rw[hdl.2];omega)))) ?_;refine a_z ?_;refine ai (Fin.many ⟨_,_,rfl,rfl,⟨_,_,rfl,rfl,rfl⟩⟩ (nle rfl) ?_);exact ah (an aA (aB _)) (ah (an aA (aB _)) av)
def gcS:Lq×Lq->AState
 |(p,q)=>⟨[(0,.arr (pE p)),(1,.arr (pE q))],[],1,21⟩
theorem Du(p:Lq)(q:Lq):gcS (p,q)=⟨[(0,.arr (pE p)),(1,.arr (pE q))],[],1,21⟩:=rfl
theorem degP_neg{l:Lq}:bO l< 0↔ao l=[]:=by
 unfold bO;constructor;intro h;exact List.length_eq_zero_iff.1 (by omega);intro h;rw[h];decide
theorem Jm(f:Nat)(p q g:Lq)(h:pu f p q=some g)(hp1:p.length<=274877906944)(hq1:q.length<=274877906944):FS 194 [.arr (pE p),.arr (pE q)] (.arr (pE g)):=by
 refine f_c Tryz.func194 ?_;refine r_z 1 ?_;refine bH (fun p:Lq=>⟨[(0,.arr (pE p))],[],1,21⟩) (fun p=>smL p/\p.length<=274877906944/\g=cu p) ?_ ?_;refine aj (aC (fun x:Nat×Lq×Lq=>gcS x.2) (fun x=>x.1) (fun x=>pu x.1 x.2.1 x.2.2=some g/\x.2.1.length<=274877906944/\x.2.2.length<=274877906944) (f,p,q) ⟨h,hp1,hq1⟩ ?_ ?_);simp only[Du];exact s_e [];rintro⟨f,p,q⟩ ⟨h,hp1,hq1⟩;simp only at h hp1 hq1;simp only[Du];cases f with
 |zero=>cases h
 |succ f=>
  rw[pu] at h;refine ae (r_c 3 (db q (by omega)) ?_);refine a_z ?_;refine au rfl (fun b=>?_) (fun b=>?_)
  ·have a:ao q≠[]:=by
    intro e;have e2:=degP_neg.2 e;simp at b;omega
   rw[if_neg a] at h;split at h
   case isFalse=>cases h
   case isTrue hs=>
   have d:=rf (p:=p) (q:=q);have c:=pp (dq p q).2;refine am (aj (r_c 8 (r9 p q (mxL p) (mxL q) (e8 p) (e8 q) (eO p) (eO q) hs.1 a hp1 hq1) ?_));refine a_z ?_;refine r_m 5 ?_;refine c_s (vn (dq p q).2 (zT hs a).2 (by omega)) ?_;refine a_z ?_;refine⟨(f,q,cu (dq p q).2),Nat.lt_succ_self f,⟨h,hq1,by simp only;omega⟩,?_⟩;simp only[Du];exact s_e []
  ·have a:ao q=[]:=by
    refine degP_neg.1 ?_;simp at b;omega
   rw[if_pos a] at h;split at h
   case isFalse=>cases h
   case isTrue hs=>
   cases h;refine ax ⟨p,⟨hs,hp1,rfl⟩,?_⟩;exact s_e []
 rintro p ⟨hs,hp1,rfl⟩;refine r_c 3 (vn p hs (by omega)) ?_;refine a_z ?_;exact ai (t_e (aB _))

theorem kZ(l:Lq)(hl:l.length<=281474976710656):GSpec Tryz.prog 162 [bP l] (lT l):=by
 refine GSpec.enter Tryz.func162 rfl (by kernel_rfl) rfl rfl rfl ?_ ?_ rfl ?_;exact ac (dc l) af;intro k xs h;unfold lT at h;split at h;cases h;exact ac (ag _) (ac (aS _) af);cases h;intro b N E;refine GWp.seq ?_;refine GWp.lift ?_;refine r_m 4 ?_;refine a_z ?_;refine GWp.block ?_;refine GWp.loopS (fun m:Nat=>⟨[(0,.v (.func (.yield b) #[] #[])),(1,bP l),(3,i64 ((m:Int)- 1))],[],1,19⟩) (fun m=>l.length- m) (fun m=>m) (fun m=>m<=l.length) l.length (Nat.le_refl _) (by simp) ?_ ?_;exact s_e [];intro m e;refine GWp.seq ?_;refine GWp.seq ?_;refine GWp.lift ?_;refine r_m 2 ?_;refine a_z ?_;refine GWp.cond rfl (fun h=>?_) (fun h=>?_)
 ·refine GWp.skip ?_
  have d:1<=m:=by have:=of_decide_eq_true h;omega
  have a:(pE l)[((m:Int)- 1).toNat]?=some (qC (coP l (m- 1))):=by rw[show((m:Int)- 1).toNat=m- 1 by omega];exact pE_get (ci (by omega))
  refine GWp.seq ?_;refine GWp.block ?_;refine GWp.seq ?_;refine GWp.regY (fr2:=[(0,.v (.func (.yield b) #[] #[])),(1,bP l),(3,i64 ((m:Int)- 1)),(11,.v (.func (.yield b) #[] #[])),(12,i64 ((m:Int)- 1)),(16,.agg (qC (coP l (m- 1))))]) (hp2:=[]) (nx2:=1) 6 rfl rfl rfl rfl rfl rfl ?_ rfl rfl rfl ?_ ?_ ?_;refine o_0 (.move rfl) ?_;refine o_0 (.move rfl) ?_
  first|refine aY (.load_l1 rfl rfl rfl TG.h rfl) rfl rfl ?_|refine aY (.load_a1 rfl rfl TG.h rfl) rfl rfl ?_
  refine o_0 (.move rfl) ?_;refine i_x a ?_;refine l_x a ?_;refine aq ?_;exact s_y [] (fun hs=>ek) (fun hs=>lV);rotate_left 2;intro c;refine o_0 (.un rfl nr) ?_;refine aq ?_;rotate_left;unfold lT;rw[if_pos (by omega)];have e1:((l.length- 1- (l.length- m):Nat):Int)=(m:Int)- 1:=by omega
  have e2:l.length- 1- (l.length- m)=m- 1:=by omega
  rw[e1,e2];rfl;exact ac (ag _) (ac (aS _) af);cases c with
  |false=>
   refine GWp.cond rfl (fun h=>?_) (fun h=>?_);exact GWp.ret ⟨.inr rfl,fun h=>by cases h⟩;cases h
  |true=>
   refine GWp.cond rfl (fun h=>?_) (fun h=>?_);cases h;refine GWp.skip ?_;refine GWp.lift ?_;refine r_m 3 ?_;refine a_z ?_;refine⟨rfl,m- 1,by omega,by omega,by omega,?_⟩;exact s_e []
 refine GWp.exit ⟨.inl rfl,fun _=>?_⟩;have:m=0:=by have:=of_decide_eq_false h;omega
 subst this;unfold lT;rw[if_neg (by omega)]
theorem k4(l:Lq):FS 109 [.arr (pE l)] (.clos 162 [] [bP l]):=by
 refine f_c Tryz.func109 ?_;refine r_z 2 ?_;refine r_z 2 ?_;refine ai (⟨.inr rfl,[_],⟨_,[],rfl,rfl,rfl⟩,?_⟩);exact Cv.clos av (ah (Cv.boxp aA rfl (fun _ _ h=>by cases h) rfl (ac (aB l) af)) av)
def hoS(p:Lq)(g:Nat)(cap:La)(w:Nat->Rat):Nat->AState
 |k=>⟨[(4,.lptr 1 0 0),(5,.aptr [[.clos g [] cap]] 0 0),(6,.lptr 2 0 0),(10,.clos 162 [] [bP p])],[(1,some ⟨36,3,[qC (w k)]⟩),(2,some ⟨36,3,[zC]⟩)],3,18⟩
theorem DJ(p:Lq)(g:Nat)(cap:La)(w:Nat->Rat)(hl:p.length<=281474976710656)(hcap:∀c∈cap,Closed c)(hg:∀k,k< p.length->FS g ((.agg (qC (w k)):: .agg (qC (coP p (p.length- 1- k)))::cap).map coe) (.agg (qC (w (k+1))))):FS 45 [.arr (pE p),.agg (qC (w 0)),.clos g [] cap] (.agg (qC (w p.length))):=by
 have hb:=k4 p;have d:=kZ p hl;have b:Closed (.clos g [] cap):=aR af hcap;have i:Closed (.aptr [[.clos g [] cap]] 0 0):=bq (ac b af);have f:Closed (.clos 162 [] [bP p]):=aR af (ac (dc p) af);refine f_c Tryz.func45 ?_;refine r_z 3 ?_;refine AWp.ent (st':=⟨[(0,.arr (pE p)),(4,.lptr 1 0 0),(5,.aptr [[.clos g [] cap]] 0 0),(6,.lptr 2 0 0)],[(1,some ⟨36,3,[qC (w 0)]⟩),(2,some ⟨36,3,[zC]⟩)],3,18⟩) ?_ ?_;have:=ac b af;exact s_f [(1,4),(2,6)];refine ae (r_c 2 (hb) ?_);refine aq ?_;refine aF (fun _:Unit=>⟨[(4,.lptr 1 0 0),(6,.lptr 2 0 0)],[(1,some ⟨36,3,[qC (w p.length)]⟩),(2,some ⟨36,3,[zC]⟩)],3,18⟩) (fun _=>True) ?_ ?_;refine aj (AWp.rangeFunc (α:=Nat) (γ:=Empty) p.length (hoS p g cap w) (fun k=>k) (fun k=>k<=p.length) (fun e=>nomatch e) (fun _ e=>nomatch e) 0 rfl d rfl rfl ?_ (fun _=>⟨rfl,rfl⟩) (fun e=>nomatch e) (Nat.zero_le _) rfl (fun _ h=>h) ?_ ?_ ?_ ?_ (fun _ e=>nomatch e));intro k xs a;unfold lT at a;split at a;cases a;rfl;cases a;rw[hoS.eq_1];exact s_y [] (fun hs=>ek) (fun hs=>lV);exact ac (dc p) af
 ·intro l k xs j a
  unfold lT at a;split at a;rotate_left;cases a;rename_i hlt;cases a;show AWp _ _ _ _ ⟨[(12,.agg (qC (coP p (p.length- 1- k)))),(11,i64 (p.length- 1- k:Nat)),(4,.lptr 1 0 0),(5,.aptr [[.clos g [] cap]] 0 0),(6,.lptr 2 0 0),(10,.clos 162 [] [bP p]),(1004,.lptr 1 0 0),(1005,.aptr [[.clos g [] cap]] 0 0),(1006,.lptr 2 0 0),(1010,.clos 162 [] [bP p])],[(1,some ⟨36,3,[qC (w k)]⟩),(2,some ⟨36,3,[zC]⟩)],3,18⟩;refine r_m 2 ?_;refine a_z ?_;refine aj (r_m 5 ?_);refine c_s (hg k hlt) ?_;refine a_z ?_;refine⟨k+1,⟨hlt,rfl⟩,?_⟩;show SEntT _ ⟨[(1004,.lptr 1 0 0),(1005,.aptr [[.clos g [] cap]] 0 0),(1006,.lptr 2 0 0),(1010,.clos 162 [] [bP p])],[(1,some ⟨36,3,[qC (w (k+1))]⟩),(2,some ⟨36,3,[zC]⟩)],3,18⟩;exact s_y [] (fun hs=>ek) (fun hs=>lV)
 intro k j a;unfold lT at a;split at a;cases a;refine⟨(),trivial,?_⟩;rw[hoS.eq_1];have m:k=p.length:=by omega
 subst m;exact s_e [];rintro _ _;refine r_z 2 ?_;exact ai (c_e (aS _))
theorem Jn(v c x:Rat)(h1:qs v+qs x<=549755813888)(h2:qs (v* x)+qs c<=549755813888):FS 46 [.agg (qC v),.agg (qC c),bQ x] (.agg (qC (v* x+c))):=by
 refine f_c Tryz.func46 ?_;refine r_z 3 ?_;refine ae (r_d a7 6 ?_);refine c_s (c6 v x h1) ?_;refine c_s (fy (v* x) c h2) ?_;refine a_1 ?_;refine aq (n_k ?_);exact ai (c_e (aS _))
theorem iv(p:Lq)(x:Rat)(h:gz p x):FS 11 [.arr (pE p),.agg (qC x)] (.agg (qC (ak p x))):=by
 have c:∀k,k< p.length->FS 46 [.agg (qC (ak (p.drop (p.length- k)) x)),.agg (qC (coP p (p.length- 1- k))),bQ x] (.agg (qC (ak (p.drop (p.length- (k+1))) x))):=fun k b=>by
  have:=DZ h k b;rw[sD b];exact Jn _ _ _ this.1 this.2
 have a:=DJ p 46 [bQ x] (fun k=>ak (p.drop (p.length- k)) x) (by have:=h.2;omega) (ac (cN x) af) c;simp only[Nat.sub_zero,Nat.sub_self,List.drop_zero,List.drop_length] at a;rw[show ak [] x=0 from rfl,qC0] at a;refine f_c Tryz.func11 ?_;refine r_z 2 ?_;refine AWp.ent (st':=⟨[(0,.arr (pE p)),(3,bQ x),(4,.lptr 1 0 0)],[(1,some ⟨36,3,[zC]⟩)],2,9⟩) ?_ ?_;exact s_e [(1,4)];refine r_c 5 (a) ?_;refine a_z ?_;exact ai (c_e (aS _))
def hsS(p:Lq)(g:Nat)(cap:La)(w:Nat->Rat×Rat):Nat->AState
 |k=>⟨[(4,.lptr 1 0 0),(5,.aptr [[.clos g [] cap]] 0 0),(6,.lptr 2 0 0),(10,.clos 162 [] [bP p])],[(1,some ⟨42,6,[spC (w k).1 (w k).2]⟩),(2,some ⟨42,6,[zC++zC]⟩)],3,18⟩
theorem DI(p:Lq)(g:Nat)(cap:La)(w:Nat->Rat×Rat)(hl:p.length<=281474976710656)(hcap:∀c∈cap,Closed c)(hg:∀k,k< p.length->FS g ((.agg (spC (w k).1 (w k).2):: .agg (qC (coP p (p.length- 1- k)))::cap).map coe) (.agg (spC (w (k+1)).1 (w (k+1)).2))):FS 250 [.arr (pE p),.agg (spC (w 0).1 (w 0).2),.clos g [] cap] (.agg (spC (w p.length).1 (w p.length).2)):=by
 have hb:=k4 p;have d:=kZ p hl;have b:Closed (.clos g [] cap):=aR af hcap;have i:Closed (.aptr [[.clos g [] cap]] 0 0):=bq (ac b af);have f:Closed (.clos 162 [] [bP p]):=aR af (ac (dc p) af);refine f_c Tryz.func250 ?_;refine r_z 3 ?_;refine AWp.ent (st':=⟨[(0,.arr (pE p)),(4,.lptr 1 0 0),(5,.aptr [[.clos g [] cap]] 0 0),(6,.lptr 2 0 0)],[(1,some ⟨42,6,[spC (w 0).1 (w 0).2]⟩),(2,some ⟨42,6,[zC++zC]⟩)],3,18⟩) ?_ ?_;have:=ac b af;exact s_f [(1,4),(2,6)];refine ae (r_c 2 (hb) ?_);refine aq ?_;refine aF (fun _:Unit=>⟨[(4,.lptr 1 0 0),(6,.lptr 2 0 0)],[(1,some ⟨42,6,[spC (w p.length).1 (w p.length).2]⟩),(2,some ⟨42,6,[zC++zC]⟩)],3,18⟩) (fun _=>True) ?_ ?_;refine aj (AWp.rangeFunc (α:=Nat) (γ:=Empty) p.length (hsS p g cap w) (fun k=>k) (fun k=>k<=p.length) (fun e=>nomatch e) (fun _ e=>nomatch e) 0 rfl d rfl rfl ?_ (fun _=>⟨rfl,rfl⟩) (fun e=>nomatch e) (Nat.zero_le _) rfl (fun _ h=>h) ?_ ?_ ?_ ?_ (fun _ e=>nomatch e));intro k xs a;unfold lT at a;split at a;cases a;rfl;cases a;rw[hsS.eq_1];exact s_y [] (fun hs=>ek) (fun hs=>lV);exact ac (dc p) af
 ·intro l k xs j a
  unfold lT at a;split at a;rotate_left;cases a;rename_i hlt;cases a;show AWp _ _ _ _ ⟨[(12,.agg (qC (coP p (p.length- 1- k)))),(11,i64 (p.length- 1- k:Nat)),(4,.lptr 1 0 0),(5,.aptr [[.clos g [] cap]] 0 0),(6,.lptr 2 0 0),(10,.clos 162 [] [bP p]),(1004,.lptr 1 0 0),(1005,.aptr [[.clos g [] cap]] 0 0),(1006,.lptr 2 0 0),(1010,.clos 162 [] [bP p])],[(1,some ⟨42,6,[spC (w k).1 (w k).2]⟩),(2,some ⟨42,6,[zC++zC]⟩)],3,18⟩;refine r_m 2 ?_;refine a_z ?_;refine aj (r_m 5 ?_);refine c_s (hg k hlt) ?_;refine a_z ?_;refine⟨k+1,⟨hlt,rfl⟩,?_⟩;show SEntT _ ⟨[(1004,.lptr 1 0 0),(1005,.aptr [[.clos g [] cap]] 0 0),(1006,.lptr 2 0 0),(1010,.clos 162 [] [bP p])],[(1,some ⟨42,6,[spC (w (k+1)).1 (w (k+1)).2]⟩),(2,some ⟨42,6,[zC++zC]⟩)],3,18⟩;exact s_y [] (fun hs=>ek) (fun hs=>lV)
 intro k j a;unfold lT at a;split at a;cases a;refine⟨(),trivial,?_⟩;rw[hsS.eq_1];have m:k=p.length:=by omega
 subst m;exact s_e [];rintro _ _;refine r_z 2 ?_;exact ai (c_e (b5 _ _))
abbrev bS(s:Sp):AV:= .aptr [spC s.1 s.2] 0 0
theorem oZ(s:Sp):Closed (bS s):=bq (aZ _ _)
theorem HL{a b:Sp}(h:smL (AO a b)):smS (uC a b):=⟨pH h,pH h⟩
theorem Jj(v s:Sp)(c:Rat)(hv:smS v)(hs:smS s)(hc:sm c)(hp:smL (AO v s)):FS 251 [.agg (spC v.1 v.2),.agg (qC c),bS s] (.agg (spC (EH (uC v s) (c,c)).1 (EH (uC v s) (c,c)).2)):=by
 have a:=HL hp;refine f_n Tryz.func251 ?_ ?_;exact ac (b5 _ _) (ac (aS c) (ac (oZ s) af));refine r_z 3 ?_;refine ae (r_d a7 7 ?_);refine c_s (fs_SMul v.1 v.2 s.1 s.2 hv.1 hv.2 hs.1 hs.2 hp) ?_;refine c_s (BC c) ?_;refine c_s (fs_SAdd (uC v s).1 (uC v s).2 c c a.1 a.2 hc hc) ?_;refine a_1 ?_;refine aq (n_k ?_);exact ai (c_e (b5 _ _))
theorem fs_Over(p:Lq)(s:Sp)(h:yW p s):FS 213 [.arr (pE p),.agg (spC s.1 s.2)] (.agg (spC (iH p s).1 (iH p s).2)):=by
 obtain⟨g,hs,w,f⟩:=h;have r:=bR p;refine f_c Tryz.func213 ?_;refine r_z 2 ?_;refine AWp.ent (st':=⟨[(0,.arr (pE p)),(3,bS s),(4,.lptr 1 0 0)],[(1,some ⟨42,6,[zC++zC]⟩)],2,30⟩) ?_ ?_;exact s_e [(1,4)];refine r_c 3 (c9 p (by omega)) ?_;refine a_z ?_;refine bH (fun _:Unit=>⟨[(0,.arr (pE (ao p))),(3,bS s),(4,.lptr 1 0 0)],[(1,some ⟨42,6,[zC++zC]⟩)],2,30⟩) (fun _=>fi s.1 s.2<=0/\ao p≠[]) ?_ ?_;by_cases hv:fi s.1 s.2<=0;refine r_c 8 (lH s.1 s.2 hs.1 hs.2) ?_;refine a_2 ?_;refine y_g rfl (by simp[hv]) (.move rfl) ?_
 first|refine y_g rfl (by simp[hv]) (.lenD rfl rfl rfl rfl te_38.h) ?_|refine y_g rfl (by simp[hv]) (.lenI rfl rfl rfl rfl te_38.h) ?_|refine y_g rfl (by simp[hv]) (.lenP rfl rfl rfl rfl te_38.h) ?_|refine y_g rfl (by simp[hv]) (.lenC rfl rfl rfl rfl te_38.h) ?_|refine y_g rfl (by simp[hv]) (.lenR rfl rfl rfl rfl te_38.h) ?_|refine y_g rfl (by simp[hv]) (.len rfl rfl rfl rfl rfl te_38.h) ?_
 refine y_g rfl (by simp[hv]) (.bin rfl rfl cb) ?_;refine o_0 (.pickF rfl (by simp[hv]) rfl) ?_;refine aq ?_;refine au rfl (fun a=>?_) (fun a=>?_)
 have c:ao p=[]:=by
  have:(ao p).length=0:=by simpa using a
  exact List.length_eq_zero_iff.1 this
 have d:iH p s=(0,0):=by unfold iH;rw[if_pos (.inr c)]
 rw[d];refine r_z 2 ?_;refine ai (Fin.cell rfl rfl rfl TG.h TS.h (nle rfl) (Cv.agg ?_));show CvL _ _ _ _ (qC 0++qC 0);rw[qC0];exact ah (Cv.emp _) (ah (an aA (ag _)) (ah (Cv.emp _) (ah (Cv.emp _) (ah (an aA (ag _)) (ah (Cv.emp _) av)))))
 have c:ao p≠[]:=by
  have:¬(ao p).length=0:=by simpa using a
  exact fun e=>this (by rw[e];rfl)
 refine am ⟨(),⟨hv,c⟩,?_⟩;exact s_e [];refine r_c 8 (lH s.1 s.2 hs.1 hs.2) ?_;refine a_2 ?_;refine n_g rfl (by simp[hv]) ?_;refine n_g rfl (by simp[hv]) ?_;refine n_g rfl (by simp[hv]) ?_;refine o_0 (.pickT rfl (by simp[hv]) rfl) ?_;refine aq ?_;refine au rfl (fun a=>?_) (fun a=>?_);have d:iH p s=(0,0):=by unfold iH;rw[if_pos (.inl hv)]
 rw[d];refine r_z 2 ?_;refine ai (Fin.cell rfl rfl rfl TG.h TS.h (nle rfl) (Cv.agg ?_));show CvL _ _ _ _ (qC 0++qC 0);rw[qC0];exact ah (Cv.emp _) (ah (an aA (ag _)) (ah (Cv.emp _) (ah (Cv.emp _) (ah (an aA (ag _)) (ah (Cv.emp _) av)))));cases a;rintro _ ⟨hv,c⟩;have o:=List.length_pos_iff.2 c
 have d:iH p s=ovP (aM p,aM p) s ((ao p).take ((ao p).length- 1)):=by
  unfold iH;rw[if_neg (by rintro(e|e);exact e hv;exact c e)]
 obtain⟨l,b⟩:∃l,l=(ao p).take ((ao p).length- 1):=⟨_,rfl⟩;rw[<-b] at f d;rw[d];have m:l.length=(ao p).length- 1:=by rw[b];simp
 have i:∀q∈l,sm q:=fun q u=>g q (cI (List.mem_of_mem_take (by rw[<-b];exact u)))
 have v:∀k,k< l.length->FS 251 [.agg (spC (ovP (aM p,aM p) s (l.drop (l.length- k))).1 (ovP (aM p,aM p) s (l.drop (l.length- k))).2),.agg (qC (coP l (l.length- 1- k))),bS s] (.agg (spC (ovP (aM p,aM p) s (l.drop (l.length- (k+1)))).1 (ovP (aM p,aM p) s (l.drop (l.length- (k+1)))).2)):=fun k t=>by
  have a:=xd (l.length- (k+1)) f;rw[sD t] at a⊢;exact Jj _ s _ (okOv_sm a.1) hs a.2.2.1 a.2.1
 have n:=DI l 251 [bS s] (fun k=>ovP (aM p,aM p) s (l.drop (l.length- k))) (by omega) (ac (oZ s) af) v;simp only[Nat.sub_zero,Nat.sub_self,List.drop_zero,List.drop_length] at n
 have j:(pE (ao p))[(((ao p).length:Int)- 1).toNat]?=some (qC (aM p)):=by
  rw[show(((ao p).length:Int)- 1).toNat=(ao p).length- 1 by omega];exact pE_get (dn (by omega))
 refine r_z 4 ?_;refine ae (r_d a7 11 ?_);refine a_2 ?_;refine o_0 (.sa_h rfl rfl (h:=(ao p).length- 1) (by omega) (by simp) te_38.h (mj _)) ?_;refine a_2 ?_;refine i_x j ?_;refine l_x j ?_;refine c_s (BC (aM p)) ?_;refine o_0 (.makeFunc rfl rfl) ?_;refine o_0 (.call rfl rfl rfl ((by rw[tG,<-b];exact n))) ?_;refine eF (.store rfl rfl rfl rfl rfl rfl TS.h (nle rfl)) ?_;refine aq (n_k ?_);exact ai (c_e (b5 _ _))
def hpS(p:Lq)(g:Nat)(cap:La)(w:Nat->Lq):Nat->AState
 |k=>⟨[(4,.lptr 1 0 0),(5,.aptr [[.clos g [] cap]] 0 0),(10,.clos 162 [] [bP p])],[(1,some ⟨38,1,[[.arr (pE (w k))]]⟩)],2,18⟩
theorem DK(p:Lq)(g:Nat)(cap:La)(w:Nat->Lq)(hl:p.length<=281474976710656)(hcap:∀c∈cap,Closed c)(hg:∀k,k< p.length->FS g ((.arr (pE (w k)):: .agg (qC (coP p (p.length- 1- k)))::cap).map coe) (.arr (pE (w (k+1))))):FS 217 [.arr (pE p),.arr (pE (w 0)),.clos g [] cap] (.arr (pE (w p.length))):=by
 have hb:=k4 p;have d:=kZ p hl;have b:Closed (.clos g [] cap):=aR af hcap;have i:Closed (.aptr [[.clos g [] cap]] 0 0):=bq (ac b af);have f:Closed (.clos 162 [] [bP p]):=aR af (ac (dc p) af);refine f_c Tryz.func217 ?_;refine r_z 3 ?_;refine AWp.ent (st':=⟨[(0,.arr (pE p)),(4,.lptr 1 0 0),(5,.aptr [[.clos g [] cap]] 0 0)],[(1,some ⟨38,1,[[.arr (pE (w 0))]]⟩)],2,18⟩) ?_ ?_;have:=ac b af;exact s_f [(1,4)];refine ae (r_c 2 (hb) ?_);refine aq ?_;refine aF (fun _:Unit=>⟨[(4,.lptr 1 0 0)],[(1,some ⟨38,1,[[.arr (pE (w p.length))]]⟩)],2,18⟩) (fun _=>True) ?_ ?_;refine aj (AWp.rangeFunc (α:=Nat) (γ:=Empty) p.length (hpS p g cap w) (fun k=>k) (fun k=>k<=p.length) (fun e=>nomatch e) (fun _ e=>nomatch e) 0 rfl d rfl rfl ?_ (fun _=>⟨rfl,rfl⟩) (fun e=>nomatch e) (Nat.zero_le _) rfl (fun _ h=>h) ?_ ?_ ?_ ?_ (fun _ e=>nomatch e));intro k xs a;unfold lT at a;split at a;cases a;rfl;cases a;rw[hpS.eq_1];exact s_y [] (fun hs=>ek) (fun hs=>lV);exact ac (dc p) af
 ·intro l k xs j a
  unfold lT at a;split at a;rotate_left;cases a;rename_i hlt;cases a;show AWp _ _ _ _ ⟨[(12,.agg (qC (coP p (p.length- 1- k)))),(11,i64 (p.length- 1- k:Nat)),(4,.lptr 1 0 0),(5,.aptr [[.clos g [] cap]] 0 0),(10,.clos 162 [] [bP p]),(1004,.lptr 1 0 0),(1005,.aptr [[.clos g [] cap]] 0 0),(1010,.clos 162 [] [bP p])],[(1,some ⟨38,1,[[.arr (pE (w k))]]⟩)],2,18⟩;refine r_m 2 ?_;refine a_z ?_;refine aj (r_m 5 ?_);refine c_s (hg k hlt) ?_;refine a_z ?_;refine⟨k+1,⟨hlt,rfl⟩,?_⟩;show SEntT _ ⟨[(1004,.lptr 1 0 0),(1005,.aptr [[.clos g [] cap]] 0 0),(1010,.clos 162 [] [bP p])],[(1,some ⟨38,1,[[.arr (pE (w (k+1)))]]⟩)],2,18⟩;exact s_y [] (fun hs=>ek) (fun hs=>lV)
 intro k j a;unfold lT at a;split at a;cases a;refine⟨(),trivial,?_⟩;rw[hpS.eq_1];have m:k=p.length:=by omega
 subst m;exact s_e [];rintro _ _;refine r_z 2 ?_;exact ai (t_e (aB _))
theorem Bu(v q:Lq)(c:Rat)(h:j7 v q)(hc:sm c)(hl:(aK v q).length<=274877906944):FS 218 [.arr (pE v),.agg (qC c),bP q] (.arr (pE (fQ (aK v q) (eJ c)))):=by
 have a:=pF c;refine f_c Tryz.func218 ?_;refine r_z 2 ?_;refine ae (r_d a7 7 ?_);refine c_s (Jk v q (mxL v) (mxL q) (e8 v) (e8 q) (eO v) (eO q) h.1 h.2.1 h.2.2.1 h.2.2.2) ?_;refine c_s (tj c) ?_;refine c_s (nZ (aK v q) (eJ c) (u6 h) (nv fun x b=>by rw[List.mem_singleton.1 b];exact hc) (by omega) (by omega)) ?_;refine a_1 ?_;refine aq (n_k ?_);exact ai (t_e (aB _))
theorem DO(p q:Lq)(h:gP q p)(hp:p.length<=274877906944):FS 179 [.arr (pE p),.arr (pE q)] (.arr (pE (cn q p))):=by
 have c:∀k,k< p.length->FS 218 [.arr (pE (cn q (p.drop (p.length- k)))),.agg (qC (coP p (p.length- 1- k))),bP q] (.arr (pE (cn q (p.drop (p.length- (k+1)))))):=fun k d=>by
  have a:=td (p.length- (k+1)) h;rw[sD d] at a⊢;exact Bu _ q _ a.2.1 a.2.2.1 a.2.2.2
 have b:=DK p 218 [bP q] (fun k=>cn q (p.drop (p.length- k))) (by omega) (ac (dc q) af) c;simp only[Nat.sub_zero,Nat.sub_self,List.drop_zero,List.drop_length] at b;refine f_c Tryz.func179 ?_;refine r_z 2 ?_;refine AWp.ent (st':=⟨[(0,.arr (pE p)),(3,bP q)],[],1,8⟩) ?_ ?_;exact s_e [];refine r_c 4 (b) ?_;refine a_z ?_;exact ai (t_e (aB _))
theorem vz(p:Lq)(c:Rat)(h:gP [c,1] p)(hp:p.length<=274877906944):FS 140 [.arr (pE p),.agg (qC c)] (.arr (pE (cn [c,1] p))):=by
 refine f_c Tryz.func140 ?_;refine r_z 2 ?_;refine r_c 5 (fs_line c) ?_;refine c_s (DO p [c,1] h hp) ?_;refine a_z ?_;exact ai (t_e (aB _))
def coS:Nat×Nat->AState
 |(a,b)=>⟨[(2,.lptr 1 0 0),(3,.lptr 2 0 0),(4,.lptr 3 0 0)],[(1,some ⟨36,3,[qC (nQ a)]⟩),(2,some ⟨36,3,[qC (nQ b)]⟩),(3,some ⟨36,3,[zC]⟩)],4,18⟩
theorem vX(a:Nat)(b:Nat):coS (a,b)=⟨[(2,.lptr 1 0 0),(3,.lptr 2 0 0),(4,.lptr 3 0 0)],[(1,some ⟨36,3,[qC (nQ a)]⟩),(2,some ⟨36,3,[qC (nQ b)]⟩),(3,some ⟨36,3,[zC]⟩)],4,18⟩:=rfl
theorem vw(a b:Nat)(ha:bl a<=68719476736)(hb:bl b<=68719476736):FS 238 [.agg (qC (nQ a)),.agg (qC (nQ b))] (.agg (qC (nQ (Nat.gcd a b)))):=by
 refine f_c Tryz.func238 ?_;refine r_z 3 ?_;refine bH (fun _:Unit=>coS (Nat.gcd a b,0)) (fun _=>True) ?_ ?_;refine aj (aC coS (fun x=>x.2) (fun x=>Nat.gcd x.1 x.2=Nat.gcd a b/\bl x.1<=68719476736/\bl x.2<=68719476736) (a,b) ⟨rfl,ha,hb⟩ ?_ ?_);simp only[vX];exact s_e [];rintro⟨u,v⟩ ⟨m,i,hv⟩;simp only at m i hv;rw[vX];refine ae (r_c 3 (cC (nQ v)) ?_);refine a_z ?_;refine au rfl (fun h=>?_) (fun h=>?_)
 have c:v≠0:=by
  intro e;subst e;exact absurd h (by decide)
 refine am ?_;have o:=nh (n:=u) i (by decide);have p:=nh (n:=v) hv (by decide);have q:=ik (nQ u) (nQ v);have d:=iu (nQ u) (nQ v) (fun e=>c (nQ_zero.1 e)) (by omega);have g:=qN (nQ u/ nQ v) (by omega);rw[yY u v c,A5 u v c] at g;rw[yY u v c] at d;have s:=nh (n:=u/ v) (k:=68719476736) (Nat.le_trans (eY u v) i) (by decide);have f:=c6 (nQ v) (nQ (u/ v)) (by omega);rw[Iz] at f;have l:v* (u/ v)<=u:=Nat.mul_div_le u v;have r:=nh (n:=v* (u/ v)) (k:=68719476736) (Nat.le_trans (dI l) i) (by decide);have j:=jC (nQ u) (nQ (v* (u/ v))) (by omega);rw[nQ_sub l,show u- v* (u/ v)=u % v by have:=Nat.div_add_mod u v;omega] at j;refine aj (r_d a7 11 ?_);refine c_s (d) ?_;refine c_s (g) ?_;refine c_s (f) ?_;refine c_s (j) ?_;refine a_2 ?_;refine aq (n_k ?_);refine⟨(v,u % v),Nat.mod_lt _ (by omega),⟨?_,hv,Nat.le_trans (dI (Nat.mod_le u v)) i⟩,?_⟩;rw[<-m];show Nat.gcd v (u % v)=Nat.gcd u v;rw[Nat.gcd_comm v,Nat.gcd_comm u v,<-Nat.gcd_rec];simp only[vX];exact s_e []
 have c:v=0:=by
  have o:sgZ (nQ v).num=0:=by simpa using h
  exact nQ_zero.1 (sgZ_num_eq.1 o)
 subst c;rw[Nat.gcd_zero_right] at m;refine ax ⟨(),trivial,?_⟩;rw[<-m];simp only[vX];exact s_e [];rintro _ _;simp only[vX];refine r_z 2 ?_;exact ai (c_e (aS _))
end Go.Proofs.YtkbjakfniejkcaaGreatDoor
