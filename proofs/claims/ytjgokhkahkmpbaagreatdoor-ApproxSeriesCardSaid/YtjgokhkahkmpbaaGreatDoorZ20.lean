/- Part Z20 of the proof. -/
import Derived.Test.YtjgokhkahkmpbaaGreatDoorZ19
set_option linter.all false
namespace Go.Proofs.YtjgokhkahkmpbaaGreatDoor
open Go.Abs
set_option maxRecDepth 20000
def mulS(p:Lq)(q:Lq):Nat×Lq→AState
 |(i,o)=>⟨[(1,.arr (pE q)),(5,.lsl 1 0 o.length (some o.length) 3),(25,.arr (pE p)),(26,i64 p.length),(27,i64 i)],[(1,some ⟨42,3,pE o⟩)],2,61⟩
def mulT(p:Lq)(q:Lq)(i:Nat)(a:Rat):Nat×Lq→AState
 |(k,o)=>⟨[(1,.arr (pE q)),(5,.lsl 1 0 o.length (some o.length) 3),(6,i64 i),(7,.lptr 2 0 0),(25,.arr (pE p)),(26,i64 p.length),(27,i64 i),(35,.arr (pE q)),(36,i64 q.length),(37,i64 k)],[(1,some ⟨42,3,pE o⟩),(2,some ⟨42,3,[qC a]⟩)],3,61⟩
theorem wB(p q:Lq)(s t:Nat)(hp:bdL p s)(hq:bdL q t)(hs:1≤s)(ht:1≤t)(h:p.length* (s+t+1)+1≤137438953472)(ht2:t≤137438953472)(hp1:p.length≤274877906944)(hq1:q.length≤274877906944):FS 72 [.arr (pE p),.arr (pE q)] (.arr (pE (cV p q))):=by
 refine f_c Tryz.func72 ?_;refine r_z 1 ?_;refine aZ (fun _:Unit=>⟨[(0,.arr (pE p)),(1,.arr (pE q))],[],1,61⟩) (fun _=>p≠[]∧q≠[]) ?_ ?_;by_cases h1:p=[];subst h1;refine s_r 8 ?_;refine a_4 ?_;refine n_g rfl (by simp) ?_;refine n_g rfl (by simp) ?_;refine n_g rfl (by simp) ?_;refine o_0 (.pickT rfl (by simp) rfl) ?_;refine aq ?_;refine au rfl (fun h=>?_) (fun h=>?_);refine r_z 1 ?_;refine am ?_;unfold cV;rw[if_pos (.inl rfl)];exact Fin.tmpN rfl;cases h;have hp0:p.length≠0:=fun e=>h1 (List.length_eq_zero_iff.1 e);refine s_r 8 ?_;refine a_4 ?_;refine y_g rfl (by simp <;> omega) (.move rfl) ?_
 first|refine y_g rfl (by simp <;> omega) (.lenD rfl rfl rfl rfl te_30.h) ?_|refine y_g rfl (by simp <;> omega) (.lenI rfl rfl rfl rfl te_30.h) ?_|refine y_g rfl (by simp <;> omega) (.lenP rfl rfl rfl rfl te_30.h) ?_|refine y_g rfl (by simp <;> omega) (.lenC rfl rfl rfl rfl te_30.h) ?_|refine y_g rfl (by simp <;> omega) (.lenR rfl rfl rfl rfl te_30.h) ?_|refine y_g rfl (by simp <;> omega) (.len rfl rfl rfl rfl rfl te_30.h) ?_
 refine y_g rfl (by simp <;> omega) (.bin rfl rfl aV) ?_;refine o_0 (.pickF rfl (by simp <;> omega) rfl) ?_;refine aq ?_;refine au rfl (fun h2=>?_) (fun h2=>?_)
 have hq0:q=[]:=by
  have:q.length=0:=by simpa using h2
  exact List.length_eq_zero_iff.1 this
 refine r_z 1 ?_;refine am ?_;unfold cV;rw[if_pos (.inr hq0)];exact Fin.tmpN rfl
 have hq0:q≠[]:=by
  have:¬q.length=0:=by simpa using h2
  exact fun e=>this (by rw[e];rfl)
 refine an ⟨(),⟨h1,hq0⟩,?_⟩;exact s_e [];rintro _ ⟨hp0,hq0⟩;have hpl:=List.length_pos_iff.2 hp0;have hql:=List.length_pos_iff.2 hq0;have hN:(p.length:Int)+q.length- 1=((p.length+q.length- 1:Nat):Int):=by omega
 refine s_r 8 ?_;refine a_6 ?_;refine o_1 (.makeSlice (l:=p.length+q.length- 1) (c:=p.length+q.length- 1) (by rw[←hN];rfl) (by rw[←hN];rfl) te_30.h TZ.h rfl TB.h (by first|omega|(simp;done)|(simp;omega)) (by first|omega|(simp;done)|(simp;omega)) (by unfold maxLen;first|omega|(simp;done)|(simp;omega))) ?_;refine a_z ?_;refine ae (r_z 3 ?_);have hbd:=fun i=>rl (eO hp hs) (eO hq ht) i
 have hbi:∀i,i≤p.length→i* (s+t+1)+1≤137438953472:=fun i hi=>by
  have:=Nat.mul_le_mul_right (s+t+1) hi;omega
 have hs2:s≤137438953472:=by
  have:=hbi 1 hpl;omega
 refine aH (fun _:Unit=>mulS p q (p.length,eG p q p.length)) (fun _=>True) ?_ ?_;refine ak (aC (fun i:Nat=>mulS p q (i,eG p q i)) (fun i=>p.length- i) (fun i=>i≤p.length) 0 (Nat.zero_le _) ?_ ?_);simp only[mulS.eq_1,eG];exact s_x [(1,5)] (fun hs=>dj) (fun hs=>e_25);rintro i hi;simp only[mulS.eq_1];refine r_z 1 ?_;refine ae (au rfl (fun h=>?_) (fun h=>?_));refine an ?_;have hlt:i< p.length:=by simpa using h
 have hgp:(pE p)[((i:Nat):Int).toNat]?=some (qC (coP p i)):=bK (bm hlt);refine ae (ak (s_r 6 ?_));refine a_1 ?_;refine i_x hgp ?_;refine l_x hgp ?_;refine a_z ?_;refine ae (r_c 3 (b6 (coP p i)) ?_);refine a_z ?_;refine au rfl (fun h1=>?_) (fun h1=>?_)
 have h0:coP p i=0:=by
  have h1:sgZ (coP p i).num=0:=by simpa using h1
  exact sgZ_num_eq.1 h1
 have hst:eG p q (i+1)=eG p q i:=by rw[eG,if_pos h0]
 refine aB (r_m 2 ?_);refine a_z ?_;refine⟨i+1,by omega,hlt,?_⟩;simp only[mulS.eq_1,hst];exact s_e []
 have h0:coP p i≠0:=by
  intro e;have h1:¬sgZ (coP p i).num=0:=by simpa using h1
  exact h1 (sgZ_num_eq.2 e)
 have hst:eG p q (i+1)=ja (eG p q i) (coP p i) q i q.length:=by rw[eG,if_neg h0]
 refine an (r_z 3 ?_);refine AWp.cutB (fun _:Unit=>mulS p q (i,eG p q (i+1))) (fun _=>True) ?_ ?_;refine ak (aC (fun k:Nat=>mulT p q i (coP p i) (k,ja (eG p q i) (coP p i) q i k)) (fun k=>q.length- k) (fun k=>k≤q.length) 0 (Nat.zero_le _) ?_ ?_);simp only[mulT.eq_1,ja];exact s_e [(2,7)];rintro k hk;simp only[mulT.eq_1];refine r_z 1 ?_;refine ae (au rfl (fun h2=>?_) (fun h2=>?_));refine an ?_;have hlt2:k< q.length:=by simpa using h2
 have hgq:(pE q)[((k:Nat):Int).toNat]?=some (qC (coP q k)):=bK (bm hlt2);refine ae (ak (s_r 6 ?_));refine a_1 ?_;refine i_x hgq ?_;refine l_x hgq ?_;refine a_z ?_;have hb1:=hbd i;have hb2:=hbi (i+1) hlt;have hb3:=hbi i hi
 have hcur:qs (coP (ja (eG p q i) (coP p i) q i k) (i+k))≤137438953472:=by
  rw[sj _ _ _ _ _ _ (by omega)];exact Nat.le_trans (hb1 (i+k)) hb3
 have hab:=e8 (coP p i) (coP q k);have hqa:=eO hp hs i;have hqb:=eO hq ht k;have hik:i+k< (ja (eG p q i) (coP p i) q i k).length:=by simp;omega
 have hgo:(pE (ja (eG p q i) (coP p i) q i k))[(0+(((i:Nat):Int)+(k:Nat)).toNat)]?=some (qC (coP (ja (eG p q i) (coP p i) q i k) (i+k))):=by
  rw[show 0+(((i:Nat):Int)+(k:Nat)).toNat=i+k by omega];exact bK (bm hik)
 refine r_d hmix 16 ?_;refine a_8 ?_;refine a_1 ?_
 first|refine ax (.load_l rfl rfl hgo TG.h TS.h (nle rfl)) rfl rfl ?_|refine ax (.load_a rfl hgo TG.h TS.h (nle rfl)) rfl rfl ?_
 refine c_s (c7 (coP p i) (coP q k) (by omega)) ?_;refine c_s (ff (coP (ja (eG p q i) (coP p i) q i k) (i+k)) (coP p i* coP q k) (by omega)) ?_;refine a_1 ?_;refine ep (.store rfl rfl hgo rfl rfl rfl TS.h (nle rfl)) ?_;refine aq (n_k ?_);refine r_m 2 ?_;refine a_z ?_;refine⟨k+1,by omega,hlt2,?_⟩
 have hst2:(pE (ja (eG p q i) (coP p i) q i k)).set (0+(((i:Nat):Int)+(k:Nat)).toNat) (qC (coP (ja (eG p q i) (coP p i) q i k) (i+k)+coP p i* coP q k))=pE (ja (eG p q i) (coP p i) q i (k+1)):=by
  rw[show 0+(((i:Nat):Int)+(k:Nat)).toNat=i+k by omega,jD];rfl
 have hl2:(ja (eG p q i) (coP p i) q i (k+1)).length=(ja (eG p q i) (coP p i) q i k).length:=by simp
 simp only[mulT.eq_1,hl2];exact s_x [] (fun hs=>dj) (fun hs=>e_26) e_5
 have hge:k=q.length:=by
  have:¬k< q.length:=by simpa using h2
  omega
 subst hge;refine aB ⟨(),trivial,?_⟩;simp only[mulS.eq_1,hst];exact s_e [];rintro _ _;simp only[mulS.eq_1];refine r_m 2 ?_;refine a_z ?_;refine⟨i+1,by omega,hlt,?_⟩;exact s_e []
 have hge:i=p.length:=by
  have:¬i< p.length:=by simpa using h
  omega
 subst hge;refine aB ⟨(),trivial,?_⟩;simp only[mulS.eq_1];exact s_e [];rintro _ _;simp only[mulS.eq_1]
 have hfull:List.take (eG p q p.length).length (List.drop 0 (pE (eG p q p.length)))=pE (eG p q p.length):=by
  rw[List.drop_zero,List.take_of_length_le (by simp)]
 have hfin:cV p q=av (eG p q p.length):=by
  unfold cV;rw[if_neg (by rintro(h|h);exact hp0 h;exact hq0 h)]
 rw[hfin];refine s_r 3 ?_;refine a_1 ?_;refine o_1 (.callS1 rfl rfl rfl (.shut rfl d_n (.nil)) rfl ((by rw[hfull];exact cY (eG p q p.length) (by simp;omega)))) ?_;refine a_z ?_;exact am (t_e (ao _))
theorem EQ(l:Lq)(h0:l≠[])(hl:l.length≤1099511627776):OSpec Tryz.prog 77 [.arr (pE l)] 42 3 (pE l):=by
 have hne:pE l≠[]:=by
  intro e;exact h0 (List.length_eq_zero_iff.1 (by rw[←l4,e];rfl))
 refine OSpec.enter Tryz.func77 rfl (by kernel_rfl) rfl rfl rfl ?_ ?_ rfl ?_;exact ac (aP (aF _)) ai;exact aF l;refine r_z 1 ?_;refine ae (s_r 2 ?_);refine a_1 ?_
 first|refine ax (.nilq_v rfl rfl te_30.h) rfl rfl ?_|refine ax (.nilq_arr rfl (hne) rfl te_30.h) rfl rfl ?_
 refine aq ?_;refine cF ?_
 ·refine an (s_r 4 ?_)
  refine a_2 ?_;refine o_2 (.append_l rfl rfl rfl te_30.h rfl rfl rfl rfl rfl d_o (by first|exact dh _|exact df _|exact cL _|exact di _|exact de _|assumption|rfl|simp) (by first|rfl|exact dh _|exact df _|exact cL _|exact di _|exact de _|simp) rfl (.arr (eF _)) TZ.h rfl TB.h d_o (by first|(simp[maxLen];done)|(simp[maxLen];omega))) ?_;refine a_z ?_;exact am (FinO.tmp rfl rfl rfl (by simp))
theorem os_Trim(l:Lq)(h0:av l≠[])(hl:l.length≤1099511627776):OSpec Tryz.prog 21 [.arr (pE l)] 42 3 (pE (av l)):=by
 refine OSpec.enter Tryz.func21 rfl (by kernel_rfl) rfl rfl rfl ?_ ?_ rfl ?_;exact ac (aP (aF _)) ai;exact aF _;refine r_z 1 ?_;refine r_z 3 ?_;refine aZ (trS l) (fun n=>n≤l.length∧av l=l.take n) ?_ ?_;refine ak (aC (trS l) (fun n=>n) (fun n=>n≤l.length∧av l=av (l.take n)) l.length ⟨Nat.le_refl _,by rw[List.take_length]⟩ ?_ ?_);simp only[trS.eq_1];exact s_e [];rintro n ⟨hn,ht⟩;rw[trS.eq_1];cases n with
 |zero=>exact absurd (ht.trans rfl) h0
 |succ n=>
  obtain⟨q,hq⟩:∃q,l[n]?=some q:=⟨_,List.getElem?_eq_getElem (by omega)⟩
  have hq':(pE l)[(((n+1:Nat):Int)- 1).toNat]?=some (qC q):=by
   rw[show(((n+1:Nat):Int)- 1).toNat=n by omega];exact bK hq
  have hs:av (l.take (n+1))=if q=0 then av (l.take n) else l.take (n+1):=by
   rw[dx hq,mS]
  refine ae (s_r 11 ?_);refine a_3 ?_;refine y_g rfl (by simp <;> omega) (.move rfl) ?_;refine y_g rfl (by simp <;> omega) (.move rfl) ?_;refine y_g rfl (by simp <;> omega) (.bin rfl rfl (jn (by omega))) ?_
  first|refine y_g rfl (by simp <;> omega) (.index_l rfl rfl (by omega) (by omega) te_30.h) ?_|refine y_g rfl (by simp <;> omega) (.index_a rfl rfl (by omega) hq' rfl te_30.h) ?_
  first|refine y_g rfl (by simp <;> omega) (.load_l rfl rfl hq' TG.h TS.h (nle rfl)) ?_|refine y_g rfl (by simp <;> omega) (.load_a rfl hq' TG.h TS.h (nle rfl)) ?_
  refine y_g rfl (by simp <;> omega) (.call rfl rfl rfl (b6 q)) ?_;refine y_g rfl (by simp <;> omega) (.bin rfl rfl aV) ?_;refine o_0 (.pickT rfl (by simp <;> omega) rfl) ?_;refine aq ?_;refine au rfl (fun h=>?_) (fun h=>?_)
  have h0:q=0:=by
   have h1:sgZ q.num=0:=by simpa using h
   exact sgZ_num_eq.1 h1
  refine an (ak (r_m 3 ?_));refine a_z ?_;refine⟨n,Nat.lt_succ_self n,⟨by omega,?_⟩,?_⟩;rw[ht,hs,if_pos h0];simp only[trS.eq_1];exact s_e []
  have h0:q≠0:=by
   intro e;have h1:¬sgZ q.num=0:=by simpa using h
   exact h1 (sgZ_num_eq.2 e)
  refine aB ⟨n+1,⟨hn,?_⟩,?_⟩;rw[ht,hs,if_neg h0];simp only[trS.eq_1];exact s_e []
 rintro n ⟨hn,ht⟩;rw[trS.eq_1];rw[ht] at h0;have hcl:=EQ (l.take n) h0 (by simp;omega);refine s_r 5 ?_;refine a_2 ?_;refine o_0 (.sa_h rfl rfl (h:=n) rfl (by simp;omega) te_30.h (eF _)) ?_;refine o_1 (.callO rfl rfl rfl ((by rw[kx];exact hcl))) ?_;refine a_z ?_;refine am ?_;rw[ht];exact FinO.tmp rfl rfl rfl (by simp)
def dvS(q:Lq)(lead:Rat):Nat×Lq×Lq→AState
 |(c,u,o)=>⟨[(0,.lsl 1 0 o.length none 3),(1,.arr (pE q)),(4,.lsl 2 0 u.length (some u.length) 3),(6,.lptr 3 0 0),(7,i64 ((c:Int)- 1))],[(1,some ⟨42,3,pE o⟩),(2,some ⟨42,3,pE u⟩),(3,some ⟨42,3,[qC lead]⟩)],4,82⟩
def dvT(q:Lq)(lead:Rat)(n:Nat)(u:Lq)(k:Rat):Nat×Lq→AState
 |(i,o)=>⟨[(0,.lsl 1 0 o.length none 3),(1,.arr (pE q)),(4,.lsl 2 0 u.length (some u.length) 3),(6,.lptr 3 0 0),(7,i64 n),(8,.lptr 4 0 0),(55,.arr (pE q)),(56,i64 q.length),(57,i64 i)],[(1,some ⟨42,3,pE o⟩),(2,some ⟨42,3,pE u⟩),(3,some ⟨42,3,[qC lead]⟩),(4,some ⟨42,3,[qC k]⟩)],5,82⟩
theorem pF(p q:Lq)(s t:Nat)(hp:bdL p s)(hq:bdL q t)(hs:1≤s)(ht:1≤t)(h:2^ ((av p).length+1- (av q).length) * (s+2* t+1)≤137438953472)(hq0:av q≠[])(hp1:p.length≤274877906944)(hq1:q.length≤274877906944):FS 78 [.arr (pE p),.arr (pE q)] (.tup [.arr (pE (fh p q).1),.arr (pE (fh p q).2)]):=by
 have hlp:=ci p;have hlq:=ci q;have hql:=List.length_pos_iff.2 hq0
 have hg:(pE (av q))[(((av q).length:Int)- 1).toNat]?=some (qC (aS q)):=by
  rw[show(((av q).length:Int)- 1).toNat=(av q).length- 1 by omega];exact bK (dV (by omega))
 have hne:=gu hq0;obtain⟨m,hm⟩:∃m,m=(av p).length+1- (av q).length:=⟨_,rfl⟩;have hmx:(if (0:Int)>((av p).length:Int)- (av q).length+1 then(0:Int) else((av p).length:Int)- (av q).length+1)=(m:Int):=by split <;> omega
 have hB:Bg (av q) (aS q) 137438953472 m (List.replicate m 0) (av p):=by
  refine⟨s,t,eO (fun x hx=>hp x (cX hx)) hs,eO (fun x hx=>hq x (cX hx)) ht,hq _ (cX (List.mem_of_getElem? (dV (n:=(av q).length- 1) (by omega)))),ht,fun n=>?_,by rw[hm];exact h⟩
  have:coP (List.replicate m 0) n=0:=by
   unfold coP;rw[List.getD_eq_getElem?_getD,List.getElem?_replicate];split <;> rfl
  rw[this];decide
 have hdv:fh p q=(av (jZ (av q) (aS q) m (List.replicate m 0) (av p)).1,av (jZ (av q) (aS q) m (List.replicate m 0) (av p)).2):=by rw[hm];rfl
 rw[hdv];refine f_c Tryz.func78 ?_;refine r_z 2 ?_;by_cases hp0:av p=[]
 ·have hm0:m=0:=by rw[hm,hp0];simp;omega
  subst hm0;rw[hp0] at hmx⊢;have htp:=cY p (by omega);rw[hp0] at htp;refine r_c 6 (htp) ?_;refine c_s (cY q (by omega)) ?_;refine a_z ?_;refine s_r 8 ?_;refine a_4 ?_;refine i_x hg ?_;refine l_x hg ?_;refine a_z ?_;refine s_r 9 ?_;refine a_7 ?_;refine o_1 (.makeSlice (l:=0) (c:=0) (by rw[←hmx];rfl) (by rw[←hmx];rfl) te_30.h TZ.h rfl TB.h (by first|omega|(simp;done)|(simp;omega)) (by first|omega|(simp;done)|(simp;omega)) (by unfold maxLen;first|omega|(simp;done)|(simp;omega))) ?_;refine a_z ?_;refine ae (r_z 6 ?_);refine aH (fun _:Unit=>⟨[(0,.arr (pE [])),(4,.lsl 2 0 0 (some 0) 3)],[(2,some ⟨42,3,[]⟩)],3,82⟩) (fun _=>True) ?_ ?_;refine ak (aC (fun _:Unit=>⟨[(0,.arr (pE [])),(4,.lsl 2 0 0 (some 0) 3),(7,i64 (0- ((av q).length:Int)))],[(2,some ⟨42,3,[]⟩)],3,82⟩) (fun _=>0) (fun _=>True) () trivial ?_ ?_);exact s_x [(2,4)] (fun hs=>dj) (fun hs=>e_17);rintro _ _;refine ae (r_z 2 ?_);refine au rfl (fun h1=>?_) (fun h1=>?_);exact absurd h1 (by simp;omega);refine aB ⟨(),trivial,?_⟩;exact s_x [] (fun hs=>dj) (fun hs=>e_17);rintro _ _;refine s_r 6 ?_;refine a_1 ?_;refine o_1 (.callS1 rfl rfl rfl (.shut rfl d_n (.nil)) rfl ((cY [] (by simp)))) ?_;refine c_s (cY [] (by simp)) ?_;refine a_z ?_;refine am (Fin.many ⟨_,_,rfl,rfl,⟨_,_,rfl,rfl,rfl⟩⟩ (nle rfl) ?_);exact af (ah aE (ao _)) (af (ah aE (ao _)) ay)
 have hpl:=List.length_pos_iff.2 hp0;have hto:=os_Trim p hp0 (by omega);have hdl:=jx (av q) (aS q) m (List.replicate m 0) (av p);have hend:=wR hB;refine s_r 6 ?_;refine a_1 ?_;refine o_1 (.callO rfl rfl rfl (hto)) ?_;refine c_s (cY q (by omega)) ?_;refine a_z ?_;refine AWp.ent (st':=⟨[(0,.lsl 1 0 (av p).length none 3),(1,.arr (pE (av q)))],[(1,some ⟨42,3,pE (av p)⟩)],2,82⟩) ?_ ?_;exact s_e [(1,0)];refine s_r 8 ?_;refine a_4 ?_;refine i_x hg ?_;refine l_x hg ?_;refine a_z ?_;refine s_r 9 ?_;refine a_7 ?_;refine o_1 (.makeSlice (l:=m) (c:=m) (by rw[←hmx];rfl) (by rw[←hmx];rfl) te_30.h TZ.h rfl TB.h (by first|omega|(simp;done)|(simp;omega)) (by first|omega|(simp;done)|(simp;omega)) (by unfold maxLen;first|omega|(simp;done)|(simp;omega))) ?_;refine a_z ?_;refine ae (r_z 6 ?_);refine aH (fun x:Lq×Lq=>⟨[(0,.lsl 1 0 x.2.length none 3),(4,.lsl 2 0 x.1.length (some x.1.length) 3)],[(1,some ⟨42,3,pE x.2⟩),(2,some ⟨42,3,pE x.1⟩)],3,82⟩) (fun x=>x=jZ (av q) (aS q) m (List.replicate m 0) (av p)) ?_ ?_;refine ak ?_;by_cases hab:(av p).length< (av q).length;have hm0:m=0:=by omega
 subst hm0;refine aC (fun _:Unit=>⟨[(0,.lsl 1 0 (av p).length none 3),(4,.lsl 2 0 0 (some 0) 3),(7,i64 (((av p).length:Int)- ((av q).length:Int)))],[(1,some ⟨42,3,pE (av p)⟩),(2,some ⟨42,3,[]⟩)],3,82⟩) (fun _=>0) (fun _=>True) () trivial ?_ ?_;exact s_x [(1,0),(2,4)] (fun hs=>dj) (fun hs=>e_17);rintro _ _;refine ae (r_z 2 ?_);refine au rfl (fun h1=>?_) (fun h1=>?_);exact absurd h1 (by simp;omega);refine aB ⟨([],av p),rfl,?_⟩;exact s_f [];refine aC (fun x:Nat×Lq×Lq=>dvS (av q) (aS q) x) (fun x=>x.1) (fun x=>x.1≤m∧x.2.1.length=m∧x.2.2.length=(av p).length∧Bg (av q) (aS q) 137438953472 x.1 x.2.1 x.2.2∧jZ (av q) (aS q) x.1 x.2.1 x.2.2=jZ (av q) (aS q) m (List.replicate m 0) (av p)) (m,List.replicate m 0,av p) ⟨Nat.le_refl _,by simp,rfl,hB,rfl⟩ ?_ ?_;simp only[dvS.eq_1];have hm1:((av p).length:Int)- (av q).length=(m:Int)- 1:=by omega
 rw[hm1];exact s_x [(1,0),(2,4),(3,6)] (fun hs=>dj) (fun hs=>e_25);rintro⟨c,u,o⟩ ⟨hc,hu,ho,hb,hr⟩;simp only at hc hu ho hb hr;simp only[dvS.eq_1];cases c with
 |zero=>
  refine ae (r_z 2 ?_);refine au rfl (fun h1=>?_) (fun h1=>?_);exact absurd h1 (by simp);refine aB ⟨(u,o),hr,?_⟩;exact s_e []
 |succ n=>
  obtain⟨B,tt,hb1,hb2,hb3,hb4⟩:=yU hb;have hcn:((n+1:Nat):Int)- 1=(n:Int):=by omega
  rw[hcn];refine ae (r_z 2 ?_);refine au rfl (fun h1=>?_) (fun h1=>?_);refine an ?_;obtain⟨k,hk⟩:∃k,k=coP o (n+(av q).length- 1) / aS q:=⟨_,rfl⟩;have hst:=ve hb;rw[jZ] at hr;rw[←hk] at hst hr
  have hgo:(pE o)[(0+(((n:Nat):Int)+((av q).length:Nat)- 1).toNat)]?=some (qC (coP o (n+(av q).length- 1))):=by
   rw[show 0+(((n:Nat):Int)+((av q).length:Nat)- 1).toNat=n+(av q).length- 1 by omega];exact bK (bm (by omega))
  have hov:=fE (coP o (n+(av q).length- 1)) (aS q) hne (by have:=hb1 (n+(av q).length- 1);omega);rw[←hk] at hov
  have hgu:(pE u)[0+((n:Nat):Int).toNat]?=some (qC (coP u n)):=by
   rw[show 0+((n:Nat):Int).toNat=n by omega];exact bK (bm (by omega))
  refine ae (ak (ae (r_d hmix 12 ?_)));refine a_7 ?_
  first|refine ax (.load_l rfl rfl hgo TG.h TS.h (nle rfl)) rfl rfl ?_|refine ax (.load_a rfl hgo TG.h TS.h (nle rfl)) rfl rfl ?_
  refine c_s (hov) ?_;refine a_2 ?_;refine aq (n_k ?_);refine s_r 5 ?_;refine a_4 ?_;refine ep (.store rfl rfl hgu rfl rfl rfl TS.h (nle rfl)) ?_;refine aq ?_
  have hsu:(pE u).set (0+((n:Nat):Int).toNat) (qC k)=pE (u.set n k):=by
   rw[show 0+((n:Nat):Int).toNat=n by omega,jD]
  have hlu:(u.set n k).length=u.length:=by simp
  refine ae (r_c 3 (b6 k) ?_);refine a_z ?_;refine au rfl (fun h2=>?_) (fun h2=>?_)
  have h0:k=0:=by
   have h2:sgZ k.num=0:=by simpa using h2
   exact sgZ_num_eq.1 h2
  rw[if_pos h0] at hst hr;refine aB (r_m 3 ?_);refine a_z ?_;refine⟨(n,u.set n k,o),Nat.lt_succ_self n,⟨by omega,by simp only;omega,ho,hst,hr⟩,?_⟩;simp only[dvS.eq_1,hlu];exact s_f []
  have h0:k≠0:=by
   intro e;have h2:¬sgZ k.num=0:=by simpa using h2
   exact h2 (sgZ_num_eq.2 e)
  rw[if_neg h0] at hst hr;refine an (r_z 3 ?_);refine AWp.cutB (fun _:Unit=>⟨[(0,.lsl 1 0 o.length none 3),(1,.arr (pE (av q))),(4,.lsl 2 0 u.length (some u.length) 3),(6,.lptr 3 0 0),(7,i64 n)],[(1,some ⟨42,3,pE (fM o k (av q) n (av q).length)⟩),(2,some ⟨42,3,pE (u.set n k)⟩),(3,some ⟨42,3,[qC (aS q)]⟩)],4,82⟩) (fun _=>True) ?_ ?_;refine ak (aC (fun i:Nat=>dvT (av q) (aS q) n (u.set n k) k (i,fM o k (av q) n i)) (fun i=>(av q).length- i) (fun i=>i≤(av q).length) 0 (Nat.zero_le _) ?_ ?_);simp only[dvT.eq_1,fM,hlu];exact s_f [(4,8)];rintro i hi;simp only[dvT.eq_1];refine r_z 1 ?_;refine ae (au rfl (fun h3=>?_) (fun h3=>?_));refine an ?_;have hlt2:i< (av q).length:=by simpa using h3
  have hgq:(pE (av q))[((i:Nat):Int).toNat]?=some (qC (coP (av q) i)):=bK (bm hlt2)
  have hcur:qs (coP (fM o k (av q) n i) (n+i))≤B:=by
   rw[nX _ _ _ _ _ _ (by omega)];exact hb1 _
  have hkq:qs k≤B+tt:=by
   have e1:=gi (coP o (n+(av q).length- 1)) (aS q);have e2:=hb1 (n+(av q).length- 1);rw[hk];omega
  have hkm:=e8 k (coP (av q) i);have hqi:=hb2 i;have hik:n+i< (fM o k (av q) n i).length:=by simp;omega
  have hgr:(pE (fM o k (av q) n i))[(0+(((n:Nat):Int)+(i:Nat)).toNat)]?=some (qC (coP (fM o k (av q) n i) (n+i))):=by
   rw[show 0+(((n:Nat):Int)+(i:Nat)).toNat=n+i by omega];exact bK (bm hik)
  refine ae (ak (s_r 6 ?_));refine a_1 ?_;refine i_x hgq ?_;refine l_x hgq ?_;refine a_z ?_;refine r_d hmix 16 ?_;refine a_8 ?_;refine a_1 ?_
  first|refine ax (.load_l rfl rfl hgr TG.h TS.h (nle rfl)) rfl rfl ?_|refine ax (.load_a rfl hgr TG.h TS.h (nle rfl)) rfl rfl ?_
  refine c_s (c7 k (coP (av q) i) (by omega)) ?_;refine c_s (gx (coP (fM o k (av q) n i) (n+i)) (k* coP (av q) i) (by omega)) ?_;refine a_1 ?_;refine ep (.store rfl rfl hgr rfl rfl rfl TS.h (nle rfl)) ?_;refine aq (n_k ?_);refine r_m 2 ?_;refine a_z ?_;refine⟨i+1,by omega,hlt2,?_⟩
  have hst2:(pE (fM o k (av q) n i)).set (0+(((n:Nat):Int)+(i:Nat)).toNat) (qC (coP (fM o k (av q) n i) (n+i)- k* coP (av q) i))=pE (fM o k (av q) n (i+1)):=by
   rw[show 0+(((n:Nat):Int)+(i:Nat)).toNat=n+i by omega,jD];rfl
  have hl2:(fM o k (av q) n (i+1)).length=(fM o k (av q) n i).length:=by simp
  simp only[dvT.eq_1,hl2];exact s_x [] (fun hs=>dj) (fun hs=>e_26) e_5
  have hge:i=(av q).length:=by
   have:¬i< (av q).length:=by simpa using h3
   omega
  subst hge;refine aB ⟨(),trivial,?_⟩;rw[gY,hlu];exact s_e [];rintro _ _;refine r_m 3 ?_;refine a_z ?_;refine⟨(n,u.set n k,fM o k (av q) n (av q).length),Nat.lt_succ_self n,⟨by omega,by simp only;omega,by simp only;rw[gY];exact ho,hst,hr⟩,?_⟩;simp only[dvS.eq_1,hlu,gY];exact s_e [];exact absurd h1 (by simp)
 rintro⟨u,o⟩ hx;rw[←hx] at hdl hend⊢;simp only at hdl hend⊢;have hlu:u.length≤274877906945:=by rw[hdl.1];simp;omega
 have hfu:List.take u.length (List.drop 0 (pE u))=pE u:=by rw[List.drop_zero,List.take_of_length_le (by simp)]
 have hfo:List.take o.length (List.drop 0 (pE o))=pE o:=by rw[List.drop_zero,List.take_of_length_le (by simp)]
 refine s_r 6 ?_;refine a_1 ?_;refine o_1 (.callS1 rfl rfl rfl (.shut rfl d_n (.nil)) rfl ((by rw[hfu];exact cY u (by omega)))) ?_;refine a_1 ?_;refine o_1 (.callS1 rfl rfl rfl (.shut rfl d_n (.nil)) rfl ((by rw[hfo];exact cY o (by rw[hdl.2];omega)))) ?_;refine a_z ?_;refine am (Fin.many ⟨_,_,rfl,rfl,⟨_,_,rfl,rfl,rfl⟩⟩ (nle rfl) ?_);exact af (ah aE (ao _)) (af (ah aE (ao _)) ay)
def gcS:Lq×Lq→AState
 |(p,q)=>⟨[(0,.arr (pE p)),(1,.arr (pE q))],[],1,21⟩
theorem AC(p:Lq)(q:Lq):gcS (p,q)=⟨[(0,.arr (pE p)),(1,.arr (pE q))],[],1,21⟩:=rfl
theorem degP_neg{l:Lq}:ct l< 0↔av l=[]:=by
 unfold ct;constructor;intro h;exact List.length_eq_zero_iff.1 (by omega);intro h;rw[h];decide
theorem AW(f:Nat)(p q g:Lq)(h:mu f p q=some g)(hp1:p.length≤274877906944)(hq1:q.length≤274877906944):FS 23 [.arr (pE p),.arr (pE q)] (.arr (pE g)):=by
 refine f_c Tryz.func23 ?_;refine r_z 1 ?_;refine aZ (fun p:Lq=>⟨[(0,.arr (pE p))],[],1,21⟩) (fun p=>smL p∧p.length≤274877906944∧g=dP p) ?_ ?_;refine ak (aC (fun x:Nat×Lq×Lq=>gcS x.2) (fun x=>x.1) (fun x=>mu x.1 x.2.1 x.2.2=some g∧x.2.1.length≤274877906944∧x.2.2.length≤274877906944) (f,p,q) ⟨h,hp1,hq1⟩ ?_ ?_);simp only[AC];exact s_e [];rintro⟨f,p,q⟩ ⟨h,hp1,hq1⟩;simp only at h hp1 hq1;simp only[AC];cases f with
 |zero=>cases h
 |succ f=>
  rw[mu] at h;refine ae (r_c 3 (bZ q (by omega)) ?_);refine a_z ?_;refine au rfl (fun h1=>?_) (fun h1=>?_)
  ·have hq0:av q≠[]:=by
    intro e;have e2:=degP_neg.2 e;simp at h1;omega
   rw[if_neg hq0] at h;split at h
   case isFalse=>cases h
   case isTrue hs=>
   have hl:=oI (p:=p) (q:=q);have hm:=mX (fh p q).2;refine an (ak (r_c 8 (pF p q (mxL p) (mxL q) (dL p) (dL q) (dy p) (dy q) hs.1 hq0 hp1 hq1) ?_));refine a_z ?_;refine r_m 5 ?_;refine c_s (ta (fh p q).2 (wS hs hq0).2 (by omega)) ?_;refine a_z ?_;refine⟨(f,q,dP (fh p q).2),Nat.lt_succ_self f,⟨h,hq1,by simp only;omega⟩,?_⟩;simp only[AC];exact s_e []
  ·have hq0:av q=[]:=by
    refine degP_neg.1 ?_;simp at h1;omega
   rw[if_pos hq0] at h;split at h
   case isFalse=>cases h
   case isTrue hs=>
   cases h;refine aB ⟨p,⟨hs,hp1,rfl⟩,?_⟩;exact s_e []
 rintro p ⟨hs,hp1,rfl⟩;refine r_c 3 (ta p hs (by omega)) ?_;refine a_z ?_;exact am (t_e (ao _))

theorem jF(l:Lq)(hl:l.length≤281474976710656):GSpec Tryz.prog 232 [bP l] (ki l):=by
 refine GSpec.enter Tryz.func232 rfl (by kernel_rfl) rfl rfl rfl ?_ ?_ rfl ?_;exact ac (cm l) ai;intro k xs h;unfold ki at h;split at h;cases h;exact ac (ag _) (ac (aM _) ai);cases h;intro ll N E;refine GWp.seq ?_;refine GWp.lift ?_;refine r_m 4 ?_;refine a_z ?_;refine GWp.block ?_;refine GWp.loopS (fun m:Nat=>⟨[(0,.v (.func (.yield ll) #[] #[])),(1,bP l),(3,i64 ((m:Int)- 1))],[],1,19⟩) (fun m=>l.length- m) (fun m=>m) (fun m=>m≤l.length) l.length (Nat.le_refl _) (by simp) ?_ ?_;exact s_e [];intro m hm;refine GWp.seq ?_;refine GWp.seq ?_;refine GWp.lift ?_;refine r_m 2 ?_;refine a_z ?_;refine GWp.cond rfl (fun h=>?_) (fun h=>?_)
 ·refine GWp.skip ?_
  have hm1:1≤m:=by have:=of_decide_eq_true h;omega
  have hx':(pE l)[((m:Int)- 1).toNat]?=some (qC (coP l (m- 1))):=by rw[show((m:Int)- 1).toNat=m- 1 by omega];exact bK (bm (by omega))
  refine GWp.seq ?_;refine GWp.block ?_;refine GWp.seq ?_;refine GWp.regY (fr2:=[(0,.v (.func (.yield ll) #[] #[])),(1,bP l),(3,i64 ((m:Int)- 1)),(11,.v (.func (.yield ll) #[] #[])),(12,i64 ((m:Int)- 1)),(16,.agg (qC (coP l (m- 1))))]) (hp2:=[]) (nx2:=1) 6 rfl rfl rfl rfl rfl rfl ?_ rfl rfl rfl ?_ ?_ ?_;refine o_0 (.move rfl) ?_;refine o_0 (.move rfl) ?_
  first|refine ax (.load_l1 rfl rfl rfl TG.h rfl) rfl rfl ?_|refine ax (.load_a1 rfl rfl TG.h rfl) rfl rfl ?_
  refine o_0 (.move rfl) ?_;refine i_x hx' ?_;refine l_x hx' ?_;refine aq ?_;exact s_y [] (fun hs=>dj) (fun hs=>jq);rotate_left 2;intro go;refine o_0 (.un rfl iV) ?_;refine aq ?_;rotate_left;unfold ki;rw[if_pos (by omega)];have e1:((l.length- 1- (l.length- m):Nat):Int)=(m:Int)- 1:=by omega
  have e2:l.length- 1- (l.length- m)=m- 1:=by omega
  rw[e1,e2];rfl;exact ac (ag _) (ac (aM _) ai);cases go with
  |false=>
   refine GWp.cond rfl (fun h=>?_) (fun h=>?_);exact GWp.ret ⟨.inr rfl,fun h=>by cases h⟩;cases h
  |true=>
   refine GWp.cond rfl (fun h=>?_) (fun h=>?_);cases h;refine GWp.skip ?_;refine GWp.lift ?_;refine r_m 3 ?_;refine a_z ?_;refine⟨rfl,m- 1,by omega,by omega,by omega,?_⟩;exact s_e []
 refine GWp.exit ⟨.inl rfl,fun _=>?_⟩;have:m=0:=by have:=of_decide_eq_false h;omega
 subst this;unfold ki;rw[if_neg (by omega)]
theorem jG(l:Lq):FS 197 [.arr (pE l)] (.clos 232 [] [bP l]):=by
 refine f_c Tryz.func197 ?_;refine r_z 2 ?_;refine r_z 2 ?_;refine am (⟨.inr rfl,[_],⟨_,[],rfl,rfl,rfl⟩,?_⟩);exact Cv.clos ay (af (Cv.boxp aE rfl (fun _ _ h=>by cases h) rfl (ac (ao l) ai)) ay)
def hoS(p:Lq)(g:Nat)(cap:La)(w:Nat→Rat):Nat→AState
 |k=>⟨[(4,.lptr 1 0 0),(5,.aptr [[.clos g [] cap]] 0 0),(6,.lptr 2 0 0),(10,.clos 232 [] [bP p])],[(1,some ⟨42,3,[qC (w k)]⟩),(2,some ⟨42,3,[zC]⟩)],3,18⟩
theorem AM(p:Lq)(g:Nat)(cap:La)(w:Nat→Rat)(hl:p.length≤281474976710656)(hcap:∀c∈cap,Closed c)(hg:∀k,k< p.length→FS g ((.agg (qC (w k)):: .agg (qC (coP p (p.length- 1- k)))::cap).map coe) (.agg (qC (w (k+1))))):FS 148 [.arr (pE p),.agg (qC (w 0)),.clos g [] cap] (.agg (qC (w p.length))):=by
 have hb:=jG p;have hgs:=jF p hl;have hcc:Closed (.clos g [] cap):=aT ai hcap;have hcc2:Closed (.aptr [[.clos g [] cap]] 0 0):=aX (ac hcc ai);have hcl2:Closed (.clos 232 [] [bP p]):=aT ai (ac (cm p) ai);refine f_c Tryz.func148 ?_;refine r_z 3 ?_;refine AWp.ent (st':=⟨[(0,.arr (pE p)),(4,.lptr 1 0 0),(5,.aptr [[.clos g [] cap]] 0 0),(6,.lptr 2 0 0)],[(1,some ⟨42,3,[qC (w 0)]⟩),(2,some ⟨42,3,[zC]⟩)],3,18⟩) ?_ ?_;have:=ac hcc ai;exact s_f [(1,4),(2,6)];refine ae (r_c 2 (hb) ?_);refine aq ?_;refine aH (fun _:Unit=>⟨[(4,.lptr 1 0 0),(6,.lptr 2 0 0)],[(1,some ⟨42,3,[qC (w p.length)]⟩),(2,some ⟨42,3,[zC]⟩)],3,18⟩) (fun _=>True) ?_ ?_;refine ak (AWp.rangeFunc (α:=Nat) (γ:=Empty) p.length (hoS p g cap w) (fun k=>k) (fun k=>k≤p.length) (fun e=>nomatch e) (fun _ e=>nomatch e) 0 rfl hgs rfl rfl ?_ (fun _=>⟨rfl,rfl⟩) (fun e=>nomatch e) (Nat.zero_le _) rfl (fun _ h=>h) ?_ ?_ ?_ ?_ (fun _ e=>nomatch e));intro k xs hT;unfold ki at hT;split at hT;cases hT;rfl;cases hT;rw[hoS.eq_1];exact s_y [] (fun hs=>dj) (fun hs=>jq);exact ac (cm p) ai
 ·intro l k xs hk hT
  unfold ki at hT;split at hT;rotate_left;cases hT;rename_i hlt;cases hT;show AWp _ _ _ _ ⟨[(12,.agg (qC (coP p (p.length- 1- k)))),(11,i64 (p.length- 1- k:Nat)),(4,.lptr 1 0 0),(5,.aptr [[.clos g [] cap]] 0 0),(6,.lptr 2 0 0),(10,.clos 232 [] [bP p]),(1004,.lptr 1 0 0),(1005,.aptr [[.clos g [] cap]] 0 0),(1006,.lptr 2 0 0),(1010,.clos 232 [] [bP p])],[(1,some ⟨42,3,[qC (w k)]⟩),(2,some ⟨42,3,[zC]⟩)],3,18⟩;refine r_m 2 ?_;refine a_z ?_;refine ak (r_m 5 ?_);refine c_s (hg k hlt) ?_;refine a_z ?_;refine⟨k+1,⟨hlt,rfl⟩,?_⟩;show SEntT _ ⟨[(1004,.lptr 1 0 0),(1005,.aptr [[.clos g [] cap]] 0 0),(1006,.lptr 2 0 0),(1010,.clos 232 [] [bP p])],[(1,some ⟨42,3,[qC (w (k+1))]⟩),(2,some ⟨42,3,[zC]⟩)],3,18⟩;exact s_y [] (fun hs=>dj) (fun hs=>jq)
 intro k hk hT;unfold ki at hT;split at hT;cases hT;refine⟨(),trivial,?_⟩;rw[hoS.eq_1];have h1:k=p.length:=by omega
 subst h1;exact s_e [];rintro _ _;refine r_z 2 ?_;exact am (c_e (aM _))
theorem FG(v c x:Rat)(h1:qs v+qs x≤549755813888)(h2:qs (v* x)+qs c≤549755813888):FS 149 [.agg (qC v),.agg (qC c),bQ x] (.agg (qC (v* x+c))):=by
 refine f_c Tryz.func149 ?_;refine r_z 3 ?_;refine ae (r_d hmix 6 ?_);refine c_s (c7 v x h1) ?_;refine c_s (ff (v* x) c h2) ?_;refine a_1 ?_;refine aq (n_k ?_);exact am (c_e (aM _))
theorem eI(p:Lq)(x:Rat)(h:dI p x):FS 91 [.arr (pE p),.agg (qC x)] (.agg (qC (aA p x))):=by
 have hw:∀k,k< p.length→FS 149 [.agg (qC (aA (p.drop (p.length- k)) x)),.agg (qC (coP p (p.length- 1- k))),bQ x] (.agg (qC (aA (p.drop (p.length- (k+1))) x))):=fun k hk=>by
  have:=A7 h k hk;rw[pK hk];exact FG _ _ _ this.1 this.2
 have hh:=AM p 149 [bQ x] (fun k=>aA (p.drop (p.length- k)) x) (by have:=h.2;omega) (ac (aO x) ai) hw;simp only[Nat.sub_zero,Nat.sub_self,List.drop_zero,List.drop_length] at hh;rw[show aA [] x=0 from rfl,qC0] at hh;refine f_c Tryz.func91 ?_;refine r_z 2 ?_;refine AWp.ent (st':=⟨[(0,.arr (pE p)),(3,bQ x),(4,.lptr 1 0 0)],[(1,some ⟨42,3,[zC]⟩)],2,9⟩) ?_ ?_;exact s_e [(1,4)];refine r_c 5 (hh) ?_;refine a_z ?_;exact am (c_e (aM _))
def hsS(p:Lq)(g:Nat)(cap:La)(w:Nat→Rat×Rat):Nat→AState
 |k=>⟨[(4,.lptr 1 0 0),(5,.aptr [[.clos g [] cap]] 0 0),(6,.lptr 2 0 0),(10,.clos 232 [] [bP p])],[(1,some ⟨44,6,[spC (w k).1 (w k).2]⟩),(2,some ⟨44,6,[zC++zC]⟩)],3,18⟩
theorem AL(p:Lq)(g:Nat)(cap:La)(w:Nat→Rat×Rat)(hl:p.length≤281474976710656)(hcap:∀c∈cap,Closed c)(hg:∀k,k< p.length→FS g ((.agg (spC (w k).1 (w k).2):: .agg (qC (coP p (p.length- 1- k)))::cap).map coe) (.agg (spC (w (k+1)).1 (w (k+1)).2))):FS 276 [.arr (pE p),.agg (spC (w 0).1 (w 0).2),.clos g [] cap] (.agg (spC (w p.length).1 (w p.length).2)):=by
 have hb:=jG p;have hgs:=jF p hl;have hcc:Closed (.clos g [] cap):=aT ai hcap;have hcc2:Closed (.aptr [[.clos g [] cap]] 0 0):=aX (ac hcc ai);have hcl2:Closed (.clos 232 [] [bP p]):=aT ai (ac (cm p) ai);refine f_c Tryz.func276 ?_;refine r_z 3 ?_;refine AWp.ent (st':=⟨[(0,.arr (pE p)),(4,.lptr 1 0 0),(5,.aptr [[.clos g [] cap]] 0 0),(6,.lptr 2 0 0)],[(1,some ⟨44,6,[spC (w 0).1 (w 0).2]⟩),(2,some ⟨44,6,[zC++zC]⟩)],3,18⟩) ?_ ?_;have:=ac hcc ai;exact s_f [(1,4),(2,6)];refine ae (r_c 2 (hb) ?_);refine aq ?_;refine aH (fun _:Unit=>⟨[(4,.lptr 1 0 0),(6,.lptr 2 0 0)],[(1,some ⟨44,6,[spC (w p.length).1 (w p.length).2]⟩),(2,some ⟨44,6,[zC++zC]⟩)],3,18⟩) (fun _=>True) ?_ ?_;refine ak (AWp.rangeFunc (α:=Nat) (γ:=Empty) p.length (hsS p g cap w) (fun k=>k) (fun k=>k≤p.length) (fun e=>nomatch e) (fun _ e=>nomatch e) 0 rfl hgs rfl rfl ?_ (fun _=>⟨rfl,rfl⟩) (fun e=>nomatch e) (Nat.zero_le _) rfl (fun _ h=>h) ?_ ?_ ?_ ?_ (fun _ e=>nomatch e));intro k xs hT;unfold ki at hT;split at hT;cases hT;rfl;cases hT;rw[hsS.eq_1];exact s_y [] (fun hs=>dj) (fun hs=>jq);exact ac (cm p) ai
 ·intro l k xs hk hT
  unfold ki at hT;split at hT;rotate_left;cases hT;rename_i hlt;cases hT;show AWp _ _ _ _ ⟨[(12,.agg (qC (coP p (p.length- 1- k)))),(11,i64 (p.length- 1- k:Nat)),(4,.lptr 1 0 0),(5,.aptr [[.clos g [] cap]] 0 0),(6,.lptr 2 0 0),(10,.clos 232 [] [bP p]),(1004,.lptr 1 0 0),(1005,.aptr [[.clos g [] cap]] 0 0),(1006,.lptr 2 0 0),(1010,.clos 232 [] [bP p])],[(1,some ⟨44,6,[spC (w k).1 (w k).2]⟩),(2,some ⟨44,6,[zC++zC]⟩)],3,18⟩;refine r_m 2 ?_;refine a_z ?_;refine ak (r_m 5 ?_);refine c_s (hg k hlt) ?_;refine a_z ?_;refine⟨k+1,⟨hlt,rfl⟩,?_⟩;show SEntT _ ⟨[(1004,.lptr 1 0 0),(1005,.aptr [[.clos g [] cap]] 0 0),(1006,.lptr 2 0 0),(1010,.clos 232 [] [bP p])],[(1,some ⟨44,6,[spC (w (k+1)).1 (w (k+1)).2]⟩),(2,some ⟨44,6,[zC++zC]⟩)],3,18⟩;exact s_y [] (fun hs=>dj) (fun hs=>jq)
 intro k hk hT;unfold ki at hT;split at hT;cases hT;refine⟨(),trivial,?_⟩;rw[hsS.eq_1];have h1:k=p.length:=by omega
 subst h1;exact s_e [];rintro _ _;refine r_z 2 ?_;exact am (c_e (bt _ _))
abbrev bS(s:Sp):AV:= .aptr [spC s.1 s.2] 0 0
theorem bw(s:Sp):Closed (bS s):=aX (cf _ _)
theorem Ee{a b:Sp}(h:smL (xR a b)):smS (rU a b):=⟨gS h,gS h⟩
theorem FF(v s:Sp)(c:Rat)(hv:smS v)(hs:smS s)(hc:sm c)(hp:smL (xR v s)):FS 277 [.agg (spC v.1 v.2),.agg (qC c),bS s] (.agg (spC (BG (rU v s) (c,c)).1 (BG (rU v s) (c,c)).2)):=by
 have hm:=Ee hp;refine f_n Tryz.func277 ?_ ?_;exact ac (bt _ _) (ac (aM c) (ac (bw s) ai));refine r_z 3 ?_;refine ae (r_d hmix 7 ?_);refine c_s (fs_SMul v.1 v.2 s.1 s.2 hv.1 hv.2 hs.1 hs.2 hp) ?_;refine c_s (yK c) ?_;refine c_s (fs_SAdd (rU v s).1 (rU v s).2 c c hm.1 hm.2 hc hc) ?_;refine a_1 ?_;refine aq (n_k ?_);exact am (c_e (bt _ _))
theorem fs_Over(p:Lq)(s:Sp)(h:v8 p s):FS 257 [.arr (pE p),.agg (spC s.1 s.2)] (.agg (spC (gL p s).1 (gL p s).2)):=by
 obtain⟨hsm,hs,hl,hov⟩:=h;have htl:=ci p;refine f_c Tryz.func257 ?_;refine r_z 2 ?_;refine AWp.ent (st':=⟨[(0,.arr (pE p)),(3,bS s),(4,.lptr 1 0 0)],[(1,some ⟨44,6,[zC++zC]⟩)],2,30⟩) ?_ ?_;exact s_e [(1,4)];refine r_c 3 (cY p (by omega)) ?_;refine a_z ?_;refine aZ (fun _:Unit=>⟨[(0,.arr (pE (av p))),(3,bS s),(4,.lptr 1 0 0)],[(1,some ⟨44,6,[zC++zC]⟩)],2,30⟩) (fun _=>cZ s.1 s.2≤0∧av p≠[]) ?_ ?_;by_cases hv:cZ s.1 s.2≤0;refine r_c 8 (gQ s.1 s.2 hs.1 hs.2) ?_;refine a_2 ?_;refine y_g rfl (by simp[hv]) (.move rfl) ?_
 first|refine y_g rfl (by simp[hv]) (.lenD rfl rfl rfl rfl te_30.h) ?_|refine y_g rfl (by simp[hv]) (.lenI rfl rfl rfl rfl te_30.h) ?_|refine y_g rfl (by simp[hv]) (.lenP rfl rfl rfl rfl te_30.h) ?_|refine y_g rfl (by simp[hv]) (.lenC rfl rfl rfl rfl te_30.h) ?_|refine y_g rfl (by simp[hv]) (.lenR rfl rfl rfl rfl te_30.h) ?_|refine y_g rfl (by simp[hv]) (.len rfl rfl rfl rfl rfl te_30.h) ?_
 refine y_g rfl (by simp[hv]) (.bin rfl rfl aV) ?_;refine o_0 (.pickF rfl (by simp[hv]) rfl) ?_;refine aq ?_;refine au rfl (fun h1=>?_) (fun h1=>?_)
 have h0:av p=[]:=by
  have:(av p).length=0:=by simpa using h1
  exact List.length_eq_zero_iff.1 this
 have hr:gL p s=(0,0):=by unfold gL;rw[if_pos (.inr h0)]
 rw[hr];refine r_z 2 ?_;refine am (Fin.cell rfl rfl rfl TG.h TS.h (nle rfl) (Cv.agg ?_));show CvL _ _ _ _ (qC 0++qC 0);rw[qC0];exact af (Cv.emp _) (af (ah aE (ag _)) (af (Cv.emp _) (af (Cv.emp _) (af (ah aE (ag _)) (af (Cv.emp _) ay)))))
 have h0:av p≠[]:=by
  have:¬(av p).length=0:=by simpa using h1
  exact fun e=>this (by rw[e];rfl)
 refine an ⟨(),⟨hv,h0⟩,?_⟩;exact s_e [];refine r_c 8 (gQ s.1 s.2 hs.1 hs.2) ?_;refine a_2 ?_;refine n_g rfl (by simp[hv]) ?_;refine n_g rfl (by simp[hv]) ?_;refine n_g rfl (by simp[hv]) ?_;refine o_0 (.pickT rfl (by simp[hv]) rfl) ?_;refine aq ?_;refine au rfl (fun h1=>?_) (fun h1=>?_);have hr:gL p s=(0,0):=by unfold gL;rw[if_pos (.inl hv)]
 rw[hr];refine r_z 2 ?_;refine am (Fin.cell rfl rfl rfl TG.h TS.h (nle rfl) (Cv.agg ?_));show CvL _ _ _ _ (qC 0++qC 0);rw[qC0];exact af (Cv.emp _) (af (ah aE (ag _)) (af (Cv.emp _) (af (Cv.emp _) (af (ah aE (ag _)) (af (Cv.emp _) ay)))));cases h1;rintro _ ⟨hv,h0⟩;have hpl:=List.length_pos_iff.2 h0
 have hr:gL p s=ovP (aS p,aS p) s ((av p).take ((av p).length- 1)):=by
  unfold gL;rw[if_neg (by rintro(e|e);exact e hv;exact h0 e)]
 obtain⟨l,hll⟩:∃l,l=(av p).take ((av p).length- 1):=⟨_,rfl⟩;rw[←hll] at hov hr;rw[hr];have hlen:l.length=(av p).length- 1:=by rw[hll];simp
 have hsml:∀q∈l,sm q:=fun q hq=>hsm q (cX (List.mem_of_mem_take (by rw[←hll];exact hq)))
 have hw:∀k,k< l.length→FS 277 [.agg (spC (ovP (aS p,aS p) s (l.drop (l.length- k))).1 (ovP (aS p,aS p) s (l.drop (l.length- k))).2),.agg (qC (coP l (l.length- 1- k))),bS s] (.agg (spC (ovP (aS p,aS p) s (l.drop (l.length- (k+1)))).1 (ovP (aS p,aS p) s (l.drop (l.length- (k+1)))).2)):=fun k hk=>by
  have h1:=uI (l.length- (k+1)) hov;rw[pK hk] at h1⊢;exact FF _ s _ (okOv_sm h1.1) hs h1.2.2.1 h1.2.1
 have hh:=AL l 277 [bS s] (fun k=>ovP (aS p,aS p) s (l.drop (l.length- k))) (by omega) (ac (bw s) ai) hw;simp only[Nat.sub_zero,Nat.sub_self,List.drop_zero,List.drop_length] at hh
 have hg:(pE (av p))[(((av p).length:Int)- 1).toNat]?=some (qC (aS p)):=by
  rw[show(((av p).length:Int)- 1).toNat=(av p).length- 1 by omega];exact bK (dV (by omega))
 refine r_z 4 ?_;refine ae (r_d hmix 11 ?_);refine a_2 ?_;refine o_0 (.sa_h rfl rfl (h:=(av p).length- 1) (by omega) (by simp) te_30.h (eF _)) ?_;refine a_2 ?_;refine i_x hg ?_;refine l_x hg ?_;refine c_s (yK (aS p)) ?_;refine o_0 (.makeFunc rfl rfl) ?_;refine o_0 (.call rfl rfl rfl ((by rw[kx,←hll];exact hh))) ?_;refine ep (.store rfl rfl rfl rfl rfl rfl TS.h (nle rfl)) ?_;refine aq (n_k ?_);exact am (c_e (bt _ _))
def hpS(p:Lq)(g:Nat)(cap:La)(w:Nat→Lq):Nat→AState
 |k=>⟨[(4,.lptr 1 0 0),(5,.aptr [[.clos g [] cap]] 0 0),(10,.clos 232 [] [bP p])],[(1,some ⟨30,1,[[.arr (pE (w k))]]⟩)],2,18⟩
theorem AN(p:Lq)(g:Nat)(cap:La)(w:Nat→Lq)(hl:p.length≤281474976710656)(hcap:∀c∈cap,Closed c)(hg:∀k,k< p.length→FS g ((.arr (pE (w k)):: .agg (qC (coP p (p.length- 1- k)))::cap).map coe) (.arr (pE (w (k+1))))):FS 164 [.arr (pE p),.arr (pE (w 0)),.clos g [] cap] (.arr (pE (w p.length))):=by
 have hb:=jG p;have hgs:=jF p hl;have hcc:Closed (.clos g [] cap):=aT ai hcap;have hcc2:Closed (.aptr [[.clos g [] cap]] 0 0):=aX (ac hcc ai);have hcl2:Closed (.clos 232 [] [bP p]):=aT ai (ac (cm p) ai);refine f_c Tryz.func164 ?_;refine r_z 3 ?_;refine AWp.ent (st':=⟨[(0,.arr (pE p)),(4,.lptr 1 0 0),(5,.aptr [[.clos g [] cap]] 0 0)],[(1,some ⟨30,1,[[.arr (pE (w 0))]]⟩)],2,18⟩) ?_ ?_;have:=ac hcc ai;exact s_f [(1,4)];refine ae (r_c 2 (hb) ?_);refine aq ?_;refine aH (fun _:Unit=>⟨[(4,.lptr 1 0 0)],[(1,some ⟨30,1,[[.arr (pE (w p.length))]]⟩)],2,18⟩) (fun _=>True) ?_ ?_;refine ak (AWp.rangeFunc (α:=Nat) (γ:=Empty) p.length (hpS p g cap w) (fun k=>k) (fun k=>k≤p.length) (fun e=>nomatch e) (fun _ e=>nomatch e) 0 rfl hgs rfl rfl ?_ (fun _=>⟨rfl,rfl⟩) (fun e=>nomatch e) (Nat.zero_le _) rfl (fun _ h=>h) ?_ ?_ ?_ ?_ (fun _ e=>nomatch e));intro k xs hT;unfold ki at hT;split at hT;cases hT;rfl;cases hT;rw[hpS.eq_1];exact s_y [] (fun hs=>dj) (fun hs=>jq);exact ac (cm p) ai
 ·intro l k xs hk hT
  unfold ki at hT;split at hT;rotate_left;cases hT;rename_i hlt;cases hT;show AWp _ _ _ _ ⟨[(12,.agg (qC (coP p (p.length- 1- k)))),(11,i64 (p.length- 1- k:Nat)),(4,.lptr 1 0 0),(5,.aptr [[.clos g [] cap]] 0 0),(10,.clos 232 [] [bP p]),(1004,.lptr 1 0 0),(1005,.aptr [[.clos g [] cap]] 0 0),(1010,.clos 232 [] [bP p])],[(1,some ⟨30,1,[[.arr (pE (w k))]]⟩)],2,18⟩;refine r_m 2 ?_;refine a_z ?_;refine ak (r_m 5 ?_);refine c_s (hg k hlt) ?_;refine a_z ?_;refine⟨k+1,⟨hlt,rfl⟩,?_⟩;show SEntT _ ⟨[(1004,.lptr 1 0 0),(1005,.aptr [[.clos g [] cap]] 0 0),(1010,.clos 232 [] [bP p])],[(1,some ⟨30,1,[[.arr (pE (w (k+1)))]]⟩)],2,18⟩;exact s_y [] (fun hs=>dj) (fun hs=>jq)
 intro k hk hT;unfold ki at hT;split at hT;cases hT;refine⟨(),trivial,?_⟩;rw[hpS.eq_1];have h1:k=p.length:=by omega
 subst h1;exact s_e [];rintro _ _;refine r_z 2 ?_;exact am (t_e (ao _))
theorem yC(v q:Lq)(c:Rat)(h:lD v q)(hc:sm c)(hl:(cV v q).length≤274877906944):FS 165 [.arr (pE v),.agg (qC c),bP q] (.arr (pE (kQ (cV v q) (fP c)))):=by
 have hcl:=tO c;refine f_c Tryz.func165 ?_;refine r_z 2 ?_;refine ae (r_d hmix 7 ?_);refine c_s (wB v q (mxL v) (mxL q) (dL v) (dL q) (dy v) (dy q) h.1 h.2.1 h.2.2.1 h.2.2.2) ?_;refine c_s (jv c) ?_;refine c_s (tu (cV v q) (fP c) (xW h) (lh fun x hx=>by rw[List.mem_singleton.1 hx];exact hc) (by omega) (by omega)) ?_;refine a_1 ?_;refine aq (n_k ?_);exact am (t_e (ao _))
theorem AS(p q:Lq)(h:lE q p)(hp:p.length≤274877906944):FS 107 [.arr (pE p),.arr (pE q)] (.arr (pE (kX q p))):=by
 have hw:∀k,k< p.length→FS 165 [.arr (pE (kX q (p.drop (p.length- k)))),.agg (qC (coP p (p.length- 1- k))),bP q] (.arr (pE (kX q (p.drop (p.length- (k+1)))))):=fun k hk=>by
  have h1:=ql (p.length- (k+1)) h;rw[pK hk] at h1⊢;exact yC _ q _ h1.2.1 h1.2.2.1 h1.2.2.2
 have hh:=AN p 165 [bP q] (fun k=>kX q (p.drop (p.length- k))) (by omega) (ac (cm q) ai) hw;simp only[Nat.sub_zero,Nat.sub_self,List.drop_zero,List.drop_length] at hh;refine f_c Tryz.func107 ?_;refine r_z 2 ?_;refine AWp.ent (st':=⟨[(0,.arr (pE p)),(3,bP q)],[],1,8⟩) ?_ ?_;exact s_e [];refine r_c 4 (hh) ?_;refine a_z ?_;exact am (t_e (ao _))
def coS:Nat×Nat→AState
 |(a,b)=>⟨[(2,.lptr 1 0 0),(3,.lptr 2 0 0),(4,.lptr 3 0 0)],[(1,some ⟨42,3,[qC (nQ a)]⟩),(2,some ⟨42,3,[qC (nQ b)]⟩),(3,some ⟨42,3,[zC]⟩)],4,18⟩
theorem tP(a:Nat)(b:Nat):coS (a,b)=⟨[(2,.lptr 1 0 0),(3,.lptr 2 0 0),(4,.lptr 3 0 0)],[(1,some ⟨42,3,[qC (nQ a)]⟩),(2,some ⟨42,3,[qC (nQ b)]⟩),(3,some ⟨42,3,[zC]⟩)],4,18⟩:=rfl
theorem tg(a b:Nat)(ha:bl a≤68719476736)(hb:bl b≤68719476736):FS 285 [.agg (qC (nQ a)),.agg (qC (nQ b))] (.agg (qC (nQ (Nat.gcd a b)))):=by
 refine f_c Tryz.func285 ?_;refine r_z 3 ?_;refine aZ (fun _:Unit=>coS (Nat.gcd a b,0)) (fun _=>True) ?_ ?_;refine ak (aC coS (fun x=>x.2) (fun x=>Nat.gcd x.1 x.2=Nat.gcd a b∧bl x.1≤68719476736∧bl x.2≤68719476736) (a,b) ⟨rfl,ha,hb⟩ ?_ ?_);simp only[tP];exact s_e [];rintro⟨u,v⟩ ⟨hg,hu,hv⟩;simp only at hg hu hv;rw[tP];refine ae (r_c 3 (b6 (nQ v)) ?_);refine a_z ?_;refine au rfl (fun h=>?_) (fun h=>?_)
 have hv0:v≠0:=by
  intro e;subst e;exact absurd h (by decide)
 refine an ?_;have h1:=mD (n:=u) hu (by decide);have h2:=mD (n:=v) hv (by decide);have hq:=gi (nQ u) (nQ v);have hov:=fE (nQ u) (nQ v) (fun e=>hv0 (nQ_zero.1 e)) (by omega);have hfl:=oD (nQ u/ nQ v) (by omega);rw[Ak u v hv0,yb u v hv0] at hfl;rw[Ak u v hv0] at hov;have h3:=mD (n:=u/ v) (k:=68719476736) (Nat.le_trans (eB u v) hu) (by decide);have hmu:=c7 (nQ v) (nQ (u/ v)) (by omega);rw[E1] at hmu;have hle:v* (u/ v)≤u:=Nat.mul_div_le u v;have h4:=mD (n:=v* (u/ v)) (k:=68719476736) (Nat.le_trans (dK hle) hu) (by decide);have hsu:=gx (nQ u) (nQ (v* (u/ v))) (by omega);rw[nQ_sub hle,show u- v* (u/ v)=u % v by have:=Nat.div_add_mod u v;omega] at hsu;refine ak (r_d hmix 11 ?_);refine c_s (hov) ?_;refine c_s (hfl) ?_;refine c_s (hmu) ?_;refine c_s (hsu) ?_;refine a_2 ?_;refine aq (n_k ?_);refine⟨(v,u % v),Nat.mod_lt _ (by omega),⟨?_,hv,Nat.le_trans (dK (Nat.mod_le u v)) hu⟩,?_⟩;rw[←hg];show Nat.gcd v (u % v)=Nat.gcd u v;rw[Nat.gcd_comm v,Nat.gcd_comm u v,←Nat.gcd_rec];simp only[tP];exact s_e []
 have hv0:v=0:=by
  have h1:sgZ (nQ v).num=0:=by simpa using h
  exact nQ_zero.1 (sgZ_num_eq.1 h1)
 subst hv0;rw[Nat.gcd_zero_right] at hg;refine aB ⟨(),trivial,?_⟩;rw[←hg];simp only[tP];exact s_e [];rintro _ _;simp only[tP];refine r_z 2 ?_;exact am (c_e (aM _))
end Go.Proofs.YtjgokhkahkmpbaaGreatDoor
