/- Part O20 of the proof. -/
import Derived.Test.YtdjfjpeoddmamaaGreatDoorO19
set_option linter.all false
namespace Go.Proofs.YtdjfjpeoddmamaaGreatDoor
open Go.Abs
set_option maxRecDepth 20000
set_option maxHeartbeats 2000000
theorem os_Clone(l:List Rat)(h0:l≠[])(hl:l.length≤1099511627776):OSpec Tryz.prog 184 [.arr (pE l)] 35 3 (pE l):=by
 have hne:pE l≠[]:=by
  intro e;exact h0 (List.length_eq_zero_iff.1 (by rw[←mn_,e];rfl))
 refine OSpec.enter Tryz.func184 rfl (by kernel_rfl) rfl rfl rfl ?_ ?_ rfl ?_;exact ab_ (aL_ (aK_ _)) ah_;exact aK_ l;refine r_z 1 ?_;refine aa_ (s_r 2 ?_);refine a_1 ?_
 first|refine aq_ (.nilq_v rfl rfl te_55.h) rfl rfl ?_|refine aq_ (.nilq_arr rfl (hne) rfl te_55.h) rfl rfl ?_
 refine ai_ ?_;refine cF ?_
 ·refine ae_ (s_r 4 ?_)
  refine a_2 ?_;refine o_2 (.append_l rfl rfl rfl te_55.h rfl rfl rfl rfl rfl d_o (by first|exact cK_ _|exact cH_ _|exact cr_ _|exact cL_ _|exact cy_ _|assumption|rfl|simp) (by first|rfl|exact cK_ _|exact cH_ _|exact cr_ _|exact cL_ _|exact cy_ _|simp) rfl (.arr (gw_ _)) TZ.h rfl TB.h d_o (by first|(simp[maxLen];done)|(simp[maxLen];omega))) ?_;refine a_z ?_;exact af_ (FinO.tmp rfl rfl rfl (by simp))
theorem os_Trim(l:List Rat)(h0:trimQ l≠[])(hl:l.length≤1099511627776):OSpec Tryz.prog 99 [.arr (pE l)] 35 3 (pE (trimQ l)):=by
 refine OSpec.enter Tryz.func99 rfl (by kernel_rfl) rfl rfl rfl ?_ ?_ rfl ?_;exact ab_ (aL_ (aK_ _)) ah_;exact aK_ _;refine r_z 1 ?_;refine r_z 3 ?_;refine aQ_ (trS l) (fun n=>n≤l.length∧trimQ l=l.take n) ?_ ?_;refine ac_ (ap_ (trS l) (fun n=>n) (fun n=>n≤l.length∧trimQ l=trimQ (l.take n)) l.length ⟨Nat.le_refl _,by rw[List.take_length]⟩ ?_ ?_);simp only[trS.eq_1];exact s_e [];rintro n ⟨hn,ht⟩;rw[trS.eq_1];cases n with
 |zero=>exact absurd (ht.trans rfl) h0
 |succ n=>
  obtain⟨q,hq⟩:∃q,l[n]?=some q:=⟨_,List.getElem?_eq_getElem (by omega)⟩
  have hq':(pE l)[(((n+1:Nat):Int)- 1).toNat]?=some (qC q):=by
   rw[show(((n+1:Nat):Int)- 1).toNat=n by omega];exact bK_ hq
  have hs:trimQ (l.take (n+1))=if q=0 then trimQ (l.take n) else l.take (n+1):=by
   rw[cv_ hq,f0_]
  refine aa_ (s_r 11 ?_);refine a_3 ?_;refine y_g rfl (by simp <;> omega) (.move rfl) ?_;refine y_g rfl (by simp <;> omega) (.move rfl) ?_;refine y_g rfl (by simp <;> omega) (.bin rfl rfl (hl_ (by omega))) ?_
  first|refine y_g rfl (by simp <;> omega) (.index_l rfl rfl (by omega) (by omega) te_55.h) ?_|refine y_g rfl (by simp <;> omega) (.index_a rfl rfl (by omega) hq' rfl te_55.h) ?_
  first|refine y_g rfl (by simp <;> omega) (.load_l rfl rfl hq' TG.h TS.h (nle rfl)) ?_|refine y_g rfl (by simp <;> omega) (.load_a rfl hq' TG.h TS.h (nle rfl)) ?_
  refine y_g rfl (by simp <;> omega) (.call rfl rfl rfl (bZ_ q)) ?_;refine y_g rfl (by simp <;> omega) (.bin rfl rfl aU_) ?_;refine o_0 (.pickT rfl (by simp <;> omega) rfl) ?_;refine ai_ ?_;refine aj_ rfl (fun h=>?_) (fun h=>?_)
  have h0:q=0:=by
   have h1:sgZ q.num=0:=by simpa using h
   exact sgZ_num_eq.1 h1
  refine ae_ (ac_ (r_m 3 ?_));refine a_z ?_;refine⟨n,Nat.lt_succ_self n,⟨by omega,?_⟩,?_⟩;rw[ht,hs,if_pos h0];simp only[trS.eq_1];exact s_e []
  have h0:q≠0:=by
   intro e;have h1:¬sgZ q.num=0:=by simpa using h
   exact h1 (sgZ_num_eq.2 e)
  refine am_ ⟨n+1,⟨hn,?_⟩,?_⟩;rw[ht,hs,if_neg h0];simp only[trS.eq_1];exact s_e []
 rintro n ⟨hn,ht⟩;rw[trS.eq_1];rw[ht] at h0;have hcl:=os_Clone (l.take n) h0 (by simp;omega);refine s_r 5 ?_;refine a_2 ?_;refine o_0 (.sa_h rfl rfl (h:=n) rfl (by simp;omega) te_55.h (gw_ _)) ?_;refine o_1 (.callO rfl rfl rfl ((by rw[nK_];exact hcl))) ?_;refine a_z ?_;refine af_ ?_;rw[ht];exact FinO.tmp rfl rfl rfl (by simp)
def dvS(q:List Rat)(lead:Rat):Nat×List Rat×List Rat→AState
 |(c,u,o)=>⟨[(0,.lsl 1 0 o.length none 3),(1,.arr (pE q)),(4,.lsl 2 0 u.length (some u.length) 3),(6,.lptr 3 0 0),(7,i64 ((c:Int)- 1))],[(1,some ⟨35,3,pE o⟩),(2,some ⟨35,3,pE u⟩),(3,some ⟨35,3,[qC lead]⟩)],4,82⟩
def dvT(q:List Rat)(lead:Rat)(n:Nat)(u:List Rat)(k:Rat):Nat×List Rat→AState
 |(i,o)=>⟨[(0,.lsl 1 0 o.length none 3),(1,.arr (pE q)),(4,.lsl 2 0 u.length (some u.length) 3),(6,.lptr 3 0 0),(7,i64 n),(8,.lptr 4 0 0),(55,.arr (pE q)),(56,i64 q.length),(57,i64 i)],[(1,some ⟨35,3,pE o⟩),(2,some ⟨35,3,pE u⟩),(3,some ⟨35,3,[qC lead]⟩),(4,some ⟨35,3,[qC k]⟩)],5,82⟩
theorem fM_(p q:List Rat)(s t:Nat)(hp:bdL p s)(hq:bdL q t)(hs:1≤s)(ht:1≤t)(h:2^ ((trimQ p).length+1- (trimQ q).length) * (s+2* t+1)≤137438953472)(hq0:trimQ q≠[])(hp1:p.length≤274877906944)(hq1:q.length≤274877906944):FS 227 [.arr (pE p),.arr (pE q)] (.tup [.arr (pE (divP p q).1),.arr (pE (divP p q).2)]):=by
 have hlp:=aB_ p;have hlq:=aB_ q;have hql:=List.length_pos_iff.2 hq0
 have hg:(pE (trimQ q))[(((trimQ q).length:Int)- 1).toNat]?=some (qC (leadP q)):=by
  rw[show(((trimQ q).length:Int)- 1).toNat=(trimQ q).length- 1 by omega];exact bK_ (bD_ (by omega))
 have hne:=bw_ hq0;obtain⟨m,hm⟩:∃m,m=(trimQ p).length+1- (trimQ q).length:=⟨_,rfl⟩;have hmx:(if (0:Int)>((trimQ p).length:Int)- (trimQ q).length+1 then(0:Int) else((trimQ p).length:Int)- (trimQ q).length+1)=(m:Int):=by split <;> omega
 have hB:divB (trimQ q) (leadP q) 137438953472 m (List.replicate m 0) (trimQ p):=by
  refine⟨s,t,bj_ (fun x hx=>hp x (be_ hx)) hs,bj_ (fun x hx=>hq x (be_ hx)) ht,hq _ (be_ (List.mem_of_getElem? (bD_ (n:=(trimQ q).length- 1) (by omega)))),ht,fun n=>?_,by rw[hm];exact h⟩
  have:coP (List.replicate m 0) n=0:=by
   unfold coP;rw[List.getD_eq_getElem?_getD,List.getElem?_replicate];split <;> rfl
  rw[this];decide
 have hdv:divP p q=(trimQ (divR (trimQ q) (leadP q) m (List.replicate m 0) (trimQ p)).1,trimQ (divR (trimQ q) (leadP q) m (List.replicate m 0) (trimQ p)).2):=by rw[hm];rfl
 rw[hdv];refine f_c Tryz.func227 ?_;refine r_z 2 ?_;by_cases hp0:trimQ p=[]
 ·have hm0:m=0:=by rw[hm,hp0];simp;omega
  subst hm0;rw[hp0] at hmx⊢;have htp:=cQ_ p (by omega);rw[hp0] at htp;refine r_c 6 (htp) ?_;refine c_s (cQ_ q (by omega)) ?_;refine a_z ?_;refine s_r 8 ?_;refine a_4 ?_;refine i_x hg ?_;refine l_x hg ?_;refine a_z ?_;refine s_r 9 ?_;refine a_7 ?_;refine o_1 (.makeSlice (l:=0) (c:=0) (by rw[←hmx];rfl) (by rw[←hmx];rfl) te_55.h TZ.h rfl TB.h (by first|omega|(simp;done)|(simp;omega)) (by first|omega|(simp;done)|(simp;omega)) (by unfold maxLen;first|omega|(simp;done)|(simp;omega))) ?_;refine a_z ?_;refine aa_ (r_z 6 ?_);refine aw_ (fun _:Unit=>⟨[(0,.arr (pE [])),(4,.lsl 2 0 0 (some 0) 3)],[(2,some ⟨35,3,[]⟩)],3,82⟩) (fun _=>True) ?_ ?_;refine ac_ (ap_ (fun _:Unit=>⟨[(0,.arr (pE [])),(4,.lsl 2 0 0 (some 0) 3),(7,i64 (0- ((trimQ q).length:Int)))],[(2,some ⟨35,3,[]⟩)],3,82⟩) (fun _=>0) (fun _=>True) () trivial ?_ ?_);exact s_x [(2,4)] (fun hs=>au_f) (fun hs=>e_18);rintro _ _;refine aa_ (r_z 2 ?_);refine aj_ rfl (fun h1=>?_) (fun h1=>?_);exact absurd h1 (by simp;omega);refine am_ ⟨(),trivial,?_⟩;exact s_x [] (fun hs=>au_f) (fun hs=>e_18);rintro _ _;refine s_r 6 ?_;refine a_1 ?_;refine o_1 (.callS1 rfl rfl rfl (.shut rfl d_n (.nil)) rfl ((cQ_ [] (by simp)))) ?_;refine c_s (cQ_ [] (by simp)) ?_;refine a_z ?_;refine af_ (Fin.many ⟨_,_,rfl,rfl,⟨_,_,rfl,rfl,rfl⟩⟩ (nle rfl) ?_);exact ag_ (an_ ar_ (aD_ _)) (ag_ (an_ ar_ (aD_ _)) ao_)
 have hpl:=List.length_pos_iff.2 hp0;have hto:=os_Trim p hp0 (by omega);have hdl:=ej_ (trimQ q) (leadP q) m (List.replicate m 0) (trimQ p);have hend:=ok_ hB;refine s_r 6 ?_;refine a_1 ?_;refine o_1 (.callO rfl rfl rfl (hto)) ?_;refine c_s (cQ_ q (by omega)) ?_;refine a_z ?_;refine AWp.ent (st':=⟨[(0,.lsl 1 0 (trimQ p).length none 3),(1,.arr (pE (trimQ q)))],[(1,some ⟨35,3,pE (trimQ p)⟩)],2,82⟩) ?_ ?_;exact s_e [(1,0)];refine s_r 8 ?_;refine a_4 ?_;refine i_x hg ?_;refine l_x hg ?_;refine a_z ?_;refine s_r 9 ?_;refine a_7 ?_;refine o_1 (.makeSlice (l:=m) (c:=m) (by rw[←hmx];rfl) (by rw[←hmx];rfl) te_55.h TZ.h rfl TB.h (by first|omega|(simp;done)|(simp;omega)) (by first|omega|(simp;done)|(simp;omega)) (by unfold maxLen;first|omega|(simp;done)|(simp;omega))) ?_;refine a_z ?_;refine aa_ (r_z 6 ?_);refine aw_ (fun x:List Rat×List Rat=>⟨[(0,.lsl 1 0 x.2.length none 3),(4,.lsl 2 0 x.1.length (some x.1.length) 3)],[(1,some ⟨35,3,pE x.2⟩),(2,some ⟨35,3,pE x.1⟩)],3,82⟩) (fun x=>x=divR (trimQ q) (leadP q) m (List.replicate m 0) (trimQ p)) ?_ ?_;refine ac_ ?_;by_cases hab:(trimQ p).length< (trimQ q).length;have hm0:m=0:=by omega
 subst hm0;refine ap_ (fun _:Unit=>⟨[(0,.lsl 1 0 (trimQ p).length none 3),(4,.lsl 2 0 0 (some 0) 3),(7,i64 (((trimQ p).length:Int)- ((trimQ q).length:Int)))],[(1,some ⟨35,3,pE (trimQ p)⟩),(2,some ⟨35,3,[]⟩)],3,82⟩) (fun _=>0) (fun _=>True) () trivial ?_ ?_;exact s_x [(1,0),(2,4)] (fun hs=>au_f) (fun hs=>e_18);rintro _ _;refine aa_ (r_z 2 ?_);refine aj_ rfl (fun h1=>?_) (fun h1=>?_);exact absurd h1 (by simp;omega);refine am_ ⟨([],trimQ p),rfl,?_⟩;exact s_f [];refine ap_ (fun x:Nat×List Rat×List Rat=>dvS (trimQ q) (leadP q) x) (fun x=>x.1) (fun x=>x.1≤m∧x.2.1.length=m∧x.2.2.length=(trimQ p).length∧divB (trimQ q) (leadP q) 137438953472 x.1 x.2.1 x.2.2∧divR (trimQ q) (leadP q) x.1 x.2.1 x.2.2=divR (trimQ q) (leadP q) m (List.replicate m 0) (trimQ p)) (m,List.replicate m 0,trimQ p) ⟨Nat.le_refl _,by simp,rfl,hB,rfl⟩ ?_ ?_;simp only[dvS.eq_1];have hm1:((trimQ p).length:Int)- (trimQ q).length=(m:Int)- 1:=by omega
 rw[hm1];exact s_x [(1,0),(2,4),(3,6)] (fun hs=>au_f) (fun hs=>e_28);rintro⟨c,u,o⟩ ⟨hc,hu,ho,hb,hr⟩;simp only at hc hu ho hb hr;simp only[dvS.eq_1];cases c with
 |zero=>
  refine aa_ (r_z 2 ?_);refine aj_ rfl (fun h1=>?_) (fun h1=>?_);exact absurd h1 (by simp);refine am_ ⟨(u,o),hr,?_⟩;exact s_e []
 |succ n=>
  obtain⟨B,tt,hb1,hb2,hb3,hb4⟩:=pK_ hb;have hcn:((n+1:Nat):Int)- 1=(n:Int):=by omega
  rw[hcn];refine aa_ (r_z 2 ?_);refine aj_ rfl (fun h1=>?_) (fun h1=>?_);refine ae_ ?_;obtain⟨k,hk⟩:∃k,k=coP o (n+(trimQ q).length- 1) / leadP q:=⟨_,rfl⟩;have hst:=m9_ hb;rw[divR] at hr;rw[←hk] at hst hr
  have hgo:(pE o)[(0+(((n:Nat):Int)+((trimQ q).length:Nat)- 1).toNat)]?=some (qC (coP o (n+(trimQ q).length- 1))):=by
   rw[show 0+(((n:Nat):Int)+((trimQ q).length:Nat)- 1).toNat=n+(trimQ q).length- 1 by omega];exact bK_ (a9_ (by omega))
  have hov:=eA_ (coP o (n+(trimQ q).length- 1)) (leadP q) hne (by have:=hb1 (n+(trimQ q).length- 1);omega);rw[←hk] at hov
  have hgu:(pE u)[0+((n:Nat):Int).toNat]?=some (qC (coP u n)):=by
   rw[show 0+((n:Nat):Int).toNat=n by omega];exact bK_ (a9_ (by omega))
  refine aa_ (ac_ (aa_ (r_d hmix 12 ?_)));refine a_7 ?_
  first|refine aq_ (.load_l rfl rfl hgo TG.h TS.h (nle rfl)) rfl rfl ?_|refine aq_ (.load_a rfl hgo TG.h TS.h (nle rfl)) rfl rfl ?_
  refine c_s (hov) ?_;refine a_2 ?_;refine ai_ (n_k ?_);refine s_r 5 ?_;refine a_4 ?_;refine o_1n (.store rfl rfl hgu rfl rfl rfl TS.h (nle rfl)) ?_;refine ai_ ?_
  have hsu:(pE u).set (0+((n:Nat):Int).toNat) (qC k)=pE (u.set n k):=by
   rw[show 0+((n:Nat):Int).toNat=n by omega,iQ_]
  have hlu:(u.set n k).length=u.length:=by simp
  refine aa_ (r_c 3 (bZ_ k) ?_);refine a_z ?_;refine aj_ rfl (fun h2=>?_) (fun h2=>?_)
  have h0:k=0:=by
   have h2:sgZ k.num=0:=by simpa using h2
   exact sgZ_num_eq.1 h2
  rw[if_pos h0] at hst hr;refine am_ (r_m 3 ?_);refine a_z ?_;refine⟨(n,u.set n k,o),Nat.lt_succ_self n,⟨by omega,by simp only;omega,ho,hst,hr⟩,?_⟩;simp only[dvS.eq_1,hlu];exact s_f []
  have h0:k≠0:=by
   intro e;have h2:¬sgZ k.num=0:=by simpa using h2
   exact h2 (sgZ_num_eq.2 e)
  rw[if_neg h0] at hst hr;refine ae_ (r_z 3 ?_);refine AWp.cutB (fun _:Unit=>⟨[(0,.lsl 1 0 o.length none 3),(1,.arr (pE (trimQ q))),(4,.lsl 2 0 u.length (some u.length) 3),(6,.lptr 3 0 0),(7,i64 n)],[(1,some ⟨35,3,pE (rowM o k (trimQ q) n (trimQ q).length)⟩),(2,some ⟨35,3,pE (u.set n k)⟩),(3,some ⟨35,3,[qC (leadP q)]⟩)],4,82⟩) (fun _=>True) ?_ ?_;refine ac_ (ap_ (fun i:Nat=>dvT (trimQ q) (leadP q) n (u.set n k) k (i,rowM o k (trimQ q) n i)) (fun i=>(trimQ q).length- i) (fun i=>i≤(trimQ q).length) 0 (Nat.zero_le _) ?_ ?_);simp only[dvT.eq_1,rowM,hlu];exact s_f [(4,8)];rintro i hi;simp only[dvT.eq_1];refine r_z 1 ?_;refine aa_ (aj_ rfl (fun h3=>?_) (fun h3=>?_));refine ae_ ?_;have hlt2:i< (trimQ q).length:=by simpa using h3
  have hgq:(pE (trimQ q))[((i:Nat):Int).toNat]?=some (qC (coP (trimQ q) i)):=bK_ (a9_ hlt2)
  have hcur:qs (coP (rowM o k (trimQ q) n i) (n+i))≤B:=by
   rw[gO_ _ _ _ _ _ _ (by omega)];exact hb1 _
  have hkq:qs k≤B+tt:=by
   have e1:=cX_ (coP o (n+(trimQ q).length- 1)) (leadP q);have e2:=hb1 (n+(trimQ q).length- 1);rw[hk];omega
  have hkm:=bJ_ k (coP (trimQ q) i);have hqi:=hb2 i;have hik:n+i< (rowM o k (trimQ q) n i).length:=by simp;omega
  have hgr:(pE (rowM o k (trimQ q) n i))[(0+(((n:Nat):Int)+(i:Nat)).toNat)]?=some (qC (coP (rowM o k (trimQ q) n i) (n+i))):=by
   rw[show 0+(((n:Nat):Int)+(i:Nat)).toNat=n+i by omega];exact bK_ (a9_ hik)
  refine aa_ (ac_ (s_r 6 ?_));refine a_1 ?_;refine i_x hgq ?_;refine l_x hgq ?_;refine a_z ?_;refine r_d hmix 16 ?_;refine a_8 ?_;refine a_1 ?_
  first|refine aq_ (.load_l rfl rfl hgr TG.h TS.h (nle rfl)) rfl rfl ?_|refine aq_ (.load_a rfl hgr TG.h TS.h (nle rfl)) rfl rfl ?_
  refine c_s (dp_ k (coP (trimQ q) i) (by omega)) ?_;refine c_s (pk_ (coP (rowM o k (trimQ q) n i) (n+i)) (k* coP (trimQ q) i) (by omega)) ?_;refine a_1 ?_;refine o_1n (.store rfl rfl hgr rfl rfl rfl TS.h (nle rfl)) ?_;refine ai_ (n_k ?_);refine r_m 2 ?_;refine a_z ?_;refine⟨i+1,by omega,hlt2,?_⟩
  have hst2:(pE (rowM o k (trimQ q) n i)).set (0+(((n:Nat):Int)+(i:Nat)).toNat) (qC (coP (rowM o k (trimQ q) n i) (n+i)- k* coP (trimQ q) i))=pE (rowM o k (trimQ q) n (i+1)):=by
   rw[show 0+(((n:Nat):Int)+(i:Nat)).toNat=n+i by omega,iQ_];rfl
  have hl2:(rowM o k (trimQ q) n (i+1)).length=(rowM o k (trimQ q) n i).length:=by simp
  simp only[dvT.eq_1,hl2];exact s_x [] (fun hs=>au_f) (fun hs=>e_29) e_4
  have hge:i=(trimQ q).length:=by
   have:¬i< (trimQ q).length:=by simpa using h3
   omega
  subst hge;refine am_ ⟨(),trivial,?_⟩;rw[dt_,hlu];exact s_e [];rintro _ _;refine r_m 3 ?_;refine a_z ?_;refine⟨(n,u.set n k,rowM o k (trimQ q) n (trimQ q).length),Nat.lt_succ_self n,⟨by omega,by simp only;omega,by simp only;rw[dt_];exact ho,hst,hr⟩,?_⟩;simp only[dvS.eq_1,hlu,dt_];exact s_e [];exact absurd h1 (by simp)
 rintro⟨u,o⟩ hx;rw[←hx] at hdl hend⊢;simp only at hdl hend⊢;have hlu:u.length≤274877906945:=by rw[hdl.1];simp;omega
 have hfu:List.take u.length (List.drop 0 (pE u))=pE u:=by rw[List.drop_zero,List.take_of_length_le (by simp)]
 have hfo:List.take o.length (List.drop 0 (pE o))=pE o:=by rw[List.drop_zero,List.take_of_length_le (by simp)]
 refine s_r 6 ?_;refine a_1 ?_;refine o_1 (.callS1 rfl rfl rfl (.shut rfl d_n (.nil)) rfl ((by rw[hfu];exact cQ_ u (by omega)))) ?_;refine a_1 ?_;refine o_1 (.callS1 rfl rfl rfl (.shut rfl d_n (.nil)) rfl ((by rw[hfo];exact cQ_ o (by rw[hdl.2];omega)))) ?_;refine a_z ?_;refine af_ (Fin.many ⟨_,_,rfl,rfl,⟨_,_,rfl,rfl,rfl⟩⟩ (nle rfl) ?_);exact ag_ (an_ ar_ (aD_ _)) (ag_ (an_ ar_ (aD_ _)) ao_)
def gcS:List Rat×List Rat→AState
 |(p,q)=>⟨[(0,.arr (pE p)),(1,.arr (pE q))],[],1,21⟩
theorem sD_(p:List Rat)(q:List Rat):gcS (p,q)=⟨[(0,.arr (pE p)),(1,.arr (pE q))],[],1,21⟩:=rfl
theorem degP_neg{l:List Rat}:degP l< 0↔trimQ l=[]:=by
 unfold degP;constructor;intro h;exact List.length_eq_zero_iff.1 (by omega);intro h;rw[h];decide
theorem fs_Gcd(f:Nat)(p q g:List Rat)(h:gcdM f p q=some g)(hp1:p.length≤274877906944)(hq1:q.length≤274877906944):FS 269 [.arr (pE p),.arr (pE q)] (.arr (pE g)):=by
 refine f_c Tryz.func269 ?_;refine r_z 1 ?_;refine aQ_ (fun p:List Rat=>⟨[(0,.arr (pE p))],[],1,21⟩) (fun p=>smL p∧p.length≤274877906944∧g=aG_ p) ?_ ?_;refine ac_ (ap_ (fun x:Nat×List Rat×List Rat=>gcS x.2) (fun x=>x.1) (fun x=>gcdM x.1 x.2.1 x.2.2=some g∧x.2.1.length≤274877906944∧x.2.2.length≤274877906944) (f,p,q) ⟨h,hp1,hq1⟩ ?_ ?_);simp only[sD_];exact s_e [];rintro⟨f,p,q⟩ ⟨h,hp1,hq1⟩;simp only at h hp1 hq1;simp only[sD_];cases f with
 |zero=>cases h
 |succ f=>
  rw[gcdM] at h;refine aa_ (r_c 3 (bC_ q (by omega)) ?_);refine a_z ?_;refine aj_ rfl (fun h1=>?_) (fun h1=>?_)
  ·have hq0:trimQ q≠[]:=by
    intro e;have e2:=degP_neg.2 e;simp at h1;omega
   rw[if_neg hq0] at h;split at h
   case isFalse=>cases h
   case isTrue hs=>
   have hl:=fj_ (p:=p) (q:=q);have hm:=f7_ (divP p q).2;refine ae_ (ac_ (r_c 8 (fM_ p q (mxL p) (mxL q) (ch_ p) (ch_ q) (bX_ p) (bX_ q) hs.1 hq0 hp1 hq1) ?_));refine a_z ?_;refine r_m 5 ?_;refine c_s (lp_ (divP p q).2 (ol_ hs hq0).2 (by omega)) ?_;refine a_z ?_;refine⟨(f,q,aG_ (divP p q).2),Nat.lt_succ_self f,⟨h,hq1,by simp only;omega⟩,?_⟩;simp only[sD_];exact s_e []
  ·have hq0:trimQ q=[]:=by
    refine degP_neg.1 ?_;simp at h1;omega
   rw[if_pos hq0] at h;split at h
   case isFalse=>cases h
   case isTrue hs=>
   cases h;refine am_ ⟨p,⟨hs,hp1,rfl⟩,?_⟩;exact s_e []
 rintro p ⟨hs,hp1,rfl⟩;refine r_c 3 (lp_ p hs (by omega)) ?_;refine a_z ?_;exact af_ (t_e (aD_ _))

theorem lc_(l:List Rat)(hl:l.length≤281474976710656):GSpec Tryz.prog 268 [bP l] (backP l):=by
 refine GSpec.enter Tryz.func268 rfl (by kernel_rfl) rfl rfl rfl ?_ ?_ rfl ?_;exact ab_ (bV_ l) ah_;intro k xs h;unfold backP at h;split at h;cases h;exact ab_ (ad_ _) (ab_ (aI_ _) ah_);cases h;intro ll N E;refine GWp.seq ?_;refine GWp.lift ?_;refine r_m 4 ?_;refine a_z ?_;refine GWp.block ?_;refine GWp.loopS (fun m:Nat=>⟨[(0,.v (.func (.yield ll) #[] #[])),(1,bP l),(3,i64 ((m:Int)- 1))],[],1,19⟩) (fun m=>l.length- m) (fun m=>m) (fun m=>m≤l.length) l.length (Nat.le_refl _) (by simp) ?_ ?_;exact s_e [];intro m hm;refine GWp.seq ?_;refine GWp.seq ?_;refine GWp.lift ?_;refine r_m 2 ?_;refine a_z ?_;refine GWp.cond rfl (fun h=>?_) (fun h=>?_)
 ·refine GWp.skip ?_
  have hm1:1≤m:=by have:=of_decide_eq_true h;omega
  have hx':(pE l)[((m:Int)- 1).toNat]?=some (qC (coP l (m- 1))):=by rw[show((m:Int)- 1).toNat=m- 1 by omega];exact bK_ (a9_ (by omega))
  refine GWp.seq ?_;refine GWp.block ?_;refine GWp.seq ?_;refine GWp.regY (fr2:=[(0,.v (.func (.yield ll) #[] #[])),(1,bP l),(3,i64 ((m:Int)- 1)),(11,.v (.func (.yield ll) #[] #[])),(12,i64 ((m:Int)- 1)),(16,.agg (qC (coP l (m- 1))))]) (hp2:=[]) (nx2:=1) 6 rfl rfl rfl rfl rfl rfl ?_ rfl rfl rfl ?_ ?_ ?_;refine o_0 (.move rfl) ?_;refine o_0 (.move rfl) ?_
  first|refine aq_ (.load_l1 rfl rfl rfl TG.h rfl) rfl rfl ?_|refine aq_ (.load_a1 rfl rfl TG.h rfl) rfl rfl ?_
  refine o_0 (.move rfl) ?_;refine i_x hx' ?_;refine l_x hx' ?_;refine ai_ ?_;exact s_y [] (fun hs=>au_f) (fun hs=>au_h);rotate_left 2;intro go;refine o_0 (.un rfl lZ_) ?_;refine ai_ ?_;rotate_left;unfold backP;rw[if_pos (by omega)];have e1:((l.length- 1- (l.length- m):Nat):Int)=(m:Int)- 1:=by omega
  have e2:l.length- 1- (l.length- m)=m- 1:=by omega
  rw[e1,e2];rfl;exact ab_ (ad_ _) (ab_ (aI_ _) ah_);cases go with
  |false=>
   refine GWp.cond rfl (fun h=>?_) (fun h=>?_);exact GWp.ret ⟨.inr rfl,fun h=>by cases h⟩;cases h
  |true=>
   refine GWp.cond rfl (fun h=>?_) (fun h=>?_);cases h;refine GWp.skip ?_;refine GWp.lift ?_;refine r_m 3 ?_;refine a_z ?_;refine⟨rfl,m- 1,by omega,by omega,by omega,?_⟩;exact s_e []
 refine GWp.exit ⟨.inl rfl,fun _=>?_⟩;have:m=0:=by have:=of_decide_eq_false h;omega
 subst this;unfold backP;rw[if_neg (by omega)]
theorem lA_(l:List Rat):FS 220 [.arr (pE l)] (.clos 268 [] [bP l]):=by
 refine f_c Tryz.func220 ?_;refine r_z 2 ?_;refine r_z 2 ?_;refine af_ (⟨.inr rfl,[_],⟨_,[],rfl,rfl,rfl⟩,?_⟩);exact Cv.clos ao_ (ag_ (Cv.boxp ar_ rfl (fun _ _ h=>by cases h) rfl (ab_ (aD_ l) ah_)) ao_)
def hoS(p:List Rat)(g:Nat)(cap:List AV)(w:Nat→Rat):Nat→AState
 |k=>⟨[(4,.lptr 1 0 0),(5,.aptr [[.clos g [] cap]] 0 0),(6,.lptr 2 0 0),(10,.clos 268 [] [bP p])],[(1,some ⟨35,3,[qC (w k)]⟩),(2,some ⟨35,3,[zC]⟩)],3,18⟩
theorem qv_(p:List Rat)(g:Nat)(cap:List AV)(w:Nat→Rat)(hl:p.length≤281474976710656)(hcap:∀c∈cap,Closed c)(hg:∀k,k< p.length→FS g ((.agg (qC (w k)):: .agg (qC (coP p (p.length- 1- k)))::cap).map coe) (.agg (qC (w (k+1))))):FS 145 [.arr (pE p),.agg (qC (w 0)),.clos g [] cap] (.agg (qC (w p.length))):=by
 have hb:=lA_ p;have hgs:=lc_ p hl;have hcc:Closed (.clos g [] cap):=ba_ ah_ hcap;have hcc2:Closed (.aptr [[.clos g [] cap]] 0 0):=aE_ (ab_ hcc ah_);have hcl2:Closed (.clos 268 [] [bP p]):=ba_ ah_ (ab_ (bV_ p) ah_);refine f_c Tryz.func145 ?_;refine r_z 3 ?_;refine AWp.ent (st':=⟨[(0,.arr (pE p)),(4,.lptr 1 0 0),(5,.aptr [[.clos g [] cap]] 0 0),(6,.lptr 2 0 0)],[(1,some ⟨35,3,[qC (w 0)]⟩),(2,some ⟨35,3,[zC]⟩)],3,18⟩) ?_ ?_;have:=ab_ hcc ah_;exact s_f [(1,4),(2,6)];refine aa_ (r_c 2 (hb) ?_);refine ai_ ?_;refine aw_ (fun _:Unit=>⟨[(4,.lptr 1 0 0),(6,.lptr 2 0 0)],[(1,some ⟨35,3,[qC (w p.length)]⟩),(2,some ⟨35,3,[zC]⟩)],3,18⟩) (fun _=>True) ?_ ?_;refine ac_ (AWp.rangeFunc (α:=Nat) (γ:=Empty) p.length (hoS p g cap w) (fun k=>k) (fun k=>k≤p.length) (fun e=>nomatch e) (fun _ e=>nomatch e) 0 rfl hgs rfl rfl ?_ (fun _=>⟨rfl,rfl⟩) (fun e=>nomatch e) (Nat.zero_le _) rfl (fun _ h=>h) ?_ ?_ ?_ ?_ (fun _ e=>nomatch e));intro k xs hT;unfold backP at hT;split at hT;cases hT;rfl;cases hT;rw[hoS.eq_1];exact s_y [] (fun hs=>au_f) (fun hs=>au_h);exact ab_ (bV_ p) ah_
 ·intro l k xs hk hT
  unfold backP at hT;split at hT;rotate_left;cases hT;rename_i hlt;cases hT;show AWp _ _ _ _ ⟨[(12,.agg (qC (coP p (p.length- 1- k)))),(11,i64 (p.length- 1- k:Nat)),(4,.lptr 1 0 0),(5,.aptr [[.clos g [] cap]] 0 0),(6,.lptr 2 0 0),(10,.clos 268 [] [bP p]),(1004,.lptr 1 0 0),(1005,.aptr [[.clos g [] cap]] 0 0),(1006,.lptr 2 0 0),(1010,.clos 268 [] [bP p])],[(1,some ⟨35,3,[qC (w k)]⟩),(2,some ⟨35,3,[zC]⟩)],3,18⟩;refine r_m 2 ?_;refine a_z ?_;refine ac_ (r_m 5 ?_);refine c_s (hg k hlt) ?_;refine a_z ?_;refine⟨k+1,⟨hlt,rfl⟩,?_⟩;show SEntT _ ⟨[(1004,.lptr 1 0 0),(1005,.aptr [[.clos g [] cap]] 0 0),(1006,.lptr 2 0 0),(1010,.clos 268 [] [bP p])],[(1,some ⟨35,3,[qC (w (k+1))]⟩),(2,some ⟨35,3,[zC]⟩)],3,18⟩;exact s_y [] (fun hs=>au_f) (fun hs=>au_h)
 intro k hk hT;unfold backP at hT;split at hT;cases hT;refine⟨(),trivial,?_⟩;rw[hoS.eq_1];have h1:k=p.length:=by omega
 subst h1;exact s_e [];rintro _ _;refine r_z 2 ?_;exact af_ (c_e (aI_ _))
theorem fs_Eval1(v c x:Rat)(h1:qs v+qs x≤549755813888)(h2:qs (v* x)+qs c≤549755813888):FS 146 [.agg (qC v),.agg (qC c),bQ x] (.agg (qC (v* x+c))):=by
 refine f_c Tryz.func146 ?_;refine r_z 3 ?_;refine aa_ (r_d hmix 6 ?_);refine c_s (dp_ v x h1) ?_;refine c_s (gt_ (v* x) c h2) ?_;refine a_1 ?_;refine ai_ (n_k ?_);exact af_ (c_e (aI_ _))
theorem ly_(p:List Rat)(x:Rat)(h:ed_ p x):FS 54 [.arr (pE p),.agg (qC x)] (.agg (qC (evalP p x))):=by
 have hw:∀k,k< p.length→FS 146 [.agg (qC (evalP (p.drop (p.length- k)) x)),.agg (qC (coP p (p.length- 1- k))),bQ x] (.agg (qC (evalP (p.drop (p.length- (k+1))) x))):=fun k hk=>by
  have:=qD_ h k hk;rw[tm_ hk];exact fs_Eval1 _ _ _ this.1 this.2
 have hh:=qv_ p 146 [bQ x] (fun k=>evalP (p.drop (p.length- k)) x) (by have:=h.2;omega) (ab_ (c4_ x) ah_) hw;simp only[Nat.sub_zero,Nat.sub_self,List.drop_zero,List.drop_length] at hh;rw[show evalP [] x=0 from rfl,qC0] at hh;refine f_c Tryz.func54 ?_;refine r_z 2 ?_;refine AWp.ent (st':=⟨[(0,.arr (pE p)),(3,bQ x),(4,.lptr 1 0 0)],[(1,some ⟨35,3,[zC]⟩)],2,9⟩) ?_ ?_;exact s_e [(1,4)];refine r_c 5 (hh) ?_;refine a_z ?_;exact af_ (c_e (aI_ _))
abbrev bS(s:Sp):AV:= .aptr [spC s.1 s.2] 0 0
theorem fU_(s:Sp):Closed (bS s):=aE_ (gi_ _ _)

def coS:Nat×Nat→AState
 |(a,b)=>⟨[(2,.lptr 1 0 0),(3,.lptr 2 0 0),(4,.lptr 3 0 0)],[(1,some ⟨35,3,[qC (nQ a)]⟩),(2,some ⟨35,3,[qC (nQ b)]⟩),(3,some ⟨35,3,[zC]⟩)],4,18⟩
theorem nd_(a:Nat)(b:Nat):coS (a,b)=⟨[(2,.lptr 1 0 0),(3,.lptr 2 0 0),(4,.lptr 3 0 0)],[(1,some ⟨35,3,[qC (nQ a)]⟩),(2,some ⟨35,3,[qC (nQ b)]⟩),(3,some ⟨35,3,[zC]⟩)],4,18⟩:=rfl
theorem kw_(a b:Nat)(ha:bl a≤68719476736)(hb:bl b≤68719476736):FS 297 [.agg (qC (nQ a)),.agg (qC (nQ b))] (.agg (qC (nQ (Nat.gcd a b)))):=by
 refine f_c Tryz.func297 ?_;refine r_z 3 ?_;refine aQ_ (fun _:Unit=>coS (Nat.gcd a b,0)) (fun _=>True) ?_ ?_;refine ac_ (ap_ coS (fun x=>x.2) (fun x=>Nat.gcd x.1 x.2=Nat.gcd a b∧bl x.1≤68719476736∧bl x.2≤68719476736) (a,b) ⟨rfl,ha,hb⟩ ?_ ?_);simp only[nd_];exact s_e [];rintro⟨u,v⟩ ⟨hg,hu,hv⟩;simp only at hg hu hv;rw[nd_];refine aa_ (r_c 3 (bZ_ (nQ v)) ?_);refine a_z ?_;refine aj_ rfl (fun h=>?_) (fun h=>?_)
 have hv0:v≠0:=by
  intro e;subst e;exact absurd h (by decide)
 refine ae_ ?_;have h1:=qs_nQ (n:=u) hu (by decide);have h2:=qs_nQ (n:=v) hv (by decide);have hq:=cX_ (nQ u) (nQ v);have hov:=eA_ (nQ u) (nQ v) (fun e=>hv0 (nQ_zero.1 e)) (by omega);have hfl:=fs_floor (nQ u/ nQ v) (by omega);rw[o7_ u v hv0,nR_ u v hv0] at hfl;rw[o7_ u v hv0] at hov;have h3:=qs_nQ (n:=u/ v) (k:=68719476736) (Nat.le_trans (c5_ u v) hu) (by decide);have hmu:=dp_ (nQ v) (nQ (u/ v)) (by omega);rw[nQ_mul] at hmu;have hle:v* (u/ v)≤u:=Nat.mul_div_le u v;have h4:=qs_nQ (n:=v* (u/ v)) (k:=68719476736) (Nat.le_trans (b0_ hle) hu) (by decide);have hsu:=pk_ (nQ u) (nQ (v* (u/ v))) (by omega);rw[nQ_sub hle,show u- v* (u/ v)=u % v by have:=Nat.div_add_mod u v;omega] at hsu;refine ac_ (r_d hmix 11 ?_);refine c_s (hov) ?_;refine c_s (hfl) ?_;refine c_s (hmu) ?_;refine c_s (hsu) ?_;refine a_2 ?_;refine ai_ (n_k ?_);refine⟨(v,u % v),Nat.mod_lt _ (by omega),⟨?_,hv,Nat.le_trans (b0_ (Nat.mod_le u v)) hu⟩,?_⟩;rw[←hg];show Nat.gcd v (u % v)=Nat.gcd u v;rw[Nat.gcd_comm v,Nat.gcd_comm u v,←Nat.gcd_rec];simp only[nd_];exact s_e []
 have hv0:v=0:=by
  have h1:sgZ (nQ v).num=0:=by simpa using h
  exact nQ_zero.1 (sgZ_num_eq.1 h1)
 subst hv0;rw[Nat.gcd_zero_right] at hg;refine am_ ⟨(),trivial,?_⟩;rw[←hg];simp only[nd_];exact s_e [];rintro _ _;simp only[nd_];refine r_z 2 ?_;exact af_ (c_e (aI_ _))
def prS(t:List Rat):Nat×Nat→AState
 |(i,d)=>⟨[(0,.arr (pE t)),(3,.lptr 1 0 0),(4,.lptr 2 0 0),(13,.arr (pE t)),(14,i64 t.length),(15,i64 i)],[(1,some ⟨35,3,[qC (nQ d)]⟩),(2,some ⟨35,3,[qC 0]⟩)],3,47⟩
def prT(t:List Rat)(D:Nat):Nat×Nat→AState
 |(i,n)=>⟨[(0,.arr (pE t)),(3,.lptr 1 0 0),(4,.lptr 2 0 0),(29,.arr (pE t)),(30,i64 t.length),(31,i64 i)],[(1,some ⟨35,3,[qC (nQ D)]⟩),(2,some ⟨35,3,[qC (nQ n)]⟩)],3,47⟩
theorem hJ_{l:List Rat}{i:Nat}(h:i< l.length):l.drop i=coP l i::l.drop (i+1):=by
 rw[List.drop_eq_getElem_cons h];congr 1;have:=a9_ h;rw[List.getElem?_eq_getElem h] at this;exact Option.some.inj this
theorem tP_(a b:Nat):bl (Nat.gcd a b)≤max (bl a) (bl b):=by
 rcases Nat.eq_zero_or_pos a with h|h
 subst h;rw[Nat.gcd_zero_left];exact Nat.le_max_right _ _;exact Nat.le_trans (b0_ (Nat.gcd_le_left b h)) (Nat.le_max_left _ _)
theorem hZ_(p:List Rat)(h:mr_ p)(h0:trimQ p≠[]):FS 271 [.arr (pE p)] (.arr (pE (primP p))):=by
 obtain⟨t,ht⟩:∃t,t=trimQ p:=⟨_,rfl⟩;obtain⟨s,hs⟩:∃s,s=mxL p:=⟨_,rfl⟩;have hs1:1≤s:=by rw[hs];exact bX_ p
 have hbt:bdL t s:=fun q hq=>by rw[hs];exact ch_ p q (be_ (by rw[←ht];exact hq))
 have htl:t.length≤p.length:=by rw[ht];exact aB_ p
 obtain⟨hsz,hpl⟩:=h;rw[←hs] at hsz;have hts:t.length* s≤p.length* s:=Nat.mul_le_mul_right _ htl;rw[Nat.add_mul] at hsz;obtain⟨D,hD⟩:∃D,D=denL t 1:=⟨_,rfl⟩;have hD0:D≠0:=by rw[hD];exact hK_ t (by decide)
 have hDb:bl D≤1+t.length* s:=by rw[hD];exact on_ t 1 hbt
 have hDd:∀c∈t,c.den∣D:=by rw[hD];exact(eD_ t 1).2
 obtain⟨N,hN⟩:∃N,N=numL D t 0:=⟨_,rfl⟩
 have hlast:leadP p∈t:=by
  rw[ht];obtain⟨n,hn⟩:∃n,(trimQ p).length=n+1:=⟨(trimQ p).length- 1,by have:=List.length_pos_iff.2 h0;omega⟩;exact List.mem_of_getElem? (bD_ hn)
 have hNd:=(gS_ D t 0).2 (leadP p) hlast;rw[←hN] at hNd;have hi0:=la_ (hDd _ hlast) hD0 (bw_ h0);have hN0:N≠0:=fun e=>hi0 (by rw[e] at hNd;exact Nat.zero_dvd.1 hNd);have hNb:bl N≤s+bl D:=Nat.le_trans (b0_ (Nat.le_of_dvd (by omega) hNd)) (Nat.le_trans (nV_ _ _) (by have:=hbt _ hlast;omega));have hpr:primP p=av_ t (nQ D/ nQ N):=by unfold primP;rw[←ht,←hD,←hN]
 rw[hpr];have hgt:∀i,i< t.length→(pE t)[((i:Nat):Int).toNat]?=some (qC (coP t i)):=fun i hi=>bK_ (a9_ hi);have hmem:∀i,i< t.length→coP t i∈t:=fun i hi=>List.mem_of_getElem? (a9_ hi);have htr:=cQ_ p (by omega);rw[←ht] at htr;refine f_c Tryz.func271 ?_;refine r_z 1 ?_;refine r_c 3 (htr) ?_;refine a_z ?_;refine r_c 6 (ei_ 1 (by decide)) ?_;refine a_z ?_;refine aa_ (r_z 3 ?_);refine aw_ (fun _:Unit=>⟨[(0,.arr (pE t)),(3,.lptr 1 0 0),(4,.lptr 2 0 0)],[(1,some ⟨35,3,[qC (nQ D)]⟩),(2,some ⟨35,3,[qC 0]⟩)],3,47⟩) (fun _=>True) ?_ ?_;refine ac_ (ap_ (prS t) (fun x=>t.length- x.1) (fun x=>x.1≤t.length∧x.2≠0∧denL (t.drop x.1) x.2=D) (0,1) ⟨Nat.zero_le _,by decide,by rw[hD];rfl⟩ ?_ ?_);simp only[prS.eq_1];rw[qC0];exact s_e [(1,3),(2,4)];rintro⟨i,d⟩ ⟨hi,hd0,hd⟩;simp only at hi hd0 hd;rw[prS.eq_1];refine r_z 1 ?_;refine aa_ (aj_ rfl (fun h=>?_) (fun h=>?_));refine ae_ ?_;have hlt:i< t.length:=by simpa using h
 have hc:=hbt _ (hmem i hlt);have hcd:=bU_ (coP t i);have hcn:=(coP t i).den_nz;rw[hJ_ hlt] at hd;have hdD:d∣D:=by rw[←hd];exact(eD_ _ d).1
 have hdb:=b0_ (Nat.le_of_dvd (by omega) hdD);have hq1:=qs_nQ (n:=d) (k:=34359738368) (by omega) (by decide);have hq2:=qs_nQ (n:=(coP t i).den) (k:=34359738368) (by omega) (by decide);have hmu:=dp_ (nQ d) (nQ (coP t i).den) (by omega);have hco:=kw_ d (coP t i).den (by omega) (by omega);have hg0:Nat.gcd d (coP t i).den≠0:=by have:=Nat.gcd_pos_of_pos_left (coP t i).den (Nat.pos_of_ne_zero hd0);omega
 have hgb:=tP_ d (coP t i).den;have hq3:=qs_nQ (n:=Nat.gcd d (coP t i).den) (k:=34359738368) (by omega) (by decide);have hq4:=bJ_ (nQ d) (nQ (coP t i).den);rw[nQ_mul] at hq4 hmu;have hov:=eA_ (nQ (d* (coP t i).den)) (nQ (Nat.gcd d (coP t i).den)) (fun e=>hg0 (nQ_zero.1 e)) (by omega);rw[o7_ _ _ hg0,mx_ _ _ hg0 (Nat.dvd_mul_right_of_dvd (Nat.gcd_dvd_left _ _) _)] at hov;refine aa_ (ac_ (s_r 4 ?_))
 first|refine aq_ (.index_l rfl rfl (by omega) (by omega) te_55.h) rfl rfl ?_|refine aq_ (.index_a rfl rfl (by omega) (hgt i hlt) rfl te_55.h) rfl rfl ?_
 first|refine aq_ (.load_l rfl rfl (hgt i hlt) TG.h TS.h (nle rfl)) rfl rfl ?_|refine aq_ (.load_a rfl (hgt i hlt) TG.h TS.h (nle rfl)) rfl rfl ?_
 refine a_z ?_;refine r_d hmix 10 ?_;refine c_s (fs_den (coP t i) (by unfold sm;omega)) ?_;refine c_s (hmu) ?_;refine c_s (fs_den (coP t i) (by unfold sm;omega)) ?_;refine c_s (hco) ?_;refine c_s (hov) ?_;refine a_1 ?_;refine ai_ (n_k ?_);refine r_m 2 ?_;refine a_z ?_;refine⟨(i+1,Nat.lcm d (coP t i).den),by simp only;omega,⟨hlt,sp_ hd0 hcn,hd⟩,?_⟩;simp only[prS.eq_1];exact s_e []
 have hge:i=t.length:=by
  have:¬i< t.length:=by simpa using h
  omega
 subst hge;rw[List.drop_length] at hd;refine am_ ⟨(),trivial,?_⟩;rw[←hd];exact s_e [];rintro _ _;refine aa_ (r_z 3 ?_);refine aw_ (fun _:Unit=>⟨[(0,.arr (pE t)),(3,.lptr 1 0 0),(4,.lptr 2 0 0)],[(1,some ⟨35,3,[qC (nQ D)]⟩),(2,some ⟨35,3,[qC (nQ N)]⟩)],3,47⟩) (fun _=>True) ?_ ?_;refine ac_ (ap_ (prT t D) (fun x=>t.length- x.1) (fun x=>x.1≤t.length∧bl x.2≤s+bl D∧numL D (t.drop x.1) x.2=N) (0,0) ⟨Nat.zero_le _,by rw[tO_];exact Nat.zero_le _,by rw[hN];rfl⟩ ?_ ?_);simp only[prT.eq_1];exact s_e [];rintro⟨i,n⟩ ⟨hi,hnb,hn⟩;simp only at hi hnb hn;rw[prT.eq_1];refine r_z 1 ?_;refine aa_ (aj_ rfl (fun h=>?_) (fun h=>?_));refine ae_ ?_;have hlt:i< t.length:=by simpa using h
 have hc:=hbt _ (hmem i hlt);rw[hJ_ hlt] at hn;have hib:=nV_ (coP t i) D;have hgb:=tP_ n (intC (coP t i) D);have hq1:=qs_nQ (n:=D) (k:=34359738368) (by omega) (by decide);have hmu:=dp_ (coP t i) (nQ D) (by omega);have hab:=ps_ (coP t i* nQ D);rw[gT_ _ _ (hDd _ (hmem i hlt))] at hab;have hco:=kw_ n (intC (coP t i) D) (by omega) (by omega);refine aa_ (ac_ (s_r 4 ?_))
 first|refine aq_ (.index_l rfl rfl (by omega) (by omega) te_55.h) rfl rfl ?_|refine aq_ (.index_a rfl rfl (by omega) (hgt i hlt) rfl te_55.h) rfl rfl ?_
 first|refine aq_ (.load_l rfl rfl (hgt i hlt) TG.h TS.h (nle rfl)) rfl rfl ?_|refine aq_ (.load_a rfl (hgt i hlt) TG.h TS.h (nle rfl)) rfl rfl ?_
 refine a_z ?_;refine r_d hmix 7 ?_;refine c_s (hmu) ?_;refine c_s (hab) ?_;refine c_s (hco) ?_;refine a_1 ?_;refine ai_ (n_k ?_);refine r_m 2 ?_;refine a_z ?_;refine⟨(i+1,Nat.gcd n (intC (coP t i) D)),by simp only;omega,⟨hlt,by simp only;omega,hn⟩,?_⟩;simp only[prT.eq_1];exact s_e []
 have hge:i=t.length:=by
  have:¬i< t.length:=by simpa using h
  omega
 subst hge;rw[List.drop_length] at hn;refine am_ ⟨(),trivial,?_⟩;rw[←hn];exact s_e [];rintro _ _;have hq1:=qs_nQ (n:=D) (k:=34359738368) (by omega) (by decide);have hq2:=qs_nQ (n:=N) (k:=34359738368) (by omega) (by decide);have hq3:=cX_ (nQ D) (nQ N);refine r_c 6 (eA_ (nQ D) (nQ N) (fun e=>hN0 (nQ_zero.1 e)) (by omega)) ?_;refine c_s (eB_ t (nQ D/ nQ N) (ft_ hbt (by omega)) (by unfold sm;omega) (by omega)) ?_;refine a_z ?_;exact af_ (t_e (aD_ _))
theorem lf_(f:Nat)(p r:List Rat)(h:sqfM f p=some r):FS 221 [.arr (pE p)] (.arr (pE r)):=by
 unfold sqfM at h;split at h
 case isFalse=>cases h
 case isTrue hs=>
 obtain⟨g,hg,hr⟩:=Option.bind_eq_some_iff.1 h;split at hr
 case isFalse=>cases hr
 case isTrue hg2=>
 cases hr;have hdl:=dd_ p;have hdv:=fj_ (p:=p) (q:=g);refine f_c Tryz.func221 ?_;refine r_z 1 ?_;refine r_c 11 (g8_ p hs.1 (by omega)) ?_;refine c_s (fs_Gcd f p (at_ p) g hg hs.2 (by omega)) ?_;refine c_s (fM_ p g (mxL p) (mxL g) (ch_ p) (ch_ g) (bX_ p) (bX_ g) hg2.2.1 hg2.1 hs.2 hg2.2.2.2) ?_;refine a_z ?_;refine r_c 3 (lp_ (divP p g).1 (ol_ hg2.2 hg2.1).1 (by omega)) ?_;refine a_z ?_;exact af_ (t_e (aD_ _))
theorem fs_large(p:List Rat)(hp:p.length≤1099511627776):FS 147 [.arr (pE p)] (i64 (g0_ p)):=by
 refine f_c Tryz.func147 ?_;refine r_z 1 ?_;refine aa_ (r_c 3 (bC_ p hp) ?_);refine a_z ?_;refine aw_ (fun _:Unit=>⟨[],[],1,12⟩) (fun _=>g0_ p=0) ?_ ?_;refine ac_ (r_z 3 ?_);refine aj_ rfl (fun h=>?_) (fun h=>?_);have h1:degP p< 0:=by simpa using h
 refine r_z 1 ?_;refine af_ (aJ_ rfl ?_ ?_);unfold g0_;rw[if_pos h1];rfl;exact ad_ _;have h1:¬degP p< 0:=by simpa using h
 refine r_z 3 ?_;refine aj_ rfl (fun h2=>?_) (fun h2=>?_);have h3:40< degP p:=by simpa using h2
 refine r_z 1 ?_;refine af_ (aJ_ rfl ?_ ?_);unfold g0_;rw[if_neg h1,if_pos h3];rfl;exact ad_ _;have h3:¬40< degP p:=by simpa using h2
 refine ae_ ⟨(),by unfold g0_;rw[if_neg h1,if_neg h3],?_⟩;exact s_e [];rintro _ hl;refine r_z 1 ?_;refine af_ (aJ_ rfl ?_ ?_);rw[hl];rfl;exact ad_ _
def boS(t:List Rat)(l:List Rat):Nat×Rat→AState
 |(i,m)=>⟨[(0,.arr (pE t)),(2,.lptr 1 0 0),(3,.lptr 2 0 0),(13,.arr (pE l)),(14,i64 l.length),(15,i64 i)],[(1,some ⟨35,3,[zC]⟩),(2,some ⟨35,3,[qC m]⟩)],3,31⟩
theorem fs_bound(p:List Rat)(h:fE_ p)(h0:trimQ p≠[]):FS 151 [.arr (pE p)] (.agg (qC (aN_ p))):=by
 obtain⟨hsz,hpl⟩:=h;obtain⟨t,ht⟩:∃t,t=trimQ p:=⟨_,rfl⟩;have htr:=cQ_ p (by omega);have htl:=aB_ p;rw[←ht] at htr htl;obtain⟨l,hl⟩:∃l,l=t.take (t.length- 1):=⟨_,rfl⟩;have hll:l.length=t.length- 1:=by rw[hl];simp
 have hbl:bdL l (mxL p):=fun q hq=>ch_ p q (be_ (by rw[←ht];exact List.mem_of_mem_take (by rw[←hl];exact hq)));have hpos:0< t.length:=by rw[ht];exact List.length_pos_iff.2 h0
 have hlead:leadP t=leadP p:=by rw[ht,hE_]
 have hlb:qs (leadP p)≤mxL p:=by
  obtain⟨n,hn⟩:∃n,(trimQ p).length=n+1:=⟨(trimQ p).length- 1,by rw[←ht];omega⟩;exact ch_ p _ (be_ (List.mem_of_getElem? (bD_ hn)))
 have hb:aN_ p=boL (leadP p) l 0+1:=by unfold aN_;rw[←ht,←hl]
 rw[hb];obtain⟨B,hB⟩:∃B,B=boL (leadP p) l 0:=⟨_,rfl⟩;rw[←hB];refine f_c Tryz.func151 ?_;refine r_z 1 ?_;refine r_c 3 (htr) ?_;refine a_z ?_;refine r_z 3 ?_;refine aa_ (s_r 7 ?_);refine a_4 ?_;refine o_0 (.sa_h rfl rfl (h:=t.length- 1) (by omega) (by simp) te_55.h (gw_ _)) ?_;refine a_z ?_;refine aw_ (fun _:Unit=>⟨[(2,.lptr 1 0 0),(3,.lptr 2 0 0)],[(1,some ⟨35,3,[zC]⟩),(2,some ⟨35,3,[qC B]⟩)],3,31⟩) (fun _=>qs B≤2* mxL p+1) ?_ ?_;refine ac_ (ap_ (boS t l) (fun x=>l.length- x.1) (fun x=>x.1≤l.length∧qs x.2≤2* mxL p+1∧boL (leadP p) (l.drop x.1) x.2=B) (0,0) ⟨Nat.zero_le _,Nat.le_trans (by decide:qs 0≤1) (Nat.le_add_left 1 _),by rw[hB];rfl⟩ ?_ ?_);simp only[boS.eq_1];rw[qC0];have e13:AV.arr (List.take (t.length- 1) (pE t))=AV.arr (pE l):=by rw[hl,nK_]
 refine s_x [(1,2),(2,3)] (fun hs=>?_) (fun hs=>?_) ?_
 ·repeat' (first|exact a2_|refine aH_ rfl ?_ ?_|exact Cv.loE hs e13 (e13▸aD_ l)|exact au_c|(refine Cv.loE hs ?_ (ad_ _);first|rfl|(simp[i64,u64,u32,bln,hll];done)|(simp[i64,u64,u32,bln,hll]<;> omega)))
 ·repeat' (first|exact az_|refine h_c ?_ ?_|exact au_e|(refine aC_ hs ?_ (aK_ _);first|(simp[iQ_,mo_,hll];done)|(simp[pE,ofV,hll];done))|refine al_ ?_|exact ao_|refine ag_ ?_ ?_|exact Cv.loE hs e13 (e13▸aD_ l)|exact au_c|(refine Cv.loE hs ?_ (ad_ _);first|(simp[i64,u64,u32,bln,hll];done)|(simp[i64,u64,u32,bln,hll]<;> omega)))
 ·repeat' (first|exact ShrL.nil|refine ShrL.cons rfl rfl rfl rfl (by first|rfl|(simp;done)|(simp[hll]<;> omega)) ?_)
 rintro⟨i,m⟩ ⟨hi,hm,hbo⟩;simp only at hi hm hbo;rw[boS.eq_1];refine r_z 1 ?_;refine aa_ (aj_ rfl (fun h=>?_) (fun h=>?_));refine ae_ ?_;have hlt:i< l.length:=by simpa using h
 have hgt:(pE l)[((i:Nat):Int).toNat]?=some (qC (coP l i)):=bK_ (a9_ hlt);have hc:qs (coP l i)≤mxL p:=hbl _ (List.mem_of_getElem? (a9_ hlt));rw[hJ_ hlt] at hbo;have hq:=cX_ (coP l i) (leadP p);have hle:=gD_ t (by omega);rw[hlead] at hle;have hqa:=mk_ (coP l i/ leadP p)
 have hbm:bdL [m,absQ (coP l i/ leadP p)] (2* mxL p+1):=by
  intro x hx;rcases List.mem_cons.1 hx with rfl|hx
  exact hm;rw[List.mem_singleton.1 hx];omega
 have hmx:=fs_Max [m,absQ (coP l i/ leadP p)] (ft_ hbm (by omega)) (by simp);refine aa_ (ac_ (s_r 4 ?_));refine i_x hgt ?_;refine l_x hgt ?_;refine a_z ?_;refine r_d hmix 9 ?_;refine c_s (hle) ?_;refine c_s (eA_ (coP l i) (leadP p) (bw_ h0) (by omega)) ?_;refine c_s (ps_ (coP l i/ leadP p)) ?_;refine a_1 ?_;refine o_1 (.callS1 rfl rfl rfl (.shut rfl d_n (.nil)) rfl (hmx)) ?_;refine a_1 ?_;refine ai_ (n_k ?_);refine r_m 2 ?_;refine a_z ?_;refine⟨(i+1,maxL [m,absQ (coP l i/ leadP p)]),by simp only;omega,⟨hlt,nS_ hbm (Nat.le_add_left 1 _),hbo⟩,?_⟩;simp only[boS.eq_1];exact s_e []
 have hge:i=l.length:=by
  have:¬i< l.length:=by simpa using h
  omega
 subst hge;rw[List.drop_length] at hbo;have hbo':m=B:=hbo;subst hbo';refine am_ ⟨(),hm,?_⟩;exact s_e [];rintro _ hq;have h1:qs 1=1:=by decide
 refine aa_ (r_d hmix 4 ?_);refine c_s (ei_ 1 (by decide)) ?_;refine c_s (gt_ B 1 (by omega)) ?_;refine a_1 ?_;refine ai_ (n_k ?_);exact af_ (c_e (aI_ _))
def stS:List Rat×List (List Rat)→AState
 |(next,acc)=>⟨[(3,.lsl 1 0 acc.length none 1),(4,.arr (pE next))],[(1,some ⟨55,1,cE acc⟩)],2,40⟩
theorem q9_(next:List Rat)(acc:List (List Rat)):stS (next,acc)=⟨[(3,.lsl 1 0 acc.length none 1),(4,.arr (pE next))],[(1,some ⟨55,1,cE acc⟩)],2,40⟩:=rfl
theorem rV_(p:List Rat):(primP p).length≤p.length:=
 Nat.le_trans (bM_ _ _) (aB_ p)
theorem fs_sturm(f:Nat)(p:List Rat)(r:List (List Rat))(h:er_ f p=some r)(hf:f≤1000000):FS 222 [.arr (pE p)] (.arr (cE r)):=by
 unfold er_ at h;split at h
 case isFalse=>cases h
 case isTrue hp=>
 have hdl:=dd_ p;have hpl:=hp.2.1.2;refine f_c Tryz.func222 ?_;refine r_z 1 ?_;refine r_c 4 (hZ_ p hp.2.1 hp.2.2) ?_;refine a_z ?_;refine aa_ (r_c 3 (g8_ p hp.1 (by omega)) ?_);refine a_z ?_;refine aw_ (fun _:Unit=>⟨[(3,.lsl 1 0 r.length none 1)],[(1,some ⟨55,1,cE r⟩)],2,40⟩) (fun _=>True) ?_ ?_
 ·refine ac_ (ap_ (fun x:Nat×List Rat×List Rat×List (List Rat)=>stS x.2.2) (fun x=>x.1) (fun x=>en_ f x.1 x.2.1 x.2.2.1 x.2.2.2=some r∧x.2.2.1.length≤274877906944∧x.2.2.2.length+x.1≤1000001∧1≤x.2.2.2.length∧x.2.2.2[x.2.2.2.length- 1]?=some x.2.1) (f,primP p,at_ p,[primP p]) ⟨h,by simp only;omega,by simp only[List.length_singleton];omega,by simp,rfl⟩ ?_ ?_)
  simp only[q9_];have:=eX_ [primP p];exact s_f [(1,3)];rintro⟨k,last,next,acc⟩ ⟨h,hn,hk,ha1,hla⟩;simp only at h hn hk ha1 hla;simp only[q9_];cases k with
  |zero=>cases h
  |succ k=>
   rw[en_] at h;refine aa_ (r_c 3 (bC_ next (by omega)) ?_);refine a_z ?_;refine aj_ rfl (fun h1=>?_) (fun h1=>?_)
   ·have h0:trimQ next≠[]:=by
     intro e;have e2:=degP_neg.2 e;simp at h1;omega
    rw[if_neg h0] at h;split at h
    case isFalse=>cases h
    case isTrue hs=>
    have hpn:=rV_ next
    have hdv:=fj_ (p:=last) (q:=primP next);have hsl:=bM_ (divP last (primP next)).2 (-1);have hl2:=hs.2.1.2.1
    have hg1:(cE (acc++[primP next]))[0+(((acc.length+1:Nat):Int)- 2).toNat]?=some [.arr (pE last)]:=by
     rw[show 0+(((acc.length+1:Nat):Int)- 2).toNat=acc.length- 1 by omega];exact tK_ (by rw[List.getElem?_append_left (by omega)];exact hla)
    have hg2:(cE (acc++[primP next]))[0+(((acc.length+1:Nat):Int)- 1).toNat]?=some [.arr (pE (primP next))]:=by
     rw[show 0+(((acc.length+1:Nat):Int)- 1).toNat=acc.length by omega];exact tK_ (by simp)
    refine ae_ (ac_ (r_c 6 (hZ_ next hs.1 h0) ?_));refine a_z ?_;refine AWp.ent (st':=⟨[(3,.lsl 1 0 (acc.length+1) none 1)],[(1,some ⟨55,1,cE (acc++[primP next])⟩)],2,40⟩) ?_ ?_
    ·have:=(cE_snoc acc (primP next)).symm
     exact s_f [(1,3)]
    refine aa_ (r_d hmix 18 ?_);refine a_5 ?_
    first|refine aq_ (.load_l1 rfl rfl hg1 TG.h rfl) rfl rfl ?_|refine aq_ (.load_a1 rfl hg1 TG.h rfl) rfl rfl ?_
    refine a_5 ?_
    first|refine aq_ (.load_l1 rfl rfl hg2 TG.h rfl) rfl rfl ?_|refine aq_ (.load_a1 rfl hg2 TG.h rfl) rfl rfl ?_
    refine c_s (fM_ last (primP next) (mxL last) (mxL (primP next)) (ch_ _) (ch_ _) (bX_ _) (bX_ _) hs.2.1.1 hs.2.2 hs.2.1.2.1 hs.2.1.2.2) ?_;refine a_5 ?_;refine ai_ (n_k ?_);refine r_m 4 ?_;refine c_s (ei_ (-1) (by decide)) ?_;refine c_s (eB_ (divP last (primP next)).2 (-1) (ol_ hs.2.1 hs.2.2).2 (by decide) (by omega)) ?_;refine a_z ?_;refine⟨(k,primP next,av_ (divP last (primP next)).2 (-1),acc++[primP next]),Nat.lt_succ_self k,⟨h,by simp only;omega,by simp only[List.length_append,List.length_singleton];omega,by simp,by simp⟩,?_⟩;have hla:(acc++[primP next]).length=acc.length+1:=by simp
    simp only[q9_,hla];exact s_f []
   ·have h0:trimQ next=[]:=by
     refine degP_neg.1 ?_;simp at h1;omega
    rw[if_pos h0] at h;cases h;refine am_ ⟨(),trivial,?_⟩;exact s_f []
 rintro _ _;refine r_z 2 ?_;exact af_ (Fin.tmpS rfl rfl rfl (by simp) (eX_ r))
def chS(ch:List (List Rat))(g:Nat)(cap:List AV):Nat×Int×Int→AState
 |(i,n,last)=>⟨[(1,.clos g [] cap),(5,i64 n),(6,i64 last),(10,.arr (cE ch)),(11,i64 ch.length),(12,i64 i)],[],1,30⟩
theorem nl_(ch:List (List Rat))(g:Nat)(cap:List AV)(i:Nat)(n:Int)(last:Int):chS ch g cap (i,n,last)=⟨[(1,.clos g [] cap),(5,i64 n),(6,i64 last),(10,.arr (cE ch)),(11,i64 ch.length),(12,i64 i)],[],1,30⟩:=rfl
theorem kx_(ch:List (List Rat))(g:Nat)(cap:List AV)(sg:List Rat→Int)(hcap:∀c∈cap,Closed c)(hsg:∀q∈ch,-1≤sg q∧sg q≤1)(hl:ch.length≤274877906944)(hg:∀q∈ch,FS g ((.arr (pE q)::cap).map coe) (i64 (sg q))):FS 223 [.arr (cE ch),.clos g [] cap] (i64 (chL (ch.map sg) 0 0)):=by
 refine f_n Tryz.func223 ?_ ?_;exact ab_ (hg_ ch) (ab_ (ba_ ah_ hcap) ah_);refine r_z 1 ?_;refine r_z 2 ?_;refine aa_ (r_z 3 ?_);obtain⟨R,hR⟩:∃R,R=chL (ch.map sg) 0 0:=⟨_,rfl⟩;rw[←hR];refine aw_ (fun _:Unit=>⟨[(5,i64 R)],[],1,30⟩) (fun _=>True) ?_ ?_;refine ac_ (ap_ (chS ch g cap) (fun x=>ch.length- x.1) (fun x=>x.1≤ch.length∧0≤x.2.1∧x.2.1≤x.1∧ -1≤x.2.2∧x.2.2≤1∧chL ((ch.drop x.1).map sg) x.2.1 x.2.2=R) (0,0,0) ⟨Nat.zero_le _,by decide,by decide,by decide,by decide,by rw[hR];rfl⟩ ?_ ?_);simp only[nl_];exact s_x [] (fun hs=>e_7) (fun hs=>e_14);rintro⟨i,n,last⟩ ⟨hi,hn0,hn1,hl0,hl1,hc⟩;simp only at hi hn0 hn1 hl0 hl1 hc;rw[nl_];refine r_z 1 ?_;refine aa_ (aj_ rfl (fun h=>?_) (fun h=>?_));refine ae_ ?_;have hlt:i< ch.length:=by simpa using h
 obtain⟨q,hq⟩:∃q,ch[i]?=some q:=⟨_,List.getElem?_eq_getElem hlt⟩;have hqm:=List.mem_of_getElem? hq;have hgt:(cE ch)[((i:Nat):Int).toNat]?=some [.arr (pE q)]:=tK_ hq
 have hd:ch.drop i=q::ch.drop (i+1):=by
  rw[List.drop_eq_getElem_cons hlt];rw[List.getElem?_eq_getElem hlt] at hq;rw[Option.some.inj hq]
 rw[hd,List.map_cons,chL] at hc;have hs2:=hsg q hqm;refine aa_ (ac_ (s_r 3 ?_));refine i_x hgt ?_;refine l_1 hgt ?_;refine a_z ?_;refine r_c 4 (hg q hqm) ?_;refine a_z ?_;refine r_z 2 ?_;refine aj_ rfl (fun h1=>?_) (fun h1=>?_);have hne:sg q≠0:=by simpa using h1
 rw[if_pos hne] at hc;refine aa_ (r_z 4 ?_);refine aj_ rfl (fun h2=>?_) (fun h2=>?_);have he:sg q= -last:=by simpa using h2
 rw[if_pos he] at hc;refine r_m 3 ?_;refine a_z ?_;refine r_m 2 ?_;refine a_z ?_;refine r_m 2 ?_;refine a_z ?_;refine⟨(i+1,n+1,sg q),by simp only;omega,⟨hlt,by simp only;omega,by simp only;omega,hs2.1,hs2.2,hc⟩,?_⟩;simp only[nl_];exact s_x [] (fun hs=>e_7) (fun hs=>e_14);have he:¬sg q= -last:=by simpa using h2
 rw[if_neg he] at hc;refine ae_ (r_m 2 ?_);refine a_z ?_;refine r_m 2 ?_;refine a_z ?_;refine⟨(i+1,n,sg q),by simp only;omega,⟨hlt,hn0,by simp only;omega,hs2.1,hs2.2,hc⟩,?_⟩;simp only[nl_];exact s_x [] (fun hs=>e_7) (fun hs=>e_14);have hne:sg q=0:=by simpa using h1
 rw[if_neg (fun e=>e hne)] at hc;refine ae_ (r_m 2 ?_);refine a_z ?_;refine⟨(i+1,n,last),by simp only;omega,⟨hlt,hn0,by simp only;omega,hl0,hl1,hc⟩,?_⟩;simp only[nl_];exact s_x [] (fun hs=>e_7) (fun hs=>e_14)
 have hge:i=ch.length:=by
  have:¬i< ch.length:=by simpa using h
  omega
 subst hge;rw[List.drop_length] at hc;have hc':n=R:=hc;subst hc';refine am_ ⟨(),trivial,?_⟩;exact s_e [];rintro _ _;refine r_z 2 ?_;exact af_ (t_e (ad_ _))
end Go.Proofs.YtdjfjpeoddmamaaGreatDoor
