/- Part X19 of the proof. -/
import Derived.Test.YtjgokhkahkmpbaaGreatDoorX18
set_option linter.all false
namespace Go.Proofs.YtjgokhkahkmpbaaGreatDoor
open Go.Abs
set_option maxRecDepth 20000
theorem ER(l:Lq)(h0:l≠[])(hl:l.length≤1099511627776):OSpec Tryz.prog 77 [.arr (pE l)] 42 3 (pE l):=by
 have hne:pE l≠[]:=by
  intro e;exact h0 (List.length_eq_zero_iff.1 (by rw[←pT,e];rfl))
 refine OSpec.enter Tryz.func77 rfl (by kernel_rfl) rfl rfl rfl ?_ ?_ rfl ?_;exact ae (aR (aL _)) ai;exact aL l;refine r_z 1 ?_;refine ac (s_r 2 ?_);refine a_1 ?_
 first|refine ay (.nilq_v rfl rfl te_30.h) rfl rfl ?_|refine ay (.nilq_arr rfl (hne) rfl te_30.h) rfl rfl ?_
 refine an ?_;refine cF ?_
 ·refine ak (s_r 4 ?_)
  refine a_2 ?_;refine o_2 (.append_l rfl rfl rfl te_30.h rfl rfl rfl rfl rfl d_o (by first|exact eI _|exact eF _|exact ec _|exact eN _|exact eo _|assumption|rfl|simp) (by first|rfl|exact eI _|exact eF _|exact ec _|exact eN _|exact eo _|simp) rfl (.arr (gF _)) TZ.h rfl TB.h d_o (by first|(simp[maxLen];done)|(simp[maxLen];omega))) ?_;refine a_z ?_;exact aj (FinO.tmp rfl rfl rfl (by simp))
theorem os_Trim(l:Lq)(h0:av l≠[])(hl:l.length≤1099511627776):OSpec Tryz.prog 21 [.arr (pE l)] 42 3 (pE (av l)):=by
 refine OSpec.enter Tryz.func21 rfl (by kernel_rfl) rfl rfl rfl ?_ ?_ rfl ?_;exact ae (aR (aL _)) ai;exact aL _;refine r_z 1 ?_;refine r_z 3 ?_;refine aU (trS l) (fun n=>n≤l.length∧av l=l.take n) ?_ ?_;refine am (aC (trS l) (fun n=>n) (fun n=>n≤l.length∧av l=av (l.take n)) l.length ⟨Nat.le_refl _,by rw[List.take_length]⟩ ?_ ?_);simp only[trS.eq_1];exact s_e [];rintro n ⟨hn,ht⟩;rw[trS.eq_1];cases n with
 |zero=>exact absurd (ht.trans rfl) h0
 |succ n=>
  obtain⟨q,hq⟩:∃q,l[n]?=some q:=⟨_,List.getElem?_eq_getElem (by omega)⟩
  have hq':(pE l)[(((n+1:Nat):Int)- 1).toNat]?=some (qC q):=by
   rw[show(((n+1:Nat):Int)- 1).toNat=n by omega];exact b7 hq
  have hs:av (l.take (n+1))=if q=0 then av (l.take n) else l.take (n+1):=by
   rw[dA hq,kU]
  refine ac (s_r 11 ?_);refine a_3 ?_;refine y_g rfl (by simp <;> omega) (.move rfl) ?_;refine y_g rfl (by simp <;> omega) (.move rfl) ?_;refine y_g rfl (by simp <;> omega) (.bin rfl rfl (iD (by omega))) ?_
  first|refine y_g rfl (by simp <;> omega) (.index_l rfl rfl (by omega) (by omega) te_30.h) ?_|refine y_g rfl (by simp <;> omega) (.index_a rfl rfl (by omega) hq' rfl te_30.h) ?_
  first|refine y_g rfl (by simp <;> omega) (.load_l rfl rfl hq' TG.h TS.h (nle rfl)) ?_|refine y_g rfl (by simp <;> omega) (.load_a rfl hq' TG.h TS.h (nle rfl)) ?_
  refine y_g rfl (by simp <;> omega) (.call rfl rfl rfl (bY q)) ?_;refine y_g rfl (by simp <;> omega) (.bin rfl rfl aJ) ?_;refine o_0 (.pickT rfl (by simp <;> omega) rfl) ?_;refine an ?_;refine aq rfl (fun h=>?_) (fun h=>?_)
  have h0:q=0:=by
   have h1:sgZ q.num=0:=by simpa using h
   exact sgZ_num_eq.1 h1
  refine ak (am (r_m 3 ?_));refine a_z ?_;refine⟨n,Nat.lt_succ_self n,⟨by omega,?_⟩,?_⟩;rw[ht,hs,if_pos h0];simp only[trS.eq_1];exact s_e []
  have h0:q≠0:=by
   intro e;have h1:¬sgZ q.num=0:=by simpa using h
   exact h1 (sgZ_num_eq.2 e)
  refine aA ⟨n+1,⟨hn,?_⟩,?_⟩;rw[ht,hs,if_neg h0];simp only[trS.eq_1];exact s_e []
 rintro n ⟨hn,ht⟩;rw[trS.eq_1];rw[ht] at h0;have hcl:=ER (l.take n) h0 (by simp;omega);refine s_r 5 ?_;refine a_2 ?_;refine o_0 (.sa_h rfl rfl (h:=n) rfl (by simp;omega) te_30.h (gF _)) ?_;refine o_1 (.callO rfl rfl rfl ((by rw[kZ];exact hcl))) ?_;refine a_z ?_;refine aj ?_;rw[ht];exact FinO.tmp rfl rfl rfl (by simp)
def dvS(q:Lq)(lead:Rat):Nat×Lq×Lq→AState
 |(c,u,o)=>⟨[(0,.lsl 1 0 o.length none 3),(1,.arr (pE q)),(4,.lsl 2 0 u.length (some u.length) 3),(6,.lptr 3 0 0),(7,i64 ((c:Int)- 1))],[(1,some ⟨42,3,pE o⟩),(2,some ⟨42,3,pE u⟩),(3,some ⟨42,3,[qC lead]⟩)],4,82⟩
def dvT(q:Lq)(lead:Rat)(n:Nat)(u:Lq)(k:Rat):Nat×Lq→AState
 |(i,o)=>⟨[(0,.lsl 1 0 o.length none 3),(1,.arr (pE q)),(4,.lsl 2 0 u.length (some u.length) 3),(6,.lptr 3 0 0),(7,i64 n),(8,.lptr 4 0 0),(55,.arr (pE q)),(56,i64 q.length),(57,i64 i)],[(1,some ⟨42,3,pE o⟩),(2,some ⟨42,3,pE u⟩),(3,some ⟨42,3,[qC lead]⟩),(4,some ⟨42,3,[qC k]⟩)],5,82⟩
theorem qp(p q:Lq)(s t:Nat)(hp:bdL p s)(hq:bdL q t)(hs:1≤s)(ht:1≤t)(h:2^ ((av p).length+1- (av q).length) * (s+2* t+1)≤137438953472)(hq0:av q≠[])(hp1:p.length≤274877906944)(hq1:q.length≤274877906944):FS 78 [.arr (pE p),.arr (pE q)] (.tup [.arr (pE (j6 p q).1),.arr (pE (j6 p q).2)]):=by
 have hlp:=b9 p;have hlq:=b9 q;have hql:=List.length_pos_iff.2 hq0
 have hg:(pE (av q))[(((av q).length:Int)- 1).toNat]?=some (qC (aT q)):=by
  rw[show(((av q).length:Int)- 1).toNat=(av q).length- 1 by omega];exact b7 (fi (by omega))
 have hne:=l9 hq0;obtain⟨m,hm⟩:∃m,m=(av p).length+1- (av q).length:=⟨_,rfl⟩;have hmx:(if (0:Int)>((av p).length:Int)- (av q).length+1 then(0:Int) else((av p).length:Int)- (av q).length+1)=(m:Int):=by split <;> omega
 have hB:Br (av q) (aT q) 137438953472 m (List.replicate m 0) (av p):=by
  refine⟨s,t,dL (fun x hx=>hp x (dj hx)) hs,dL (fun x hx=>hq x (dj hx)) ht,hq _ (dj (List.mem_of_getElem? (fi (n:=(av q).length- 1) (by omega)))),ht,fun n=>?_,by rw[hm];exact h⟩
  have:coP (List.replicate m 0) n=0:=by
   unfold coP;rw[List.getD_eq_getElem?_getD,List.getElem?_replicate];split <;> rfl
  rw[this];decide
 have hdv:j6 p q=(av (pz (av q) (aT q) m (List.replicate m 0) (av p)).1,av (pz (av q) (aT q) m (List.replicate m 0) (av p)).2):=by rw[hm];rfl
 rw[hdv];refine f_c Tryz.func78 ?_;refine r_z 2 ?_;by_cases hp0:av p=[]
 ·have hm0:m=0:=by rw[hm,hp0];simp;omega
  subst hm0;rw[hp0] at hmx⊢;have htp:=ea p (by omega);rw[hp0] at htp;refine r_c 6 (htp) ?_;refine c_s (ea q (by omega)) ?_;refine a_z ?_;refine s_r 8 ?_;refine a_4 ?_;refine i_x hg ?_;refine l_x hg ?_;refine a_z ?_;refine s_r 9 ?_;refine a_7 ?_;refine o_1 (.makeSlice (l:=0) (c:=0) (by rw[←hmx];rfl) (by rw[←hmx];rfl) te_30.h TZ.h rfl TB.h (by first|omega|(simp;done)|(simp;omega)) (by first|omega|(simp;done)|(simp;omega)) (by unfold maxLen;first|omega|(simp;done)|(simp;omega))) ?_;refine a_z ?_;refine ac (r_z 6 ?_);refine aI (fun _:Unit=>⟨[(0,.arr (pE [])),(4,.lsl 2 0 0 (some 0) 3)],[(2,some ⟨42,3,[]⟩)],3,82⟩) (fun _=>True) ?_ ?_;refine am (aC (fun _:Unit=>⟨[(0,.arr (pE [])),(4,.lsl 2 0 0 (some 0) 3),(7,i64 (0- ((av q).length:Int)))],[(2,some ⟨42,3,[]⟩)],3,82⟩) (fun _=>0) (fun _=>True) () trivial ?_ ?_);exact s_x [(2,4)] (fun hs=>db) (fun hs=>e_16);rintro _ _;refine ac (r_z 2 ?_);refine aq rfl (fun h1=>?_) (fun h1=>?_);exact absurd h1 (by simp;omega);refine aA ⟨(),trivial,?_⟩;exact s_x [] (fun hs=>db) (fun hs=>e_16);rintro _ _;refine s_r 6 ?_;refine a_1 ?_;refine o_1 (.callS1 rfl rfl rfl (.shut rfl d_n (.nil)) rfl ((ea [] (by simp)))) ?_;refine c_s (ea [] (by simp)) ?_;refine a_z ?_;refine aj (Fin.many ⟨_,_,rfl,rfl,⟨_,_,rfl,rfl,rfl⟩⟩ (nle rfl) ?_);exact af (ah aB (ap _)) (af (ah aB (ap _)) ax)
 have hpl:=List.length_pos_iff.2 hp0;have hto:=os_Trim p hp0 (by omega);have hdl:=jQ (av q) (aT q) m (List.replicate m 0) (av p);have hend:=w4 hB;refine s_r 6 ?_;refine a_1 ?_;refine o_1 (.callO rfl rfl rfl (hto)) ?_;refine c_s (ea q (by omega)) ?_;refine a_z ?_;refine AWp.ent (st':=⟨[(0,.lsl 1 0 (av p).length none 3),(1,.arr (pE (av q)))],[(1,some ⟨42,3,pE (av p)⟩)],2,82⟩) ?_ ?_;exact s_e [(1,0)];refine s_r 8 ?_;refine a_4 ?_;refine i_x hg ?_;refine l_x hg ?_;refine a_z ?_;refine s_r 9 ?_;refine a_7 ?_;refine o_1 (.makeSlice (l:=m) (c:=m) (by rw[←hmx];rfl) (by rw[←hmx];rfl) te_30.h TZ.h rfl TB.h (by first|omega|(simp;done)|(simp;omega)) (by first|omega|(simp;done)|(simp;omega)) (by unfold maxLen;first|omega|(simp;done)|(simp;omega))) ?_;refine a_z ?_;refine ac (r_z 6 ?_);refine aI (fun x:Lq×Lq=>⟨[(0,.lsl 1 0 x.2.length none 3),(4,.lsl 2 0 x.1.length (some x.1.length) 3)],[(1,some ⟨42,3,pE x.2⟩),(2,some ⟨42,3,pE x.1⟩)],3,82⟩) (fun x=>x=pz (av q) (aT q) m (List.replicate m 0) (av p)) ?_ ?_;refine am ?_;by_cases hab:(av p).length< (av q).length;have hm0:m=0:=by omega
 subst hm0;refine aC (fun _:Unit=>⟨[(0,.lsl 1 0 (av p).length none 3),(4,.lsl 2 0 0 (some 0) 3),(7,i64 (((av p).length:Int)- ((av q).length:Int)))],[(1,some ⟨42,3,pE (av p)⟩),(2,some ⟨42,3,[]⟩)],3,82⟩) (fun _=>0) (fun _=>True) () trivial ?_ ?_;exact s_x [(1,0),(2,4)] (fun hs=>db) (fun hs=>e_16);rintro _ _;refine ac (r_z 2 ?_);refine aq rfl (fun h1=>?_) (fun h1=>?_);exact absurd h1 (by simp;omega);refine aA ⟨([],av p),rfl,?_⟩;exact s_f [];refine aC (fun x:Nat×Lq×Lq=>dvS (av q) (aT q) x) (fun x=>x.1) (fun x=>x.1≤m∧x.2.1.length=m∧x.2.2.length=(av p).length∧Br (av q) (aT q) 137438953472 x.1 x.2.1 x.2.2∧pz (av q) (aT q) x.1 x.2.1 x.2.2=pz (av q) (aT q) m (List.replicate m 0) (av p)) (m,List.replicate m 0,av p) ⟨Nat.le_refl _,by simp,rfl,hB,rfl⟩ ?_ ?_;simp only[dvS.eq_1];have hm1:((av p).length:Int)- (av q).length=(m:Int)- 1:=by omega
 rw[hm1];exact s_x [(1,0),(2,4),(3,6)] (fun hs=>db) (fun hs=>e_26);rintro⟨c,u,o⟩ ⟨hc,hu,ho,hb,hr⟩;simp only at hc hu ho hb hr;simp only[dvS.eq_1];cases c with
 |zero=>
  refine ac (r_z 2 ?_);refine aq rfl (fun h1=>?_) (fun h1=>?_);exact absurd h1 (by simp);refine aA ⟨(u,o),hr,?_⟩;exact s_e []
 |succ n=>
  obtain⟨B,tt,hb1,hb2,hb3,hb4⟩:=zg hb;have hcn:((n+1:Nat):Int)- 1=(n:Int):=by omega
  rw[hcn];refine ac (r_z 2 ?_);refine aq rfl (fun h1=>?_) (fun h1=>?_);refine ak ?_;obtain⟨k,hk⟩:∃k,k=coP o (n+(av q).length- 1) / aT q:=⟨_,rfl⟩;have hst:=vp hb;rw[pz] at hr;rw[←hk] at hst hr
  have hgo:(pE o)[(0+(((n:Nat):Int)+((av q).length:Nat)- 1).toNat)]?=some (qC (coP o (n+(av q).length- 1))):=by
   rw[show 0+(((n:Nat):Int)+((av q).length:Nat)- 1).toNat=n+(av q).length- 1 by omega];exact b7 (bv (by omega))
  have hov:=fR (coP o (n+(av q).length- 1)) (aT q) hne (by have:=hb1 (n+(av q).length- 1);omega);rw[←hk] at hov
  have hgu:(pE u)[0+((n:Nat):Int).toNat]?=some (qC (coP u n)):=by
   rw[show 0+((n:Nat):Int).toNat=n by omega];exact b7 (bv (by omega))
  refine ac (am (ac (r_d hmix 12 ?_)));refine a_7 ?_
  first|refine ay (.load_l rfl rfl hgo TG.h TS.h (nle rfl)) rfl rfl ?_|refine ay (.load_a rfl hgo TG.h TS.h (nle rfl)) rfl rfl ?_
  refine c_s (hov) ?_;refine a_2 ?_;refine an (n_k ?_);refine s_r 5 ?_;refine a_4 ?_;refine fk (.store rfl rfl hgu rfl rfl rfl TS.h (nle rfl)) ?_;refine an ?_
  have hsu:(pE u).set (0+((n:Nat):Int).toNat) (qC k)=pE (u.set n k):=by
   rw[show 0+((n:Nat):Int).toNat=n by omega,lc]
  have hlu:(u.set n k).length=u.length:=by simp
  refine ac (r_c 3 (bY k) ?_);refine a_z ?_;refine aq rfl (fun h2=>?_) (fun h2=>?_)
  have h0:k=0:=by
   have h2:sgZ k.num=0:=by simpa using h2
   exact sgZ_num_eq.1 h2
  rw[if_pos h0] at hst hr;refine aA (r_m 3 ?_);refine a_z ?_;refine⟨(n,u.set n k,o),Nat.lt_succ_self n,⟨by omega,by simp only;omega,ho,hst,hr⟩,?_⟩;simp only[dvS.eq_1,hlu];exact s_f []
  have h0:k≠0:=by
   intro e;have h2:¬sgZ k.num=0:=by simpa using h2
   exact h2 (sgZ_num_eq.2 e)
  rw[if_neg h0] at hst hr;refine ak (r_z 3 ?_);refine AWp.cutB (fun _:Unit=>⟨[(0,.lsl 1 0 o.length none 3),(1,.arr (pE (av q))),(4,.lsl 2 0 u.length (some u.length) 3),(6,.lptr 3 0 0),(7,i64 n)],[(1,some ⟨42,3,pE (jv o k (av q) n (av q).length)⟩),(2,some ⟨42,3,pE (u.set n k)⟩),(3,some ⟨42,3,[qC (aT q)]⟩)],4,82⟩) (fun _=>True) ?_ ?_;refine am (aC (fun i:Nat=>dvT (av q) (aT q) n (u.set n k) k (i,jv o k (av q) n i)) (fun i=>(av q).length- i) (fun i=>i≤(av q).length) 0 (Nat.zero_le _) ?_ ?_);simp only[dvT.eq_1,jv,hlu];exact s_f [(4,8)];rintro i hi;simp only[dvT.eq_1];refine r_z 1 ?_;refine ac (aq rfl (fun h3=>?_) (fun h3=>?_));refine ak ?_;have hlt2:i< (av q).length:=by simpa using h3
  have hgq:(pE (av q))[((i:Nat):Int).toNat]?=some (qC (coP (av q) i)):=b7 (bv hlt2)
  have hcur:qs (coP (jv o k (av q) n i) (n+i))≤B:=by
   rw[xT _ _ _ _ _ _ (by omega)];exact hb1 _
  have hkq:qs k≤B+tt:=by
   have e1:=fP (coP o (n+(av q).length- 1)) (aT q);have e2:=hb1 (n+(av q).length- 1);rw[hk];omega
  have hkm:=eV k (coP (av q) i);have hqi:=hb2 i;have hik:n+i< (jv o k (av q) n i).length:=by simp;omega
  have hgr:(pE (jv o k (av q) n i))[(0+(((n:Nat):Int)+(i:Nat)).toNat)]?=some (qC (coP (jv o k (av q) n i) (n+i))):=by
   rw[show 0+(((n:Nat):Int)+(i:Nat)).toNat=n+i by omega];exact b7 (bv hik)
  refine ac (am (s_r 6 ?_));refine a_1 ?_;refine i_x hgq ?_;refine l_x hgq ?_;refine a_z ?_;refine r_d hmix 16 ?_;refine a_8 ?_;refine a_1 ?_
  first|refine ay (.load_l rfl rfl hgr TG.h TS.h (nle rfl)) rfl rfl ?_|refine ay (.load_a rfl hgr TG.h TS.h (nle rfl)) rfl rfl ?_
  refine c_s (dx k (coP (av q) i) (by omega)) ?_;refine c_s (iP (coP (jv o k (av q) n i) (n+i)) (k* coP (av q) i) (by omega)) ?_;refine a_1 ?_;refine fk (.store rfl rfl hgr rfl rfl rfl TS.h (nle rfl)) ?_;refine an (n_k ?_);refine r_m 2 ?_;refine a_z ?_;refine⟨i+1,by omega,hlt2,?_⟩
  have hst2:(pE (jv o k (av q) n i)).set (0+(((n:Nat):Int)+(i:Nat)).toNat) (qC (coP (jv o k (av q) n i) (n+i)- k* coP (av q) i))=pE (jv o k (av q) n (i+1)):=by
   rw[show 0+(((n:Nat):Int)+(i:Nat)).toNat=n+i by omega,lc];rfl
  have hl2:(jv o k (av q) n (i+1)).length=(jv o k (av q) n i).length:=by simp
  simp only[dvT.eq_1,hl2];exact s_x [] (fun hs=>db) (fun hs=>e_27) e_1
  have hge:i=(av q).length:=by
   have:¬i< (av q).length:=by simpa using h3
   omega
  subst hge;refine aA ⟨(),trivial,?_⟩;rw[lZ,hlu];exact s_e [];rintro _ _;refine r_m 3 ?_;refine a_z ?_;refine⟨(n,u.set n k,jv o k (av q) n (av q).length),Nat.lt_succ_self n,⟨by omega,by simp only;omega,by simp only;rw[lZ];exact ho,hst,hr⟩,?_⟩;simp only[dvS.eq_1,hlu,lZ];exact s_e [];exact absurd h1 (by simp)
 rintro⟨u,o⟩ hx;rw[←hx] at hdl hend⊢;simp only at hdl hend⊢;have hlu:u.length≤274877906945:=by rw[hdl.1];simp;omega
 have hfu:List.take u.length (List.drop 0 (pE u))=pE u:=by rw[List.drop_zero,List.take_of_length_le (by simp)]
 have hfo:List.take o.length (List.drop 0 (pE o))=pE o:=by rw[List.drop_zero,List.take_of_length_le (by simp)]
 refine s_r 6 ?_;refine a_1 ?_;refine o_1 (.callS1 rfl rfl rfl (.shut rfl d_n (.nil)) rfl ((by rw[hfu];exact ea u (by omega)))) ?_;refine a_1 ?_;refine o_1 (.callS1 rfl rfl rfl (.shut rfl d_n (.nil)) rfl ((by rw[hfo];exact ea o (by rw[hdl.2];omega)))) ?_;refine a_z ?_;refine aj (Fin.many ⟨_,_,rfl,rfl,⟨_,_,rfl,rfl,rfl⟩⟩ (nle rfl) ?_);exact af (ah aB (ap _)) (af (ah aB (ap _)) ax)
def gcS:Lq×Lq→AState
 |(p,q)=>⟨[(0,.arr (pE p)),(1,.arr (pE q))],[],1,21⟩
theorem AK(p:Lq)(q:Lq):gcS (p,q)=⟨[(0,.arr (pE p)),(1,.arr (pE q))],[],1,21⟩:=rfl
theorem degP_neg{l:Lq}:cC l< 0↔av l=[]:=by
 unfold cC;constructor;intro h;exact List.length_eq_zero_iff.1 (by omega);intro h;rw[h];decide
theorem FC(f:Nat)(p q g:Lq)(h:Dz f p q=some g)(hp1:p.length≤274877906944)(hq1:q.length≤274877906944):FS 23 [.arr (pE p),.arr (pE q)] (.arr (pE g)):=by
 refine f_c Tryz.func23 ?_;refine r_z 1 ?_;refine aU (fun p:Lq=>⟨[(0,.arr (pE p))],[],1,21⟩) (fun p=>smL p∧p.length≤274877906944∧g=jV p) ?_ ?_;refine am (aC (fun x:Nat×Lq×Lq=>gcS x.2) (fun x=>x.1) (fun x=>Dz x.1 x.2.1 x.2.2=some g∧x.2.1.length≤274877906944∧x.2.2.length≤274877906944) (f,p,q) ⟨h,hp1,hq1⟩ ?_ ?_);simp only[AK];exact s_e [];rintro⟨f,p,q⟩ ⟨h,hp1,hq1⟩;simp only at h hp1 hq1;simp only[AK];cases f with
 |zero=>cases h
 |succ f=>
  rw[Dz] at h;refine ac (r_c 3 (cr q (by omega)) ?_);refine a_z ?_;refine aq rfl (fun h1=>?_) (fun h1=>?_)
  ·have hq0:av q≠[]:=by
    intro e;have e2:=degP_neg.2 e;simp at h1;omega
   rw[if_neg hq0] at h;split at h
   case isFalse=>cases h
   case isTrue hs=>
   have hl:=tW (p:=p) (q:=q);have hm:=Aw (j6 p q).2;refine ak (am (r_c 8 (qp p q (mxL p) (mxL q) (dK p) (dK q) (dZ p) (dZ q) hs.1 hq0 hp1 hq1) ?_));refine a_z ?_;refine r_m 5 ?_;refine c_s (tA (j6 p q).2 (w6 hs hq0).2 (by omega)) ?_;refine a_z ?_;refine⟨(f,q,jV (j6 p q).2),Nat.lt_succ_self f,⟨h,hq1,by simp only;omega⟩,?_⟩;simp only[AK];exact s_e []
  ·have hq0:av q=[]:=by
    refine degP_neg.1 ?_;simp at h1;omega
   rw[if_pos hq0] at h;split at h
   case isFalse=>cases h
   case isTrue hs=>
   cases h;refine aA ⟨p,⟨hs,hp1,rfl⟩,?_⟩;exact s_e []
 rintro p ⟨hs,hp1,rfl⟩;refine r_c 3 (tA p hs (by omega)) ?_;refine a_z ?_;exact aj (t_e (ap _))

theorem jY(l:Lq)(hl:l.length≤281474976710656):GSpec Tryz.prog 232 [bP l] (kO l):=by
 refine GSpec.enter Tryz.func232 rfl (by kernel_rfl) rfl rfl rfl ?_ ?_ rfl ?_;exact ae (cu l) ai;intro k xs h;unfold kO at h;split at h;cases h;exact ae (ag _) (ae (aO _) ai);cases h;intro ll N E;refine GWp.seq ?_;refine GWp.lift ?_;refine r_m 4 ?_;refine a_z ?_;refine GWp.block ?_;refine GWp.loopS (fun m:Nat=>⟨[(0,.v (.func (.yield ll) #[] #[])),(1,bP l),(3,i64 ((m:Int)- 1))],[],1,19⟩) (fun m=>l.length- m) (fun m=>m) (fun m=>m≤l.length) l.length (Nat.le_refl _) (by simp) ?_ ?_;exact s_e [];intro m hm;refine GWp.seq ?_;refine GWp.seq ?_;refine GWp.lift ?_;refine r_m 2 ?_;refine a_z ?_;refine GWp.cond rfl (fun h=>?_) (fun h=>?_)
 ·refine GWp.skip ?_
  have hm1:1≤m:=by have:=of_decide_eq_true h;omega
  have hx':(pE l)[((m:Int)- 1).toNat]?=some (qC (coP l (m- 1))):=by rw[show((m:Int)- 1).toNat=m- 1 by omega];exact b7 (bv (by omega))
  refine GWp.seq ?_;refine GWp.block ?_;refine GWp.seq ?_;refine GWp.regY (fr2:=[(0,.v (.func (.yield ll) #[] #[])),(1,bP l),(3,i64 ((m:Int)- 1)),(11,.v (.func (.yield ll) #[] #[])),(12,i64 ((m:Int)- 1)),(16,.agg (qC (coP l (m- 1))))]) (hp2:=[]) (nx2:=1) 6 rfl rfl rfl rfl rfl rfl ?_ rfl rfl rfl ?_ ?_ ?_;refine o_0 (.move rfl) ?_;refine o_0 (.move rfl) ?_
  first|refine ay (.load_l1 rfl rfl rfl TG.h rfl) rfl rfl ?_|refine ay (.load_a1 rfl rfl TG.h rfl) rfl rfl ?_
  refine o_0 (.move rfl) ?_;refine i_x hx' ?_;refine l_x hx' ?_;refine an ?_;exact s_y [] (fun hs=>db) (fun hs=>jG);rotate_left 2;intro go;refine o_0 (.un rfl jR) ?_;refine an ?_;rotate_left;unfold kO;rw[if_pos (by omega)];have e1:((l.length- 1- (l.length- m):Nat):Int)=(m:Int)- 1:=by omega
  have e2:l.length- 1- (l.length- m)=m- 1:=by omega
  rw[e1,e2];rfl;exact ae (ag _) (ae (aO _) ai);cases go with
  |false=>
   refine GWp.cond rfl (fun h=>?_) (fun h=>?_);exact GWp.ret ⟨.inr rfl,fun h=>by cases h⟩;cases h
  |true=>
   refine GWp.cond rfl (fun h=>?_) (fun h=>?_);cases h;refine GWp.skip ?_;refine GWp.lift ?_;refine r_m 3 ?_;refine a_z ?_;refine⟨rfl,m- 1,by omega,by omega,by omega,?_⟩;exact s_e []
 refine GWp.exit ⟨.inl rfl,fun _=>?_⟩;have:m=0:=by have:=of_decide_eq_false h;omega
 subst this;unfold kO;rw[if_neg (by omega)]
theorem j5(l:Lq):FS 197 [.arr (pE l)] (.clos 232 [] [bP l]):=by
 refine f_c Tryz.func197 ?_;refine r_z 2 ?_;refine r_z 2 ?_;refine aj (⟨.inr rfl,[_],⟨_,[],rfl,rfl,rfl⟩,?_⟩);exact Cv.clos ax (af (Cv.boxp aB rfl (fun _ _ h=>by cases h) rfl (ae (ap l) ai)) ax)
def hoS(p:Lq)(g:Nat)(cap:La)(w:Nat→Rat):Nat→AState
 |k=>⟨[(4,.lptr 1 0 0),(5,.aptr [[.clos g [] cap]] 0 0),(6,.lptr 2 0 0),(10,.clos 232 [] [bP p])],[(1,some ⟨42,3,[qC (w k)]⟩),(2,some ⟨42,3,[zC]⟩)],3,18⟩
theorem AZ(p:Lq)(g:Nat)(cap:La)(w:Nat→Rat)(hl:p.length≤281474976710656)(hcap:∀c∈cap,Closed c)(hg:∀k,k< p.length→FS g ((.agg (qC (w k)):: .agg (qC (coP p (p.length- 1- k)))::cap).map coe) (.agg (qC (w (k+1))))):FS 148 [.arr (pE p),.agg (qC (w 0)),.clos g [] cap] (.agg (qC (w p.length))):=by
 have hb:=j5 p;have hgs:=jY p hl;have hcc:Closed (.clos g [] cap):=aV ai hcap;have hcc2:Closed (.aptr [[.clos g [] cap]] 0 0):=ba (ae hcc ai);have hcl2:Closed (.clos 232 [] [bP p]):=aV ai (ae (cu p) ai);refine f_c Tryz.func148 ?_;refine r_z 3 ?_;refine AWp.ent (st':=⟨[(0,.arr (pE p)),(4,.lptr 1 0 0),(5,.aptr [[.clos g [] cap]] 0 0),(6,.lptr 2 0 0)],[(1,some ⟨42,3,[qC (w 0)]⟩),(2,some ⟨42,3,[zC]⟩)],3,18⟩) ?_ ?_;have:=ae hcc ai;exact s_f [(1,4),(2,6)];refine ac (r_c 2 (hb) ?_);refine an ?_;refine aI (fun _:Unit=>⟨[(4,.lptr 1 0 0),(6,.lptr 2 0 0)],[(1,some ⟨42,3,[qC (w p.length)]⟩),(2,some ⟨42,3,[zC]⟩)],3,18⟩) (fun _=>True) ?_ ?_;refine am (AWp.rangeFunc (α:=Nat) (γ:=Empty) p.length (hoS p g cap w) (fun k=>k) (fun k=>k≤p.length) (fun e=>nomatch e) (fun _ e=>nomatch e) 0 rfl hgs rfl rfl ?_ (fun _=>⟨rfl,rfl⟩) (fun e=>nomatch e) (Nat.zero_le _) rfl (fun _ h=>h) ?_ ?_ ?_ ?_ (fun _ e=>nomatch e));intro k xs hT;unfold kO at hT;split at hT;cases hT;rfl;cases hT;rw[hoS.eq_1];exact s_y [] (fun hs=>db) (fun hs=>jG);exact ae (cu p) ai
 ·intro l k xs hk hT
  unfold kO at hT;split at hT;rotate_left;cases hT;rename_i hlt;cases hT;show AWp _ _ _ _ ⟨[(12,.agg (qC (coP p (p.length- 1- k)))),(11,i64 (p.length- 1- k:Nat)),(4,.lptr 1 0 0),(5,.aptr [[.clos g [] cap]] 0 0),(6,.lptr 2 0 0),(10,.clos 232 [] [bP p]),(1004,.lptr 1 0 0),(1005,.aptr [[.clos g [] cap]] 0 0),(1006,.lptr 2 0 0),(1010,.clos 232 [] [bP p])],[(1,some ⟨42,3,[qC (w k)]⟩),(2,some ⟨42,3,[zC]⟩)],3,18⟩;refine r_m 2 ?_;refine a_z ?_;refine am (r_m 5 ?_);refine c_s (hg k hlt) ?_;refine a_z ?_;refine⟨k+1,⟨hlt,rfl⟩,?_⟩;show SEntT _ ⟨[(1004,.lptr 1 0 0),(1005,.aptr [[.clos g [] cap]] 0 0),(1006,.lptr 2 0 0),(1010,.clos 232 [] [bP p])],[(1,some ⟨42,3,[qC (w (k+1))]⟩),(2,some ⟨42,3,[zC]⟩)],3,18⟩;exact s_y [] (fun hs=>db) (fun hs=>jG)
 intro k hk hT;unfold kO at hT;split at hT;cases hT;refine⟨(),trivial,?_⟩;rw[hoS.eq_1];have h1:k=p.length:=by omega
 subst h1;exact s_e [];rintro _ _;refine r_z 2 ?_;exact aj (c_e (aO _))
theorem FD(v c x:Rat)(h1:qs v+qs x≤549755813888)(h2:qs (v* x)+qs c≤549755813888):FS 149 [.agg (qC v),.agg (qC c),bQ x] (.agg (qC (v* x+c))):=by
 refine f_c Tryz.func149 ?_;refine r_z 3 ?_;refine ac (r_d hmix 6 ?_);refine c_s (dx v x h1) ?_;refine c_s (fz (v* x) c h2) ?_;refine a_1 ?_;refine an (n_k ?_);exact aj (c_e (aO _))
theorem e8(p:Lq)(x:Rat)(h:dP p x):FS 91 [.arr (pE p),.agg (qC x)] (.agg (qC (aF p x))):=by
 have hw:∀k,k< p.length→FS 149 [.agg (qC (aF (p.drop (p.length- k)) x)),.agg (qC (coP p (p.length- 1- k))),bQ x] (.agg (qC (aF (p.drop (p.length- (k+1))) x))):=fun k hk=>by
  have:=Bh h k hk;rw[qB hk];exact FD _ _ _ this.1 this.2
 have hh:=AZ p 149 [bQ x] (fun k=>aF (p.drop (p.length- k)) x) (by have:=h.2;omega) (ae (aQ x) ai) hw;simp only[Nat.sub_zero,Nat.sub_self,List.drop_zero,List.drop_length] at hh;rw[show aF [] x=0 from rfl,qC0] at hh;refine f_c Tryz.func91 ?_;refine r_z 2 ?_;refine AWp.ent (st':=⟨[(0,.arr (pE p)),(3,bQ x),(4,.lptr 1 0 0)],[(1,some ⟨42,3,[zC]⟩)],2,9⟩) ?_ ?_;exact s_e [(1,4)];refine r_c 5 (hh) ?_;refine a_z ?_;exact aj (c_e (aO _))
def hsS(p:Lq)(g:Nat)(cap:La)(w:Nat→Rat×Rat):Nat→AState
 |k=>⟨[(4,.lptr 1 0 0),(5,.aptr [[.clos g [] cap]] 0 0),(6,.lptr 2 0 0),(10,.clos 232 [] [bP p])],[(1,some ⟨44,6,[spC (w k).1 (w k).2]⟩),(2,some ⟨44,6,[zC++zC]⟩)],3,18⟩
theorem AW(p:Lq)(g:Nat)(cap:La)(w:Nat→Rat×Rat)(hl:p.length≤281474976710656)(hcap:∀c∈cap,Closed c)(hg:∀k,k< p.length→FS g ((.agg (spC (w k).1 (w k).2):: .agg (qC (coP p (p.length- 1- k)))::cap).map coe) (.agg (spC (w (k+1)).1 (w (k+1)).2))):FS 276 [.arr (pE p),.agg (spC (w 0).1 (w 0).2),.clos g [] cap] (.agg (spC (w p.length).1 (w p.length).2)):=by
 have hb:=j5 p;have hgs:=jY p hl;have hcc:Closed (.clos g [] cap):=aV ai hcap;have hcc2:Closed (.aptr [[.clos g [] cap]] 0 0):=ba (ae hcc ai);have hcl2:Closed (.clos 232 [] [bP p]):=aV ai (ae (cu p) ai);refine f_c Tryz.func276 ?_;refine r_z 3 ?_;refine AWp.ent (st':=⟨[(0,.arr (pE p)),(4,.lptr 1 0 0),(5,.aptr [[.clos g [] cap]] 0 0),(6,.lptr 2 0 0)],[(1,some ⟨44,6,[spC (w 0).1 (w 0).2]⟩),(2,some ⟨44,6,[zC++zC]⟩)],3,18⟩) ?_ ?_;have:=ae hcc ai;exact s_f [(1,4),(2,6)];refine ac (r_c 2 (hb) ?_);refine an ?_;refine aI (fun _:Unit=>⟨[(4,.lptr 1 0 0),(6,.lptr 2 0 0)],[(1,some ⟨44,6,[spC (w p.length).1 (w p.length).2]⟩),(2,some ⟨44,6,[zC++zC]⟩)],3,18⟩) (fun _=>True) ?_ ?_;refine am (AWp.rangeFunc (α:=Nat) (γ:=Empty) p.length (hsS p g cap w) (fun k=>k) (fun k=>k≤p.length) (fun e=>nomatch e) (fun _ e=>nomatch e) 0 rfl hgs rfl rfl ?_ (fun _=>⟨rfl,rfl⟩) (fun e=>nomatch e) (Nat.zero_le _) rfl (fun _ h=>h) ?_ ?_ ?_ ?_ (fun _ e=>nomatch e));intro k xs hT;unfold kO at hT;split at hT;cases hT;rfl;cases hT;rw[hsS.eq_1];exact s_y [] (fun hs=>db) (fun hs=>jG);exact ae (cu p) ai
 ·intro l k xs hk hT
  unfold kO at hT;split at hT;rotate_left;cases hT;rename_i hlt;cases hT;show AWp _ _ _ _ ⟨[(12,.agg (qC (coP p (p.length- 1- k)))),(11,i64 (p.length- 1- k:Nat)),(4,.lptr 1 0 0),(5,.aptr [[.clos g [] cap]] 0 0),(6,.lptr 2 0 0),(10,.clos 232 [] [bP p]),(1004,.lptr 1 0 0),(1005,.aptr [[.clos g [] cap]] 0 0),(1006,.lptr 2 0 0),(1010,.clos 232 [] [bP p])],[(1,some ⟨44,6,[spC (w k).1 (w k).2]⟩),(2,some ⟨44,6,[zC++zC]⟩)],3,18⟩;refine r_m 2 ?_;refine a_z ?_;refine am (r_m 5 ?_);refine c_s (hg k hlt) ?_;refine a_z ?_;refine⟨k+1,⟨hlt,rfl⟩,?_⟩;show SEntT _ ⟨[(1004,.lptr 1 0 0),(1005,.aptr [[.clos g [] cap]] 0 0),(1006,.lptr 2 0 0),(1010,.clos 232 [] [bP p])],[(1,some ⟨44,6,[spC (w (k+1)).1 (w (k+1)).2]⟩),(2,some ⟨44,6,[zC++zC]⟩)],3,18⟩;exact s_y [] (fun hs=>db) (fun hs=>jG)
 intro k hk hT;unfold kO at hT;split at hT;cases hT;refine⟨(),trivial,?_⟩;rw[hsS.eq_1];have h1:k=p.length:=by omega
 subst h1;exact s_e [];rintro _ _;refine r_z 2 ?_;exact aj (c_e (bq _ _))
abbrev bS(s:Sp):AV:= .aptr [spC s.1 s.2] 0 0
theorem bw(s:Sp):Closed (bS s):=ba (cf _ _)
theorem Er{a b:Sp}(h:smL (ya a b)):smS (sk a b):=⟨ij h,ij h⟩
theorem FA(v s:Sp)(c:Rat)(hv:smS v)(hs:smS s)(hc:sm c)(hp:smL (ya v s)):FS 277 [.agg (spC v.1 v.2),.agg (qC c),bS s] (.agg (spC (BY (sk v s) (c,c)).1 (BY (sk v s) (c,c)).2)):=by
 have hm:=Er hp;refine f_n Tryz.func277 ?_ ?_;exact ae (bq _ _) (ae (aO c) (ae (bw s) ai));refine r_z 3 ?_;refine ac (r_d hmix 7 ?_);refine c_s (fs_SMul v.1 v.2 s.1 s.2 hv.1 hv.2 hs.1 hs.2 hp) ?_;refine c_s (yV c) ?_;refine c_s (fs_SAdd (sk v s).1 (sk v s).2 c c hm.1 hm.2 hc hc) ?_;refine a_1 ?_;refine an (n_k ?_);exact aj (c_e (bq _ _))
theorem fs_Over(p:Lq)(s:Sp)(h:wl p s):FS 257 [.arr (pE p),.agg (spC s.1 s.2)] (.agg (spC (gX p s).1 (gX p s).2)):=by
 obtain⟨hsm,hs,hl,hov⟩:=h;have htl:=b9 p;refine f_c Tryz.func257 ?_;refine r_z 2 ?_;refine AWp.ent (st':=⟨[(0,.arr (pE p)),(3,bS s),(4,.lptr 1 0 0)],[(1,some ⟨44,6,[zC++zC]⟩)],2,30⟩) ?_ ?_;exact s_e [(1,4)];refine r_c 3 (ea p (by omega)) ?_;refine a_z ?_;refine aU (fun _:Unit=>⟨[(0,.arr (pE (av p))),(3,bS s),(4,.lptr 1 0 0)],[(1,some ⟨44,6,[zC++zC]⟩)],2,30⟩) (fun _=>cZ s.1 s.2≤0∧av p≠[]) ?_ ?_;by_cases hv:cZ s.1 s.2≤0;refine r_c 8 (gq s.1 s.2 hs.1 hs.2) ?_;refine a_2 ?_;refine y_g rfl (by simp[hv]) (.move rfl) ?_
 first|refine y_g rfl (by simp[hv]) (.lenD rfl rfl rfl rfl te_30.h) ?_|refine y_g rfl (by simp[hv]) (.lenI rfl rfl rfl rfl te_30.h) ?_|refine y_g rfl (by simp[hv]) (.lenP rfl rfl rfl rfl te_30.h) ?_|refine y_g rfl (by simp[hv]) (.lenC rfl rfl rfl rfl te_30.h) ?_|refine y_g rfl (by simp[hv]) (.lenR rfl rfl rfl rfl te_30.h) ?_|refine y_g rfl (by simp[hv]) (.len rfl rfl rfl rfl rfl te_30.h) ?_
 refine y_g rfl (by simp[hv]) (.bin rfl rfl aJ) ?_;refine o_0 (.pickF rfl (by simp[hv]) rfl) ?_;refine an ?_;refine aq rfl (fun h1=>?_) (fun h1=>?_)
 have h0:av p=[]:=by
  have:(av p).length=0:=by simpa using h1
  exact List.length_eq_zero_iff.1 this
 have hr:gX p s=(0,0):=by unfold gX;rw[if_pos (.inr h0)]
 rw[hr];refine r_z 2 ?_;refine aj (Fin.cell rfl rfl rfl TG.h TS.h (nle rfl) (Cv.agg ?_));show CvL _ _ _ _ (qC 0++qC 0);rw[qC0];exact af (Cv.emp _) (af (ah aB (ag _)) (af (Cv.emp _) (af (Cv.emp _) (af (ah aB (ag _)) (af (Cv.emp _) ax)))))
 have h0:av p≠[]:=by
  have:¬(av p).length=0:=by simpa using h1
  exact fun e=>this (by rw[e];rfl)
 refine ak ⟨(),⟨hv,h0⟩,?_⟩;exact s_e [];refine r_c 8 (gq s.1 s.2 hs.1 hs.2) ?_;refine a_2 ?_;refine n_g rfl (by simp[hv]) ?_;refine n_g rfl (by simp[hv]) ?_;refine n_g rfl (by simp[hv]) ?_;refine o_0 (.pickT rfl (by simp[hv]) rfl) ?_;refine an ?_;refine aq rfl (fun h1=>?_) (fun h1=>?_);have hr:gX p s=(0,0):=by unfold gX;rw[if_pos (.inl hv)]
 rw[hr];refine r_z 2 ?_;refine aj (Fin.cell rfl rfl rfl TG.h TS.h (nle rfl) (Cv.agg ?_));show CvL _ _ _ _ (qC 0++qC 0);rw[qC0];exact af (Cv.emp _) (af (ah aB (ag _)) (af (Cv.emp _) (af (Cv.emp _) (af (ah aB (ag _)) (af (Cv.emp _) ax)))));cases h1;rintro _ ⟨hv,h0⟩;have hpl:=List.length_pos_iff.2 h0
 have hr:gX p s=ovP (aT p,aT p) s ((av p).take ((av p).length- 1)):=by
  unfold gX;rw[if_neg (by rintro(e|e);exact e hv;exact h0 e)]
 obtain⟨l,hll⟩:∃l,l=(av p).take ((av p).length- 1):=⟨_,rfl⟩;rw[←hll] at hov hr;rw[hr];have hlen:l.length=(av p).length- 1:=by rw[hll];simp
 have hsml:∀q∈l,sm q:=fun q hq=>hsm q (dj (List.mem_of_mem_take (by rw[←hll];exact hq)))
 have hw:∀k,k< l.length→FS 277 [.agg (spC (ovP (aT p,aT p) s (l.drop (l.length- k))).1 (ovP (aT p,aT p) s (l.drop (l.length- k))).2),.agg (qC (coP l (l.length- 1- k))),bS s] (.agg (spC (ovP (aT p,aT p) s (l.drop (l.length- (k+1)))).1 (ovP (aT p,aT p) s (l.drop (l.length- (k+1)))).2)):=fun k hk=>by
  have h1:=u5 (l.length- (k+1)) hov;rw[qB hk] at h1⊢;exact FA _ s _ (okOv_sm h1.1) hs h1.2.2.1 h1.2.1
 have hh:=AW l 277 [bS s] (fun k=>ovP (aT p,aT p) s (l.drop (l.length- k))) (by omega) (ae (bw s) ai) hw;simp only[Nat.sub_zero,Nat.sub_self,List.drop_zero,List.drop_length] at hh
 have hg:(pE (av p))[(((av p).length:Int)- 1).toNat]?=some (qC (aT p)):=by
  rw[show(((av p).length:Int)- 1).toNat=(av p).length- 1 by omega];exact b7 (fi (by omega))
 refine r_z 4 ?_;refine ac (r_d hmix 11 ?_);refine a_2 ?_;refine o_0 (.sa_h rfl rfl (h:=(av p).length- 1) (by omega) (by simp) te_30.h (gF _)) ?_;refine a_2 ?_;refine i_x hg ?_;refine l_x hg ?_;refine c_s (yV (aT p)) ?_;refine o_0 (.makeFunc rfl rfl) ?_;refine o_0 (.call rfl rfl rfl ((by rw[kZ,←hll];exact hh))) ?_;refine fk (.store rfl rfl rfl rfl rfl rfl TS.h (nle rfl)) ?_;refine an (n_k ?_);exact aj (c_e (bq _ _))
def hpS(p:Lq)(g:Nat)(cap:La)(w:Nat→Lq):Nat→AState
 |k=>⟨[(4,.lptr 1 0 0),(5,.aptr [[.clos g [] cap]] 0 0),(10,.clos 232 [] [bP p])],[(1,some ⟨30,1,[[.arr (pE (w k))]]⟩)],2,18⟩
theorem A0(p:Lq)(g:Nat)(cap:La)(w:Nat→Lq)(hl:p.length≤281474976710656)(hcap:∀c∈cap,Closed c)(hg:∀k,k< p.length→FS g ((.arr (pE (w k)):: .agg (qC (coP p (p.length- 1- k)))::cap).map coe) (.arr (pE (w (k+1))))):FS 164 [.arr (pE p),.arr (pE (w 0)),.clos g [] cap] (.arr (pE (w p.length))):=by
 have hb:=j5 p;have hgs:=jY p hl;have hcc:Closed (.clos g [] cap):=aV ai hcap;have hcc2:Closed (.aptr [[.clos g [] cap]] 0 0):=ba (ae hcc ai);have hcl2:Closed (.clos 232 [] [bP p]):=aV ai (ae (cu p) ai);refine f_c Tryz.func164 ?_;refine r_z 3 ?_;refine AWp.ent (st':=⟨[(0,.arr (pE p)),(4,.lptr 1 0 0),(5,.aptr [[.clos g [] cap]] 0 0)],[(1,some ⟨30,1,[[.arr (pE (w 0))]]⟩)],2,18⟩) ?_ ?_;have:=ae hcc ai;exact s_f [(1,4)];refine ac (r_c 2 (hb) ?_);refine an ?_;refine aI (fun _:Unit=>⟨[(4,.lptr 1 0 0)],[(1,some ⟨30,1,[[.arr (pE (w p.length))]]⟩)],2,18⟩) (fun _=>True) ?_ ?_;refine am (AWp.rangeFunc (α:=Nat) (γ:=Empty) p.length (hpS p g cap w) (fun k=>k) (fun k=>k≤p.length) (fun e=>nomatch e) (fun _ e=>nomatch e) 0 rfl hgs rfl rfl ?_ (fun _=>⟨rfl,rfl⟩) (fun e=>nomatch e) (Nat.zero_le _) rfl (fun _ h=>h) ?_ ?_ ?_ ?_ (fun _ e=>nomatch e));intro k xs hT;unfold kO at hT;split at hT;cases hT;rfl;cases hT;rw[hpS.eq_1];exact s_y [] (fun hs=>db) (fun hs=>jG);exact ae (cu p) ai
 ·intro l k xs hk hT
  unfold kO at hT;split at hT;rotate_left;cases hT;rename_i hlt;cases hT;show AWp _ _ _ _ ⟨[(12,.agg (qC (coP p (p.length- 1- k)))),(11,i64 (p.length- 1- k:Nat)),(4,.lptr 1 0 0),(5,.aptr [[.clos g [] cap]] 0 0),(10,.clos 232 [] [bP p]),(1004,.lptr 1 0 0),(1005,.aptr [[.clos g [] cap]] 0 0),(1010,.clos 232 [] [bP p])],[(1,some ⟨30,1,[[.arr (pE (w k))]]⟩)],2,18⟩;refine r_m 2 ?_;refine a_z ?_;refine am (r_m 5 ?_);refine c_s (hg k hlt) ?_;refine a_z ?_;refine⟨k+1,⟨hlt,rfl⟩,?_⟩;show SEntT _ ⟨[(1004,.lptr 1 0 0),(1005,.aptr [[.clos g [] cap]] 0 0),(1010,.clos 232 [] [bP p])],[(1,some ⟨30,1,[[.arr (pE (w (k+1)))]]⟩)],2,18⟩;exact s_y [] (fun hs=>db) (fun hs=>jG)
 intro k hk hT;unfold kO at hT;split at hT;cases hT;refine⟨(),trivial,?_⟩;rw[hpS.eq_1];have h1:k=p.length:=by omega
 subst h1;exact s_e [];rintro _ _;refine r_z 2 ?_;exact aj (t_e (ap _))
theorem yN(v q:Lq)(c:Rat)(h:tc v q)(hc:sm c)(hl:(ef v q).length≤274877906944):FS 165 [.arr (pE v),.agg (qC c),bP q] (.arr (pE (ik (ef v q) (fe c)))):=by
 have hcl:=og c;refine f_c Tryz.func165 ?_;refine r_z 2 ?_;refine ac (r_d hmix 7 ?_);refine c_s (A7 v q (mxL v) (mxL q) (dK v) (dK q) (dZ v) (dZ q) h.1 h.2.1 h.2.2.1 h.2.2.2) ?_;refine c_s (jO c) ?_;refine c_s (tN (ef v q) (fe c) (ye h) (sr fun x hx=>by rw[List.mem_singleton.1 hx];exact hc) (by omega) (by omega)) ?_;refine a_1 ?_;refine an (n_k ?_);exact aj (t_e (ap _))
theorem A4(p q:Lq)(h:lf q p)(hp:p.length≤274877906944):FS 107 [.arr (pE p),.arr (pE q)] (.arr (pE (cM q p))):=by
 have hw:∀k,k< p.length→FS 165 [.arr (pE (cM q (p.drop (p.length- k)))),.agg (qC (coP p (p.length- 1- k))),bP q] (.arr (pE (cM q (p.drop (p.length- (k+1)))))):=fun k hk=>by
  have h1:=qX (p.length- (k+1)) h;rw[qB hk] at h1⊢;exact yN _ q _ h1.2.1 h1.2.2.1 h1.2.2.2
 have hh:=A0 p 165 [bP q] (fun k=>cM q (p.drop (p.length- k))) (by omega) (ae (cu q) ai) hw;simp only[Nat.sub_zero,Nat.sub_self,List.drop_zero,List.drop_length] at hh;refine f_c Tryz.func107 ?_;refine r_z 2 ?_;refine AWp.ent (st':=⟨[(0,.arr (pE p)),(3,bP q)],[],1,8⟩) ?_ ?_;exact s_e [];refine r_c 4 (hh) ?_;refine a_z ?_;exact aj (t_e (ap _))
def coS:Nat×Nat→AState
 |(a,b)=>⟨[(2,.lptr 1 0 0),(3,.lptr 2 0 0),(4,.lptr 3 0 0)],[(1,some ⟨42,3,[qC (nQ a)]⟩),(2,some ⟨42,3,[qC (nQ b)]⟩),(3,some ⟨42,3,[zC]⟩)],4,18⟩
theorem ug(a:Nat)(b:Nat):coS (a,b)=⟨[(2,.lptr 1 0 0),(3,.lptr 2 0 0),(4,.lptr 3 0 0)],[(1,some ⟨42,3,[qC (nQ a)]⟩),(2,some ⟨42,3,[qC (nQ b)]⟩),(3,some ⟨42,3,[zC]⟩)],4,18⟩:=rfl
theorem tF(a b:Nat)(ha:bl a≤68719476736)(hb:bl b≤68719476736):FS 285 [.agg (qC (nQ a)),.agg (qC (nQ b))] (.agg (qC (nQ (Nat.gcd a b)))):=by
 refine f_c Tryz.func285 ?_;refine r_z 3 ?_;refine aU (fun _:Unit=>coS (Nat.gcd a b,0)) (fun _=>True) ?_ ?_;refine am (aC coS (fun x=>x.2) (fun x=>Nat.gcd x.1 x.2=Nat.gcd a b∧bl x.1≤68719476736∧bl x.2≤68719476736) (a,b) ⟨rfl,ha,hb⟩ ?_ ?_);simp only[ug];exact s_e [];rintro⟨u,v⟩ ⟨hg,hu,hv⟩;simp only at hg hu hv;rw[ug];refine ac (r_c 3 (bY (nQ v)) ?_);refine a_z ?_;refine aq rfl (fun h=>?_) (fun h=>?_)
 have hv0:v≠0:=by
  intro e;subst e;exact absurd h (by decide)
 refine ak ?_;have h1:=nO (n:=u) hu (by decide);have h2:=nO (n:=v) hv (by decide);have hq:=fP (nQ u) (nQ v);have hov:=fR (nQ u) (nQ v) (fun e=>hv0 (nQ_zero.1 e)) (by omega);have hfl:=po (nQ u/ nQ v) (by omega);rw[Av u v hv0,yk u v hv0] at hfl;rw[Av u v hv0] at hov;have h3:=nO (n:=u/ v) (k:=68719476736) (Nat.le_trans (eO u v) hu) (by decide);have hmu:=dx (nQ v) (nQ (u/ v)) (by omega);rw[E2] at hmu;have hle:v* (u/ v)≤u:=Nat.mul_div_le u v;have h4:=nO (n:=v* (u/ v)) (k:=68719476736) (Nat.le_trans (dw hle) hu) (by decide);have hsu:=iP (nQ u) (nQ (v* (u/ v))) (by omega);rw[nQ_sub hle,show u- v* (u/ v)=u % v by have:=Nat.div_add_mod u v;omega] at hsu;refine am (r_d hmix 11 ?_);refine c_s (hov) ?_;refine c_s (hfl) ?_;refine c_s (hmu) ?_;refine c_s (hsu) ?_;refine a_2 ?_;refine an (n_k ?_);refine⟨(v,u % v),Nat.mod_lt _ (by omega),⟨?_,hv,Nat.le_trans (dw (Nat.mod_le u v)) hu⟩,?_⟩;rw[←hg];show Nat.gcd v (u % v)=Nat.gcd u v;rw[Nat.gcd_comm v,Nat.gcd_comm u v,←Nat.gcd_rec];simp only[ug];exact s_e []
 have hv0:v=0:=by
  have h1:sgZ (nQ v).num=0:=by simpa using h
  exact nQ_zero.1 (sgZ_num_eq.1 h1)
 subst hv0;rw[Nat.gcd_zero_right] at hg;refine aA ⟨(),trivial,?_⟩;rw[←hg];simp only[ug];exact s_e [];rintro _ _;simp only[ug];refine r_z 2 ?_;exact aj (c_e (aO _))
def prS(t:Lq):Nat×Nat→AState
 |(i,d)=>⟨[(0,.arr (pE t)),(3,.lptr 1 0 0),(4,.lptr 2 0 0),(13,.arr (pE t)),(14,i64 t.length),(15,i64 i)],[(1,some ⟨42,3,[qC (nQ d)]⟩),(2,some ⟨42,3,[qC 0]⟩)],3,47⟩
def prT(t:Lq)(D:Nat):Nat×Nat→AState
 |(i,n)=>⟨[(0,.arr (pE t)),(3,.lptr 1 0 0),(4,.lptr 2 0 0),(29,.arr (pE t)),(30,i64 t.length),(31,i64 i)],[(1,some ⟨42,3,[qC (nQ D)]⟩),(2,some ⟨42,3,[qC (nQ n)]⟩)],3,47⟩
theorem gL{l:Lq}{i:Nat}(h:i< l.length):l.drop i=coP l i::l.drop (i+1):=by
 rw[List.drop_eq_getElem_cons h];congr 1;have:=bv h;rw[List.getElem?_eq_getElem h] at this;exact Option.some.inj this
theorem F6(a b:Nat):bl (Nat.gcd a b)≤max (bl a) (bl b):=by
 rcases Nat.eq_zero_or_pos a with h|h
 subst h;rw[Nat.gcd_zero_left];exact Nat.le_max_right _ _;exact Nat.le_trans (dw (Nat.gcd_le_left b h)) (Nat.le_max_left _ _)
theorem pm(p:Lq)(h:wj p)(h0:av p≠[]):FS 282 [.arr (pE p)] (.arr (pE (er p))):=by
 obtain⟨t,ht⟩:∃t,t=av p:=⟨_,rfl⟩;obtain⟨s,hs⟩:∃s,s=mxL p:=⟨_,rfl⟩;have hs1:1≤s:=by rw[hs];exact dZ p
 have hbt:bdL t s:=fun q hq=>by rw[hs];exact dK p q (dj (by rw[←ht];exact hq))
 have htl:t.length≤p.length:=by rw[ht];exact b9 p
 obtain⟨hsz,hpl⟩:=h;rw[←hs] at hsz;have hts:t.length* s≤p.length* s:=Nat.mul_le_mul_right _ htl;rw[Nat.add_mul] at hsz;obtain⟨D,hD⟩:∃D,D=tZ t 1:=⟨_,rfl⟩;have hD0:D≠0:=by rw[hD];exact CV t (by decide)
 have hDb:bl D≤1+t.length* s:=by rw[hD];exact CW t 1 hbt
 have hDd:∀c∈t,c.den∣D:=by rw[hD];exact(tY t 1).2
 obtain⟨N,hN⟩:∃N,N=Do D t 0:=⟨_,rfl⟩
 have hlast:aT p∈t:=by
  rw[ht];obtain⟨n,hn⟩:∃n,(av p).length=n+1:=⟨(av p).length- 1,by have:=List.length_pos_iff.2 h0;omega⟩;exact List.mem_of_getElem? (fi hn)
 have hNd:=(yh D t 0).2 (aT p) hlast;rw[←hN] at hNd;have hi0:=intC_ne (hDd _ hlast) hD0 (l9 h0);have hN0:N≠0:=fun e=>hi0 (by rw[e] at hNd;exact Nat.zero_dvd.1 hNd);have hNb:bl N≤s+bl D:=Nat.le_trans (dw (Nat.le_of_dvd (by omega) hNd)) (Nat.le_trans (CC _ _) (by have:=hbt _ hlast;omega));have hpr:er p=aW t (nQ D/ nQ N):=by unfold er;rw[←ht,←hD,←hN]
 rw[hpr];have hgt:∀i,i< t.length→(pE t)[((i:Nat):Int).toNat]?=some (qC (coP t i)):=fun i hi=>b7 (bv hi);have hmem:∀i,i< t.length→coP t i∈t:=fun i hi=>List.mem_of_getElem? (bv hi);have htr:=ea p (by omega);rw[←ht] at htr;refine f_c Tryz.func282 ?_;refine r_z 1 ?_;refine r_c 3 (htr) ?_;refine a_z ?_;refine r_c 6 (da 1 (by decide)) ?_;refine a_z ?_;refine ac (r_z 3 ?_);refine aI (fun _:Unit=>⟨[(0,.arr (pE t)),(3,.lptr 1 0 0),(4,.lptr 2 0 0)],[(1,some ⟨42,3,[qC (nQ D)]⟩),(2,some ⟨42,3,[qC 0]⟩)],3,47⟩) (fun _=>True) ?_ ?_;refine am (aC (prS t) (fun x=>t.length- x.1) (fun x=>x.1≤t.length∧x.2≠0∧tZ (t.drop x.1) x.2=D) (0,1) ⟨Nat.zero_le _,by decide,by rw[hD];rfl⟩ ?_ ?_);simp only[prS.eq_1];rw[qC0];exact s_e [(1,3),(2,4)];rintro⟨i,d⟩ ⟨hi,hd0,hd⟩;simp only at hi hd0 hd;rw[prS.eq_1];refine r_z 1 ?_;refine ac (aq rfl (fun h=>?_) (fun h=>?_));refine ak ?_;have hlt:i< t.length:=by simpa using h
 have hc:=hbt _ (hmem i hlt);have hcd:=c7 (coP t i);have hcn:=(coP t i).den_nz;rw[gL hlt] at hd;have hdD:d∣D:=by rw[←hd];exact(tY _ d).1
 have hdb:=dw (Nat.le_of_dvd (by omega) hdD);have hq1:=nO (n:=d) (k:=34359738368) (by omega) (by decide);have hq2:=nO (n:=(coP t i).den) (k:=34359738368) (by omega) (by decide);have hmu:=dx (nQ d) (nQ (coP t i).den) (by omega);have hco:=tF d (coP t i).den (by omega) (by omega);have hg0:Nat.gcd d (coP t i).den≠0:=by have:=Nat.gcd_pos_of_pos_left (coP t i).den (Nat.pos_of_ne_zero hd0);omega
 have hgb:=F6 d (coP t i).den;have hq3:=nO (n:=Nat.gcd d (coP t i).den) (k:=34359738368) (by omega) (by decide);have hq4:=eV (nQ d) (nQ (coP t i).den);rw[E2] at hq4 hmu;have hov:=fR (nQ (d* (coP t i).den)) (nQ (Nat.gcd d (coP t i).den)) (fun e=>hg0 (nQ_zero.1 e)) (by omega);rw[Av _ _ hg0,Dw _ _ hg0 (Nat.dvd_mul_right_of_dvd (Nat.gcd_dvd_left _ _) _)] at hov;refine ac (am (s_r 4 ?_))
 first|refine ay (.index_l rfl rfl (by omega) (by omega) te_30.h) rfl rfl ?_|refine ay (.index_a rfl rfl (by omega) (hgt i hlt) rfl te_30.h) rfl rfl ?_
 first|refine ay (.load_l rfl rfl (hgt i hlt) TG.h TS.h (nle rfl)) rfl rfl ?_|refine ay (.load_a rfl (hgt i hlt) TG.h TS.h (nle rfl)) rfl rfl ?_
 refine a_z ?_;refine r_d hmix 10 ?_;refine c_s (Fw (coP t i) (by unfold sm;omega)) ?_;refine c_s (hmu) ?_;refine c_s (Fw (coP t i) (by unfold sm;omega)) ?_;refine c_s (hco) ?_;refine c_s (hov) ?_;refine a_1 ?_;refine an (n_k ?_);refine r_m 2 ?_;refine a_z ?_;refine⟨(i+1,Nat.lcm d (coP t i).den),by simp only;omega,⟨hlt,Cz hd0 hcn,hd⟩,?_⟩;simp only[prS.eq_1];exact s_e []
 have hge:i=t.length:=by
  have:¬i< t.length:=by simpa using h
  omega
 subst hge;rw[List.drop_length] at hd;refine aA ⟨(),trivial,?_⟩;rw[←hd];exact s_e [];rintro _ _;refine ac (r_z 3 ?_);refine aI (fun _:Unit=>⟨[(0,.arr (pE t)),(3,.lptr 1 0 0),(4,.lptr 2 0 0)],[(1,some ⟨42,3,[qC (nQ D)]⟩),(2,some ⟨42,3,[qC (nQ N)]⟩)],3,47⟩) (fun _=>True) ?_ ?_;refine am (aC (prT t D) (fun x=>t.length- x.1) (fun x=>x.1≤t.length∧bl x.2≤s+bl D∧Do D (t.drop x.1) x.2=N) (0,0) ⟨Nat.zero_le _,by rw[bl_zero];exact Nat.zero_le _,by rw[hN];rfl⟩ ?_ ?_);simp only[prT.eq_1];exact s_e [];rintro⟨i,n⟩ ⟨hi,hnb,hn⟩;simp only at hi hnb hn;rw[prT.eq_1];refine r_z 1 ?_;refine ac (aq rfl (fun h=>?_) (fun h=>?_));refine ak ?_;have hlt:i< t.length:=by simpa using h
 have hc:=hbt _ (hmem i hlt);rw[gL hlt] at hn;have hib:=CC (coP t i) D;have hgb:=F6 n (rp (coP t i) D);have hq1:=nO (n:=D) (k:=34359738368) (by omega) (by decide);have hmu:=dx (coP t i) (nQ D) (by omega);have hab:=eY (coP t i* nQ D);rw[E5 _ _ (hDd _ (hmem i hlt))] at hab;have hco:=tF n (rp (coP t i) D) (by omega) (by omega);refine ac (am (s_r 4 ?_))
 first|refine ay (.index_l rfl rfl (by omega) (by omega) te_30.h) rfl rfl ?_|refine ay (.index_a rfl rfl (by omega) (hgt i hlt) rfl te_30.h) rfl rfl ?_
 first|refine ay (.load_l rfl rfl (hgt i hlt) TG.h TS.h (nle rfl)) rfl rfl ?_|refine ay (.load_a rfl (hgt i hlt) TG.h TS.h (nle rfl)) rfl rfl ?_
 refine a_z ?_;refine r_d hmix 7 ?_;refine c_s (hmu) ?_;refine c_s (hab) ?_;refine c_s (hco) ?_;refine a_1 ?_;refine an (n_k ?_);refine r_m 2 ?_;refine a_z ?_;refine⟨(i+1,Nat.gcd n (rp (coP t i) D)),by simp only;omega,⟨hlt,by simp only;omega,hn⟩,?_⟩;simp only[prT.eq_1];exact s_e []
 have hge:i=t.length:=by
  have:¬i< t.length:=by simpa using h
  omega
 subst hge;rw[List.drop_length] at hn;refine aA ⟨(),trivial,?_⟩;rw[←hn];exact s_e [];rintro _ _;have hq1:=nO (n:=D) (k:=34359738368) (by omega) (by decide);have hq2:=nO (n:=N) (k:=34359738368) (by omega) (by decide);have hq3:=fP (nQ D) (nQ N);refine r_c 6 (fR (nQ D) (nQ N) (fun e=>hN0 (nQ_zero.1 e)) (by omega)) ?_;refine c_s (iA t (nQ D/ nQ N) (jD hbt (by omega)) (by unfold sm;omega) (by omega)) ?_;refine a_z ?_;exact aj (t_e (ap _))
end Go.Proofs.YtjgokhkahkmpbaaGreatDoor
