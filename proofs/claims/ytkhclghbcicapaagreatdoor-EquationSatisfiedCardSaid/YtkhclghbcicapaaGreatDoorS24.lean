/- Part S24 of the proof. -/
import Derived.Test.YtkhclghbcicapaaGreatDoorS23
set_option linter.all false
namespace Go.Proofs.YtkhclghbcicapaaGreatDoor
open Go.Abs
set_option maxRecDepth 20000
theorem FQ(l:List Rat)(h0:l≠[])(hl:l.length≤1099511627776):OSpec Tryz.prog 109 [.arr (pE l)] 34 3 (pE l):=by
 have a:pE l≠[]:=by
  intro e;exact h0 (List.length_eq_zero_iff.1 (by rw[←D4,e];rfl))
 refine OSpec.enter Tryz.func109 rfl (by kernel_rfl) rfl rfl rfl ?_ ?_ rfl ?_;exact ac (aG (aL _)) af;exact aL l;refine r_z 1 ?_;refine ae (s_r 2 ?_);refine a_1 ?_;refine aO (.nilq_arr rfl (a) rfl te_36.h) rfl rfl ?_;refine ao ?_;refine cF ?_
 ·refine am (s_r 4 ?_)
  refine a_2 ?_;refine o_2 (.append_l rfl rfl rfl te_36.h rfl rfl rfl rfl rfl d_o (by first|exact eE _|exact eA _|exact dJ _|exact eG _|exact er _|assumption|rfl|simp) (by first|rfl|exact eE _|exact eA _|exact dJ _|exact eG _|exact er _|simp) rfl (.arr (kV _)) TZ.h rfl TB.h d_o (by first|(simp[maxLen];done)|(simp[maxLen];omega))) ?_;refine a_z ?_;exact ai (FinO.tmp rfl rfl rfl (by simp))
theorem os_Trim(l:List Rat)(h0:aq l≠[])(hl:l.length≤1099511627776):OSpec Tryz.prog 46 [.arr (pE l)] 34 3 (pE (aq l)):=by
 refine OSpec.enter Tryz.func46 rfl (by kernel_rfl) rfl rfl rfl ?_ ?_ rfl ?_;exact ac (aG (aL _)) af;exact aL _;refine r_z 1 ?_;refine r_z 3 ?_;refine bh (trS l) (fun n=>n≤l.length∧aq l=l.take n) ?_ ?_;refine aj (aB (trS l) (fun n=>n) (fun n=>n≤l.length∧aq l=aq (l.take n)) l.length ⟨Nat.le_refl _,by rw[List.take_length]⟩ ?_ ?_);simp only[trS.eq_1];exact s_e [];rintro n ⟨d,ht⟩;rw[trS.eq_1];cases n with
 |zero=>exact absurd (ht.trans rfl) h0
 |succ n=>
  obtain⟨q,c⟩:∃q,l[n]?=some q:=⟨_,List.getElem?_eq_getElem (by omega)⟩
  have a:(pE l)[(((n+1:Nat):Int)- 1).toNat]?=some (qC q):=by
   rw[show(((n+1:Nat):Int)- 1).toNat=n by omega];exact pE_get c
  have hs:aq (l.take (n+1))=if q=0 then aq (l.take n) else l.take (n+1):=by
   rw[cw c,kM]
  refine ae (s_r 11 ?_);refine a_3 ?_;refine y_g rfl (by simp <;> omega) (.move rfl) ?_;refine y_g rfl (by simp <;> omega) (.move rfl) ?_;refine y_g rfl (by simp <;> omega) (.bin rfl rfl (pO (by omega))) ?_;refine y_g rfl (by simp <;> omega) (.index_a rfl rfl (by omega) a rfl te_36.h) ?_;refine y_g rfl (by simp <;> omega) (.load_a rfl a TG.h TS.h (nle rfl)) ?_;refine y_g rfl (by simp <;> omega) (.call rfl rfl rfl (ci q)) ?_;refine y_g rfl (by simp <;> omega) (.bin rfl rfl cv) ?_;refine o_0 (.pickT rfl (by simp <;> omega) rfl) ?_;refine ao ?_;refine ap rfl (fun h=>?_) (fun h=>?_)
  have h0:q=0:=by
   have h1:sgZ q.num=0:=by simpa using h
   exact sgZ_num_eq.1 h1
  refine am (aj (r_m 3 ?_));refine a_z ?_;refine⟨n,Nat.lt_succ_self n,⟨by omega,?_⟩,?_⟩;rw[ht,hs,if_pos h0];simp only[trS.eq_1];exact s_e []
  have h0:q≠0:=by
   intro e;have h1:¬sgZ q.num=0:=by simpa using h
   exact h1 (sgZ_num_eq.2 e)
  refine ay ⟨n+1,⟨d,?_⟩,?_⟩;rw[ht,hs,if_neg h0];simp only[trS.eq_1];exact s_e []
 rintro n ⟨d,ht⟩;rw[trS.eq_1];rw[ht] at h0;have b:=FQ (l.take n) h0 (by simp;omega);refine s_r 5 ?_;refine a_2 ?_;refine o_0 (.sa_h rfl rfl (h:=n) rfl (by simp;omega) te_36.h (kV _)) ?_;refine o_1 (.callO rfl rfl rfl ((by rw[rO];exact b))) ?_;refine a_z ?_;refine ai ?_;rw[ht];exact FinO.tmp rfl rfl rfl (by simp)
def dvS(q:List Rat)(lead:Rat):Nat×List Rat×List Rat→AState
 |(c,u,o)=>⟨[(0,.lsl 1 0 o.length none 3),(1,.arr (pE q)),(4,.lsl 2 0 u.length (some u.length) 3),(6,.lptr 3 0 0),(7,i64 ((c:Int)- 1))],[(1,some ⟨34,3,pE o⟩),(2,some ⟨34,3,pE u⟩),(3,some ⟨34,3,[qC lead]⟩)],4,82⟩
def dvT(q:List Rat)(lead:Rat)(n:Nat)(u:List Rat)(k:Rat):Nat×List Rat→AState
 |(i,o)=>⟨[(0,.lsl 1 0 o.length none 3),(1,.arr (pE q)),(4,.lsl 2 0 u.length (some u.length) 3),(6,.lptr 3 0 0),(7,i64 n),(8,.lptr 4 0 0),(55,.arr (pE q)),(56,i64 q.length),(57,i64 i)],[(1,some ⟨34,3,pE o⟩),(2,some ⟨34,3,pE u⟩),(3,some ⟨34,3,[qC lead]⟩),(4,some ⟨34,3,[qC k]⟩)],5,82⟩
theorem qw(p q:List Rat)(s t:Nat)(hp:bdL p s)(hq:bdL q t)(hs:1≤s)(ht:1≤t)(h:2^ ((aq p).length+1- (aq q).length) * (s+2* t+1)≤137438953472)(hq0:aq q≠[])(hp1:p.length≤274877906944)(hq1:q.length≤274877906944):FS 235 [.arr (pE p),.arr (pE q)] (.tup [.arr (pE (fR p q).1),.arr (pE (fR p q).2)]):=by
 have hlp:=bU p;have hlq:=bU q;have hql:=List.length_pos_iff.2 hq0
 have hg:(pE (aq q))[(((aq q).length:Int)- 1).toNat]?=some (qC (aR q)):=by
  rw[show(((aq q).length:Int)- 1).toNat=(aq q).length- 1 by omega];exact pE_get (dT (by omega))
 have hne:=gG hq0;obtain⟨m,hm⟩:∃m,m=(aq p).length+1- (aq q).length:=⟨_,rfl⟩;have hmx:(if (0:Int)>((aq p).length:Int)- (aq q).length+1 then(0:Int) else((aq p).length:Int)- (aq q).length+1)=(m:Int):=by split <;> omega
 have hB:B1 (aq q) (aR q) 137438953472 m (List.replicate m 0) (aq p):=by
  refine⟨s,t,dN (fun x hx=>hp x (cX hx)) hs,dN (fun x hx=>hq x (cX hx)) ht,hq _ (cX (List.mem_of_getElem? (dT (n:=(aq q).length- 1) (by omega)))),ht,fun n=>?_,by rw[hm];exact h⟩
  have:coP (List.replicate m 0) n=0:=by
   unfold coP;rw[List.getD_eq_getElem?_getD,List.getElem?_replicate];split <;> rfl
  rw[this];decide
 have hdv:fR p q=(aq (pF (aq q) (aR q) m (List.replicate m 0) (aq p)).1,aq (pF (aq q) (aR q) m (List.replicate m 0) (aq p)).2):=by rw[hm];rfl
 rw[hdv];refine f_c Tryz.func235 ?_;refine r_z 2 ?_;by_cases hp0:aq p=[]
 ·have hm0:m=0:=by rw[hm,hp0];simp;omega
  subst hm0;rw[hp0] at hmx⊢;have htp:=dc p (by omega);rw[hp0] at htp;refine r_c 6 (htp) ?_;refine c_s (dc q (by omega)) ?_;refine a_z ?_;refine s_r 8 ?_;refine a_4 ?_;refine i_x hg ?_;refine l_x hg ?_;refine a_z ?_;refine s_r 9 ?_;refine a_7 ?_;refine o_1 (.makeSlice (l:=0) (c:=0) (by rw[←hmx];rfl) (by rw[←hmx];rfl) te_36.h TZ.h rfl TB.h (by first|omega|(simp;done)|(simp;omega)) (by first|omega|(simp;done)|(simp;omega)) (by unfold maxLen;first|omega|(simp;done)|(simp;omega))) ?_;refine a_z ?_;refine ae (r_z 6 ?_);refine aH (fun _:Unit=>⟨[(0,.arr (pE [])),(4,.lsl 2 0 0 (some 0) 3)],[(2,some ⟨34,3,[]⟩)],3,82⟩) (fun _=>True) ?_ ?_;refine aj (aB (fun _:Unit=>⟨[(0,.arr (pE [])),(4,.lsl 2 0 0 (some 0) 3),(7,i64 (0- ((aq q).length:Int)))],[(2,some ⟨34,3,[]⟩)],3,82⟩) (fun _=>0) (fun _=>True) () trivial ?_ ?_);exact s_x [(2,4)] (fun hs=>dG) (fun hs=>e_18);rintro _ _;refine ae (r_z 2 ?_);refine ap rfl (fun h1=>?_) (fun h1=>?_);exact absurd h1 (by simp;omega);refine ay ⟨(),trivial,?_⟩;exact s_x [] (fun hs=>dG) (fun hs=>e_18);rintro _ _;refine s_r 6 ?_;refine a_1 ?_;refine o_1 (.callS1 rfl rfl rfl (.shut rfl d_n (.nil)) rfl ((dc [] (by simp)))) ?_;refine c_s (dc [] (by simp)) ?_;refine a_z ?_;refine ai (Fin.many ⟨_,_,rfl,rfl,⟨_,_,rfl,rfl,rfl⟩⟩ (nle rfl) ?_);exact ah (ak aD (ax _)) (ah (ak aD (ax _)) av)
 have hpl:=List.length_pos_iff.2 hp0;have hto:=os_Trim p hp0 (by omega);have hdl:=jL (aq q) (aR q) m (List.replicate m 0) (aq p);have hend:=xP hB;refine s_r 6 ?_;refine a_1 ?_;refine o_1 (.callO rfl rfl rfl (hto)) ?_;refine c_s (dc q (by omega)) ?_;refine a_z ?_;refine AWp.ent (st':=⟨[(0,.lsl 1 0 (aq p).length none 3),(1,.arr (pE (aq q)))],[(1,some ⟨34,3,pE (aq p)⟩)],2,82⟩) ?_ ?_;exact s_e [(1,0)];refine s_r 8 ?_;refine a_4 ?_;refine i_x hg ?_;refine l_x hg ?_;refine a_z ?_;refine s_r 9 ?_;refine a_7 ?_;refine o_1 (.makeSlice (l:=m) (c:=m) (by rw[←hmx];rfl) (by rw[←hmx];rfl) te_36.h TZ.h rfl TB.h (by first|omega|(simp;done)|(simp;omega)) (by first|omega|(simp;done)|(simp;omega)) (by unfold maxLen;first|omega|(simp;done)|(simp;omega))) ?_;refine a_z ?_;refine ae (r_z 6 ?_);refine aH (fun x:List Rat×List Rat=>⟨[(0,.lsl 1 0 x.2.length none 3),(4,.lsl 2 0 x.1.length (some x.1.length) 3)],[(1,some ⟨34,3,pE x.2⟩),(2,some ⟨34,3,pE x.1⟩)],3,82⟩) (fun x=>x=pF (aq q) (aR q) m (List.replicate m 0) (aq p)) ?_ ?_;refine aj ?_;by_cases hab:(aq p).length< (aq q).length;have hm0:m=0:=by omega
 subst hm0;refine aB (fun _:Unit=>⟨[(0,.lsl 1 0 (aq p).length none 3),(4,.lsl 2 0 0 (some 0) 3),(7,i64 (((aq p).length:Int)- ((aq q).length:Int)))],[(1,some ⟨34,3,pE (aq p)⟩),(2,some ⟨34,3,[]⟩)],3,82⟩) (fun _=>0) (fun _=>True) () trivial ?_ ?_;exact s_x [(1,0),(2,4)] (fun hs=>dG) (fun hs=>e_18);rintro _ _;refine ae (r_z 2 ?_);refine ap rfl (fun h1=>?_) (fun h1=>?_);exact absurd h1 (by simp;omega);refine ay ⟨([],aq p),rfl,?_⟩;exact s_f [];refine aB (fun x:Nat×List Rat×List Rat=>dvS (aq q) (aR q) x) (fun x=>x.1) (fun x=>x.1≤m∧x.2.1.length=m∧x.2.2.length=(aq p).length∧B1 (aq q) (aR q) 137438953472 x.1 x.2.1 x.2.2∧pF (aq q) (aR q) x.1 x.2.1 x.2.2=pF (aq q) (aR q) m (List.replicate m 0) (aq p)) (m,List.replicate m 0,aq p) ⟨Nat.le_refl _,by simp,rfl,hB,rfl⟩ ?_ ?_;simp only[dvS.eq_1];have hm1:((aq p).length:Int)- (aq q).length=(m:Int)- 1:=by omega
 rw[hm1];exact s_x [(1,0),(2,4),(3,6)] (fun hs=>dG) (fun hs=>e_38);rintro⟨c,u,o⟩ ⟨hc,hu,ho,hb,hr⟩;simp only at hc hu ho hb hr;simp only[dvS.eq_1];cases c with
 |zero=>
  refine ae (r_z 2 ?_);refine ap rfl (fun h1=>?_) (fun h1=>?_);exact absurd h1 (by simp);refine ay ⟨(u,o),hr,?_⟩;exact s_e []
 |succ n=>
  obtain⟨B,tt,hb1,hb2,hb3,hb4⟩:=zT hb;have hcn:((n+1:Nat):Int)- 1=(n:Int):=by omega
  rw[hcn];refine ae (r_z 2 ?_);refine ap rfl (fun h1=>?_) (fun h1=>?_);refine am ?_;obtain⟨k,hk⟩:∃k,k=coP o (n+(aq q).length- 1) / aR q:=⟨_,rfl⟩;have hst:=vW hb;rw[pF] at hr;rw[←hk] at hst hr
  have hgo:(pE o)[(0+(((n:Nat):Int)+((aq q).length:Nat)- 1).toNat)]?=some (qC (coP o (n+(aq q).length- 1))):=by
   rw[show 0+(((n:Nat):Int)+((aq q).length:Nat)- 1).toNat=n+(aq q).length- 1 by omega];exact pE_get (b9 (by omega))
  have hov:=gH (coP o (n+(aq q).length- 1)) (aR q) hne (by have:=hb1 (n+(aq q).length- 1);omega);rw[←hk] at hov
  have hgu:(pE u)[0+((n:Nat):Int).toNat]?=some (qC (coP u n)):=by
   rw[show 0+((n:Nat):Int).toNat=n by omega];exact pE_get (b9 (by omega))
  refine ae (aj (ae (r_d aY 12 ?_)));refine a_7 ?_
  first|refine aO (.load_l rfl rfl hgo TG.h TS.h (nle rfl)) rfl rfl ?_|refine aO (.load_a rfl hgo TG.h TS.h (nle rfl)) rfl rfl ?_
  refine c_s (hov) ?_;refine a_2 ?_;refine ao (n_k ?_);refine s_r 5 ?_;refine a_4 ?_;refine dX (.store rfl rfl hgu rfl rfl rfl TS.h (nle rfl)) ?_;refine ao ?_
  have hsu:(pE u).set (0+((n:Nat):Int).toNat) (qC k)=pE (u.set n k):=by
   rw[show 0+((n:Nat):Int).toNat=n by omega,iP]
  have hlu:(u.set n k).length=u.length:=by simp
  refine ae (r_c 3 (ci k) ?_);refine a_z ?_;refine ap rfl (fun h2=>?_) (fun h2=>?_)
  have h0:k=0:=by
   have h2:sgZ k.num=0:=by simpa using h2
   exact sgZ_num_eq.1 h2
  rw[if_pos h0] at hst hr;refine ay (r_m 3 ?_);refine a_z ?_;refine⟨(n,u.set n k,o),Nat.lt_succ_self n,⟨by omega,by simp only;omega,ho,hst,hr⟩,?_⟩;simp only[dvS.eq_1,hlu];exact s_f []
  have h0:k≠0:=by
   intro e;have h2:¬sgZ k.num=0:=by simpa using h2
   exact h2 (sgZ_num_eq.2 e)
  rw[if_neg h0] at hst hr;refine am (r_z 3 ?_);refine AWp.cutB (fun _:Unit=>⟨[(0,.lsl 1 0 o.length none 3),(1,.arr (pE (aq q))),(4,.lsl 2 0 u.length (some u.length) 3),(6,.lptr 3 0 0),(7,i64 n)],[(1,some ⟨34,3,pE (jp o k (aq q) n (aq q).length)⟩),(2,some ⟨34,3,pE (u.set n k)⟩),(3,some ⟨34,3,[qC (aR q)]⟩)],4,82⟩) (fun _=>True) ?_ ?_;refine aj (aB (fun i:Nat=>dvT (aq q) (aR q) n (u.set n k) k (i,jp o k (aq q) n i)) (fun i=>(aq q).length- i) (fun i=>i≤(aq q).length) 0 (Nat.zero_le _) ?_ ?_);simp only[dvT.eq_1,jp,hlu];exact s_f [(4,8)];rintro i hi;simp only[dvT.eq_1];refine r_z 1 ?_;refine ae (ap rfl (fun h3=>?_) (fun h3=>?_));refine am ?_;have hlt2:i< (aq q).length:=by simpa using h3
  have hgq:(pE (aq q))[((i:Nat):Int).toNat]?=some (qC (coP (aq q) i)):=pE_get (b9 hlt2)
  have hcur:qs (coP (jp o k (aq q) n i) (n+i))≤B:=by
   rw[yx _ _ _ _ _ _ (by omega)];exact hb1 _
  have hkq:qs k≤B+tt:=by
   have e1:=gY (coP o (n+(aq q).length- 1)) (aR q);have e2:=hb1 (n+(aq q).length- 1);rw[hk];omega
  have hkm:=eu k (coP (aq q) i);have hqi:=hb2 i;have hik:n+i< (jp o k (aq q) n i).length:=by simp;omega
  have hgr:(pE (jp o k (aq q) n i))[(0+(((n:Nat):Int)+(i:Nat)).toNat)]?=some (qC (coP (jp o k (aq q) n i) (n+i))):=by
   rw[show 0+(((n:Nat):Int)+(i:Nat)).toNat=n+i by omega];exact pE_get (b9 hik)
  refine ae (aj (s_r 6 ?_));refine a_1 ?_;refine i_x hgq ?_;refine l_x hgq ?_;refine a_z ?_;refine r_d aY 16 ?_;refine a_8 ?_;refine a_1 ?_
  first|refine aO (.load_l rfl rfl hgr TG.h TS.h (nle rfl)) rfl rfl ?_|refine aO (.load_a rfl hgr TG.h TS.h (nle rfl)) rfl rfl ?_
  refine c_s (cU k (coP (aq q) i) (by omega)) ?_;refine c_s (kZ (coP (jp o k (aq q) n i) (n+i)) (k* coP (aq q) i) (by omega)) ?_;refine a_1 ?_;refine dX (.store rfl rfl hgr rfl rfl rfl TS.h (nle rfl)) ?_;refine ao (n_k ?_);refine r_m 2 ?_;refine a_z ?_;refine⟨i+1,by omega,hlt2,?_⟩
  have hst2:(pE (jp o k (aq q) n i)).set (0+(((n:Nat):Int)+(i:Nat)).toNat) (qC (coP (jp o k (aq q) n i) (n+i)- k* coP (aq q) i))=pE (jp o k (aq q) n (i+1)):=by
   rw[show 0+(((n:Nat):Int)+(i:Nat)).toNat=n+i by omega,iP];rfl
  have hl2:(jp o k (aq q) n (i+1)).length=(jp o k (aq q) n i).length:=by simp
  simp only[dvT.eq_1,hl2];exact s_x [] (fun hs=>dG) (fun hs=>e_39) e_8
  have hge:i=(aq q).length:=by
   have:¬i< (aq q).length:=by simpa using h3
   omega
  subst hge;refine ay ⟨(),trivial,?_⟩;rw[lG,hlu];exact s_e [];rintro _ _;refine r_m 3 ?_;refine a_z ?_;refine⟨(n,u.set n k,jp o k (aq q) n (aq q).length),Nat.lt_succ_self n,⟨by omega,by simp only;omega,by simp only;rw[lG];exact ho,hst,hr⟩,?_⟩;simp only[dvS.eq_1,hlu,lG];exact s_e [];exact absurd h1 (by simp)
 rintro⟨u,o⟩ hx;rw[←hx] at hdl hend⊢;simp only at hdl hend⊢;have hlu:u.length≤274877906945:=by rw[hdl.1];simp;omega
 have hfu:List.take u.length (List.drop 0 (pE u))=pE u:=by rw[List.drop_zero,List.take_of_length_le (by simp)]
 have hfo:List.take o.length (List.drop 0 (pE o))=pE o:=by rw[List.drop_zero,List.take_of_length_le (by simp)]
 refine s_r 6 ?_;refine a_1 ?_;refine o_1 (.callS1 rfl rfl rfl (.shut rfl d_n (.nil)) rfl ((by rw[hfu];exact dc u (by omega)))) ?_;refine a_1 ?_;refine o_1 (.callS1 rfl rfl rfl (.shut rfl d_n (.nil)) rfl ((by rw[hfo];exact dc o (by rw[hdl.2];omega)))) ?_;refine a_z ?_;refine ai (Fin.many ⟨_,_,rfl,rfl,⟨_,_,rfl,rfl,rfl⟩⟩ (nle rfl) ?_);exact ah (ak aD (ax _)) (ah (ak aD (ax _)) av)
def gcS:List Rat×List Rat→AState
 |(p,q)=>⟨[(0,.arr (pE p)),(1,.arr (pE q))],[],1,21⟩
theorem Bq(p:List Rat)(q:List Rat):gcS (p,q)=⟨[(0,.arr (pE p)),(1,.arr (pE q))],[],1,21⟩:=rfl
theorem degP_neg{l:List Rat}:bv l< 0↔aq l=[]:=by
 unfold bv;constructor;intro h;exact List.length_eq_zero_iff.1 (by omega);intro h;rw[h];decide
theorem GK(f:Nat)(p q g:List Rat)(h:Ei f p q=some g)(hp1:p.length≤274877906944)(hq1:q.length≤274877906944):FS 236 [.arr (pE p),.arr (pE q)] (.arr (pE g)):=by
 refine f_c Tryz.func236 ?_;refine r_z 1 ?_;refine bh (fun p:List Rat=>⟨[(0,.arr (pE p))],[],1,21⟩) (fun p=>smL p∧p.length≤274877906944∧g=jQ p) ?_ ?_;refine aj (aB (fun x:Nat×List Rat×List Rat=>gcS x.2) (fun x=>x.1) (fun x=>Ei x.1 x.2.1 x.2.2=some g∧x.2.1.length≤274877906944∧x.2.2.length≤274877906944) (f,p,q) ⟨h,hp1,hq1⟩ ?_ ?_);simp only[Bq];exact s_e [];rintro⟨f,p,q⟩ ⟨h,hp1,hq1⟩;simp only at h hp1 hq1;simp only[Bq];cases f with
 |zero=>cases h
 |succ f=>
  rw[Ei] at h;refine ae (r_c 3 (cI q (by omega)) ?_);refine a_z ?_;refine ap rfl (fun h1=>?_) (fun h1=>?_)
  ·have a:aq q≠[]:=by
    intro e;have e2:=degP_neg.2 e;simp at h1;omega
   rw[if_neg a] at h;split at h
   case isFalse=>cases h
   case isTrue hs=>
   have hl:=ue (p:=p) (q:=q);have b:=Bc (fR p q).2;refine am (aj (r_c 8 (qw p q (mxL p) (mxL q) (eJ p) (eJ q) (ej p) (ej q) hs.1 a hp1 hq1) ?_));refine a_z ?_;refine r_m 5 ?_;refine c_s (tM (fR p q).2 (xQ hs a).2 (by omega)) ?_;refine a_z ?_;refine⟨(f,q,jQ (fR p q).2),Nat.lt_succ_self f,⟨h,hq1,by simp only;omega⟩,?_⟩;simp only[Bq];exact s_e []
  ·have a:aq q=[]:=by
    refine degP_neg.1 ?_;simp at h1;omega
   rw[if_pos a] at h;split at h
   case isFalse=>cases h
   case isTrue hs=>
   cases h;refine ay ⟨p,⟨hs,hp1,rfl⟩,?_⟩;exact s_e []
 rintro p ⟨hs,hp1,rfl⟩;refine r_c 3 (tM p hs (by omega)) ?_;refine a_z ?_;exact ai (t_e (ax _))

theorem jT(l:List Rat)(hl:l.length≤281474976710656):GSpec Tryz.prog 191 [bP l] (kG l):=by
 refine GSpec.enter Tryz.func191 rfl (by kernel_rfl) rfl rfl rfl ?_ ?_ rfl ?_;exact ac (cx l) af;intro k xs h;unfold kG at h;split at h;cases h;exact ac (ag _) (ac (aP _) af);cases h;intro b N E;refine GWp.seq ?_;refine GWp.lift ?_;refine r_m 4 ?_;refine a_z ?_;refine GWp.block ?_;refine GWp.loopS (fun m:Nat=>⟨[(0,.v (.func (.yield b) #[] #[])),(1,bP l),(3,i64 ((m:Int)- 1))],[],1,19⟩) (fun m=>l.length- m) (fun m=>m) (fun m=>m≤l.length) l.length (Nat.le_refl _) (by simp) ?_ ?_;exact s_e [];intro m e;refine GWp.seq ?_;refine GWp.seq ?_;refine GWp.lift ?_;refine r_m 2 ?_;refine a_z ?_;refine GWp.cond rfl (fun h=>?_) (fun h=>?_)
 ·refine GWp.skip ?_
  have c:1≤m:=by have:=of_decide_eq_true h;omega
  have a:(pE l)[((m:Int)- 1).toNat]?=some (qC (coP l (m- 1))):=by rw[show((m:Int)- 1).toNat=m- 1 by omega];exact pE_get (b9 (by omega))
  refine GWp.seq ?_;refine GWp.block ?_;refine GWp.seq ?_;refine GWp.regY (fr2:=[(0,.v (.func (.yield b) #[] #[])),(1,bP l),(3,i64 ((m:Int)- 1)),(11,.v (.func (.yield b) #[] #[])),(12,i64 ((m:Int)- 1)),(16,.agg (qC (coP l (m- 1))))]) (hp2:=[]) (nx2:=1) 6 rfl rfl rfl rfl rfl rfl ?_ rfl rfl rfl ?_ ?_ ?_;refine o_0 (.move rfl) ?_;refine o_0 (.move rfl) ?_;refine aO (.load_a1 rfl rfl TG.h rfl) rfl rfl ?_;refine o_0 (.move rfl) ?_;refine i_x a ?_;refine l_x a ?_;refine ao ?_;exact s_y [] (fun hs=>dG) (fun hs=>kI);rotate_left 2;intro d;refine o_0 (.un rfl kL) ?_;refine ao ?_;rotate_left;unfold kG;rw[if_pos (by omega)];have e1:((l.length- 1- (l.length- m):Nat):Int)=(m:Int)- 1:=by omega
  have e2:l.length- 1- (l.length- m)=m- 1:=by omega
  rw[e1,e2];rfl;exact ac (ag _) (ac (aP _) af);cases d with
  |false=>
   refine GWp.cond rfl (fun h=>?_) (fun h=>?_);exact GWp.ret ⟨.inr rfl,fun h=>by cases h⟩;cases h
  |true=>
   refine GWp.cond rfl (fun h=>?_) (fun h=>?_);cases h;refine GWp.skip ?_;refine GWp.lift ?_;refine r_m 3 ?_;refine a_z ?_;refine⟨rfl,m- 1,by omega,by omega,by omega,?_⟩;exact s_e []
 refine GWp.exit ⟨.inl rfl,fun _=>?_⟩;have:m=0:=by have:=of_decide_eq_false h;omega
 subst this;unfold kG;rw[if_neg (by omega)]
theorem jV(l:List Rat):FS 157 [.arr (pE l)] (.clos 191 [] [bP l]):=by
 refine f_c Tryz.func157 ?_;refine r_z 2 ?_;refine r_z 2 ?_;refine ai (⟨.inr rfl,[_],⟨_,[],rfl,rfl,rfl⟩,?_⟩);exact Cv.clos av (ah (Cv.boxp aD rfl (fun _ _ h=>by cases h) rfl (ac (ax l) af)) av)
def hoS(p:List Rat)(g:Nat)(cap:List AV)(w:Nat→Rat):Nat→AState
 |k=>⟨[(4,.lptr 1 0 0),(5,.aptr [[.clos g [] cap]] 0 0),(6,.lptr 2 0 0),(10,.clos 191 [] [bP p])],[(1,some ⟨34,3,[qC (w k)]⟩),(2,some ⟨34,3,[zC]⟩)],3,18⟩
theorem BE(p:List Rat)(g:Nat)(cap:List AV)(w:Nat→Rat)(hl:p.length≤281474976710656)(hcap:∀c∈cap,Closed c)(hg:∀k,k< p.length→FS g ((.agg (qC (w k)):: .agg (qC (coP p (p.length- 1- k)))::cap).map coe) (.agg (qC (w (k+1))))):FS 115 [.arr (pE p),.agg (qC (w 0)),.clos g [] cap] (.agg (qC (w p.length))):=by
 have hb:=jV p;have d:=jT p hl;have b:Closed (.clos g [] cap):=aQ af hcap;have i:Closed (.aptr [[.clos g [] cap]] 0 0):=a7 (ac b af);have f:Closed (.clos 191 [] [bP p]):=aQ af (ac (cx p) af);refine f_c Tryz.func115 ?_;refine r_z 3 ?_;refine AWp.ent (st':=⟨[(0,.arr (pE p)),(4,.lptr 1 0 0),(5,.aptr [[.clos g [] cap]] 0 0),(6,.lptr 2 0 0)],[(1,some ⟨34,3,[qC (w 0)]⟩),(2,some ⟨34,3,[zC]⟩)],3,18⟩) ?_ ?_;have:=ac b af;exact s_f [(1,4),(2,6)];refine ae (r_c 2 (hb) ?_);refine ao ?_;refine aH (fun _:Unit=>⟨[(4,.lptr 1 0 0),(6,.lptr 2 0 0)],[(1,some ⟨34,3,[qC (w p.length)]⟩),(2,some ⟨34,3,[zC]⟩)],3,18⟩) (fun _=>True) ?_ ?_;refine aj (AWp.rangeFunc (α:=Nat) (γ:=Empty) p.length (hoS p g cap w) (fun k=>k) (fun k=>k≤p.length) (fun e=>nomatch e) (fun _ e=>nomatch e) 0 rfl d rfl rfl ?_ (fun _=>⟨rfl,rfl⟩) (fun e=>nomatch e) (Nat.zero_le _) rfl (fun _ h=>h) ?_ ?_ ?_ ?_ (fun _ e=>nomatch e));intro k xs a;unfold kG at a;split at a;cases a;rfl;cases a;rw[hoS.eq_1];exact s_y [] (fun hs=>dG) (fun hs=>kI);exact ac (cx p) af
 ·intro l k xs j a
  unfold kG at a;split at a;rotate_left;cases a;rename_i hlt;cases a;show AWp _ _ _ _ ⟨[(12,.agg (qC (coP p (p.length- 1- k)))),(11,i64 (p.length- 1- k:Nat)),(4,.lptr 1 0 0),(5,.aptr [[.clos g [] cap]] 0 0),(6,.lptr 2 0 0),(10,.clos 191 [] [bP p]),(1004,.lptr 1 0 0),(1005,.aptr [[.clos g [] cap]] 0 0),(1006,.lptr 2 0 0),(1010,.clos 191 [] [bP p])],[(1,some ⟨34,3,[qC (w k)]⟩),(2,some ⟨34,3,[zC]⟩)],3,18⟩;refine r_m 2 ?_;refine a_z ?_;refine aj (r_m 5 ?_);refine c_s (hg k hlt) ?_;refine a_z ?_;refine⟨k+1,⟨hlt,rfl⟩,?_⟩;show SEntT _ ⟨[(1004,.lptr 1 0 0),(1005,.aptr [[.clos g [] cap]] 0 0),(1006,.lptr 2 0 0),(1010,.clos 191 [] [bP p])],[(1,some ⟨34,3,[qC (w (k+1))]⟩),(2,some ⟨34,3,[zC]⟩)],3,18⟩;exact s_y [] (fun hs=>dG) (fun hs=>kI)
 intro k j a;unfold kG at a;split at a;cases a;refine⟨(),trivial,?_⟩;rw[hoS.eq_1];have h1:k=p.length:=by omega
 subst h1;exact s_e [];rintro _ _;refine r_z 2 ?_;exact ai (c_e (aP _))
theorem GM(v c x:Rat)(h1:qs v+qs x≤549755813888)(h2:qs (v* x)+qs c≤549755813888):FS 116 [.agg (qC v),.agg (qC c),bQ x] (.agg (qC (v* x+c))):=by
 refine f_c Tryz.func116 ?_;refine r_z 3 ?_;refine ae (r_d aY 6 ?_);refine c_s (cU v x h1) ?_;refine c_s (fl (v* x) c h2) ?_;refine a_1 ?_;refine ao (n_k ?_);exact ai (c_e (aP _))
theorem jJ(p:List Rat)(x:Rat)(h:e8 p x):FS 57 [.arr (pE p),.agg (qC x)] (.agg (qC (au p x))):=by
 have c:∀k,k< p.length→FS 116 [.agg (qC (au (p.drop (p.length- k)) x)),.agg (qC (coP p (p.length- 1- k))),bQ x] (.agg (qC (au (p.drop (p.length- (k+1))) x))):=fun k b=>by
  have:=BU h k b;rw[qH b];exact GM _ _ _ this.1 this.2
 have a:=BE p 116 [bQ x] (fun k=>au (p.drop (p.length- k)) x) (by have:=h.2;omega) (ac (cn x) af) c;simp only[Nat.sub_zero,Nat.sub_self,List.drop_zero,List.drop_length] at a;rw[show au [] x=0 from rfl,qC0] at a;refine f_c Tryz.func57 ?_;refine r_z 2 ?_;refine AWp.ent (st':=⟨[(0,.arr (pE p)),(3,bQ x),(4,.lptr 1 0 0)],[(1,some ⟨34,3,[zC]⟩)],2,9⟩) ?_ ?_;exact s_e [(1,4)];refine r_c 5 (a) ?_;refine a_z ?_;exact ai (c_e (aP _))
def hsS(p:List Rat)(g:Nat)(cap:List AV)(w:Nat→Rat×Rat):Nat→AState
 |k=>⟨[(4,.lptr 1 0 0),(5,.aptr [[.clos g [] cap]] 0 0),(6,.lptr 2 0 0),(10,.clos 191 [] [bP p])],[(1,some ⟨40,6,[spC (w k).1 (w k).2]⟩),(2,some ⟨40,6,[zC++zC]⟩)],3,18⟩
theorem BD(p:List Rat)(g:Nat)(cap:List AV)(w:Nat→Rat×Rat)(hl:p.length≤281474976710656)(hcap:∀c∈cap,Closed c)(hg:∀k,k< p.length→FS g ((.agg (spC (w k).1 (w k).2):: .agg (qC (coP p (p.length- 1- k)))::cap).map coe) (.agg (spC (w (k+1)).1 (w (k+1)).2))):FS 244 [.arr (pE p),.agg (spC (w 0).1 (w 0).2),.clos g [] cap] (.agg (spC (w p.length).1 (w p.length).2)):=by
 have hb:=jV p;have d:=jT p hl;have b:Closed (.clos g [] cap):=aQ af hcap;have i:Closed (.aptr [[.clos g [] cap]] 0 0):=a7 (ac b af);have f:Closed (.clos 191 [] [bP p]):=aQ af (ac (cx p) af);refine f_c Tryz.func244 ?_;refine r_z 3 ?_;refine AWp.ent (st':=⟨[(0,.arr (pE p)),(4,.lptr 1 0 0),(5,.aptr [[.clos g [] cap]] 0 0),(6,.lptr 2 0 0)],[(1,some ⟨40,6,[spC (w 0).1 (w 0).2]⟩),(2,some ⟨40,6,[zC++zC]⟩)],3,18⟩) ?_ ?_;have:=ac b af;exact s_f [(1,4),(2,6)];refine ae (r_c 2 (hb) ?_);refine ao ?_;refine aH (fun _:Unit=>⟨[(4,.lptr 1 0 0),(6,.lptr 2 0 0)],[(1,some ⟨40,6,[spC (w p.length).1 (w p.length).2]⟩),(2,some ⟨40,6,[zC++zC]⟩)],3,18⟩) (fun _=>True) ?_ ?_;refine aj (AWp.rangeFunc (α:=Nat) (γ:=Empty) p.length (hsS p g cap w) (fun k=>k) (fun k=>k≤p.length) (fun e=>nomatch e) (fun _ e=>nomatch e) 0 rfl d rfl rfl ?_ (fun _=>⟨rfl,rfl⟩) (fun e=>nomatch e) (Nat.zero_le _) rfl (fun _ h=>h) ?_ ?_ ?_ ?_ (fun _ e=>nomatch e));intro k xs a;unfold kG at a;split at a;cases a;rfl;cases a;rw[hsS.eq_1];exact s_y [] (fun hs=>dG) (fun hs=>kI);exact ac (cx p) af
 ·intro l k xs j a
  unfold kG at a;split at a;rotate_left;cases a;rename_i hlt;cases a;show AWp _ _ _ _ ⟨[(12,.agg (qC (coP p (p.length- 1- k)))),(11,i64 (p.length- 1- k:Nat)),(4,.lptr 1 0 0),(5,.aptr [[.clos g [] cap]] 0 0),(6,.lptr 2 0 0),(10,.clos 191 [] [bP p]),(1004,.lptr 1 0 0),(1005,.aptr [[.clos g [] cap]] 0 0),(1006,.lptr 2 0 0),(1010,.clos 191 [] [bP p])],[(1,some ⟨40,6,[spC (w k).1 (w k).2]⟩),(2,some ⟨40,6,[zC++zC]⟩)],3,18⟩;refine r_m 2 ?_;refine a_z ?_;refine aj (r_m 5 ?_);refine c_s (hg k hlt) ?_;refine a_z ?_;refine⟨k+1,⟨hlt,rfl⟩,?_⟩;show SEntT _ ⟨[(1004,.lptr 1 0 0),(1005,.aptr [[.clos g [] cap]] 0 0),(1006,.lptr 2 0 0),(1010,.clos 191 [] [bP p])],[(1,some ⟨40,6,[spC (w (k+1)).1 (w (k+1)).2]⟩),(2,some ⟨40,6,[zC++zC]⟩)],3,18⟩;exact s_y [] (fun hs=>dG) (fun hs=>kI)
 intro k j a;unfold kG at a;split at a;cases a;refine⟨(),trivial,?_⟩;rw[hsS.eq_1];have h1:k=p.length:=by omega
 subst h1;exact s_e [];rintro _ _;refine r_z 2 ?_;exact ai (c_e (bG _ _))
abbrev bS(s:Sp):AV:= .aptr [spC s.1 s.2] 0 0
theorem ns(s:Sp):Closed (bS s):=a7 (a6 _ _)
theorem Fh{a b:Sp}(h:smL (yI a b)):smS (sP a b):=⟨oc h,oc h⟩
theorem GG(v s:Sp)(c:Rat)(hv:smS v)(hs:smS s)(hc:sm c)(hp:smL (yI v s)):FS 245 [.agg (spC v.1 v.2),.agg (qC c),bS s] (.agg (spC (CA (sP v s) (c,c)).1 (CA (sP v s) (c,c)).2)):=by
 have a:=Fh hp;refine f_n Tryz.func245 ?_ ?_;exact ac (bG _ _) (ac (aP c) (ac (ns s) af));refine r_z 3 ?_;refine ae (r_d aY 7 ?_);refine c_s (fs_SMul v.1 v.2 s.1 s.2 hv.1 hv.2 hs.1 hs.2 hp) ?_;refine c_s (zx c) ?_;refine c_s (fs_SAdd (sP v s).1 (sP v s).2 c c a.1 a.2 hc hc) ?_;refine a_1 ?_;refine ao (n_k ?_);exact ai (c_e (bG _ _))
theorem fs_Over(p:List Rat)(s:Sp)(h:w9 p s):FS 208 [.arr (pE p),.agg (spC s.1 s.2)] (.agg (spC (gU p s).1 (gU p s).2)):=by
 obtain⟨f,hs,hl,d⟩:=h;have n:=bU p;refine f_c Tryz.func208 ?_;refine r_z 2 ?_;refine AWp.ent (st':=⟨[(0,.arr (pE p)),(3,bS s),(4,.lptr 1 0 0)],[(1,some ⟨40,6,[zC++zC]⟩)],2,30⟩) ?_ ?_;exact s_e [(1,4)];refine r_c 3 (dc p (by omega)) ?_;refine a_z ?_;refine bh (fun _:Unit=>⟨[(0,.arr (pE (aq p))),(3,bS s),(4,.lptr 1 0 0)],[(1,some ⟨40,6,[zC++zC]⟩)],2,30⟩) (fun _=>ft s.1 s.2≤0∧aq p≠[]) ?_ ?_;by_cases hv:ft s.1 s.2≤0;refine r_c 8 (ng s.1 s.2 hs.1 hs.2) ?_;refine a_2 ?_;refine y_g rfl (by simp[hv]) (.move rfl) ?_;refine y_g rfl (by simp[hv]) (.lenP rfl rfl rfl rfl te_36.h) ?_;refine y_g rfl (by simp[hv]) (.bin rfl rfl cv) ?_;refine o_0 (.pickF rfl (by simp[hv]) rfl) ?_;refine ao ?_;refine ap rfl (fun h1=>?_) (fun h1=>?_)
 have b:aq p=[]:=by
  have:(aq p).length=0:=by simpa using h1
  exact List.length_eq_zero_iff.1 this
 have c:gU p s=(0,0):=by unfold gU;rw[if_pos (.inr b)]
 rw[c];refine r_z 2 ?_;refine ai (Fin.cell rfl rfl rfl TG.h TS.h (nle rfl) (Cv.agg ?_));show CvL _ _ _ _ (qC 0++qC 0);rw[qC0];exact ah (Cv.emp _) (ah (ak aD (ag _)) (ah (Cv.emp _) (ah (Cv.emp _) (ah (ak aD (ag _)) (ah (Cv.emp _) av)))))
 have b:aq p≠[]:=by
  have:¬(aq p).length=0:=by simpa using h1
  exact fun e=>this (by rw[e];rfl)
 refine am ⟨(),⟨hv,b⟩,?_⟩;exact s_e [];refine r_c 8 (ng s.1 s.2 hs.1 hs.2) ?_;refine a_2 ?_;refine n_g rfl (by simp[hv]) ?_;refine n_g rfl (by simp[hv]) ?_;refine n_g rfl (by simp[hv]) ?_;refine o_0 (.pickT rfl (by simp[hv]) rfl) ?_;refine ao ?_;refine ap rfl (fun h1=>?_) (fun h1=>?_);have c:gU p s=(0,0):=by unfold gU;rw[if_pos (.inl hv)]
 rw[c];refine r_z 2 ?_;refine ai (Fin.cell rfl rfl rfl TG.h TS.h (nle rfl) (Cv.agg ?_));show CvL _ _ _ _ (qC 0++qC 0);rw[qC0];exact ah (Cv.emp _) (ah (ak aD (ag _)) (ah (Cv.emp _) (ah (Cv.emp _) (ah (ak aD (ag _)) (ah (Cv.emp _) av)))));cases h1;rintro _ ⟨hv,b⟩;have o:=List.length_pos_iff.2 b
 have c:gU p s=ovP (aR p,aR p) s ((aq p).take ((aq p).length- 1)):=by
  unfold gU;rw[if_neg (by rintro(e|e);exact e hv;exact b e)]
 obtain⟨l,a⟩:∃l,l=(aq p).take ((aq p).length- 1):=⟨_,rfl⟩;rw[←a] at d c;rw[c];have g:l.length=(aq p).length- 1:=by rw[a];simp
 have i:∀q∈l,sm q:=fun q t=>f q (cX (List.mem_of_mem_take (by rw[←a];exact t)))
 have m:∀k,k< l.length→FS 245 [.agg (spC (ovP (aR p,aR p) s (l.drop (l.length- k))).1 (ovP (aR p,aR p) s (l.drop (l.length- k))).2),.agg (qC (coP l (l.length- 1- k))),bS s] (.agg (spC (ovP (aR p,aR p) s (l.drop (l.length- (k+1)))).1 (ovP (aR p,aR p) s (l.drop (l.length- (k+1)))).2)):=fun k r=>by
  have h1:=vk (l.length- (k+1)) d;rw[qH r] at h1⊢;exact GG _ s _ (okOv_sm h1.1) hs h1.2.2.1 h1.2.1
 have j:=BD l 245 [bS s] (fun k=>ovP (aR p,aR p) s (l.drop (l.length- k))) (by omega) (ac (ns s) af) m;simp only[Nat.sub_zero,Nat.sub_self,List.drop_zero,List.drop_length] at j
 have hg:(pE (aq p))[(((aq p).length:Int)- 1).toNat]?=some (qC (aR p)):=by
  rw[show(((aq p).length:Int)- 1).toNat=(aq p).length- 1 by omega];exact pE_get (dT (by omega))
 refine r_z 4 ?_;refine ae (r_d aY 11 ?_);refine a_2 ?_;refine o_0 (.sa_h rfl rfl (h:=(aq p).length- 1) (by omega) (by simp) te_36.h (kV _)) ?_;refine a_2 ?_;refine i_x hg ?_;refine l_x hg ?_;refine c_s (zx (aR p)) ?_;refine o_0 (.makeFunc rfl rfl) ?_;refine o_0 (.call rfl rfl rfl ((by rw[rO,←a];exact j))) ?_;refine dX (.store rfl rfl rfl rfl rfl rfl TS.h (nle rfl)) ?_;refine ao (n_k ?_);exact ai (c_e (bG _ _))
def hpS(p:List Rat)(g:Nat)(cap:List AV)(w:Nat→List Rat):Nat→AState
 |k=>⟨[(4,.lptr 1 0 0),(5,.aptr [[.clos g [] cap]] 0 0),(10,.clos 191 [] [bP p])],[(1,some ⟨36,1,[[.arr (pE (w k))]]⟩)],2,18⟩
theorem BF(p:List Rat)(g:Nat)(cap:List AV)(w:Nat→List Rat)(hl:p.length≤281474976710656)(hcap:∀c∈cap,Closed c)(hg:∀k,k< p.length→FS g ((.arr (pE (w k)):: .agg (qC (coP p (p.length- 1- k)))::cap).map coe) (.arr (pE (w (k+1))))):FS 110 [.arr (pE p),.arr (pE (w 0)),.clos g [] cap] (.arr (pE (w p.length))):=by
 have hb:=jV p;have d:=jT p hl;have b:Closed (.clos g [] cap):=aQ af hcap;have i:Closed (.aptr [[.clos g [] cap]] 0 0):=a7 (ac b af);have f:Closed (.clos 191 [] [bP p]):=aQ af (ac (cx p) af);refine f_c Tryz.func110 ?_;refine r_z 3 ?_;refine AWp.ent (st':=⟨[(0,.arr (pE p)),(4,.lptr 1 0 0),(5,.aptr [[.clos g [] cap]] 0 0)],[(1,some ⟨36,1,[[.arr (pE (w 0))]]⟩)],2,18⟩) ?_ ?_;have:=ac b af;exact s_f [(1,4)];refine ae (r_c 2 (hb) ?_);refine ao ?_;refine aH (fun _:Unit=>⟨[(4,.lptr 1 0 0)],[(1,some ⟨36,1,[[.arr (pE (w p.length))]]⟩)],2,18⟩) (fun _=>True) ?_ ?_;refine aj (AWp.rangeFunc (α:=Nat) (γ:=Empty) p.length (hpS p g cap w) (fun k=>k) (fun k=>k≤p.length) (fun e=>nomatch e) (fun _ e=>nomatch e) 0 rfl d rfl rfl ?_ (fun _=>⟨rfl,rfl⟩) (fun e=>nomatch e) (Nat.zero_le _) rfl (fun _ h=>h) ?_ ?_ ?_ ?_ (fun _ e=>nomatch e));intro k xs a;unfold kG at a;split at a;cases a;rfl;cases a;rw[hpS.eq_1];exact s_y [] (fun hs=>dG) (fun hs=>kI);exact ac (cx p) af
 ·intro l k xs j a
  unfold kG at a;split at a;rotate_left;cases a;rename_i hlt;cases a;show AWp _ _ _ _ ⟨[(12,.agg (qC (coP p (p.length- 1- k)))),(11,i64 (p.length- 1- k:Nat)),(4,.lptr 1 0 0),(5,.aptr [[.clos g [] cap]] 0 0),(10,.clos 191 [] [bP p]),(1004,.lptr 1 0 0),(1005,.aptr [[.clos g [] cap]] 0 0),(1010,.clos 191 [] [bP p])],[(1,some ⟨36,1,[[.arr (pE (w k))]]⟩)],2,18⟩;refine r_m 2 ?_;refine a_z ?_;refine aj (r_m 5 ?_);refine c_s (hg k hlt) ?_;refine a_z ?_;refine⟨k+1,⟨hlt,rfl⟩,?_⟩;show SEntT _ ⟨[(1004,.lptr 1 0 0),(1005,.aptr [[.clos g [] cap]] 0 0),(1010,.clos 191 [] [bP p])],[(1,some ⟨36,1,[[.arr (pE (w (k+1)))]]⟩)],2,18⟩;exact s_y [] (fun hs=>dG) (fun hs=>kI)
 intro k j a;unfold kG at a;split at a;cases a;refine⟨(),trivial,?_⟩;rw[hpS.eq_1];have h1:k=p.length:=by omega
 subst h1;exact s_e [];rintro _ _;refine r_z 2 ?_;exact ai (t_e (ax _))
theorem zo(v q:List Rat)(c:Rat)(h:ef v q)(hc:sm c)(hl:(aT v q).length≤274877906944):FS 111 [.arr (pE v),.agg (qC c),bP q] (.arr (pE (fa (aT v q) (dR c)))):=by
 have a:=oa c;refine f_c Tryz.func111 ?_;refine r_z 2 ?_;refine ae (r_d aY 7 ?_);refine c_s (GI v q (mxL v) (mxL q) (eJ v) (eJ q) (ej v) (ej q) h.1 h.2.1 h.2.2.1 h.2.2.2) ?_;refine c_s (rm c) ?_;refine c_s (jW (aT v q) (dR c) (tA h) (lC fun x b=>by rw[List.mem_singleton.1 b];exact hc) (by omega) (by omega)) ?_;refine a_1 ?_;refine ao (n_k ?_);exact ai (t_e (ax _))
theorem BJ(p q:List Rat)(h:fY q p)(hp:p.length≤274877906944):FS 47 [.arr (pE p),.arr (pE q)] (.arr (pE (b6 q p))):=by
 have c:∀k,k< p.length→FS 111 [.arr (pE (b6 q (p.drop (p.length- k)))),.agg (qC (coP p (p.length- 1- k))),bP q] (.arr (pE (b6 q (p.drop (p.length- (k+1)))))):=fun k b=>by
  have h1:=rk (p.length- (k+1)) h;rw[qH b] at h1⊢;exact zo _ q _ h1.2.1 h1.2.2.1 h1.2.2.2
 have a:=BF p 111 [bP q] (fun k=>b6 q (p.drop (p.length- k))) (by omega) (ac (cx q) af) c;simp only[Nat.sub_zero,Nat.sub_self,List.drop_zero,List.drop_length] at a;refine f_c Tryz.func47 ?_;refine r_z 2 ?_;refine AWp.ent (st':=⟨[(0,.arr (pE p)),(3,bP q)],[],1,8⟩) ?_ ?_;exact s_e [];refine r_c 4 (a) ?_;refine a_z ?_;exact ai (t_e (ax _))
theorem tS(p:List Rat)(c:Rat)(h:fY [c,1] p)(hp:p.length≤274877906944):FS 12 [.arr (pE p),.agg (qC c)] (.arr (pE (b6 [c,1] p))):=by
 refine f_c Tryz.func12 ?_;refine r_z 2 ?_;refine r_c 5 (fs_line c) ?_;refine c_s (BJ p [c,1] h hp) ?_;refine a_z ?_;exact ai (t_e (ax _))
def coS:Nat×Nat→AState
 |(a,b)=>⟨[(2,.lptr 1 0 0),(3,.lptr 2 0 0),(4,.lptr 3 0 0)],[(1,some ⟨34,3,[qC (nQ a)]⟩),(2,some ⟨34,3,[qC (nQ b)]⟩),(3,some ⟨34,3,[zC]⟩)],4,18⟩
theorem uk(a:Nat)(b:Nat):coS (a,b)=⟨[(2,.lptr 1 0 0),(3,.lptr 2 0 0),(4,.lptr 3 0 0)],[(1,some ⟨34,3,[qC (nQ a)]⟩),(2,some ⟨34,3,[qC (nQ b)]⟩),(3,some ⟨34,3,[zC]⟩)],4,18⟩:=rfl
theorem tQ(a b:Nat)(ha:bl a≤68719476736)(hb:bl b≤68719476736):FS 263 [.agg (qC (nQ a)),.agg (qC (nQ b))] (.agg (qC (nQ (Nat.gcd a b)))):=by
 refine f_c Tryz.func263 ?_;refine r_z 3 ?_;refine bh (fun _:Unit=>coS (Nat.gcd a b,0)) (fun _=>True) ?_ ?_;refine aj (aB coS (fun x=>x.2) (fun x=>Nat.gcd x.1 x.2=Nat.gcd a b∧bl x.1≤68719476736∧bl x.2≤68719476736) (a,b) ⟨rfl,ha,hb⟩ ?_ ?_);simp only[uk];exact s_e [];rintro⟨u,v⟩ ⟨hg,d,hv⟩;simp only at hg d hv;rw[uk];refine ae (r_c 3 (ci (nQ v)) ?_);refine a_z ?_;refine ap rfl (fun h=>?_) (fun h=>?_)
 have c:v≠0:=by
  intro e;subst e;exact absurd h (by decide)
 refine am ?_;have h1:=nw (n:=u) d (by decide);have p:=nw (n:=v) hv (by decide);have q:=gY (nQ u) (nQ v);have i:=gH (nQ u) (nQ v) (fun e=>c (nQ_zero.1 e)) (by omega);have g:=ph (nQ u/ nQ v) (by omega);rw[Bb u v c,yU u v c] at g;rw[Bb u v c] at i;have o:=nw (n:=u/ v) (k:=68719476736) (Nat.le_trans (eI u v) d) (by decide);have l:=cU (nQ v) (nQ (u/ v)) (by omega);rw[FZ] at l;have j:v* (u/ v)≤u:=Nat.mul_div_le u v;have m:=nw (n:=v* (u/ v)) (k:=68719476736) (Nat.le_trans (dt j) d) (by decide);have f:=kZ (nQ u) (nQ (v* (u/ v))) (by omega);rw[nQ_sub j,show u- v* (u/ v)=u % v by have:=Nat.div_add_mod u v;omega] at f;refine aj (r_d aY 11 ?_);refine c_s (i) ?_;refine c_s (g) ?_;refine c_s (l) ?_;refine c_s (f) ?_;refine a_2 ?_;refine ao (n_k ?_);refine⟨(v,u % v),Nat.mod_lt _ (by omega),⟨?_,hv,Nat.le_trans (dt (Nat.mod_le u v)) d⟩,?_⟩;rw[←hg];show Nat.gcd v (u % v)=Nat.gcd u v;rw[Nat.gcd_comm v,Nat.gcd_comm u v,←Nat.gcd_rec];simp only[uk];exact s_e []
 have c:v=0:=by
  have h1:sgZ (nQ v).num=0:=by simpa using h
  exact nQ_zero.1 (sgZ_num_eq.1 h1)
 subst c;rw[Nat.gcd_zero_right] at hg;refine ay ⟨(),trivial,?_⟩;rw[←hg];simp only[uk];exact s_e [];rintro _ _;simp only[uk];refine r_z 2 ?_;exact ai (c_e (aP _))
def prS(t:List Rat):Nat×Nat→AState
 |(i,d)=>⟨[(0,.arr (pE t)),(3,.lptr 1 0 0),(4,.lptr 2 0 0),(13,.arr (pE t)),(14,i64 t.length),(15,i64 i)],[(1,some ⟨34,3,[qC (nQ d)]⟩),(2,some ⟨34,3,[qC 0]⟩)],3,47⟩
def prT(t:List Rat)(D:Nat):Nat×Nat→AState
 |(i,n)=>⟨[(0,.arr (pE t)),(3,.lptr 1 0 0),(4,.lptr 2 0 0),(29,.arr (pE t)),(30,i64 t.length),(31,i64 i)],[(1,some ⟨34,3,[qC (nQ D)]⟩),(2,some ⟨34,3,[qC (nQ n)]⟩)],3,47⟩
theorem xN{l:List Rat}{i:Nat}(h:i< l.length):l.drop i=coP l i::l.drop (i+1):=by
 rw[List.drop_eq_getElem_cons h];congr 1;have:=b9 h;rw[List.getElem?_eq_getElem h] at this;exact Option.some.inj this
theorem Hj(a b:Nat):bl (Nat.gcd a b)≤max (bl a) (bl b):=by
 rcases Nat.eq_zero_or_pos a with h|h
 subst h;rw[Nat.gcd_zero_left];exact Nat.le_max_right _ _;exact Nat.le_trans (dt (Nat.gcd_le_left b h)) (Nat.le_max_left _ _)
theorem pe(p:List Rat)(h:w8 p)(h0:aq p≠[]):FS 238 [.arr (pE p)] (.arr (pE (ee p))):=by
 obtain⟨t,ht⟩:∃t,t=aq p:=⟨_,rfl⟩;obtain⟨s,hs⟩:∃s,s=mxL p:=⟨_,rfl⟩;have hs1:1≤s:=by rw[hs];exact ej p
 have g:bdL t s:=fun q hq=>by rw[hs];exact eJ p q (cX (by rw[←ht];exact hq))
 have Q:t.length≤p.length:=by rw[ht];exact bU p
 obtain⟨C,hpl⟩:=h;rw[←hs] at C;have X:t.length* s≤p.length* s:=Nat.mul_le_mul_right _ Q;rw[Nat.add_mul] at C;obtain⟨D,G⟩:∃D,D=uh t 1:=⟨_,rfl⟩;have S:D≠0:=by rw[G];exact Dy t (by decide)
 have hDb:bl D≤1+t.length* s:=by rw[G];exact Dz t 1 g
 have E:∀c∈t,c.den∣D:=by rw[G];exact(ug t 1).2
 obtain⟨N,hN⟩:∃N,N=D6 D t 0:=⟨_,rfl⟩
 have b:aR p∈t:=by
  rw[ht];obtain⟨n,u⟩:∃n,(aq p).length=n+1:=⟨(aq p).length- 1,by have:=List.length_pos_iff.2 h0;omega⟩;exact List.mem_of_getElem? (dT u)
 have l:=(yP D t 0).2 (aR p) b;rw[←hN] at l;have U:=intC_ne (E _ b) S (gG h0);have R:N≠0:=fun e=>U (by rw[e] at l;exact Nat.zero_dvd.1 l);have hNb:bl N≤s+bl D:=Nat.le_trans (dt (Nat.le_of_dvd (by omega) l)) (Nat.le_trans (C8 _ _) (by have:=g _ b;omega));have O:ee p=aZ t (nQ D/ nQ N):=by unfold ee;rw[←ht,←G,←hN]
 rw[O];have j:∀i,i< t.length→(pE t)[((i:Nat):Int).toNat]?=some (qC (coP t i)):=fun i r=>pE_get (b9 r);have f:∀i,i< t.length→coP t i∈t:=fun i r=>List.mem_of_getElem? (b9 r);have A:=dc p (by omega);rw[←ht] at A;refine f_c Tryz.func238 ?_;refine r_z 1 ?_;refine r_c 3 (A) ?_;refine a_z ?_;refine r_c 6 (dK 1 (by decide)) ?_;refine a_z ?_;refine ae (r_z 3 ?_);refine aH (fun _:Unit=>⟨[(0,.arr (pE t)),(3,.lptr 1 0 0),(4,.lptr 2 0 0)],[(1,some ⟨34,3,[qC (nQ D)]⟩),(2,some ⟨34,3,[qC 0]⟩)],3,47⟩) (fun _=>True) ?_ ?_;refine aj (aB (prS t) (fun x=>t.length- x.1) (fun x=>x.1≤t.length∧x.2≠0∧uh (t.drop x.1) x.2=D) (0,1) ⟨Nat.zero_le _,by decide,by rw[G];rfl⟩ ?_ ?_);simp only[prS.eq_1];rw[qC0];exact s_e [(1,3),(2,4)];rintro⟨i,d⟩ ⟨r,y,z⟩;simp only at r y z;rw[prS.eq_1];refine r_z 1 ?_;refine ae (ap rfl (fun h=>?_) (fun h=>?_));refine am ?_;have a:i< t.length:=by simpa using h
 have hc:=g _ (f i a);have Y:=du (coP t i);have J:=(coP t i).den_nz;rw[xN a] at z;have V:d∣D:=by rw[←z];exact(ug _ d).1
 have W:=dt (Nat.le_of_dvd (by omega) V);have hq1:=nw (n:=d) (k:=34359738368) (by omega) (by decide);have H:=nw (n:=(coP t i).den) (k:=34359738368) (by omega) (by decide);have m:=cU (nQ d) (nQ (coP t i).den) (by omega);have w:=tQ d (coP t i).den (by omega) (by omega);have v:Nat.gcd d (coP t i).den≠0:=by have:=Nat.gcd_pos_of_pos_left (coP t i).den (Nat.pos_of_ne_zero y);omega
 have T:=Hj d (coP t i).den;have L:=nw (n:=Nat.gcd d (coP t i).den) (k:=34359738368) (by omega) (by decide);have K:=eu (nQ d) (nQ (coP t i).den);rw[FZ] at K m;have B:=gH (nQ (d* (coP t i).den)) (nQ (Nat.gcd d (coP t i).den)) (fun e=>v (nQ_zero.1 e)) (by omega);rw[Bb _ _ v,Eb _ _ v (Nat.dvd_mul_right_of_dvd (Nat.gcd_dvd_left _ _) _)] at B;refine ae (aj (s_r 4 ?_));refine aO (.index_a rfl rfl (by omega) (j i a) rfl te_36.h) rfl rfl ?_;refine aO (.load_a rfl (j i a) TG.h TS.h (nle rfl)) rfl rfl ?_;refine a_z ?_;refine r_d aY 10 ?_;refine c_s (GB (coP t i) (by unfold sm;omega)) ?_;refine c_s (m) ?_;refine c_s (GB (coP t i) (by unfold sm;omega)) ?_;refine c_s (w) ?_;refine c_s (B) ?_;refine a_1 ?_;refine ao (n_k ?_);refine r_m 2 ?_;refine a_z ?_;refine⟨(i+1,Nat.lcm d (coP t i).den),by simp only;omega,⟨a,C3 y J,z⟩,?_⟩;simp only[prS.eq_1];exact s_e []
 have o:i=t.length:=by
  have:¬i< t.length:=by simpa using h
  omega
 subst o;rw[List.drop_length] at z;refine ay ⟨(),trivial,?_⟩;rw[←z];exact s_e [];rintro _ _;refine ae (r_z 3 ?_);refine aH (fun _:Unit=>⟨[(0,.arr (pE t)),(3,.lptr 1 0 0),(4,.lptr 2 0 0)],[(1,some ⟨34,3,[qC (nQ D)]⟩),(2,some ⟨34,3,[qC (nQ N)]⟩)],3,47⟩) (fun _=>True) ?_ ?_;refine aj (aB (prT t D) (fun x=>t.length- x.1) (fun x=>x.1≤t.length∧bl x.2≤s+bl D∧D6 D (t.drop x.1) x.2=N) (0,0) ⟨Nat.zero_le _,by rw[bl_zero];exact Nat.zero_le _,by rw[hN];rfl⟩ ?_ ?_);simp only[prT.eq_1];exact s_e [];rintro⟨i,n⟩ ⟨r,M,u⟩;simp only at r M u;rw[prT.eq_1];refine r_z 1 ?_;refine ae (ap rfl (fun h=>?_) (fun h=>?_));refine am ?_;have a:i< t.length:=by simpa using h
 have hc:=g _ (f i a);rw[xN a] at u;have Z:=C8 (coP t i) D;have T:=Hj n (rH (coP t i) D);have hq1:=nw (n:=D) (k:=34359738368) (by omega) (by decide);have m:=cU (coP t i) (nQ D) (by omega);have F:=qA (coP t i* nQ D);rw[F1 _ _ (E _ (f i a))] at F;have w:=tQ n (rH (coP t i) D) (by omega) (by omega);refine ae (aj (s_r 4 ?_));refine aO (.index_a rfl rfl (by omega) (j i a) rfl te_36.h) rfl rfl ?_;refine aO (.load_a rfl (j i a) TG.h TS.h (nle rfl)) rfl rfl ?_;refine a_z ?_;refine r_d aY 7 ?_;refine c_s (m) ?_;refine c_s (F) ?_;refine c_s (w) ?_;refine a_1 ?_;refine ao (n_k ?_);refine r_m 2 ?_;refine a_z ?_;refine⟨(i+1,Nat.gcd n (rH (coP t i) D)),by simp only;omega,⟨a,by simp only;omega,u⟩,?_⟩;simp only[prT.eq_1];exact s_e []
 have o:i=t.length:=by
  have:¬i< t.length:=by simpa using h
  omega
 subst o;rw[List.drop_length] at u;refine ay ⟨(),trivial,?_⟩;rw[←u];exact s_e [];rintro _ _;have hq1:=nw (n:=D) (k:=34359738368) (by omega) (by decide);have H:=nw (n:=N) (k:=34359738368) (by omega) (by decide);have L:=gY (nQ D) (nQ N);refine r_c 6 (gH (nQ D) (nQ N) (fun e=>R (nQ_zero.1 e)) (by omega)) ?_;refine c_s (eD t (nQ D/ nQ N) (cW g (by omega)) (by unfold sm;omega) (by omega)) ?_;refine a_z ?_;exact ai (t_e (ax _))
end Go.Proofs.YtkhclghbcicapaaGreatDoor
