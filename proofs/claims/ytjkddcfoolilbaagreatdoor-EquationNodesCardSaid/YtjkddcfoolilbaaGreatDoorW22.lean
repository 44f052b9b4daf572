/- Part W22 of the proof. -/
import Derived.Test.YtjkddcfoolilbaaGreatDoorW21
set_option linter.all false
namespace Go.Proofs.YtjkddcfoolilbaaGreatDoor
open Go.Abs
set_option maxRecDepth 20000
theorem os_Clone(l:List Rat)(h0:l≠[])(hl:l.length≤1099511627776):OSpec Tryz.prog 143 [.arr (pE l)] 46 3 (pE l):=by
 have hne:pE l≠[]:=by
  intro e;exact h0 (List.length_eq_zero_iff.1 (by rw[←qP_,e];rfl))
 refine OSpec.enter Tryz.func143 rfl (by kernel_rfl) rfl rfl rfl ?_ ?_ rfl ?_;exact aa_ (ax_ (aG_ _)) ac_;exact aG_ l;refine r_z 1 ?_;refine ab_ (s_r 2 ?_);refine a_1 ?_;refine az_ (.nilq_arr rfl (hne) rfl te_33.h) rfl rfl ?_;refine ak_ ?_;refine cF ?_
 ·refine ah_ (s_r 4 ?_)
  refine a_2 ?_;refine o_2 (.append_l rfl rfl rfl te_33.h rfl rfl rfl rfl rfl d_o (by first|exact cw_ _|exact cu_ _|exact b6_ _|exact cx_ _|exact ct_ _|assumption|rfl|simp) (by first|rfl|exact cw_ _|exact cu_ _|exact b6_ _|exact cx_ _|exact ct_ _|simp) rfl (.arr (fS_ _)) TZ.h rfl TB.h d_o (by first|(simp[maxLen];done)|(simp[maxLen];omega))) ?_;refine a_z ?_;exact ag_ (FinO.tmp rfl rfl rfl (by simp))
theorem os_Trim(l:List Rat)(h0:trimQ l≠[])(hl:l.length≤1099511627776):OSpec Tryz.prog 77 [.arr (pE l)] 46 3 (pE (trimQ l)):=by
 refine OSpec.enter Tryz.func77 rfl (by kernel_rfl) rfl rfl rfl ?_ ?_ rfl ?_;exact aa_ (ax_ (aG_ _)) ac_;exact aG_ _;refine r_z 1 ?_;refine r_z 3 ?_;refine aQ_ (trS l) (fun n=>n≤l.length∧trimQ l=l.take n) ?_ ?_;refine af_ (aq_ (trS l) (fun n=>n) (fun n=>n≤l.length∧trimQ l=trimQ (l.take n)) l.length ⟨Nat.le_refl _,by rw[List.take_length]⟩ ?_ ?_);simp only[trS.eq_1];exact s_e [];rintro n ⟨hn,ht⟩;rw[trS.eq_1];cases n with
 |zero=>exact absurd (ht.trans rfl) h0
 |succ n=>
  obtain⟨q,hq⟩:∃q,l[n]?=some q:=⟨_,List.getElem?_eq_getElem (by omega)⟩
  have hq':(pE l)[(((n+1:Nat):Int)- 1).toNat]?=some (qC q):=by
   rw[show(((n+1:Nat):Int)- 1).toNat=n by omega];exact pE_get hq
  have hs:trimQ (l.take (n+1))=if q=0 then trimQ (l.take n) else l.take (n+1):=by
   rw[br_ hq,e9_]
  refine ab_ (s_r 11 ?_);refine a_3 ?_;refine y_g rfl (by simp <;> omega) (.move rfl) ?_;refine y_g rfl (by simp <;> omega) (.move rfl) ?_;refine y_g rfl (by simp <;> omega) (.bin rfl rfl (gD_ (by omega))) ?_;refine y_g rfl (by simp <;> omega) (.index_a rfl rfl (by omega) hq' rfl te_33.h) ?_;refine y_g rfl (by simp <;> omega) (.load_a rfl hq' TG.h TS.h (nle rfl)) ?_;refine y_g rfl (by simp <;> omega) (.call rfl rfl rfl (bt_ q)) ?_;refine y_g rfl (by simp <;> omega) (.bin rfl rfl aS_) ?_;refine o_0 (.pickT rfl (by simp <;> omega) rfl) ?_;refine ak_ ?_;refine aj_ rfl (fun h=>?_) (fun h=>?_)
  have h0:q=0:=by
   have h1:sgZ q.num=0:=by simpa using h
   exact sgZ_num_eq.1 h1
  refine ah_ (af_ (r_m 3 ?_));refine a_z ?_;refine⟨n,Nat.lt_succ_self n,⟨by omega,?_⟩,?_⟩;rw[ht,hs,if_pos h0];simp only[trS.eq_1];exact s_e []
  have h0:q≠0:=by
   intro e;have h1:¬sgZ q.num=0:=by simpa using h
   exact h1 (sgZ_num_eq.2 e)
  refine ao_ ⟨n+1,⟨hn,?_⟩,?_⟩;rw[ht,hs,if_neg h0];simp only[trS.eq_1];exact s_e []
 rintro n ⟨hn,ht⟩;rw[trS.eq_1];rw[ht] at h0;have hcl:=os_Clone (l.take n) h0 (by simp;omega);refine s_r 5 ?_;refine a_2 ?_;refine o_0 (.sa_h rfl rfl (h:=n) rfl (by simp;omega) te_33.h (fS_ _)) ?_;refine o_1 (.callO rfl rfl rfl ((by rw[ko_];exact hcl))) ?_;refine a_z ?_;refine ag_ ?_;rw[ht];exact FinO.tmp rfl rfl rfl (by simp)
def dvS(q:List Rat)(lead:Rat):Nat×List Rat×List Rat→AState
 |(c,u,o)=>⟨[(0,.lsl 1 0 o.length none 3),(1,.arr (pE q)),(4,.lsl 2 0 u.length (some u.length) 3),(6,.lptr 3 0 0),(7,i64 ((c:Int)- 1))],[(1,some ⟨46,3,pE o⟩),(2,some ⟨46,3,pE u⟩),(3,some ⟨46,3,[qC lead]⟩)],4,82⟩
def dvT(q:List Rat)(lead:Rat)(n:Nat)(u:List Rat)(k:Rat):Nat×List Rat→AState
 |(i,o)=>⟨[(0,.lsl 1 0 o.length none 3),(1,.arr (pE q)),(4,.lsl 2 0 u.length (some u.length) 3),(6,.lptr 3 0 0),(7,i64 n),(8,.lptr 4 0 0),(55,.arr (pE q)),(56,i64 q.length),(57,i64 i)],[(1,some ⟨46,3,pE o⟩),(2,some ⟨46,3,pE u⟩),(3,some ⟨46,3,[qC lead]⟩),(4,some ⟨46,3,[qC k]⟩)],5,82⟩
theorem iS_(p q:List Rat)(s t:Nat)(hp:bdL p s)(hq:bdL q t)(hs:1≤s)(ht:1≤t)(h:2^ ((trimQ p).length+1- (trimQ q).length) * (s+2* t+1)≤137438953472)(hq0:trimQ q≠[])(hp1:p.length≤274877906944)(hq1:q.length≤274877906944):FS 260 [.arr (pE p),.arr (pE q)] (.tup [.arr (pE (divP p q).1),.arr (pE (divP p q).2)]):=by
 have hlp:=bc_ p;have hlq:=bc_ q;have hql:=List.length_pos_iff.2 hq0
 have hg:(pE (trimQ q))[(((trimQ q).length:Int)- 1).toNat]?=some (qC (leadP q)):=by
  rw[show(((trimQ q).length:Int)- 1).toNat=(trimQ q).length- 1 by omega];exact pE_get (cB_ (by omega))
 have hne:=fi_ hq0;obtain⟨m,hm⟩:∃m,m=(trimQ p).length+1- (trimQ q).length:=⟨_,rfl⟩;have hmx:(if (0:Int)>((trimQ p).length:Int)- (trimQ q).length+1 then(0:Int) else((trimQ p).length:Int)- (trimQ q).length+1)=(m:Int):=by split <;> omega
 have hB:divB (trimQ q) (leadP q) 137438953472 m (List.replicate m 0) (trimQ p):=by
  refine⟨s,t,dv_ (fun x hx=>hp x (bD_ hx)) hs,dv_ (fun x hx=>hq x (bD_ hx)) ht,hq _ (bD_ (List.mem_of_getElem? (cB_ (n:=(trimQ q).length- 1) (by omega)))),ht,fun n=>?_,by rw[hm];exact h⟩
  have:coP (List.replicate m 0) n=0:=by
   unfold coP;rw[List.getD_eq_getElem?_getD,List.getElem?_replicate];split <;> rfl
  rw[this];decide
 have hdv:divP p q=(trimQ (divR (trimQ q) (leadP q) m (List.replicate m 0) (trimQ p)).1,trimQ (divR (trimQ q) (leadP q) m (List.replicate m 0) (trimQ p)).2):=by rw[hm];rfl
 rw[hdv];refine f_c Tryz.func260 ?_;refine r_z 2 ?_;by_cases hp0:trimQ p=[]
 ·have hm0:m=0:=by rw[hm,hp0];simp;omega
  subst hm0;rw[hp0] at hmx⊢;have htp:=cf_ p (by omega);rw[hp0] at htp;refine r_c 6 (htp) ?_;refine c_s (cf_ q (by omega)) ?_;refine a_z ?_;refine s_r 8 ?_;refine a_4 ?_;refine i_x hg ?_;refine l_x hg ?_;refine a_z ?_;refine s_r 9 ?_;refine a_7 ?_;refine o_1 (.makeSlice (l:=0) (c:=0) (by rw[←hmx];rfl) (by rw[←hmx];rfl) te_33.h TZ.h rfl TB.h (by first|omega|(simp;done)|(simp;omega)) (by first|omega|(simp;done)|(simp;omega)) (by unfold maxLen;first|omega|(simp;done)|(simp;omega))) ?_;refine a_z ?_;refine ab_ (r_z 6 ?_);refine av_ (fun _:Unit=>⟨[(0,.arr (pE [])),(4,.lsl 2 0 0 (some 0) 3)],[(2,some ⟨46,3,[]⟩)],3,82⟩) (fun _=>True) ?_ ?_;refine af_ (aq_ (fun _:Unit=>⟨[(0,.arr (pE [])),(4,.lsl 2 0 0 (some 0) 3),(7,i64 (0- ((trimQ q).length:Int)))],[(2,some ⟨46,3,[]⟩)],3,82⟩) (fun _=>0) (fun _=>True) () trivial ?_ ?_);exact s_x [(2,4)] (fun hs=>au_f) (fun hs=>e_16);rintro _ _;refine ab_ (r_z 2 ?_);refine aj_ rfl (fun h1=>?_) (fun h1=>?_);exact absurd h1 (by simp;omega);refine ao_ ⟨(),trivial,?_⟩;exact s_x [] (fun hs=>au_f) (fun hs=>e_16);rintro _ _;refine s_r 6 ?_;refine a_1 ?_;refine o_1 (.callS1 rfl rfl rfl (.shut rfl d_n (.nil)) rfl ((cf_ [] (by simp)))) ?_;refine c_s (cf_ [] (by simp)) ?_;refine a_z ?_;refine ag_ (Fin.many ⟨_,_,rfl,rfl,⟨_,_,rfl,rfl,rfl⟩⟩ (nle rfl) ?_);exact ae_ (ai_ as_ (ap_ _)) (ae_ (ai_ as_ (ap_ _)) am_)
 have hpl:=List.length_pos_iff.2 hp0;have hto:=os_Trim p hp0 (by omega);have hdl:=eI_ (trimQ q) (leadP q) m (List.replicate m 0) (trimQ p);have hend:=nk_ hB;refine s_r 6 ?_;refine a_1 ?_;refine o_1 (.callO rfl rfl rfl (hto)) ?_;refine c_s (cf_ q (by omega)) ?_;refine a_z ?_;refine AWp.ent (st':=⟨[(0,.lsl 1 0 (trimQ p).length none 3),(1,.arr (pE (trimQ q)))],[(1,some ⟨46,3,pE (trimQ p)⟩)],2,82⟩) ?_ ?_;exact s_e [(1,0)];refine s_r 8 ?_;refine a_4 ?_;refine i_x hg ?_;refine l_x hg ?_;refine a_z ?_;refine s_r 9 ?_;refine a_7 ?_;refine o_1 (.makeSlice (l:=m) (c:=m) (by rw[←hmx];rfl) (by rw[←hmx];rfl) te_33.h TZ.h rfl TB.h (by first|omega|(simp;done)|(simp;omega)) (by first|omega|(simp;done)|(simp;omega)) (by unfold maxLen;first|omega|(simp;done)|(simp;omega))) ?_;refine a_z ?_;refine ab_ (r_z 6 ?_);refine av_ (fun x:List Rat×List Rat=>⟨[(0,.lsl 1 0 x.2.length none 3),(4,.lsl 2 0 x.1.length (some x.1.length) 3)],[(1,some ⟨46,3,pE x.2⟩),(2,some ⟨46,3,pE x.1⟩)],3,82⟩) (fun x=>x=divR (trimQ q) (leadP q) m (List.replicate m 0) (trimQ p)) ?_ ?_;refine af_ ?_;by_cases hab:(trimQ p).length< (trimQ q).length;have hm0:m=0:=by omega
 subst hm0;refine aq_ (fun _:Unit=>⟨[(0,.lsl 1 0 (trimQ p).length none 3),(4,.lsl 2 0 0 (some 0) 3),(7,i64 (((trimQ p).length:Int)- ((trimQ q).length:Int)))],[(1,some ⟨46,3,pE (trimQ p)⟩),(2,some ⟨46,3,[]⟩)],3,82⟩) (fun _=>0) (fun _=>True) () trivial ?_ ?_;exact s_x [(1,0),(2,4)] (fun hs=>au_f) (fun hs=>e_16);rintro _ _;refine ab_ (r_z 2 ?_);refine aj_ rfl (fun h1=>?_) (fun h1=>?_);exact absurd h1 (by simp;omega);refine ao_ ⟨([],trimQ p),rfl,?_⟩;exact s_f [];refine aq_ (fun x:Nat×List Rat×List Rat=>dvS (trimQ q) (leadP q) x) (fun x=>x.1) (fun x=>x.1≤m∧x.2.1.length=m∧x.2.2.length=(trimQ p).length∧divB (trimQ q) (leadP q) 137438953472 x.1 x.2.1 x.2.2∧divR (trimQ q) (leadP q) x.1 x.2.1 x.2.2=divR (trimQ q) (leadP q) m (List.replicate m 0) (trimQ p)) (m,List.replicate m 0,trimQ p) ⟨Nat.le_refl _,by simp,rfl,hB,rfl⟩ ?_ ?_;simp only[dvS.eq_1];have hm1:((trimQ p).length:Int)- (trimQ q).length=(m:Int)- 1:=by omega
 rw[hm1];exact s_x [(1,0),(2,4),(3,6)] (fun hs=>au_f) (fun hs=>e_26);rintro⟨c,u,o⟩ ⟨hc,hu,ho,hb,hr⟩;simp only at hc hu ho hb hr;simp only[dvS.eq_1];cases c with
 |zero=>
  refine ab_ (r_z 2 ?_);refine aj_ rfl (fun h1=>?_) (fun h1=>?_);exact absurd h1 (by simp);refine ao_ ⟨(u,o),hr,?_⟩;exact s_e []
 |succ n=>
  obtain⟨B,tt,hb1,hb2,hb3,hb4⟩:=oJ_ hb;have hcn:((n+1:Nat):Int)- 1=(n:Int):=by omega
  rw[hcn];refine ab_ (r_z 2 ?_);refine aj_ rfl (fun h1=>?_) (fun h1=>?_);refine ah_ ?_;obtain⟨k,hk⟩:∃k,k=coP o (n+(trimQ q).length- 1) / leadP q:=⟨_,rfl⟩;have hst:=mh_ hb;rw[divR] at hr;rw[←hk] at hst hr
  have hgo:(pE o)[(0+(((n:Nat):Int)+((trimQ q).length:Nat)- 1).toNat)]?=some (qC (coP o (n+(trimQ q).length- 1))):=by
   rw[show 0+(((n:Nat):Int)+((trimQ q).length:Nat)- 1).toNat=n+(trimQ q).length- 1 by omega];exact pE_get (bo_ (by omega))
  have hov:=dD_ (coP o (n+(trimQ q).length- 1)) (leadP q) hne (by have:=hb1 (n+(trimQ q).length- 1);omega);rw[←hk] at hov
  have hgu:(pE u)[0+((n:Nat):Int).toNat]?=some (qC (coP u n)):=by
   rw[show 0+((n:Nat):Int).toNat=n by omega];exact pE_get (bo_ (by omega))
  refine ab_ (af_ (ab_ (r_d hmix 12 ?_)));refine a_7 ?_;refine az_ (.load_l rfl rfl hgo TG.h TS.h (nle rfl)) rfl rfl ?_;refine c_s (hov) ?_;refine a_2 ?_;refine ak_ (n_k ?_);refine s_r 5 ?_;refine a_4 ?_;refine o_1n (.store rfl rfl hgu rfl rfl rfl TS.h (nle rfl)) ?_;refine ak_ ?_
  have hsu:(pE u).set (0+((n:Nat):Int).toNat) (qC k)=pE (u.set n k):=by
   rw[show 0+((n:Nat):Int).toNat=n by omega,gb_]
  have hlu:(u.set n k).length=u.length:=by simp
  refine ab_ (r_c 3 (bt_ k) ?_);refine a_z ?_;refine aj_ rfl (fun h2=>?_) (fun h2=>?_)
  have h0:k=0:=by
   have h2:sgZ k.num=0:=by simpa using h2
   exact sgZ_num_eq.1 h2
  rw[if_pos h0] at hst hr;refine ao_ (r_m 3 ?_);refine a_z ?_;refine⟨(n,u.set n k,o),Nat.lt_succ_self n,⟨by omega,by simp only;omega,ho,hst,hr⟩,?_⟩;simp only[dvS.eq_1,hlu];exact s_f []
  have h0:k≠0:=by
   intro e;have h2:¬sgZ k.num=0:=by simpa using h2
   exact h2 (sgZ_num_eq.2 e)
  rw[if_neg h0] at hst hr;refine ah_ (r_z 3 ?_);refine AWp.cutB (fun _:Unit=>⟨[(0,.lsl 1 0 o.length none 3),(1,.arr (pE (trimQ q))),(4,.lsl 2 0 u.length (some u.length) 3),(6,.lptr 3 0 0),(7,i64 n)],[(1,some ⟨46,3,pE (rowM o k (trimQ q) n (trimQ q).length)⟩),(2,some ⟨46,3,pE (u.set n k)⟩),(3,some ⟨46,3,[qC (leadP q)]⟩)],4,82⟩) (fun _=>True) ?_ ?_;refine af_ (aq_ (fun i:Nat=>dvT (trimQ q) (leadP q) n (u.set n k) k (i,rowM o k (trimQ q) n i)) (fun i=>(trimQ q).length- i) (fun i=>i≤(trimQ q).length) 0 (Nat.zero_le _) ?_ ?_);simp only[dvT.eq_1,rowM,hlu];exact s_f [(4,8)];rintro i hi;simp only[dvT.eq_1];refine r_z 1 ?_;refine ab_ (aj_ rfl (fun h3=>?_) (fun h3=>?_));refine ah_ ?_;have hlt2:i< (trimQ q).length:=by simpa using h3
  have hgq:(pE (trimQ q))[((i:Nat):Int).toNat]?=some (qC (coP (trimQ q) i)):=pE_get (bo_ hlt2)
  have hcur:qs (coP (rowM o k (trimQ q) n i) (n+i))≤B:=by
   rw[nQ_ _ _ _ _ _ _ (by omega)];exact hb1 _
  have hkq:qs k≤B+tt:=by
   have e1:=eM_ (coP o (n+(trimQ q).length- 1)) (leadP q);have e2:=hb1 (n+(trimQ q).length- 1);rw[hk];omega
  have hkm:=bH_ k (coP (trimQ q) i);have hqi:=hb2 i;have hik:n+i< (rowM o k (trimQ q) n i).length:=by simp;omega
  have hgr:(pE (rowM o k (trimQ q) n i))[(0+(((n:Nat):Int)+(i:Nat)).toNat)]?=some (qC (coP (rowM o k (trimQ q) n i) (n+i))):=by
   rw[show 0+(((n:Nat):Int)+(i:Nat)).toNat=n+i by omega];exact pE_get (bo_ hik)
  refine ab_ (af_ (s_r 6 ?_));refine a_1 ?_;refine i_x hgq ?_;refine l_x hgq ?_;refine a_z ?_;refine r_d hmix 16 ?_;refine a_8 ?_;refine a_1 ?_;refine az_ (.load_l rfl rfl hgr TG.h TS.h (nle rfl)) rfl rfl ?_;refine c_s (bE_ k (coP (trimQ q) i) (by omega)) ?_;refine c_s (gm_ (coP (rowM o k (trimQ q) n i) (n+i)) (k* coP (trimQ q) i) (by omega)) ?_;refine a_1 ?_;refine o_1n (.store rfl rfl hgr rfl rfl rfl TS.h (nle rfl)) ?_;refine ak_ (n_k ?_);refine r_m 2 ?_;refine a_z ?_;refine⟨i+1,by omega,hlt2,?_⟩
  have hst2:(pE (rowM o k (trimQ q) n i)).set (0+(((n:Nat):Int)+(i:Nat)).toNat) (qC (coP (rowM o k (trimQ q) n i) (n+i)- k* coP (trimQ q) i))=pE (rowM o k (trimQ q) n (i+1)):=by
   rw[show 0+(((n:Nat):Int)+(i:Nat)).toNat=n+i by omega,gb_];rfl
  have hl2:(rowM o k (trimQ q) n (i+1)).length=(rowM o k (trimQ q) n i).length:=by simp
  simp only[dvT.eq_1,hl2];exact s_x [] (fun hs=>au_f) (fun hs=>e_27) e_9
  have hge:i=(trimQ q).length:=by
   have:¬i< (trimQ q).length:=by simpa using h3
   omega
  subst hge;refine ao_ ⟨(),trivial,?_⟩;rw[fN_,hlu];exact s_e [];rintro _ _;refine r_m 3 ?_;refine a_z ?_;refine⟨(n,u.set n k,rowM o k (trimQ q) n (trimQ q).length),Nat.lt_succ_self n,⟨by omega,by simp only;omega,by simp only;rw[fN_];exact ho,hst,hr⟩,?_⟩;simp only[dvS.eq_1,hlu,fN_];exact s_e [];exact absurd h1 (by simp)
 rintro⟨u,o⟩ hx;rw[←hx] at hdl hend⊢;simp only at hdl hend⊢;have hlu:u.length≤274877906945:=by rw[hdl.1];simp;omega
 have hfu:List.take u.length (List.drop 0 (pE u))=pE u:=by rw[List.drop_zero,List.take_of_length_le (by simp)]
 have hfo:List.take o.length (List.drop 0 (pE o))=pE o:=by rw[List.drop_zero,List.take_of_length_le (by simp)]
 refine s_r 6 ?_;refine a_1 ?_;refine o_1 (.callS1 rfl rfl rfl (.shut rfl d_n (.nil)) rfl ((by rw[hfu];exact cf_ u (by omega)))) ?_;refine a_1 ?_;refine o_1 (.callS1 rfl rfl rfl (.shut rfl d_n (.nil)) rfl ((by rw[hfo];exact cf_ o (by rw[hdl.2];omega)))) ?_;refine a_z ?_;refine ag_ (Fin.many ⟨_,_,rfl,rfl,⟨_,_,rfl,rfl,rfl⟩⟩ (nle rfl) ?_);exact ae_ (ai_ as_ (ap_ _)) (ae_ (ai_ as_ (ap_ _)) am_)
def gcS:List Rat×List Rat→AState
 |(p,q)=>⟨[(0,.arr (pE p)),(1,.arr (pE q))],[],1,21⟩
theorem rr_(p:List Rat)(q:List Rat):gcS (p,q)=⟨[(0,.arr (pE p)),(1,.arr (pE q))],[],1,21⟩:=rfl
theorem degP_neg{l:List Rat}:degP l< 0↔trimQ l=[]:=by
 unfold degP;constructor;intro h;exact List.length_eq_zero_iff.1 (by omega);intro h;rw[h];decide
theorem fs_Gcd(f:Nat)(p q g:List Rat)(h:gcdM f p q=some g)(hp1:p.length≤274877906944)(hq1:q.length≤274877906944):FS 261 [.arr (pE p),.arr (pE q)] (.arr (pE g)):=by
 refine f_c Tryz.func261 ?_;refine r_z 1 ?_;refine aQ_ (fun p:List Rat=>⟨[(0,.arr (pE p))],[],1,21⟩) (fun p=>smL p∧p.length≤274877906944∧g=fE_ p) ?_ ?_;refine af_ (aq_ (fun x:Nat×List Rat×List Rat=>gcS x.2) (fun x=>x.1) (fun x=>gcdM x.1 x.2.1 x.2.2=some g∧x.2.1.length≤274877906944∧x.2.2.length≤274877906944) (f,p,q) ⟨h,hp1,hq1⟩ ?_ ?_);simp only[rr_];exact s_e [];rintro⟨f,p,q⟩ ⟨h,hp1,hq1⟩;simp only at h hp1 hq1;simp only[rr_];cases f with
 |zero=>cases h
 |succ f=>
  rw[gcdM] at h;refine ab_ (r_c 3 (b7_ q (by omega)) ?_);refine a_z ?_;refine aj_ rfl (fun h1=>?_) (fun h1=>?_)
  ·have hq0:trimQ q≠[]:=by
    intro e;have e2:=degP_neg.2 e;simp at h1;omega
   rw[if_neg hq0] at h;split at h
   case isFalse=>cases h
   case isTrue hs=>
   have hl:=kW_ (p:=p) (q:=q);have hm:=pj_ (divP p q).2;refine ah_ (af_ (r_c 8 (iS_ p q (mxL p) (mxL q) (cW_ p) (cW_ q) (cL_ p) (cL_ q) hs.1 hq0 hp1 hq1) ?_));refine a_z ?_;refine r_m 5 ?_;refine c_s (kG_ (divP p q).2 (nl_ hs hq0).2 (by omega)) ?_;refine a_z ?_;refine⟨(f,q,fE_ (divP p q).2),Nat.lt_succ_self f,⟨h,hq1,by simp only;omega⟩,?_⟩;simp only[rr_];exact s_e []
  ·have hq0:trimQ q=[]:=by
    refine degP_neg.1 ?_;simp at h1;omega
   rw[if_pos hq0] at h;split at h
   case isFalse=>cases h
   case isTrue hs=>
   cases h;refine ao_ ⟨p,⟨hs,hp1,rfl⟩,?_⟩;exact s_e []
 rintro p ⟨hs,hp1,rfl⟩;refine r_c 3 (kG_ p hs (by omega)) ?_;refine a_z ?_;exact ag_ (t_e (ap_ _))

theorem eB_(l:List Rat)(hl:l.length≤281474976710656):GSpec Tryz.prog 213 [bP l] (backP l):=by
 refine GSpec.enter Tryz.func213 rfl (by kernel_rfl) rfl rfl rfl ?_ ?_ rfl ?_;exact aa_ (a2_ l) ac_;intro k xs h;unfold backP at h;split at h;cases h;exact aa_ (ad_ _) (aa_ (aC_ _) ac_);cases h;intro ll N E;refine GWp.seq ?_;refine GWp.lift ?_;refine r_m 4 ?_;refine a_z ?_;refine GWp.block ?_;refine GWp.loopS (fun m:Nat=>⟨[(0,.v (.func (.yield ll) #[] #[])),(1,bP l),(3,i64 ((m:Int)- 1))],[],1,19⟩) (fun m=>l.length- m) (fun m=>m) (fun m=>m≤l.length) l.length (Nat.le_refl _) (by simp) ?_ ?_;exact s_e [];intro m hm;refine GWp.seq ?_;refine GWp.seq ?_;refine GWp.lift ?_;refine r_m 2 ?_;refine a_z ?_;refine GWp.cond rfl (fun h=>?_) (fun h=>?_)
 ·refine GWp.skip ?_
  have hm1:1≤m:=by have:=of_decide_eq_true h;omega
  have hx':(pE l)[((m:Int)- 1).toNat]?=some (qC (coP l (m- 1))):=by rw[show((m:Int)- 1).toNat=m- 1 by omega];exact pE_get (bo_ (by omega))
  refine GWp.seq ?_;refine GWp.block ?_;refine GWp.seq ?_;refine GWp.regY (fr2:=[(0,.v (.func (.yield ll) #[] #[])),(1,bP l),(3,i64 ((m:Int)- 1)),(11,.v (.func (.yield ll) #[] #[])),(12,i64 ((m:Int)- 1)),(16,.agg (qC (coP l (m- 1))))]) (hp2:=[]) (nx2:=1) 6 rfl rfl rfl rfl rfl rfl ?_ rfl rfl rfl ?_ ?_ ?_;refine o_0 (.move rfl) ?_;refine o_0 (.move rfl) ?_;refine az_ (.load_a1 rfl rfl TG.h rfl) rfl rfl ?_;refine o_0 (.move rfl) ?_;refine i_x hx' ?_;refine l_x hx' ?_;refine ak_ ?_;exact s_y [] (fun hs=>au_f) (fun hs=>au_h);rotate_left 2;intro go;refine o_0 (.un rfl cJ_) ?_;refine ak_ ?_;rotate_left;unfold backP;rw[if_pos (by omega)];have e1:((l.length- 1- (l.length- m):Nat):Int)=(m:Int)- 1:=by omega
  have e2:l.length- 1- (l.length- m)=m- 1:=by omega
  rw[e1,e2];rfl;exact aa_ (ad_ _) (aa_ (aC_ _) ac_);cases go with
  |false=>
   refine GWp.cond rfl (fun h=>?_) (fun h=>?_);exact GWp.ret ⟨.inr rfl,fun h=>by cases h⟩;cases h
  |true=>
   refine GWp.cond rfl (fun h=>?_) (fun h=>?_);cases h;refine GWp.skip ?_;refine GWp.lift ?_;refine r_m 3 ?_;refine a_z ?_;refine⟨rfl,m- 1,by omega,by omega,by omega,?_⟩;exact s_e []
 refine GWp.exit ⟨.inl rfl,fun _=>?_⟩;have:m=0:=by have:=of_decide_eq_false h;omega
 subst this;unfold backP;rw[if_neg (by omega)]
theorem eE_(l:List Rat):FS 174 [.arr (pE l)] (.clos 213 [] [bP l]):=by
 refine f_c Tryz.func174 ?_;refine r_z 2 ?_;refine r_z 2 ?_;refine ag_ (⟨.inr rfl,[_],⟨_,[],rfl,rfl,rfl⟩,?_⟩);exact Cv.clos am_ (ae_ (Cv.boxp as_ rfl (fun _ _ h=>by cases h) rfl (aa_ (ap_ l) ac_)) am_)
def hoS(p:List Rat)(g:Nat)(cap:List AV)(w:Nat→Rat):Nat→AState
 |k=>⟨[(4,.lptr 1 0 0),(5,.aptr [[.clos g [] cap]] 0 0),(6,.lptr 2 0 0),(10,.clos 213 [] [bP p])],[(1,some ⟨46,3,[qC (w k)]⟩),(2,some ⟨46,3,[zC]⟩)],3,18⟩
theorem pz_(p:List Rat)(g:Nat)(cap:List AV)(w:Nat→Rat)(hl:p.length≤281474976710656)(hcap:∀c∈cap,Closed c)(hg:∀k,k< p.length→FS g ((.agg (qC (w k)):: .agg (qC (coP p (p.length- 1- k)))::cap).map coe) (.agg (qC (w (k+1))))):FS 129 [.arr (pE p),.agg (qC (w 0)),.clos g [] cap] (.agg (qC (w p.length))):=by
 have hb:=eE_ p;have hgs:=eB_ p hl;have hcc:Closed (.clos g [] cap):=aE_ ac_ hcap;have hcc2:Closed (.aptr [[.clos g [] cap]] 0 0):=aM_ (aa_ hcc ac_);have hcl2:Closed (.clos 213 [] [bP p]):=aE_ ac_ (aa_ (a2_ p) ac_);refine f_c Tryz.func129 ?_;refine r_z 3 ?_;refine AWp.ent (st':=⟨[(0,.arr (pE p)),(4,.lptr 1 0 0),(5,.aptr [[.clos g [] cap]] 0 0),(6,.lptr 2 0 0)],[(1,some ⟨46,3,[qC (w 0)]⟩),(2,some ⟨46,3,[zC]⟩)],3,18⟩) ?_ ?_;have:=aa_ hcc ac_;exact s_f [(1,4),(2,6)];refine ab_ (r_c 2 (hb) ?_);refine ak_ ?_;refine av_ (fun _:Unit=>⟨[(4,.lptr 1 0 0),(6,.lptr 2 0 0)],[(1,some ⟨46,3,[qC (w p.length)]⟩),(2,some ⟨46,3,[zC]⟩)],3,18⟩) (fun _=>True) ?_ ?_;refine af_ (AWp.rangeFunc (α:=Nat) (γ:=Empty) p.length (hoS p g cap w) (fun k=>k) (fun k=>k≤p.length) (fun e=>nomatch e) (fun _ e=>nomatch e) 0 rfl hgs rfl rfl ?_ (fun _=>⟨rfl,rfl⟩) (fun e=>nomatch e) (Nat.zero_le _) rfl (fun _ h=>h) ?_ ?_ ?_ ?_ (fun _ e=>nomatch e));intro k xs hT;unfold backP at hT;split at hT;cases hT;rfl;cases hT;rw[hoS.eq_1];exact s_y [] (fun hs=>au_f) (fun hs=>au_h);exact aa_ (a2_ p) ac_
 ·intro l k xs hk hT
  unfold backP at hT;split at hT;rotate_left;cases hT;rename_i hlt;cases hT;show AWp _ _ _ _ ⟨[(12,.agg (qC (coP p (p.length- 1- k)))),(11,i64 (p.length- 1- k:Nat)),(4,.lptr 1 0 0),(5,.aptr [[.clos g [] cap]] 0 0),(6,.lptr 2 0 0),(10,.clos 213 [] [bP p]),(1004,.lptr 1 0 0),(1005,.aptr [[.clos g [] cap]] 0 0),(1006,.lptr 2 0 0),(1010,.clos 213 [] [bP p])],[(1,some ⟨46,3,[qC (w k)]⟩),(2,some ⟨46,3,[zC]⟩)],3,18⟩;refine r_m 2 ?_;refine a_z ?_;refine af_ (r_m 5 ?_);refine c_s (hg k hlt) ?_;refine a_z ?_;refine⟨k+1,⟨hlt,rfl⟩,?_⟩;show SEntT _ ⟨[(1004,.lptr 1 0 0),(1005,.aptr [[.clos g [] cap]] 0 0),(1006,.lptr 2 0 0),(1010,.clos 213 [] [bP p])],[(1,some ⟨46,3,[qC (w (k+1))]⟩),(2,some ⟨46,3,[zC]⟩)],3,18⟩;exact s_y [] (fun hs=>au_f) (fun hs=>au_h)
 intro k hk hT;unfold backP at hT;split at hT;cases hT;refine⟨(),trivial,?_⟩;rw[hoS.eq_1];have h1:k=p.length:=by omega
 subst h1;exact s_e [];rintro _ _;refine r_z 2 ?_;exact ag_ (c_e (aC_ _))
theorem fs_Eval1(v c x:Rat)(h1:qs v+qs x≤549755813888)(h2:qs (v* x)+qs c≤549755813888):FS 130 [.agg (qC v),.agg (qC c),bQ x] (.agg (qC (v* x+c))):=by
 refine f_c Tryz.func130 ?_;refine r_z 3 ?_;refine ab_ (r_d hmix 6 ?_);refine c_s (bE_ v x h1) ?_;refine c_s (c6_ (v* x) c h2) ?_;refine a_1 ?_;refine ak_ (n_k ?_);exact ag_ (c_e (aC_ _))
theorem dU_(p:List Rat)(x:Rat)(h:cO_ p x):FS 59 [.arr (pE p),.agg (qC x)] (.agg (qC (evalP p x))):=by
 have hw:∀k,k< p.length→FS 130 [.agg (qC (evalP (p.drop (p.length- k)) x)),.agg (qC (coP p (p.length- 1- k))),bQ x] (.agg (qC (evalP (p.drop (p.length- (k+1))) x))):=fun k hk=>by
  have:=pJ_ h k hk;rw[i9_ hk];exact fs_Eval1 _ _ _ this.1 this.2
 have hh:=pz_ p 130 [bQ x] (fun k=>evalP (p.drop (p.length- k)) x) (by have:=h.2;omega) (aa_ (bf_ x) ac_) hw;simp only[Nat.sub_zero,Nat.sub_self,List.drop_zero,List.drop_length] at hh;rw[show evalP [] x=0 from rfl,qC0] at hh;refine f_c Tryz.func59 ?_;refine r_z 2 ?_;refine AWp.ent (st':=⟨[(0,.arr (pE p)),(3,bQ x),(4,.lptr 1 0 0)],[(1,some ⟨46,3,[zC]⟩)],2,9⟩) ?_ ?_;exact s_e [(1,4)];refine r_c 5 (hh) ?_;refine a_z ?_;exact ag_ (c_e (aC_ _))
def hsS(p:List Rat)(g:Nat)(cap:List AV)(w:Nat→Rat×Rat):Nat→AState
 |k=>⟨[(4,.lptr 1 0 0),(5,.aptr [[.clos g [] cap]] 0 0),(6,.lptr 2 0 0),(10,.clos 213 [] [bP p])],[(1,some ⟨74,6,[spC (w k).1 (w k).2]⟩),(2,some ⟨74,6,[zC++zC]⟩)],3,18⟩
theorem py_(p:List Rat)(g:Nat)(cap:List AV)(w:Nat→Rat×Rat)(hl:p.length≤281474976710656)(hcap:∀c∈cap,Closed c)(hg:∀k,k< p.length→FS g ((.agg (spC (w k).1 (w k).2):: .agg (qC (coP p (p.length- 1- k)))::cap).map coe) (.agg (spC (w (k+1)).1 (w (k+1)).2))):FS 269 [.arr (pE p),.agg (spC (w 0).1 (w 0).2),.clos g [] cap] (.agg (spC (w p.length).1 (w p.length).2)):=by
 have hb:=eE_ p;have hgs:=eB_ p hl;have hcc:Closed (.clos g [] cap):=aE_ ac_ hcap;have hcc2:Closed (.aptr [[.clos g [] cap]] 0 0):=aM_ (aa_ hcc ac_);have hcl2:Closed (.clos 213 [] [bP p]):=aE_ ac_ (aa_ (a2_ p) ac_);refine f_c Tryz.func269 ?_;refine r_z 3 ?_;refine AWp.ent (st':=⟨[(0,.arr (pE p)),(4,.lptr 1 0 0),(5,.aptr [[.clos g [] cap]] 0 0),(6,.lptr 2 0 0)],[(1,some ⟨74,6,[spC (w 0).1 (w 0).2]⟩),(2,some ⟨74,6,[zC++zC]⟩)],3,18⟩) ?_ ?_;have:=aa_ hcc ac_;exact s_f [(1,4),(2,6)];refine ab_ (r_c 2 (hb) ?_);refine ak_ ?_;refine av_ (fun _:Unit=>⟨[(4,.lptr 1 0 0),(6,.lptr 2 0 0)],[(1,some ⟨74,6,[spC (w p.length).1 (w p.length).2]⟩),(2,some ⟨74,6,[zC++zC]⟩)],3,18⟩) (fun _=>True) ?_ ?_;refine af_ (AWp.rangeFunc (α:=Nat) (γ:=Empty) p.length (hsS p g cap w) (fun k=>k) (fun k=>k≤p.length) (fun e=>nomatch e) (fun _ e=>nomatch e) 0 rfl hgs rfl rfl ?_ (fun _=>⟨rfl,rfl⟩) (fun e=>nomatch e) (Nat.zero_le _) rfl (fun _ h=>h) ?_ ?_ ?_ ?_ (fun _ e=>nomatch e));intro k xs hT;unfold backP at hT;split at hT;cases hT;rfl;cases hT;rw[hsS.eq_1];exact s_y [] (fun hs=>au_f) (fun hs=>au_h);exact aa_ (a2_ p) ac_
 ·intro l k xs hk hT
  unfold backP at hT;split at hT;rotate_left;cases hT;rename_i hlt;cases hT;show AWp _ _ _ _ ⟨[(12,.agg (qC (coP p (p.length- 1- k)))),(11,i64 (p.length- 1- k:Nat)),(4,.lptr 1 0 0),(5,.aptr [[.clos g [] cap]] 0 0),(6,.lptr 2 0 0),(10,.clos 213 [] [bP p]),(1004,.lptr 1 0 0),(1005,.aptr [[.clos g [] cap]] 0 0),(1006,.lptr 2 0 0),(1010,.clos 213 [] [bP p])],[(1,some ⟨74,6,[spC (w k).1 (w k).2]⟩),(2,some ⟨74,6,[zC++zC]⟩)],3,18⟩;refine r_m 2 ?_;refine a_z ?_;refine af_ (r_m 5 ?_);refine c_s (hg k hlt) ?_;refine a_z ?_;refine⟨k+1,⟨hlt,rfl⟩,?_⟩;show SEntT _ ⟨[(1004,.lptr 1 0 0),(1005,.aptr [[.clos g [] cap]] 0 0),(1006,.lptr 2 0 0),(1010,.clos 213 [] [bP p])],[(1,some ⟨74,6,[spC (w (k+1)).1 (w (k+1)).2]⟩),(2,some ⟨74,6,[zC++zC]⟩)],3,18⟩;exact s_y [] (fun hs=>au_f) (fun hs=>au_h)
 intro k hk hT;unfold backP at hT;split at hT;cases hT;refine⟨(),trivial,?_⟩;rw[hsS.eq_1];have h1:k=p.length:=by omega
 subst h1;exact s_e [];rintro _ _;refine r_z 2 ?_;exact ag_ (c_e (a0_ _ _))
abbrev bS(s:Sp):AV:= .aptr [spC s.1 s.2] 0 0
theorem gA_(s:Sp):Closed (bS s):=aM_ (a4_ _ _)
theorem spMul_sm{a b:Sp}(h:smL (prods a b)):smS (spMul a b):=⟨g6_ h,g6_ h⟩
theorem fs_Over1(v s:Sp)(c:Rat)(hv:smS v)(hs:smS s)(hc:sm c)(hp:smL (prods v s)):FS 270 [.agg (spC v.1 v.2),.agg (qC c),bS s] (.agg (spC (spAdd (spMul v s) (c,c)).1 (spAdd (spMul v s) (c,c)).2)):=by
 have hm:=spMul_sm hp;refine f_n Tryz.func270 ?_ ?_;exact aa_ (a0_ _ _) (aa_ (aC_ c) (aa_ (gA_ s) ac_));refine r_z 3 ?_;refine ab_ (r_d hmix 7 ?_);refine c_s (fs_SMul v.1 v.2 s.1 s.2 hv.1 hv.2 hs.1 hs.2 hp) ?_;refine c_s (fs_At c) ?_;refine c_s (fs_SAdd (spMul v s).1 (spMul v s).2 c c hm.1 hm.2 hc hc) ?_;refine a_1 ?_;refine ak_ (n_k ?_);exact ag_ (c_e (a0_ _ _))
theorem fs_Over(p:List Rat)(s:Sp)(h:oa_ p s):FS 232 [.arr (pE p),.agg (spC s.1 s.2)] (.agg (spC (overP p s).1 (overP p s).2)):=by
 obtain⟨hsm,hs,hl,hov⟩:=h;have htl:=bc_ p;refine f_c Tryz.func232 ?_;refine r_z 2 ?_;refine AWp.ent (st':=⟨[(0,.arr (pE p)),(3,bS s),(4,.lptr 1 0 0)],[(1,some ⟨74,6,[zC++zC]⟩)],2,30⟩) ?_ ?_;exact s_e [(1,4)];refine r_c 3 (cf_ p (by omega)) ?_;refine a_z ?_;refine aQ_ (fun _:Unit=>⟨[(0,.arr (pE (trimQ p))),(3,bS s),(4,.lptr 1 0 0)],[(1,some ⟨74,6,[zC++zC]⟩)],2,30⟩) (fun _=>cmpQ s.1 s.2≤0∧trimQ p≠[]) ?_ ?_;by_cases hv:cmpQ s.1 s.2≤0;refine r_c 8 (gn_ s.1 s.2 hs.1 hs.2) ?_;refine a_2 ?_;refine y_g rfl (by simp[hv]) (.move rfl) ?_;refine y_g rfl (by simp[hv]) (.lenP rfl rfl rfl rfl te_33.h) ?_;refine y_g rfl (by simp[hv]) (.bin rfl rfl aS_) ?_;refine o_0 (.pickF rfl (by simp[hv]) rfl) ?_;refine ak_ ?_;refine aj_ rfl (fun h1=>?_) (fun h1=>?_)
 have h0:trimQ p=[]:=by
  have:(trimQ p).length=0:=by simpa using h1
  exact List.length_eq_zero_iff.1 this
 have hr:overP p s=(0,0):=by unfold overP;rw[if_pos (.inr h0)]
 rw[hr];refine r_z 2 ?_;refine ag_ (Fin.cell rfl rfl rfl TG.h TS.h (nle rfl) (Cv.agg ?_));show CvL _ _ _ _ (qC 0++qC 0);rw[qC0];exact ae_ (Cv.emp _) (ae_ (ai_ as_ (ad_ _)) (ae_ (Cv.emp _) (ae_ (Cv.emp _) (ae_ (ai_ as_ (ad_ _)) (ae_ (Cv.emp _) am_)))))
 have h0:trimQ p≠[]:=by
  have:¬(trimQ p).length=0:=by simpa using h1
  exact fun e=>this (by rw[e];rfl)
 refine ah_ ⟨(),⟨hv,h0⟩,?_⟩;exact s_e [];refine r_c 8 (gn_ s.1 s.2 hs.1 hs.2) ?_;refine a_2 ?_;refine n_g rfl (by simp[hv]) ?_;refine n_g rfl (by simp[hv]) ?_;refine n_g rfl (by simp[hv]) ?_;refine o_0 (.pickT rfl (by simp[hv]) rfl) ?_;refine ak_ ?_;refine aj_ rfl (fun h1=>?_) (fun h1=>?_);have hr:overP p s=(0,0):=by unfold overP;rw[if_pos (.inl hv)]
 rw[hr];refine r_z 2 ?_;refine ag_ (Fin.cell rfl rfl rfl TG.h TS.h (nle rfl) (Cv.agg ?_));show CvL _ _ _ _ (qC 0++qC 0);rw[qC0];exact ae_ (Cv.emp _) (ae_ (ai_ as_ (ad_ _)) (ae_ (Cv.emp _) (ae_ (Cv.emp _) (ae_ (ai_ as_ (ad_ _)) (ae_ (Cv.emp _) am_)))));cases h1;rintro _ ⟨hv,h0⟩;have hpl:=List.length_pos_iff.2 h0
 have hr:overP p s=ovP (leadP p,leadP p) s ((trimQ p).take ((trimQ p).length- 1)):=by
  unfold overP;rw[if_neg (by rintro(e|e);exact e hv;exact h0 e)]
 obtain⟨l,hll⟩:∃l,l=(trimQ p).take ((trimQ p).length- 1):=⟨_,rfl⟩;rw[←hll] at hov hr;rw[hr];have hlen:l.length=(trimQ p).length- 1:=by rw[hll];simp
 have hsml:∀q∈l,sm q:=fun q hq=>hsm q (bD_ (List.mem_of_mem_take (by rw[←hll];exact hq)))
 have hw:∀k,k< l.length→FS 270 [.agg (spC (ovP (leadP p,leadP p) s (l.drop (l.length- k))).1 (ovP (leadP p,leadP p) s (l.drop (l.length- k))).2),.agg (qC (coP l (l.length- 1- k))),bS s] (.agg (spC (ovP (leadP p,leadP p) s (l.drop (l.length- (k+1)))).1 (ovP (leadP p,leadP p) s (l.drop (l.length- (k+1)))).2)):=fun k hk=>by
  have h1:=lM_ (l.length- (k+1)) hov;rw[i9_ hk] at h1⊢;exact fs_Over1 _ s _ (okOv_sm h1.1) hs h1.2.2.1 h1.2.1
 have hh:=py_ l 270 [bS s] (fun k=>ovP (leadP p,leadP p) s (l.drop (l.length- k))) (by omega) (aa_ (gA_ s) ac_) hw;simp only[Nat.sub_zero,Nat.sub_self,List.drop_zero,List.drop_length] at hh
 have hg:(pE (trimQ p))[(((trimQ p).length:Int)- 1).toNat]?=some (qC (leadP p)):=by
  rw[show(((trimQ p).length:Int)- 1).toNat=(trimQ p).length- 1 by omega];exact pE_get (cB_ (by omega))
 refine r_z 4 ?_;refine ab_ (r_d hmix 11 ?_);refine a_2 ?_;refine o_0 (.sa_h rfl rfl (h:=(trimQ p).length- 1) (by omega) (by simp) te_33.h (fS_ _)) ?_;refine a_2 ?_;refine i_x hg ?_;refine l_x hg ?_;refine c_s (fs_At (leadP p)) ?_;refine o_0 (.makeFunc rfl rfl) ?_;refine o_0 (.call rfl rfl rfl ((by rw[ko_,←hll];exact hh))) ?_;refine o_1n (.store rfl rfl rfl rfl rfl rfl TS.h (nle rfl)) ?_;refine ak_ (n_k ?_);exact ag_ (c_e (a0_ _ _))
def hpS(p:List Rat)(g:Nat)(cap:List AV)(w:Nat→List Rat):Nat→AState
 |k=>⟨[(4,.lptr 1 0 0),(5,.aptr [[.clos g [] cap]] 0 0),(10,.clos 213 [] [bP p])],[(1,some ⟨33,1,[[.arr (pE (w k))]]⟩)],2,18⟩
theorem pA_(p:List Rat)(g:Nat)(cap:List AV)(w:Nat→List Rat)(hl:p.length≤281474976710656)(hcap:∀c∈cap,Closed c)(hg:∀k,k< p.length→FS g ((.arr (pE (w k)):: .agg (qC (coP p (p.length- 1- k)))::cap).map coe) (.arr (pE (w (k+1))))):FS 209 [.arr (pE p),.arr (pE (w 0)),.clos g [] cap] (.arr (pE (w p.length))):=by
 have hb:=eE_ p;have hgs:=eB_ p hl;have hcc:Closed (.clos g [] cap):=aE_ ac_ hcap;have hcc2:Closed (.aptr [[.clos g [] cap]] 0 0):=aM_ (aa_ hcc ac_);have hcl2:Closed (.clos 213 [] [bP p]):=aE_ ac_ (aa_ (a2_ p) ac_);refine f_c Tryz.func209 ?_;refine r_z 3 ?_;refine AWp.ent (st':=⟨[(0,.arr (pE p)),(4,.lptr 1 0 0),(5,.aptr [[.clos g [] cap]] 0 0)],[(1,some ⟨33,1,[[.arr (pE (w 0))]]⟩)],2,18⟩) ?_ ?_;have:=aa_ hcc ac_;exact s_f [(1,4)];refine ab_ (r_c 2 (hb) ?_);refine ak_ ?_;refine av_ (fun _:Unit=>⟨[(4,.lptr 1 0 0)],[(1,some ⟨33,1,[[.arr (pE (w p.length))]]⟩)],2,18⟩) (fun _=>True) ?_ ?_;refine af_ (AWp.rangeFunc (α:=Nat) (γ:=Empty) p.length (hpS p g cap w) (fun k=>k) (fun k=>k≤p.length) (fun e=>nomatch e) (fun _ e=>nomatch e) 0 rfl hgs rfl rfl ?_ (fun _=>⟨rfl,rfl⟩) (fun e=>nomatch e) (Nat.zero_le _) rfl (fun _ h=>h) ?_ ?_ ?_ ?_ (fun _ e=>nomatch e));intro k xs hT;unfold backP at hT;split at hT;cases hT;rfl;cases hT;rw[hpS.eq_1];exact s_y [] (fun hs=>au_f) (fun hs=>au_h);exact aa_ (a2_ p) ac_
 ·intro l k xs hk hT
  unfold backP at hT;split at hT;rotate_left;cases hT;rename_i hlt;cases hT;show AWp _ _ _ _ ⟨[(12,.agg (qC (coP p (p.length- 1- k)))),(11,i64 (p.length- 1- k:Nat)),(4,.lptr 1 0 0),(5,.aptr [[.clos g [] cap]] 0 0),(10,.clos 213 [] [bP p]),(1004,.lptr 1 0 0),(1005,.aptr [[.clos g [] cap]] 0 0),(1010,.clos 213 [] [bP p])],[(1,some ⟨33,1,[[.arr (pE (w k))]]⟩)],2,18⟩;refine r_m 2 ?_;refine a_z ?_;refine af_ (r_m 5 ?_);refine c_s (hg k hlt) ?_;refine a_z ?_;refine⟨k+1,⟨hlt,rfl⟩,?_⟩;show SEntT _ ⟨[(1004,.lptr 1 0 0),(1005,.aptr [[.clos g [] cap]] 0 0),(1010,.clos 213 [] [bP p])],[(1,some ⟨33,1,[[.arr (pE (w (k+1)))]]⟩)],2,18⟩;exact s_y [] (fun hs=>au_f) (fun hs=>au_h)
 intro k hk hT;unfold backP at hT;split at hT;cases hT;refine⟨(),trivial,?_⟩;rw[hpS.eq_1];have h1:k=p.length:=by omega
 subst h1;exact s_e [];rintro _ _;refine r_z 2 ?_;exact ag_ (t_e (ap_ _))
theorem m6_(v q:List Rat)(c:Rat)(h:okMul v q)(hc:sm c)(hl:(mulP v q).length≤274877906944):FS 210 [.arr (pE v),.agg (qC c),bP q] (.arr (pE (addP (mulP v q) (cK_ c)))):=by
 have hcl:=g3_ c;refine f_c Tryz.func210 ?_;refine r_z 2 ?_;refine ab_ (r_d hmix 7 ?_);refine c_s (fs_Mul v q (mxL v) (mxL q) (cW_ v) (cW_ q) (cL_ v) (cL_ q) h.1 h.2.1 h.2.2.1 h.2.2.2) ?_;refine c_s (iU_ c) ?_;refine c_s (i0_ (mulP v q) (cK_ c) (kq_ h) (kb_ fun x hx=>by rw[List.mem_singleton.1 hx];exact hc) (by omega) (by omega)) ?_;refine a_1 ?_;refine ak_ (n_k ?_);exact ag_ (t_e (ap_ _))
theorem pC_(p q:List Rat)(h:dS_ q p)(hp:p.length≤274877906944):FS 168 [.arr (pE p),.arr (pE q)] (.arr (pE (compP q p))):=by
 have hw:∀k,k< p.length→FS 210 [.arr (pE (compP q (p.drop (p.length- k)))),.agg (qC (coP p (p.length- 1- k))),bP q] (.arr (pE (compP q (p.drop (p.length- (k+1)))))):=fun k hk=>by
  have h1:=iv_ (p.length- (k+1)) h;rw[i9_ hk] at h1⊢;exact m6_ _ q _ h1.2.1 h1.2.2.1 h1.2.2.2
 have hh:=pA_ p 210 [bP q] (fun k=>compP q (p.drop (p.length- k))) (by omega) (aa_ (a2_ q) ac_) hw;simp only[Nat.sub_zero,Nat.sub_self,List.drop_zero,List.drop_length] at hh;refine f_c Tryz.func168 ?_;refine r_z 2 ?_;refine AWp.ent (st':=⟨[(0,.arr (pE p)),(3,bP q)],[],1,8⟩) ?_ ?_;exact s_e [];refine r_c 4 (hh) ?_;refine a_z ?_;exact ag_ (t_e (ap_ _))
theorem kL_(p:List Rat)(c:Rat)(h:dS_ [c,1] p)(hp:p.length≤274877906944):FS 116 [.arr (pE p),.agg (qC c)] (.arr (pE (compP [c,1] p))):=by
 refine f_c Tryz.func116 ?_;refine r_z 2 ?_;refine r_c 5 (fs_line c) ?_;refine c_s (pC_ p [c,1] h hp) ?_;refine a_z ?_;exact ag_ (t_e (ap_ _))
def coS:Nat×Nat→AState
 |(a,b)=>⟨[(2,.lptr 1 0 0),(3,.lptr 2 0 0),(4,.lptr 3 0 0)],[(1,some ⟨46,3,[qC (nQ a)]⟩),(2,some ⟨46,3,[qC (nQ b)]⟩),(3,some ⟨46,3,[zC]⟩)],4,18⟩
theorem mj_(a:Nat)(b:Nat):coS (a,b)=⟨[(2,.lptr 1 0 0),(3,.lptr 2 0 0),(4,.lptr 3 0 0)],[(1,some ⟨46,3,[qC (nQ a)]⟩),(2,some ⟨46,3,[qC (nQ b)]⟩),(3,some ⟨46,3,[zC]⟩)],4,18⟩:=rfl
theorem jL_(a b:Nat)(ha:bl a≤68719476736)(hb:bl b≤68719476736):FS 286 [.agg (qC (nQ a)),.agg (qC (nQ b))] (.agg (qC (nQ (Nat.gcd a b)))):=by
 refine f_c Tryz.func286 ?_;refine r_z 3 ?_;refine aQ_ (fun _:Unit=>coS (Nat.gcd a b,0)) (fun _=>True) ?_ ?_;refine af_ (aq_ coS (fun x=>x.2) (fun x=>Nat.gcd x.1 x.2=Nat.gcd a b∧bl x.1≤68719476736∧bl x.2≤68719476736) (a,b) ⟨rfl,ha,hb⟩ ?_ ?_);simp only[mj_];exact s_e [];rintro⟨u,v⟩ ⟨hg,hu,hv⟩;simp only at hg hu hv;rw[mj_];refine ab_ (r_c 3 (bt_ (nQ v)) ?_);refine a_z ?_;refine aj_ rfl (fun h=>?_) (fun h=>?_)
 have hv0:v≠0:=by
  intro e;subst e;exact absurd h (by decide)
 refine ah_ ?_;have h1:=qs_nQ (n:=u) hu (by decide);have h2:=qs_nQ (n:=v) hv (by decide);have hq:=eM_ (nQ u) (nQ v);have hov:=dD_ (nQ u) (nQ v) (fun e=>hv0 (nQ_zero.1 e)) (by omega);have hfl:=h4_ (nQ u/ nQ v) (by omega);rw[qV_ u v hv0,mX_ u v hv0] at hfl;rw[qV_ u v hv0] at hov;have h3:=qs_nQ (n:=u/ v) (k:=68719476736) (Nat.le_trans (cG_ u v) hu) (by decide);have hmu:=bE_ (nQ v) (nQ (u/ v)) (by omega);rw[nQ_mul] at hmu;have hle:v* (u/ v)≤u:=Nat.mul_div_le u v;have h4:=qs_nQ (n:=v* (u/ v)) (k:=68719476736) (Nat.le_trans (b4_ hle) hu) (by decide);have hsu:=gm_ (nQ u) (nQ (v* (u/ v))) (by omega);rw[nQ_sub hle,show u- v* (u/ v)=u % v by have:=Nat.div_add_mod u v;omega] at hsu;refine af_ (r_d hmix 11 ?_);refine c_s (hov) ?_;refine c_s (hfl) ?_;refine c_s (hmu) ?_;refine c_s (hsu) ?_;refine a_2 ?_;refine ak_ (n_k ?_);refine⟨(v,u % v),Nat.mod_lt _ (by omega),⟨?_,hv,Nat.le_trans (b4_ (Nat.mod_le u v)) hu⟩,?_⟩;rw[←hg];show Nat.gcd v (u % v)=Nat.gcd u v;rw[Nat.gcd_comm v,Nat.gcd_comm u v,←Nat.gcd_rec];simp only[mj_];exact s_e []
 have hv0:v=0:=by
  have h1:sgZ (nQ v).num=0:=by simpa using h
  exact nQ_zero.1 (sgZ_num_eq.1 h1)
 subst hv0;rw[Nat.gcd_zero_right] at hg;refine ao_ ⟨(),trivial,?_⟩;rw[←hg];simp only[mj_];exact s_e [];rintro _ _;simp only[mj_];refine r_z 2 ?_;exact ag_ (c_e (aC_ _))
def prS(t:List Rat):Nat×Nat→AState
 |(i,d)=>⟨[(0,.arr (pE t)),(3,.lptr 1 0 0),(4,.lptr 2 0 0),(13,.arr (pE t)),(14,i64 t.length),(15,i64 i)],[(1,some ⟨46,3,[qC (nQ d)]⟩),(2,some ⟨46,3,[qC 0]⟩)],3,47⟩
def prT(t:List Rat)(D:Nat):Nat×Nat→AState
 |(i,n)=>⟨[(0,.arr (pE t)),(3,.lptr 1 0 0),(4,.lptr 2 0 0),(29,.arr (pE t)),(30,i64 t.length),(31,i64 i)],[(1,some ⟨46,3,[qC (nQ D)]⟩),(2,some ⟨46,3,[qC (nQ n)]⟩)],3,47⟩
theorem nh_{l:List Rat}{i:Nat}(h:i< l.length):l.drop i=coP l i::l.drop (i+1):=by
 rw[List.drop_eq_getElem_cons h];congr 1;have:=bo_ h;rw[List.getElem?_eq_getElem h] at this;exact Option.some.inj this
theorem bl_gcd(a b:Nat):bl (Nat.gcd a b)≤max (bl a) (bl b):=by
 rcases Nat.eq_zero_or_pos a with h|h
 subst h;rw[Nat.gcd_zero_left];exact Nat.le_max_right _ _;exact Nat.le_trans (b4_ (Nat.gcd_le_left b h)) (Nat.le_max_left _ _)
theorem hf_(p:List Rat)(h:n9_ p)(h0:trimQ p≠[]):FS 263 [.arr (pE p)] (.arr (pE (primP p))):=by
 obtain⟨t,ht⟩:∃t,t=trimQ p:=⟨_,rfl⟩;obtain⟨s,hs⟩:∃s,s=mxL p:=⟨_,rfl⟩;have hs1:1≤s:=by rw[hs];exact cL_ p
 have hbt:bdL t s:=fun q hq=>by rw[hs];exact cW_ p q (bD_ (by rw[←ht];exact hq))
 have htl:t.length≤p.length:=by rw[ht];exact bc_ p
 obtain⟨hsz,hpl⟩:=h;rw[←hs] at hsz;have hts:t.length* s≤p.length* s:=Nat.mul_le_mul_right _ htl;rw[Nat.add_mul] at hsz;obtain⟨D,hD⟩:∃D,D=denL t 1:=⟨_,rfl⟩;have hD0:D≠0:=by rw[hD];exact si_ t (by decide)
 have hDb:bl D≤1+t.length* s:=by rw[hD];exact sj_ t 1 hbt
 have hDd:∀c∈t,c.den∣D:=by rw[hD];exact(kY_ t 1).2
 obtain⟨N,hN⟩:∃N,N=numL D t 0:=⟨_,rfl⟩
 have hlast:leadP p∈t:=by
  rw[ht];obtain⟨n,hn⟩:∃n,(trimQ p).length=n+1:=⟨(trimQ p).length- 1,by have:=List.length_pos_iff.2 h0;omega⟩;exact List.mem_of_getElem? (cB_ hn)
 have hNd:=(oc_ D t 0).2 (leadP p) hlast;rw[←hN] at hNd;have hi0:=intC_ne (hDd _ hlast) hD0 (fi_ h0);have hN0:N≠0:=fun e=>hi0 (by rw[e] at hNd;exact Nat.zero_dvd.1 hNd);have hNb:bl N≤s+bl D:=Nat.le_trans (b4_ (Nat.le_of_dvd (by omega) hNd)) (Nat.le_trans (rj_ _ _) (by have:=hbt _ hlast;omega));have hpr:primP p=bd_ t (nQ D/ nQ N):=by unfold primP;rw[←ht,←hD,←hN]
 rw[hpr];have hgt:∀i,i< t.length→(pE t)[((i:Nat):Int).toNat]?=some (qC (coP t i)):=fun i hi=>pE_get (bo_ hi);have hmem:∀i,i< t.length→coP t i∈t:=fun i hi=>List.mem_of_getElem? (bo_ hi);have htr:=cf_ p (by omega);rw[←ht] at htr;refine f_c Tryz.func263 ?_;refine r_z 1 ?_;refine r_c 3 (htr) ?_;refine a_z ?_;refine r_c 6 (cV_ 1 (by decide)) ?_;refine a_z ?_;refine ab_ (r_z 3 ?_);refine av_ (fun _:Unit=>⟨[(0,.arr (pE t)),(3,.lptr 1 0 0),(4,.lptr 2 0 0)],[(1,some ⟨46,3,[qC (nQ D)]⟩),(2,some ⟨46,3,[qC 0]⟩)],3,47⟩) (fun _=>True) ?_ ?_;refine af_ (aq_ (prS t) (fun x=>t.length- x.1) (fun x=>x.1≤t.length∧x.2≠0∧denL (t.drop x.1) x.2=D) (0,1) ⟨Nat.zero_le _,by decide,by rw[hD];rfl⟩ ?_ ?_);simp only[prS.eq_1];rw[qC0];exact s_e [(1,3),(2,4)];rintro⟨i,d⟩ ⟨hi,hd0,hd⟩;simp only at hi hd0 hd;rw[prS.eq_1];refine r_z 1 ?_;refine ab_ (aj_ rfl (fun h=>?_) (fun h=>?_));refine ah_ ?_;have hlt:i< t.length:=by simpa using h
 have hc:=hbt _ (hmem i hlt);have hcd:=bP_ (coP t i);have hcn:=(coP t i).den_nz;rw[nh_ hlt] at hd;have hdD:d∣D:=by rw[←hd];exact(kY_ _ d).1
 have hdb:=b4_ (Nat.le_of_dvd (by omega) hdD);have hq1:=qs_nQ (n:=d) (k:=34359738368) (by omega) (by decide);have hq2:=qs_nQ (n:=(coP t i).den) (k:=34359738368) (by omega) (by decide);have hmu:=bE_ (nQ d) (nQ (coP t i).den) (by omega);have hco:=jL_ d (coP t i).den (by omega) (by omega);have hg0:Nat.gcd d (coP t i).den≠0:=by have:=Nat.gcd_pos_of_pos_left (coP t i).den (Nat.pos_of_ne_zero hd0);omega
 have hgb:=bl_gcd d (coP t i).den;have hq3:=qs_nQ (n:=Nat.gcd d (coP t i).den) (k:=34359738368) (by omega) (by decide);have hq4:=bH_ (nQ d) (nQ (coP t i).den);rw[nQ_mul] at hq4 hmu;have hov:=dD_ (nQ (d* (coP t i).den)) (nQ (Nat.gcd d (coP t i).den)) (fun e=>hg0 (nQ_zero.1 e)) (by omega);rw[qV_ _ _ hg0,q1_ _ _ hg0 (Nat.dvd_mul_right_of_dvd (Nat.gcd_dvd_left _ _) _)] at hov;refine ab_ (af_ (s_r 4 ?_));refine az_ (.index_a rfl rfl (by omega) (hgt i hlt) rfl te_33.h) rfl rfl ?_;refine az_ (.load_a rfl (hgt i hlt) TG.h TS.h (nle rfl)) rfl rfl ?_;refine a_z ?_;refine r_d hmix 10 ?_;refine c_s (fs_den (coP t i) (by unfold sm;omega)) ?_;refine c_s (hmu) ?_;refine c_s (fs_den (coP t i) (by unfold sm;omega)) ?_;refine c_s (hco) ?_;refine c_s (hov) ?_;refine a_1 ?_;refine ak_ (n_k ?_);refine r_m 2 ?_;refine a_z ?_;refine⟨(i+1,Nat.lcm d (coP t i).den),by simp only;omega,⟨hlt,rc_ hd0 hcn,hd⟩,?_⟩;simp only[prS.eq_1];exact s_e []
 have hge:i=t.length:=by
  have:¬i< t.length:=by simpa using h
  omega
 subst hge;rw[List.drop_length] at hd;refine ao_ ⟨(),trivial,?_⟩;rw[←hd];exact s_e [];rintro _ _;refine ab_ (r_z 3 ?_);refine av_ (fun _:Unit=>⟨[(0,.arr (pE t)),(3,.lptr 1 0 0),(4,.lptr 2 0 0)],[(1,some ⟨46,3,[qC (nQ D)]⟩),(2,some ⟨46,3,[qC (nQ N)]⟩)],3,47⟩) (fun _=>True) ?_ ?_;refine af_ (aq_ (prT t D) (fun x=>t.length- x.1) (fun x=>x.1≤t.length∧bl x.2≤s+bl D∧numL D (t.drop x.1) x.2=N) (0,0) ⟨Nat.zero_le _,by rw[bl_zero];exact Nat.zero_le _,by rw[hN];rfl⟩ ?_ ?_);simp only[prT.eq_1];exact s_e [];rintro⟨i,n⟩ ⟨hi,hnb,hn⟩;simp only at hi hnb hn;rw[prT.eq_1];refine r_z 1 ?_;refine ab_ (aj_ rfl (fun h=>?_) (fun h=>?_));refine ah_ ?_;have hlt:i< t.length:=by simpa using h
 have hc:=hbt _ (hmem i hlt);rw[nh_ hlt] at hn;have hib:=rj_ (coP t i) D;have hgb:=bl_gcd n (intC (coP t i) D);have hq1:=qs_nQ (n:=D) (k:=34359738368) (by omega) (by decide);have hmu:=bE_ (coP t i) (nQ D) (by omega);have hab:=jN_ (coP t i* nQ D);rw[mul_intC _ _ (hDd _ (hmem i hlt))] at hab;have hco:=jL_ n (intC (coP t i) D) (by omega) (by omega);refine ab_ (af_ (s_r 4 ?_));refine az_ (.index_a rfl rfl (by omega) (hgt i hlt) rfl te_33.h) rfl rfl ?_;refine az_ (.load_a rfl (hgt i hlt) TG.h TS.h (nle rfl)) rfl rfl ?_;refine a_z ?_;refine r_d hmix 7 ?_;refine c_s (hmu) ?_;refine c_s (hab) ?_;refine c_s (hco) ?_;refine a_1 ?_;refine ak_ (n_k ?_);refine r_m 2 ?_;refine a_z ?_;refine⟨(i+1,Nat.gcd n (intC (coP t i) D)),by simp only;omega,⟨hlt,by simp only;omega,hn⟩,?_⟩;simp only[prT.eq_1];exact s_e []
 have hge:i=t.length:=by
  have:¬i< t.length:=by simpa using h
  omega
 subst hge;rw[List.drop_length] at hn;refine ao_ ⟨(),trivial,?_⟩;rw[←hn];exact s_e [];rintro _ _;have hq1:=qs_nQ (n:=D) (k:=34359738368) (by omega) (by decide);have hq2:=qs_nQ (n:=N) (k:=34359738368) (by omega) (by decide);have hq3:=eM_ (nQ D) (nQ N);refine r_c 6 (dD_ (nQ D) (nQ N) (fun e=>hN0 (nQ_zero.1 e)) (by omega)) ?_;refine c_s (d7_ t (nQ D/ nQ N) (fI_ hbt (by omega)) (by unfold sm;omega) (by omega)) ?_;refine a_z ?_;exact ag_ (t_e (ap_ _))
end Go.Proofs.YtjkddcfoolilbaaGreatDoor
