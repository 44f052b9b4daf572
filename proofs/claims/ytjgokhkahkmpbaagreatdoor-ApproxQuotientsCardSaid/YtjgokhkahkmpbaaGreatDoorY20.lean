/- Part Y20 of the proof. -/
import Derived.Test.YtjgokhkahkmpbaaGreatDoorY19
set_option linter.all false
namespace Go.Proofs.YtjgokhkahkmpbaaGreatDoor
open Go.Abs
set_option maxRecDepth 20000
theorem Gv(l:Lq)(h0:l≠[])(hl:l.length<=1099511627776):OSpec Tryz.prog 77 [.arr (pE l)] 42 3 (pE l):=by
 have hne:pE l≠[]:=by
  intro e;exact h0 (List.length_eq_zero_iff.1 (by rw[<-nj,e];rfl))
 refine OSpec.enter Tryz.func77 rfl κ rfl rfl rfl ?_ ?_ rfl ?_;exact ae (aU (aJ _)) ai;exact aJ l;refine r_z 1 ?_;refine ac (s_r 2 ?_);refine a_1 ?_
 first|refine av (.nilq_v rfl rfl te_30.h) rfl rfl ?_|refine av (.nilq_arr rfl (hne) rfl te_30.h) rfl rfl ?_
 refine ao ?_;refine cF ?_
 ·refine am (s_r 4 ?_)
  refine a_2 ?_;refine o_2 (.append_l rfl rfl rfl te_30.h rfl rfl rfl rfl rfl d_o η ξ rfl (.arr (fl _)) TZ.h rfl TB.h d_o μ) ?_;refine a_z ?_;exact an (FinO.tmp rfl rfl rfl ψ)
theorem os_Trim(l:Lq)(h0:aA l≠[])(hl:l.length<=1099511627776):OSpec Tryz.prog 21 [.arr (pE l)] 42 3 (pE (aA l)):=by
 refine OSpec.enter Tryz.func21 rfl κ rfl rfl rfl ?_ ?_ rfl ?_;exact ae (aU (aJ _)) ai;exact aJ _;refine r_z 1 ?_;refine r_z 3 ?_;refine bi (trS l) (λn=>n<=l.length/\aA l=l.take n) ?_ ?_;refine ak (aC (trS l) (λn=>n) (λn=>n<=l.length/\aA l=aA (l.take n)) l.length ⟨Nat.le_refl _,by rw[List.take_length]⟩ ?_ ?_);simp only[trS.eq_1];exact s_e [];rintro n ⟨hn,ht⟩;rw[trS.eq_1];cases n with
 |zero=>exact absurd (ht.trans rfl) h0
 |succ n=>
  obtain⟨q,hq⟩:∃q,l[n]?=some q:=⟨_,List.getElem?_eq_getElem ω⟩
  have hq':(pE l)[(((n+1:Nat):Int)- 1).toNat]?=some (qC q):=by
   rw[show(((n+1:Nat):Int)- 1).toNat=n by omega];exact cj hq
  have hs:aA (l.take (n+1))=if q=0 then aA (l.take n) else l.take (n+1):=by
   rw[dO hq,kY]
  refine ac (s_r 11 ?_);refine a_3 ?_;refine y_g rfl ζ (.move rfl) ?_;refine y_g rfl ζ (.move rfl) ?_;refine y_g rfl ζ (.bin rfl rfl (iL ω)) ?_
  first|refine y_g rfl ζ (.index_l rfl rfl ω ω te_30.h) ?_|refine y_g rfl ζ (.index_a rfl rfl ω hq' rfl te_30.h) ?_
  first|refine y_g rfl ζ (.load_l rfl rfl hq' TG.h TS.h (nle rfl)) ?_|refine y_g rfl ζ (.load_a rfl hq' TG.h TS.h (nle rfl)) ?_
  refine y_g rfl ζ (.call rfl rfl rfl (cb q)) ?_;refine y_g rfl ζ (.bin rfl rfl aM) ?_;refine o_0 (.pickT rfl ζ rfl) ?_;refine ao ?_;refine aw rfl (λh=>?_) (λh=>?_)
  have h0:q=0:=by
   have h1:sgZ q.num=0:=by simpa using h
   exact sgZ_num_eq.1 h1
  refine am (ak (r_m 3 ?_));refine a_z ?_;refine⟨n,Nat.lt_succ_self n,⟨ω,?_⟩,?_⟩;rw[ht,hs,if_pos h0];simp only[trS.eq_1];exact s_e []
  have h0:q≠0:=by
   intro e;have h1:¬sgZ q.num=0:=by simpa using h
   exact h1 (sgZ_num_eq.2 e)
  refine aB ⟨n+1,⟨hn,?_⟩,?_⟩;rw[ht,hs,if_neg h0];simp only[trS.eq_1];exact s_e []
 rintro n ⟨hn,ht⟩;rw[trS.eq_1];rw[ht] at h0;have hcl:=Gv (l.take n) h0 χ;refine s_r 5 ?_;refine a_2 ?_;refine o_0 (.sa_h rfl rfl (h:=n) rfl χ te_30.h (fl _)) ?_;refine o_1 (.callO rfl rfl rfl ((by rw[li];exact hcl))) ?_;refine a_z ?_;refine an ?_;rw[ht];exact FinO.tmp rfl rfl rfl ψ
def dvS(q:Lq)(lead:Rat):Nat×Lq×Lq->AState
 |(c,u,o)=>⟨[(0,.lsl 1 0 o.length none 3),(1,.arr (pE q)),(4,.lsl 2 0 u.length (some u.length) 3),(6,.lptr 3 0 0),(7,i64 ((c:Int)- 1))],[(1,some ⟨42,3,pE o⟩),(2,some ⟨42,3,pE u⟩),(3,some ⟨42,3,[qC lead]⟩)],4,82⟩
def dvT(q:Lq)(lead:Rat)(n:Nat)(u:Lq)(k:Rat):Nat×Lq->AState
 |(i,o)=>⟨[(0,.lsl 1 0 o.length none 3),(1,.arr (pE q)),(4,.lsl 2 0 u.length (some u.length) 3),(6,.lptr 3 0 0),(7,i64 n),(8,.lptr 4 0 0),(55,.arr (pE q)),(56,i64 q.length),(57,i64 i)],[(1,some ⟨42,3,pE o⟩),(2,some ⟨42,3,pE u⟩),(3,some ⟨42,3,[qC lead]⟩),(4,some ⟨42,3,[qC k]⟩)],5,82⟩
theorem qW(p q:Lq)(s t:Nat)(hp:bdL p s)(hq:bdL q t)(hs:1<=s)(ht:1<=t)(h:2^ ((aA p).length+1- (aA q).length) * (s+2* t+1)<=137438953472)(hq0:aA q≠[])(hp1:p.length<=274877906944)(hq1:q.length<=274877906944):FS 78 [.arr (pE p),.arr (pE q)] (.tup [.arr (pE (kj p q).1),.arr (pE (kj p q).2)]):=by
 have hlp:=cv p;have hlq:=cv q;have hql:=List.length_pos_iff.2 hq0
 have hg:(pE (aA q))[(((aA q).length:Int)- 1).toNat]?=some (qC (bu q)):=by
  rw[show(((aA q).length:Int)- 1).toNat=(aA q).length- 1 by omega];exact cj (gq ω)
 have hne:=pD hq0;obtain⟨m,hm⟩:∃m,m=(aA p).length+1- (aA q).length:=⟨_,rfl⟩;have hmx:(if (0:Int)>((aA p).length:Int)- (aA q).length+1 then(0:Int) else((aA p).length:Int)- (aA q).length+1)=(m:Int):=by split <;> omega
 have hB:Cz (aA q) (bu q) 137438953472 m (List.replicate m 0) (aA p):=by
  refine⟨s,t,gY (λx hx=>hp x (dy hx)) hs,gY (λx hx=>hq x (dy hx)) ht,hq _ (dy (List.mem_of_getElem? (gq (n:=(aA q).length- 1) ω))),ht,λn=>?_,by rw[hm];exact h⟩
  have:coP (List.replicate m 0) n=0:=by
   unfold coP;rw[List.getD_eq_getElem?_getD,List.getElem?_replicate];split <;> rfl
  rw[this];decide
 have hdv:kj p q=(aA (qf (aA q) (bu q) m (List.replicate m 0) (aA p)).1,aA (qf (aA q) (bu q) m (List.replicate m 0) (aA p)).2):=by rw[hm];rfl
 rw[hdv];refine f_c Tryz.func78 ?_;refine r_z 2 ?_;by_cases hp0:aA p=[]
 ·have hm0:m=0:=by rw[hm,hp0];simp;omega
  subst hm0;rw[hp0] at hmx⊢;have htp:=dT p ω;rw[hp0] at htp;refine r_c 6 (htp) ?_;refine c_s (dT q ω) ?_;refine a_z ?_;refine s_r 8 ?_;refine a_4 ?_;refine i_x hg ?_;refine l_x hg ?_;refine a_z ?_;refine s_r 9 ?_;refine a_7 ?_;refine o_1 (.makeSlice (l:=0) (c:=0) (by rw[<-hmx];rfl) (by rw[<-hmx];rfl) te_30.h TZ.h rfl TB.h ν ν ι) ?_;refine a_z ?_;refine ac (r_z 6 ?_);refine aG (λ_:Unit=>⟨[(0,.arr (pE [])),(4,.lsl 2 0 0 (some 0) 3)],[(2,some ⟨42,3,[]⟩)],3,82⟩) (λ_=>True) ?_ ?_;refine ak (aC (λ_:Unit=>⟨[(0,.arr (pE [])),(4,.lsl 2 0 0 (some 0) 3),(7,i64 (0- ((aA q).length:Int)))],[(2,some ⟨42,3,[]⟩)],3,82⟩) (λ_=>0) (λ_=>True) () trivial ?_ ?_);exact s_x [(2,4)] (λhs=>cN) (λhs=>e_17);rintro _ _;refine ac (r_z 2 ?_);refine aw rfl (λh1=>?_) (λh1=>?_);exact absurd h1 χ;refine aB ⟨(),trivial,?_⟩;exact s_x [] (λhs=>cN) (λhs=>e_17);rintro _ _;refine s_r 6 ?_;refine a_1 ?_;refine o_1 (.callS1 rfl rfl rfl (.shut rfl d_n (.nil)) rfl ((dT [] ψ))) ?_;refine c_s (dT [] ψ) ?_;refine a_z ?_;refine an (Fin.many ⟨_,_,rfl,rfl,⟨_,_,rfl,rfl,rfl⟩⟩ (nle rfl) ?_);exact af (ah aE (aq _)) (af (ah aE (aq _)) ax)
 have hpl:=List.length_pos_iff.2 hp0;have hto:=os_Trim p hp0 ω;have hdl:=jY (aA q) (bu q) m (List.replicate m 0) (aA p);have hend:=yc hB;refine s_r 6 ?_;refine a_1 ?_;refine o_1 (.callO rfl rfl rfl (hto)) ?_;refine c_s (dT q ω) ?_;refine a_z ?_;refine AWp.ent (st':=⟨[(0,.lsl 1 0 (aA p).length none 3),(1,.arr (pE (aA q)))],[(1,some ⟨42,3,pE (aA p)⟩)],2,82⟩) ?_ ?_;exact s_e [(1,0)];refine s_r 8 ?_;refine a_4 ?_;refine i_x hg ?_;refine l_x hg ?_;refine a_z ?_;refine s_r 9 ?_;refine a_7 ?_;refine o_1 (.makeSlice (l:=m) (c:=m) (by rw[<-hmx];rfl) (by rw[<-hmx];rfl) te_30.h TZ.h rfl TB.h ν ν ι) ?_;refine a_z ?_;refine ac (r_z 6 ?_);refine aG (λx:Lq×Lq=>⟨[(0,.lsl 1 0 x.2.length none 3),(4,.lsl 2 0 x.1.length (some x.1.length) 3)],[(1,some ⟨42,3,pE x.2⟩),(2,some ⟨42,3,pE x.1⟩)],3,82⟩) (λx=>x=qf (aA q) (bu q) m (List.replicate m 0) (aA p)) ?_ ?_;refine ak ?_;by_cases hab:(aA p).length< (aA q).length;have hm0:m=0:=ω
 subst hm0;refine aC (λ_:Unit=>⟨[(0,.lsl 1 0 (aA p).length none 3),(4,.lsl 2 0 0 (some 0) 3),(7,i64 (((aA p).length:Int)- ((aA q).length:Int)))],[(1,some ⟨42,3,pE (aA p)⟩),(2,some ⟨42,3,[]⟩)],3,82⟩) (λ_=>0) (λ_=>True) () trivial ?_ ?_;exact s_x [(1,0),(2,4)] (λhs=>cN) (λhs=>e_17);rintro _ _;refine ac (r_z 2 ?_);refine aw rfl (λh1=>?_) (λh1=>?_);exact absurd h1 χ;refine aB ⟨([],aA p),rfl,?_⟩;exact s_f [];refine aC (λx:Nat×Lq×Lq=>dvS (aA q) (bu q) x) (λx=>x.1) (λx=>x.1<=m/\x.2.1.length=m/\x.2.2.length=(aA p).length/\Cz (aA q) (bu q) 137438953472 x.1 x.2.1 x.2.2/\qf (aA q) (bu q) x.1 x.2.1 x.2.2=qf (aA q) (bu q) m (List.replicate m 0) (aA p)) (m,List.replicate m 0,aA p) ⟨Nat.le_refl _,ψ,rfl,hB,rfl⟩ ?_ ?_;simp only[dvS.eq_1];have hm1:((aA p).length:Int)- (aA q).length=(m:Int)- 1:=ω
 rw[hm1];exact s_x [(1,0),(2,4),(3,6)] (λhs=>cN) (λhs=>e_27);rintro⟨c,u,o⟩ ⟨hc,hu,ho,hb,hr⟩;simp only at hc hu ho hb hr;simp only[dvS.eq_1];cases c with
 |zero=>
  refine ac (r_z 2 ?_);refine aw rfl (λh1=>?_) (λh1=>?_);exact absurd h1 ψ;refine aB ⟨(u,o),hr,?_⟩;exact s_e []
 |succ n=>
  obtain⟨B,tt,hb1,hb2,hb3,hb4⟩:=Az hb;have hcn:((n+1:Nat):Int)- 1=(n:Int):=ω
  rw[hcn];refine ac (r_z 2 ?_);refine aw rfl (λh1=>?_) (λh1=>?_);refine am ?_;obtain⟨k,hk⟩:∃k,k=coP o (n+(aA q).length- 1) / bu q:=⟨_,rfl⟩;have hst:=wx hb;rw[qf] at hr;rw[<-hk] at hst hr
  have hgo:(pE o)[(0+(((n:Nat):Int)+((aA q).length:Nat)- 1).toNat)]?=some (qC (coP o (n+(aA q).length- 1))):=by
   rw[show 0+(((n:Nat):Int)+((aA q).length:Nat)- 1).toNat=n+(aA q).length- 1 by omega];exact cj (bJ ω)
  have hov:=fP (coP o (n+(aA q).length- 1)) (bu q) hne (by have:=hb1 (n+(aA q).length- 1);omega);rw[<-hk] at hov
  have hgu:(pE u)[0+((n:Nat):Int).toNat]?=some (qC (coP u n)):=by
   rw[show 0+((n:Nat):Int).toNat=n by omega];exact cj (bJ ω)
  refine ac (ak (ac (r_d hmix 12 ?_)));refine a_7 ?_
  first|refine av (.load_l rfl rfl hgo TG.h TS.h (nle rfl)) rfl rfl ?_|refine av (.load_a rfl hgo TG.h TS.h (nle rfl)) rfl rfl ?_
  refine c_s (hov) ?_;refine a_2 ?_;refine ao (n_k ?_);refine s_r 5 ?_;refine a_4 ?_;refine ee (.store rfl rfl hgu rfl rfl rfl TS.h (nle rfl)) ?_;refine ao ?_
  have hsu:(pE u).set (0+((n:Nat):Int).toNat) (qC k)=pE (u.set n k):=by
   rw[show 0+((n:Nat):Int).toNat=n by omega,j5]
  have hlu:(u.set n k).length=u.length:=ψ
  refine ac (r_c 3 (cb k) ?_);refine a_z ?_;refine aw rfl (λh2=>?_) (λh2=>?_)
  have h0:k=0:=by
   have h2:sgZ k.num=0:=by simpa using h2
   exact sgZ_num_eq.1 h2
  rw[if_pos h0] at hst hr;refine aB (r_m 3 ?_);refine a_z ?_;refine⟨(n,u.set n k,o),Nat.lt_succ_self n,⟨ω,by simp only;omega,ho,hst,hr⟩,?_⟩;simp only[dvS.eq_1,hlu];exact s_f []
  have h0:k≠0:=by
   intro e;have h2:¬sgZ k.num=0:=by simpa using h2
   exact h2 (sgZ_num_eq.2 e)
  rw[if_neg h0] at hst hr;refine am (r_z 3 ?_);refine AWp.cutB (λ_:Unit=>⟨[(0,.lsl 1 0 o.length none 3),(1,.arr (pE (aA q))),(4,.lsl 2 0 u.length (some u.length) 3),(6,.lptr 3 0 0),(7,i64 n)],[(1,some ⟨42,3,pE (jD o k (aA q) n (aA q).length)⟩),(2,some ⟨42,3,pE (u.set n k)⟩),(3,some ⟨42,3,[qC (bu q)]⟩)],4,82⟩) (λ_=>True) ?_ ?_;refine ak (aC (λi:Nat=>dvT (aA q) (bu q) n (u.set n k) k (i,jD o k (aA q) n i)) (λi=>(aA q).length- i) (λi=>i<=(aA q).length) 0 (Nat.zero_le _) ?_ ?_);simp only[dvT.eq_1,jD,hlu];exact s_f [(4,8)];rintro i hi;simp only[dvT.eq_1];refine r_z 1 ?_;refine ac (aw rfl (λh3=>?_) (λh3=>?_));refine am ?_;have hlt2:i< (aA q).length:=by simpa using h3
  have hgq:(pE (aA q))[((i:Nat):Int).toNat]?=some (qC (coP (aA q) i)):=cj (bJ hlt2)
  have hcur:qs (coP (jD o k (aA q) n i) (n+i))<=B:=by
   rw[y8 _ _ _ _ _ _ ω];exact hb1 _
  have hkq:qs k<=B+tt:=by
   have e1:=fu (coP o (n+(aA q).length- 1)) (bu q);have e2:=hb1 (n+(aA q).length- 1);rw[hk];omega
  have hkm:=eV k (coP (aA q) i);have hqi:=hb2 i;have hik:n+i< (jD o k (aA q) n i).length:=χ
  have hgr:(pE (jD o k (aA q) n i))[(0+(((n:Nat):Int)+(i:Nat)).toNat)]?=some (qC (coP (jD o k (aA q) n i) (n+i))):=by
   rw[show 0+(((n:Nat):Int)+(i:Nat)).toNat=n+i by omega];exact cj (bJ hik)
  refine ac (ak (s_r 6 ?_));refine a_1 ?_;refine i_x hgq ?_;refine l_x hgq ?_;refine a_z ?_;refine r_d hmix 16 ?_;refine a_8 ?_;refine a_1 ?_
  first|refine av (.load_l rfl rfl hgr TG.h TS.h (nle rfl)) rfl rfl ?_|refine av (.load_a rfl hgr TG.h TS.h (nle rfl)) rfl rfl ?_
  refine c_s (dq k (coP (aA q) i) ω) ?_;refine c_s (gO (coP (jD o k (aA q) n i) (n+i)) (k* coP (aA q) i) ω) ?_;refine a_1 ?_;refine ee (.store rfl rfl hgr rfl rfl rfl TS.h (nle rfl)) ?_;refine ao (n_k ?_);refine r_m 2 ?_;refine a_z ?_;refine⟨i+1,ω,hlt2,?_⟩
  have hst2:(pE (jD o k (aA q) n i)).set (0+(((n:Nat):Int)+(i:Nat)).toNat) (qC (coP (jD o k (aA q) n i) (n+i)- k* coP (aA q) i))=pE (jD o k (aA q) n (i+1)):=by
   rw[show 0+(((n:Nat):Int)+(i:Nat)).toNat=n+i by omega,j5];rfl
  have hl2:(jD o k (aA q) n (i+1)).length=(jD o k (aA q) n i).length:=ψ
  simp only[dvT.eq_1,hl2];exact s_x [] (λhs=>cN) (λhs=>e_28) e_2
  have hge:i=(aA q).length:=by
   have:¬i< (aA q).length:=by simpa using h3
   omega
  subst hge;refine aB ⟨(),trivial,?_⟩;rw[l9,hlu];exact s_e [];rintro _ _;refine r_m 3 ?_;refine a_z ?_;refine⟨(n,u.set n k,jD o k (aA q) n (aA q).length),Nat.lt_succ_self n,⟨ω,by simp only;omega,by simp only;rw[l9];exact ho,hst,hr⟩,?_⟩;simp only[dvS.eq_1,hlu,l9];exact s_e [];exact absurd h1 ψ
 rintro⟨u,o⟩ hx;rw[<-hx] at hdl hend⊢;simp only at hdl hend⊢;have hlu:u.length<=274877906945:=by rw[hdl.1];simp;omega
 have hfu:List.take u.length (List.drop 0 (pE u))=pE u:=by rw[List.drop_zero,List.take_of_length_le ψ]
 have hfo:List.take o.length (List.drop 0 (pE o))=pE o:=by rw[List.drop_zero,List.take_of_length_le ψ]
 refine s_r 6 ?_;refine a_1 ?_;refine o_1 (.callS1 rfl rfl rfl (.shut rfl d_n (.nil)) rfl ((by rw[hfu];exact dT u ω))) ?_;refine a_1 ?_;refine o_1 (.callS1 rfl rfl rfl (.shut rfl d_n (.nil)) rfl ((by rw[hfo];exact dT o (by rw[hdl.2];omega)))) ?_;refine a_z ?_;refine an (Fin.many ⟨_,_,rfl,rfl,⟨_,_,rfl,rfl,rfl⟩⟩ (nle rfl) ?_);exact af (ah aE (aq _)) (af (ah aE (aq _)) ax)
def gcS:Lq×Lq->AState
 |(p,q)=>⟨[(0,.arr (pE p)),(1,.arr (pE q))],[],1,21⟩
theorem BT(p:Lq)(q:Lq):gcS (p,q)=⟨[(0,.arr (pE p)),(1,.arr (pE q))],[],1,21⟩:=rfl
theorem degP_neg{l:Lq}:db l< 0↔aA l=[]:=by
 unfold db;constructor;intro h;exact List.length_eq_zero_iff.1 ω;intro h;rw[h];decide
theorem HA(f:Nat)(p q g:Lq)(h:ED f p q=some g)(hp1:p.length<=274877906944)(hq1:q.length<=274877906944):FS 23 [.arr (pE p),.arr (pE q)] (.arr (pE g)):=by
 refine f_c Tryz.func23 ?_;refine r_z 1 ?_;refine bi (λp:Lq=>⟨[(0,.arr (pE p))],[],1,21⟩) (λp=>smL p/\p.length<=274877906944/\g=j7 p) ?_ ?_;refine ak (aC (λx:Nat×Lq×Lq=>gcS x.2) (λx=>x.1) (λx=>ED x.1 x.2.1 x.2.2=some g/\x.2.1.length<=274877906944/\x.2.2.length<=274877906944) (f,p,q) ⟨h,hp1,hq1⟩ ?_ ?_);simp only[BT];exact s_e [];rintro⟨f,p,q⟩ ⟨h,hp1,hq1⟩;simp only at h hp1 hq1;simp only[BT];cases f with
 |zero=>cases h
 |succ f=>
  rw[ED] at h;refine ac (r_c 3 (cK q ω) ?_);refine a_z ?_;refine aw rfl (λh1=>?_) (λh1=>?_)
  ·have hq0:aA q≠[]:=by
    intro e;have e2:=degP_neg.2 e;simp at h1;omega
   rw[if_neg hq0] at h;split at h
   case isFalse=>cases h
   case isTrue hs=>
   have hl:=uJ (p:=p) (q:=q);have hm:=BB (kj p q).2;refine am (ak (r_c 8 (qW p q (mxL p) (mxL q) (eb p) (eb q) (dR p) (dR q) hs.1 hq0 hp1 hq1) ?_));refine a_z ?_;refine r_m 5 ?_;refine c_s (uo (kj p q).2 (yd hs hq0).2 ω) ?_;refine a_z ?_;refine⟨(f,q,j7 (kj p q).2),Nat.lt_succ_self f,⟨h,hq1,by simp only;omega⟩,?_⟩;simp only[BT];exact s_e []
  ·have hq0:aA q=[]:=by
    refine degP_neg.1 ?_;simp at h1;omega
   rw[if_pos hq0] at h;split at h
   case isFalse=>cases h
   case isTrue hs=>
   cases h;refine aB ⟨p,⟨hs,hp1,rfl⟩,?_⟩;exact s_e []
 rintro p ⟨hs,hp1,rfl⟩;refine r_c 3 (uo p hs ω) ?_;refine a_z ?_;exact an (t_e (aq _))

theorem kf(l:Lq)(hl:l.length<=281474976710656):GSpec Tryz.prog 232 [bP l] (kU l):=by
 refine GSpec.enter Tryz.func232 rfl κ rfl rfl rfl ?_ ?_ rfl ?_;exact ae (cD l) ai;intro k xs h;unfold kU at h;split at h;cases h;exact ae (ag _) (ae (aS _) ai);cases h;intro ll N E;refine GWp.seq ?_;refine GWp.lift ?_;refine r_m 4 ?_;refine a_z ?_;refine GWp.block ?_;refine GWp.loopS (λm:Nat=>⟨[(0,.v (.func (.yield ll) #[] #[])),(1,bP l),(3,i64 ((m:Int)- 1))],[],1,19⟩) (λm=>l.length- m) (λm=>m) (λm=>m<=l.length) l.length (Nat.le_refl _) ψ ?_ ?_;exact s_e [];intro m hm;refine GWp.seq ?_;refine GWp.seq ?_;refine GWp.lift ?_;refine r_m 2 ?_;refine a_z ?_;refine GWp.cond rfl (λh=>?_) (λh=>?_)
 ·refine GWp.skip ?_
  have hm1:1<=m:=by have:=of_decide_eq_true h;omega
  have hx':(pE l)[((m:Int)- 1).toNat]?=some (qC (coP l (m- 1))):=by rw[show((m:Int)- 1).toNat=m- 1 by omega];exact cj (bJ ω)
  refine GWp.seq ?_;refine GWp.block ?_;refine GWp.seq ?_;refine GWp.regY (fr2:=[(0,.v (.func (.yield ll) #[] #[])),(1,bP l),(3,i64 ((m:Int)- 1)),(11,.v (.func (.yield ll) #[] #[])),(12,i64 ((m:Int)- 1)),(16,.agg (qC (coP l (m- 1))))]) (hp2:=[]) (nx2:=1) 6 rfl rfl rfl rfl rfl rfl ?_ rfl rfl rfl ?_ ?_ ?_;refine o_0 (.move rfl) ?_;refine o_0 (.move rfl) ?_
  first|refine av (.load_l1 rfl rfl rfl TG.h rfl) rfl rfl ?_|refine av (.load_a1 rfl rfl TG.h rfl) rfl rfl ?_
  refine o_0 (.move rfl) ?_;refine i_x hx' ?_;refine l_x hx' ?_;refine ao ?_;exact s_y [] (λhs=>cN) (λhs=>jN);rotate_left 2;intro go;refine o_0 (.un rfl iN) ?_;refine ao ?_;rotate_left;unfold kU;rw[if_pos ω];have e1:((l.length- 1- (l.length- m):Nat):Int)=(m:Int)- 1:=ω
  have e2:l.length- 1- (l.length- m)=m- 1:=ω
  rw[e1,e2];rfl;exact ae (ag _) (ae (aS _) ai);cases go with
  |false=>
   refine GWp.cond rfl (λh=>?_) (λh=>?_);exact GWp.ret ⟨.inr rfl,λh=>by cases h⟩;cases h
  |true=>
   refine GWp.cond rfl (λh=>?_) (λh=>?_);cases h;refine GWp.skip ?_;refine GWp.lift ?_;refine r_m 3 ?_;refine a_z ?_;refine⟨rfl,m- 1,ω,ω,ω,?_⟩;exact s_e []
 refine GWp.exit ⟨.inl rfl,λ_=>?_⟩;have:m=0:=by have:=of_decide_eq_false h;omega
 subst this;unfold kU;rw[if_neg ω]
theorem ki(l:Lq):FS 197 [.arr (pE l)] (.clos 232 [] [bP l]):=by
 refine f_c Tryz.func197 ?_;refine r_z 2 ?_;refine r_z 2 ?_;refine an (⟨.inr rfl,[_],⟨_,[],rfl,rfl,rfl⟩,?_⟩);exact Cv.clos ax (af (Cv.boxp aE rfl (λ_ _ h=>by cases h) rfl (ae (aq l) ai)) ax)
def hoS(p:Lq)(g:Nat)(cap:La)(w:Nat->Rat):Nat->AState
 |k=>⟨[(4,.lptr 1 0 0),(5,.aptr [[.clos g [] cap]] 0 0),(6,.lptr 2 0 0),(10,.clos 232 [] [bP p])],[(1,some ⟨42,3,[qC (w k)]⟩),(2,some ⟨42,3,[zC]⟩)],3,18⟩
theorem B6(p:Lq)(g:Nat)(cap:La)(w:Nat->Rat)(hl:p.length<=281474976710656)(hcap:∀c∈cap,Closed c)(hg:∀k,k< p.length->FS g ((.agg (qC (w k)):: .agg (qC (coP p (p.length- 1- k)))::cap).map coe) (.agg (qC (w (k+1))))):FS 148 [.arr (pE p),.agg (qC (w 0)),.clos g [] cap] (.agg (qC (w p.length))):=by
 have hb:=ki p;have hgs:=kf p hl;have hcc:Closed (.clos g [] cap):=aY ai hcap;have hcc2:Closed (.aptr [[.clos g [] cap]] 0 0):=aW (ae hcc ai);have hcl2:Closed (.clos 232 [] [bP p]):=aY ai (ae (cD p) ai);refine f_c Tryz.func148 ?_;refine r_z 3 ?_;refine AWp.ent (st':=⟨[(0,.arr (pE p)),(4,.lptr 1 0 0),(5,.aptr [[.clos g [] cap]] 0 0),(6,.lptr 2 0 0)],[(1,some ⟨42,3,[qC (w 0)]⟩),(2,some ⟨42,3,[zC]⟩)],3,18⟩) ?_ ?_;have:=ae hcc ai;exact s_f [(1,4),(2,6)];refine ac (r_c 2 (hb) ?_);refine ao ?_;refine aG (λ_:Unit=>⟨[(4,.lptr 1 0 0),(6,.lptr 2 0 0)],[(1,some ⟨42,3,[qC (w p.length)]⟩),(2,some ⟨42,3,[zC]⟩)],3,18⟩) (λ_=>True) ?_ ?_;refine ak (AWp.rangeFunc (α:=Nat) (γ:=Empty) p.length (hoS p g cap w) (λk=>k) (λk=>k<=p.length) (λe=>nomatch e) (λ_ e=>nomatch e) 0 rfl hgs rfl rfl ?_ (λ_=>⟨rfl,rfl⟩) (λe=>nomatch e) (Nat.zero_le _) rfl (λ_ h=>h) ?_ ?_ ?_ ?_ (λ_ e=>nomatch e));intro k xs hT;unfold kU at hT;split at hT;cases hT;rfl;cases hT;rw[hoS.eq_1];exact s_y [] (λhs=>cN) (λhs=>jN);exact ae (cD p) ai
 ·intro l k xs hk hT
  unfold kU at hT;split at hT;rotate_left;cases hT;rename_i hlt;cases hT;show AWp _ _ _ _ ⟨[(12,.agg (qC (coP p (p.length- 1- k)))),(11,i64 (p.length- 1- k:Nat)),(4,.lptr 1 0 0),(5,.aptr [[.clos g [] cap]] 0 0),(6,.lptr 2 0 0),(10,.clos 232 [] [bP p]),(1004,.lptr 1 0 0),(1005,.aptr [[.clos g [] cap]] 0 0),(1006,.lptr 2 0 0),(1010,.clos 232 [] [bP p])],[(1,some ⟨42,3,[qC (w k)]⟩),(2,some ⟨42,3,[zC]⟩)],3,18⟩;refine r_m 2 ?_;refine a_z ?_;refine ak (r_m 5 ?_);refine c_s (hg k hlt) ?_;refine a_z ?_;refine⟨k+1,⟨hlt,rfl⟩,?_⟩;show SEntT _ ⟨[(1004,.lptr 1 0 0),(1005,.aptr [[.clos g [] cap]] 0 0),(1006,.lptr 2 0 0),(1010,.clos 232 [] [bP p])],[(1,some ⟨42,3,[qC (w (k+1))]⟩),(2,some ⟨42,3,[zC]⟩)],3,18⟩;exact s_y [] (λhs=>cN) (λhs=>jN)
 intro k hk hT;unfold kU at hT;split at hT;cases hT;refine⟨(),trivial,?_⟩;rw[hoS.eq_1];have h1:k=p.length:=ω
 subst h1;exact s_e [];rintro _ _;refine r_z 2 ?_;exact an (c_e (aS _))
theorem HB(v c x:Rat)(h1:qs v+qs x<=549755813888)(h2:qs (v* x)+qs c<=549755813888):FS 149 [.agg (qC v),.agg (qC c),bQ x] (.agg (qC (v* x+c))):=by
 refine f_c Tryz.func149 ?_;refine r_z 3 ?_;refine ac (r_d hmix 6 ?_);refine c_s (dq v x h1) ?_;refine c_s (fz (v* x) c h2) ?_;refine a_1 ?_;refine ao (n_k ?_);exact an (c_e (aS _))
theorem e8(p:Lq)(x:Rat)(h:ea p x):FS 91 [.arr (pE p),.agg (qC x)] (.agg (qC (aO p x))):=by
 have hw:∀k,k< p.length->FS 149 [.agg (qC (aO (p.drop (p.length- k)) x)),.agg (qC (coP p (p.length- 1- k))),bQ x] (.agg (qC (aO (p.drop (p.length- (k+1))) x))):=λk hk=>by
  have:=Cq h k hk;rw[ri hk];exact HB _ _ _ this.1 this.2
 have hh:=B6 p 149 [bQ x] (λk=>aO (p.drop (p.length- k)) x) (by have:=h.2;omega) (ae (aT x) ai) hw;simp only[Nat.sub_zero,Nat.sub_self,List.drop_zero,List.drop_length] at hh;rw[show aO [] x=0 from rfl,qC0] at hh;refine f_c Tryz.func91 ?_;refine r_z 2 ?_;refine AWp.ent (st':=⟨[(0,.arr (pE p)),(3,bQ x),(4,.lptr 1 0 0)],[(1,some ⟨42,3,[zC]⟩)],2,9⟩) ?_ ?_;exact s_e [(1,4)];refine r_c 5 (hh) ?_;refine a_z ?_;exact an (c_e (aS _))
def hsS(p:Lq)(g:Nat)(cap:La)(w:Nat->Rat×Rat):Nat->AState
 |k=>⟨[(4,.lptr 1 0 0),(5,.aptr [[.clos g [] cap]] 0 0),(6,.lptr 2 0 0),(10,.clos 232 [] [bP p])],[(1,some ⟨44,6,[spC (w k).1 (w k).2]⟩),(2,some ⟨44,6,[zC++zC]⟩)],3,18⟩
theorem B5(p:Lq)(g:Nat)(cap:La)(w:Nat->Rat×Rat)(hl:p.length<=281474976710656)(hcap:∀c∈cap,Closed c)(hg:∀k,k< p.length->FS g ((.agg (spC (w k).1 (w k).2):: .agg (qC (coP p (p.length- 1- k)))::cap).map coe) (.agg (spC (w (k+1)).1 (w (k+1)).2))):FS 276 [.arr (pE p),.agg (spC (w 0).1 (w 0).2),.clos g [] cap] (.agg (spC (w p.length).1 (w p.length).2)):=by
 have hb:=ki p;have hgs:=kf p hl;have hcc:Closed (.clos g [] cap):=aY ai hcap;have hcc2:Closed (.aptr [[.clos g [] cap]] 0 0):=aW (ae hcc ai);have hcl2:Closed (.clos 232 [] [bP p]):=aY ai (ae (cD p) ai);refine f_c Tryz.func276 ?_;refine r_z 3 ?_;refine AWp.ent (st':=⟨[(0,.arr (pE p)),(4,.lptr 1 0 0),(5,.aptr [[.clos g [] cap]] 0 0),(6,.lptr 2 0 0)],[(1,some ⟨44,6,[spC (w 0).1 (w 0).2]⟩),(2,some ⟨44,6,[zC++zC]⟩)],3,18⟩) ?_ ?_;have:=ae hcc ai;exact s_f [(1,4),(2,6)];refine ac (r_c 2 (hb) ?_);refine ao ?_;refine aG (λ_:Unit=>⟨[(4,.lptr 1 0 0),(6,.lptr 2 0 0)],[(1,some ⟨44,6,[spC (w p.length).1 (w p.length).2]⟩),(2,some ⟨44,6,[zC++zC]⟩)],3,18⟩) (λ_=>True) ?_ ?_;refine ak (AWp.rangeFunc (α:=Nat) (γ:=Empty) p.length (hsS p g cap w) (λk=>k) (λk=>k<=p.length) (λe=>nomatch e) (λ_ e=>nomatch e) 0 rfl hgs rfl rfl ?_ (λ_=>⟨rfl,rfl⟩) (λe=>nomatch e) (Nat.zero_le _) rfl (λ_ h=>h) ?_ ?_ ?_ ?_ (λ_ e=>nomatch e));intro k xs hT;unfold kU at hT;split at hT;cases hT;rfl;cases hT;rw[hsS.eq_1];exact s_y [] (λhs=>cN) (λhs=>jN);exact ae (cD p) ai
 ·intro l k xs hk hT
  unfold kU at hT;split at hT;rotate_left;cases hT;rename_i hlt;cases hT;show AWp _ _ _ _ ⟨[(12,.agg (qC (coP p (p.length- 1- k)))),(11,i64 (p.length- 1- k:Nat)),(4,.lptr 1 0 0),(5,.aptr [[.clos g [] cap]] 0 0),(6,.lptr 2 0 0),(10,.clos 232 [] [bP p]),(1004,.lptr 1 0 0),(1005,.aptr [[.clos g [] cap]] 0 0),(1006,.lptr 2 0 0),(1010,.clos 232 [] [bP p])],[(1,some ⟨44,6,[spC (w k).1 (w k).2]⟩),(2,some ⟨44,6,[zC++zC]⟩)],3,18⟩;refine r_m 2 ?_;refine a_z ?_;refine ak (r_m 5 ?_);refine c_s (hg k hlt) ?_;refine a_z ?_;refine⟨k+1,⟨hlt,rfl⟩,?_⟩;show SEntT _ ⟨[(1004,.lptr 1 0 0),(1005,.aptr [[.clos g [] cap]] 0 0),(1006,.lptr 2 0 0),(1010,.clos 232 [] [bP p])],[(1,some ⟨44,6,[spC (w (k+1)).1 (w (k+1)).2]⟩),(2,some ⟨44,6,[zC++zC]⟩)],3,18⟩;exact s_y [] (λhs=>cN) (λhs=>jN)
 intro k hk hT;unfold kU at hT;split at hT;cases hT;refine⟨(),trivial,?_⟩;rw[hsS.eq_1];have h1:k=p.length:=ω
 subst h1;exact s_e [];rintro _ _;refine r_z 2 ?_;exact an (c_e (bK _ _))
abbrev bS(s:Sp):AV:= .aptr [spC s.1 s.2] 0 0
theorem bU(s:Sp):Closed (bS s):=aW (cu _ _)
theorem FL{a b:Sp}(h:smL (zj a b)):smS (tp a b):=⟨iw h,iw h⟩
theorem Hy(v s:Sp)(c:Rat)(hv:smS v)(hs:smS s)(hc:sm c)(hp:smL (zj v s)):FS 277 [.agg (spC v.1 v.2),.agg (qC c),bS s] (.agg (spC (C4 (tp v s) (c,c)).1 (C4 (tp v s) (c,c)).2)):=by
 have hm:=FL hp;refine f_n Tryz.func277 ?_ ?_;exact ae (bK _ _) (ae (aS c) (ae (bU s) ai));refine r_z 3 ?_;refine ac (r_d hmix 7 ?_);refine c_s (fs_SMul v.1 v.2 s.1 s.2 hv.1 hv.2 hs.1 hs.2 hp) ?_;refine c_s (Aj c) ?_;refine c_s (fs_SAdd (tp v s).1 (tp v s).2 c c hm.1 hm.2 hc hc) ?_;refine a_1 ?_;refine ao (n_k ?_);exact an (c_e (bK _ _))
theorem fs_Over(p:Lq)(s:Sp)(h:xm p s):FS 257 [.arr (pE p),.agg (spC s.1 s.2)] (.agg (spC (ie p s).1 (ie p s).2)):=by
 obtain⟨hsm,hs,hl,hov⟩:=h;have htl:=cv p;refine f_c Tryz.func257 ?_;refine r_z 2 ?_;refine AWp.ent (st':=⟨[(0,.arr (pE p)),(3,bS s),(4,.lptr 1 0 0)],[(1,some ⟨44,6,[zC++zC]⟩)],2,30⟩) ?_ ?_;exact s_e [(1,4)];refine r_c 3 (dT p ω) ?_;refine a_z ?_;refine bi (λ_:Unit=>⟨[(0,.arr (pE (aA p))),(3,bS s),(4,.lptr 1 0 0)],[(1,some ⟨44,6,[zC++zC]⟩)],2,30⟩) (λ_=>dr s.1 s.2<=0/\aA p≠[]) ?_ ?_;by_cases hv:dr s.1 s.2<=0;refine r_c 8 (ir s.1 s.2 hs.1 hs.2) ?_;refine a_2 ?_;refine y_g rfl (by simp[hv]) (.move rfl) ?_
 first|refine y_g rfl (by simp[hv]) (.lenD rfl rfl rfl rfl te_30.h) ?_|refine y_g rfl (by simp[hv]) (.lenI rfl rfl rfl rfl te_30.h) ?_|refine y_g rfl (by simp[hv]) (.lenP rfl rfl rfl rfl te_30.h) ?_|refine y_g rfl (by simp[hv]) (.lenC rfl rfl rfl rfl te_30.h) ?_|refine y_g rfl (by simp[hv]) (.lenR rfl rfl rfl rfl te_30.h) ?_|refine y_g rfl (by simp[hv]) (.len rfl rfl rfl rfl rfl te_30.h) ?_
 refine y_g rfl (by simp[hv]) (.bin rfl rfl aM) ?_;refine o_0 (.pickF rfl (by simp[hv]) rfl) ?_;refine ao ?_;refine aw rfl (λh1=>?_) (λh1=>?_)
 have h0:aA p=[]:=by
  have:(aA p).length=0:=by simpa using h1
  exact List.length_eq_zero_iff.1 this
 have hr:ie p s=(0,0):=by unfold ie;rw[if_pos (.inr h0)]
 rw[hr];refine r_z 2 ?_;refine an (Fin.cell rfl rfl rfl TG.h TS.h (nle rfl) (Cv.agg ?_));show CvL _ _ _ _ (qC 0++qC 0);rw[qC0];exact af (Cv.emp _) (af (ah aE (ag _)) (af (Cv.emp _) (af (Cv.emp _) (af (ah aE (ag _)) (af (Cv.emp _) ax)))))
 have h0:aA p≠[]:=by
  have:¬(aA p).length=0:=by simpa using h1
  exact λe=>this (by rw[e];rfl)
 refine am ⟨(),⟨hv,h0⟩,?_⟩;exact s_e [];refine r_c 8 (ir s.1 s.2 hs.1 hs.2) ?_;refine a_2 ?_;refine n_g rfl (by simp[hv]) ?_;refine n_g rfl (by simp[hv]) ?_;refine n_g rfl (by simp[hv]) ?_;refine o_0 (.pickT rfl (by simp[hv]) rfl) ?_;refine ao ?_;refine aw rfl (λh1=>?_) (λh1=>?_);have hr:ie p s=(0,0):=by unfold ie;rw[if_pos (.inl hv)]
 rw[hr];refine r_z 2 ?_;refine an (Fin.cell rfl rfl rfl TG.h TS.h (nle rfl) (Cv.agg ?_));show CvL _ _ _ _ (qC 0++qC 0);rw[qC0];exact af (Cv.emp _) (af (ah aE (ag _)) (af (Cv.emp _) (af (Cv.emp _) (af (ah aE (ag _)) (af (Cv.emp _) ax)))));cases h1;rintro _ ⟨hv,h0⟩;have hpl:=List.length_pos_iff.2 h0
 have hr:ie p s=ovP (bu p,bu p) s ((aA p).take ((aA p).length- 1)):=by
  unfold ie;rw[if_neg (by rintro(e|e);exact e hv;exact h0 e)]
 obtain⟨l,hll⟩:∃l,l=(aA p).take ((aA p).length- 1):=⟨_,rfl⟩;rw[<-hll] at hov hr;rw[hr];have hlen:l.length=(aA p).length- 1:=by rw[hll];simp
 have hsml:∀q∈l,sm q:=λq hq=>hsm q (dy (List.mem_of_mem_take (by rw[<-hll];exact hq)))
 have hw:∀k,k< l.length->FS 277 [.agg (spC (ovP (bu p,bu p) s (l.drop (l.length- k))).1 (ovP (bu p,bu p) s (l.drop (l.length- k))).2),.agg (qC (coP l (l.length- 1- k))),bS s] (.agg (spC (ovP (bu p,bu p) s (l.drop (l.length- (k+1)))).1 (ovP (bu p,bu p) s (l.drop (l.length- (k+1)))).2)):=λk hk=>by
  have h1:=v7 (l.length- (k+1)) hov;rw[ri hk] at h1⊢;exact Hy _ s _ (okOv_sm h1.1) hs h1.2.2.1 h1.2.1
 have hh:=B5 l 277 [bS s] (λk=>ovP (bu p,bu p) s (l.drop (l.length- k))) ω (ae (bU s) ai) hw;simp only[Nat.sub_zero,Nat.sub_self,List.drop_zero,List.drop_length] at hh
 have hg:(pE (aA p))[(((aA p).length:Int)- 1).toNat]?=some (qC (bu p)):=by
  rw[show(((aA p).length:Int)- 1).toNat=(aA p).length- 1 by omega];exact cj (gq ω)
 refine r_z 4 ?_;refine ac (r_d hmix 11 ?_);refine a_2 ?_;refine o_0 (.sa_h rfl rfl (h:=(aA p).length- 1) ω ψ te_30.h (fl _)) ?_;refine a_2 ?_;refine i_x hg ?_;refine l_x hg ?_;refine c_s (Aj (bu p)) ?_;refine o_0 (.makeFunc rfl rfl) ?_;refine o_0 (.call rfl rfl rfl ((by rw[li,<-hll];exact hh))) ?_;refine ee (.store rfl rfl rfl rfl rfl rfl TS.h (nle rfl)) ?_;refine ao (n_k ?_);exact an (c_e (bK _ _))
def hpS(p:Lq)(g:Nat)(cap:La)(w:Nat->Lq):Nat->AState
 |k=>⟨[(4,.lptr 1 0 0),(5,.aptr [[.clos g [] cap]] 0 0),(10,.clos 232 [] [bP p])],[(1,some ⟨30,1,[[.arr (pE (w k))]]⟩)],2,18⟩
theorem B7(p:Lq)(g:Nat)(cap:La)(w:Nat->Lq)(hl:p.length<=281474976710656)(hcap:∀c∈cap,Closed c)(hg:∀k,k< p.length->FS g ((.arr (pE (w k)):: .agg (qC (coP p (p.length- 1- k)))::cap).map coe) (.arr (pE (w (k+1))))):FS 164 [.arr (pE p),.arr (pE (w 0)),.clos g [] cap] (.arr (pE (w p.length))):=by
 have hb:=ki p;have hgs:=kf p hl;have hcc:Closed (.clos g [] cap):=aY ai hcap;have hcc2:Closed (.aptr [[.clos g [] cap]] 0 0):=aW (ae hcc ai);have hcl2:Closed (.clos 232 [] [bP p]):=aY ai (ae (cD p) ai);refine f_c Tryz.func164 ?_;refine r_z 3 ?_;refine AWp.ent (st':=⟨[(0,.arr (pE p)),(4,.lptr 1 0 0),(5,.aptr [[.clos g [] cap]] 0 0)],[(1,some ⟨30,1,[[.arr (pE (w 0))]]⟩)],2,18⟩) ?_ ?_;have:=ae hcc ai;exact s_f [(1,4)];refine ac (r_c 2 (hb) ?_);refine ao ?_;refine aG (λ_:Unit=>⟨[(4,.lptr 1 0 0)],[(1,some ⟨30,1,[[.arr (pE (w p.length))]]⟩)],2,18⟩) (λ_=>True) ?_ ?_;refine ak (AWp.rangeFunc (α:=Nat) (γ:=Empty) p.length (hpS p g cap w) (λk=>k) (λk=>k<=p.length) (λe=>nomatch e) (λ_ e=>nomatch e) 0 rfl hgs rfl rfl ?_ (λ_=>⟨rfl,rfl⟩) (λe=>nomatch e) (Nat.zero_le _) rfl (λ_ h=>h) ?_ ?_ ?_ ?_ (λ_ e=>nomatch e));intro k xs hT;unfold kU at hT;split at hT;cases hT;rfl;cases hT;rw[hpS.eq_1];exact s_y [] (λhs=>cN) (λhs=>jN);exact ae (cD p) ai
 ·intro l k xs hk hT
  unfold kU at hT;split at hT;rotate_left;cases hT;rename_i hlt;cases hT;show AWp _ _ _ _ ⟨[(12,.agg (qC (coP p (p.length- 1- k)))),(11,i64 (p.length- 1- k:Nat)),(4,.lptr 1 0 0),(5,.aptr [[.clos g [] cap]] 0 0),(10,.clos 232 [] [bP p]),(1004,.lptr 1 0 0),(1005,.aptr [[.clos g [] cap]] 0 0),(1010,.clos 232 [] [bP p])],[(1,some ⟨30,1,[[.arr (pE (w k))]]⟩)],2,18⟩;refine r_m 2 ?_;refine a_z ?_;refine ak (r_m 5 ?_);refine c_s (hg k hlt) ?_;refine a_z ?_;refine⟨k+1,⟨hlt,rfl⟩,?_⟩;show SEntT _ ⟨[(1004,.lptr 1 0 0),(1005,.aptr [[.clos g [] cap]] 0 0),(1010,.clos 232 [] [bP p])],[(1,some ⟨30,1,[[.arr (pE (w (k+1)))]]⟩)],2,18⟩;exact s_y [] (λhs=>cN) (λhs=>jN)
 intro k hk hT;unfold kU at hT;split at hT;cases hT;refine⟨(),trivial,?_⟩;rw[hpS.eq_1];have h1:k=p.length:=ω
 subst h1;exact s_e [];rintro _ _;refine r_z 2 ?_;exact an (t_e (aq _))
theorem Aa(v q:Lq)(c:Rat)(h:nT v q)(hc:sm c)(hl:(ep v q).length<=274877906944):FS 165 [.arr (pE v),.agg (qC c),bP q] (.arr (pE (lR (ep v q) (fY c)))):=by
 have hcl:=uT c;refine f_c Tryz.func165 ?_;refine r_z 2 ?_;refine ac (r_d hmix 7 ?_);refine c_s (xP v q (mxL v) (mxL q) (eb v) (eb q) (dR v) (dR q) h.1 h.2.1 h.2.2.1 h.2.2.2) ?_;refine c_s (jV c) ?_;refine c_s (uB (ep v q) (fY c) (zq h) (tu λx hx=>by rw[List.mem_singleton.1 hx];exact hc) ω ω) ?_;refine a_1 ?_;refine ao (n_k ?_);exact an (t_e (aq _))
theorem Cb(p q:Lq)(h:mu q p)(hp:p.length<=274877906944):FS 107 [.arr (pE p),.arr (pE q)] (.arr (pE (lX q p))):=by
 have hw:∀k,k< p.length->FS 165 [.arr (pE (lX q (p.drop (p.length- k)))),.agg (qC (coP p (p.length- 1- k))),bP q] (.arr (pE (lX q (p.drop (p.length- (k+1)))))):=λk hk=>by
  have h1:=rW (p.length- (k+1)) h;rw[ri hk] at h1⊢;exact Aa _ q _ h1.2.1 h1.2.2.1 h1.2.2.2
 have hh:=B7 p 165 [bP q] (λk=>lX q (p.drop (p.length- k))) ω (ae (cD q) ai) hw;simp only[Nat.sub_zero,Nat.sub_self,List.drop_zero,List.drop_length] at hh;refine f_c Tryz.func107 ?_;refine r_z 2 ?_;refine AWp.ent (st':=⟨[(0,.arr (pE p)),(3,bP q)],[],1,8⟩) ?_ ?_;exact s_e [];refine r_c 4 (hh) ?_;refine a_z ?_;exact an (t_e (aq _))
def coS:Nat×Nat->AState
 |(a,b)=>⟨[(2,.lptr 1 0 0),(3,.lptr 2 0 0),(4,.lptr 3 0 0)],[(1,some ⟨42,3,[qC (nQ a)]⟩),(2,some ⟨42,3,[qC (nQ b)]⟩),(3,some ⟨42,3,[zC]⟩)],4,18⟩
theorem uU(a:Nat)(b:Nat):coS (a,b)=⟨[(2,.lptr 1 0 0),(3,.lptr 2 0 0),(4,.lptr 3 0 0)],[(1,some ⟨42,3,[qC (nQ a)]⟩),(2,some ⟨42,3,[qC (nQ b)]⟩),(3,some ⟨42,3,[zC]⟩)],4,18⟩:=rfl
theorem uv(a b:Nat)(ha:bl a<=68719476736)(hb:bl b<=68719476736):FS 285 [.agg (qC (nQ a)),.agg (qC (nQ b))] (.agg (qC (nQ (Nat.gcd a b)))):=by
 refine f_c Tryz.func285 ?_;refine r_z 3 ?_;refine bi (λ_:Unit=>coS (Nat.gcd a b,0)) (λ_=>True) ?_ ?_;refine ak (aC coS (λx=>x.2) (λx=>Nat.gcd x.1 x.2=Nat.gcd a b/\bl x.1<=68719476736/\bl x.2<=68719476736) (a,b) ⟨rfl,ha,hb⟩ ?_ ?_);simp only[uU];exact s_e [];rintro⟨u,v⟩ ⟨hg,hu,hv⟩;simp only at hg hu hv;rw[uU];refine ac (r_c 3 (cb (nQ v)) ?_);refine a_z ?_;refine aw rfl (λh=>?_) (λh=>?_)
 have hv0:v≠0:=by
  intro e;subst e;exact absurd h δ
 refine am ?_;have h1:=nS (n:=u) hu δ;have h2:=nS (n:=v) hv δ;have hq:=fu (nQ u) (nQ v);have hov:=fP (nQ u) (nQ v) (λe=>hv0 (nQ_zero.1 e)) ω;have hfl:=pU (nQ u/ nQ v) ω;rw[Bz u v hv0,zD u v hv0] at hfl;rw[Bz u v hv0] at hov;have h3:=nS (n:=u/ v) (k:=68719476736) (Nat.le_trans (eP u v) hu) δ;have hmu:=dq (nQ v) (nQ (u/ v)) ω;rw[GF] at hmu;have hle:v* (u/ v)<=u:=Nat.mul_div_le u v;have h4:=nS (n:=v* (u/ v)) (k:=68719476736) (Nat.le_trans (dL hle) hu) δ;have hsu:=gO (nQ u) (nQ (v* (u/ v))) ω;rw[nQ_sub hle,show u- v* (u/ v)=u % v by have:=Nat.div_add_mod u v;omega] at hsu;refine ak (r_d hmix 11 ?_);refine c_s (hov) ?_;refine c_s (hfl) ?_;refine c_s (hmu) ?_;refine c_s (hsu) ?_;refine a_2 ?_;refine ao (n_k ?_);refine⟨(v,u % v),Nat.mod_lt _ ω,⟨?_,hv,Nat.le_trans (dL (Nat.mod_le u v)) hu⟩,?_⟩;rw[<-hg];show Nat.gcd v (u % v)=Nat.gcd u v;rw[Nat.gcd_comm v,Nat.gcd_comm u v,<-Nat.gcd_rec];simp only[uU];exact s_e []
 have hv0:v=0:=by
  have h1:sgZ (nQ v).num=0:=by simpa using h
  exact nQ_zero.1 (sgZ_num_eq.1 h1)
 subst hv0;rw[Nat.gcd_zero_right] at hg;refine aB ⟨(),trivial,?_⟩;rw[<-hg];simp only[uU];exact s_e [];rintro _ _;simp only[uU];refine r_z 2 ?_;exact an (c_e (aS _))
def prS(t:Lq):Nat×Nat->AState
 |(i,d)=>⟨[(0,.arr (pE t)),(3,.lptr 1 0 0),(4,.lptr 2 0 0),(13,.arr (pE t)),(14,i64 t.length),(15,i64 i)],[(1,some ⟨42,3,[qC (nQ d)]⟩),(2,some ⟨42,3,[qC 0]⟩)],3,47⟩
def prT(t:Lq)(D:Nat):Nat×Nat->AState
 |(i,n)=>⟨[(0,.arr (pE t)),(3,.lptr 1 0 0),(4,.lptr 2 0 0),(29,.arr (pE t)),(30,i64 t.length),(31,i64 i)],[(1,some ⟨42,3,[qC (nQ D)]⟩),(2,some ⟨42,3,[qC (nQ n)]⟩)],3,47⟩
theorem gP{l:Lq}{i:Nat}(h:i< l.length):l.drop i=coP l i::l.drop (i+1):=by
 rw[List.drop_eq_getElem_cons h];congr 1;have:=bJ h;rw[List.getElem?_eq_getElem h] at this;exact Option.some.inj this
theorem H2(a b:Nat):bl (Nat.gcd a b)<=max (bl a) (bl b):=by
 rcases Nat.eq_zero_or_pos a with h|h
 subst h;rw[Nat.gcd_zero_left];exact Nat.le_max_right _ _;exact Nat.le_trans (dL (Nat.gcd_le_left b h)) (Nat.le_max_left _ _)
theorem pS(p:Lq)(h:xk p)(h0:aA p≠[]):FS 282 [.arr (pE p)] (.arr (pE (eD p))):=by
 obtain⟨t,ht⟩:∃t,t=aA p:=⟨_,rfl⟩;obtain⟨s,hs⟩:∃s,s=mxL p:=⟨_,rfl⟩;have hs1:1<=s:=by rw[hs];exact dR p
 have hbt:bdL t s:=λq hq=>by rw[hs];exact eb p q (dy (by rw[<-ht];exact hq))
 have htl:t.length<=p.length:=by rw[ht];exact cv p
 obtain⟨hsz,hpl⟩:=h;rw[<-hs] at hsz;have hts:t.length* s<=p.length* s:=Nat.mul_le_mul_right _ htl;rw[Nat.add_mul] at hsz;obtain⟨D,hD⟩:∃D,D=uM t 1:=⟨_,rfl⟩;have hD0:D≠0:=by rw[hD];exact DW t δ
 have hDb:bl D<=1+t.length* s:=by rw[hD];exact DX t 1 hbt
 have hDd:∀c∈t,c.den∣D:=by rw[hD];exact(uL t 1).2
 obtain⟨N,hN⟩:∃N,N=Er D t 0:=⟨_,rfl⟩
 have hlast:bu p∈t:=by
  rw[ht];obtain⟨n,hn⟩:∃n,(aA p).length=n+1:=⟨(aA p).length- 1,by have:=List.length_pos_iff.2 h0;omega⟩;exact List.mem_of_getElem? (gq hn)
 have hNd:=(zv D t 0).2 (bu p) hlast;rw[<-hN] at hNd;have hi0:=intC_ne (hDd _ hlast) hD0 (pD h0);have hN0:N≠0:=λe=>hi0 (by rw[e] at hNd;exact Nat.zero_dvd.1 hNd);have hNb:bl N<=s+bl D:=Nat.le_trans (dL (Nat.le_of_dvd ω hNd)) (Nat.le_trans (DD _ _) (by have:=hbt _ hlast;omega));have hpr:eD p=cI t (nQ D/ nQ N):=by unfold eD;rw[<-ht,<-hD,<-hN]
 rw[hpr];have hgt:∀i,i< t.length->(pE t)[((i:Nat):Int).toNat]?=some (qC (coP t i)):=λi hi=>cj (bJ hi);have hmem:∀i,i< t.length->coP t i∈t:=λi hi=>List.mem_of_getElem? (bJ hi);have htr:=dT p ω;rw[<-ht] at htr;refine f_c Tryz.func282 ?_;refine r_z 1 ?_;refine r_c 3 (htr) ?_;refine a_z ?_;refine r_c 6 (df 1 δ) ?_;refine a_z ?_;refine ac (r_z 3 ?_);refine aG (λ_:Unit=>⟨[(0,.arr (pE t)),(3,.lptr 1 0 0),(4,.lptr 2 0 0)],[(1,some ⟨42,3,[qC (nQ D)]⟩),(2,some ⟨42,3,[qC 0]⟩)],3,47⟩) (λ_=>True) ?_ ?_;refine ak (aC (prS t) (λx=>t.length- x.1) (λx=>x.1<=t.length/\x.2≠0/\uM (t.drop x.1) x.2=D) (0,1) ⟨Nat.zero_le _,δ,by rw[hD];rfl⟩ ?_ ?_);simp only[prS.eq_1];rw[qC0];exact s_e [(1,3),(2,4)];rintro⟨i,d⟩ ⟨hi,hd0,hd⟩;simp only at hi hd0 hd;rw[prS.eq_1];refine r_z 1 ?_;refine ac (aw rfl (λh=>?_) (λh=>?_));refine am ?_;have hlt:i< t.length:=by simpa using h
 have hc:=hbt _ (hmem i hlt);have hcd:=dp (coP t i);have hcn:=(coP t i).den_nz;rw[gP hlt] at hd;have hdD:d∣D:=by rw[<-hd];exact(uL _ d).1
 have hdb:=dL (Nat.le_of_dvd ω hdD);have hq1:=nS (n:=d) (k:=34359738368) ω δ;have hq2:=nS (n:=(coP t i).den) (k:=34359738368) ω δ;have hmu:=dq (nQ d) (nQ (coP t i).den) ω;have hco:=uv d (coP t i).den ω ω;have hg0:Nat.gcd d (coP t i).den≠0:=by have:=Nat.gcd_pos_of_pos_left (coP t i).den (Nat.pos_of_ne_zero hd0);omega
 have hgb:=H2 d (coP t i).den;have hq3:=nS (n:=Nat.gcd d (coP t i).den) (k:=34359738368) ω δ;have hq4:=eV (nQ d) (nQ (coP t i).den);rw[GF] at hq4 hmu;have hov:=fP (nQ (d* (coP t i).den)) (nQ (Nat.gcd d (coP t i).den)) (λe=>hg0 (nQ_zero.1 e)) ω;rw[Bz _ _ hg0,Ex _ _ hg0 (Nat.dvd_mul_right_of_dvd (Nat.gcd_dvd_left _ _) _)] at hov;refine ac (ak (s_r 4 ?_))
 first|refine av (.index_l rfl rfl ω ω te_30.h) rfl rfl ?_|refine av (.index_a rfl rfl ω (hgt i hlt) rfl te_30.h) rfl rfl ?_
 first|refine av (.load_l rfl rfl (hgt i hlt) TG.h TS.h (nle rfl)) rfl rfl ?_|refine av (.load_a rfl (hgt i hlt) TG.h TS.h (nle rfl)) rfl rfl ?_
 refine a_z ?_;refine r_d hmix 10 ?_;refine c_s (Hu (coP t i) (by unfold sm;omega)) ?_;refine c_s (hmu) ?_;refine c_s (Hu (coP t i) (by unfold sm;omega)) ?_;refine c_s (hco) ?_;refine c_s (hov) ?_;refine a_1 ?_;refine ao (n_k ?_);refine r_m 2 ?_;refine a_z ?_;refine⟨(i+1,Nat.lcm d (coP t i).den),by simp only;omega,⟨hlt,Dz hd0 hcn,hd⟩,?_⟩;simp only[prS.eq_1];exact s_e []
 have hge:i=t.length:=by
  have:¬i< t.length:=by simpa using h
  omega
 subst hge;rw[List.drop_length] at hd;refine aB ⟨(),trivial,?_⟩;rw[<-hd];exact s_e [];rintro _ _;refine ac (r_z 3 ?_);refine aG (λ_:Unit=>⟨[(0,.arr (pE t)),(3,.lptr 1 0 0),(4,.lptr 2 0 0)],[(1,some ⟨42,3,[qC (nQ D)]⟩),(2,some ⟨42,3,[qC (nQ N)]⟩)],3,47⟩) (λ_=>True) ?_ ?_;refine ak (aC (prT t D) (λx=>t.length- x.1) (λx=>x.1<=t.length/\bl x.2<=s+bl D/\Er D (t.drop x.1) x.2=N) (0,0) ⟨Nat.zero_le _,by rw[bl_zero];exact Nat.zero_le _,by rw[hN];rfl⟩ ?_ ?_);simp only[prT.eq_1];exact s_e [];rintro⟨i,n⟩ ⟨hi,hnb,hn⟩;simp only at hi hnb hn;rw[prT.eq_1];refine r_z 1 ?_;refine ac (aw rfl (λh=>?_) (λh=>?_));refine am ?_;have hlt:i< t.length:=by simpa using h
 have hc:=hbt _ (hmem i hlt);rw[gP hlt] at hn;have hib:=DD (coP t i) D;have hgb:=H2 n (sj (coP t i) D);have hq1:=nS (n:=D) (k:=34359738368) ω δ;have hmu:=dq (coP t i) (nQ D) ω;have hab:=eY (coP t i* nQ D);rw[GM _ _ (hDd _ (hmem i hlt))] at hab;have hco:=uv n (sj (coP t i) D) ω ω;refine ac (ak (s_r 4 ?_))
 first|refine av (.index_l rfl rfl ω ω te_30.h) rfl rfl ?_|refine av (.index_a rfl rfl ω (hgt i hlt) rfl te_30.h) rfl rfl ?_
 first|refine av (.load_l rfl rfl (hgt i hlt) TG.h TS.h (nle rfl)) rfl rfl ?_|refine av (.load_a rfl (hgt i hlt) TG.h TS.h (nle rfl)) rfl rfl ?_
 refine a_z ?_;refine r_d hmix 7 ?_;refine c_s (hmu) ?_;refine c_s (hab) ?_;refine c_s (hco) ?_;refine a_1 ?_;refine ao (n_k ?_);refine r_m 2 ?_;refine a_z ?_;refine⟨(i+1,Nat.gcd n (sj (coP t i) D)),by simp only;omega,⟨hlt,by simp only;omega,hn⟩,?_⟩;simp only[prT.eq_1];exact s_e []
 have hge:i=t.length:=by
  have:¬i< t.length:=by simpa using h
  omega
 subst hge;rw[List.drop_length] at hn;refine aB ⟨(),trivial,?_⟩;rw[<-hn];exact s_e [];rintro _ _;have hq1:=nS (n:=D) (k:=34359738368) ω δ;have hq2:=nS (n:=N) (k:=34359738368) ω δ;have hq3:=fu (nQ D) (nQ N);refine r_c 6 (fP (nQ D) (nQ N) (λe=>hN0 (nQ_zero.1 e)) ω) ?_;refine c_s (iH t (nQ D/ nQ N) (vj hbt ω) (by unfold sm;omega) ω) ?_;refine a_z ?_;exact an (t_e (aq _))
end Go.Proofs.YtjgokhkahkmpbaaGreatDoor
