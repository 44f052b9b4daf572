/- Part W25 of the proof. -/
import Derived.Test.YtjmkjicckobojaaGreatDoorW24
set_option linter.all false
namespace Go.Proofs.YtjmkjicckobojaaGreatDoor
open Go.Abs
set_option maxRecDepth 20000
theorem JF(l:Lq)(h0:l≠[])(hl:l.length<=1099511627776):OSpec Tryz.prog 145 [.arr (pE l)] 42 3 (pE l):=by
 have a:pE l≠[]:=by
  intro e;exact h0 (List.length_eq_zero_iff.1 (by rw[<-HF,e];rfl))
 refine OSpec.enter Tryz.func145 rfl κ rfl rfl rfl ?_ ?_ rfl ?_;exact ae (aK (aQ _)) af;exact aQ l;refine r_z 1 ?_;refine ac (s_r 2 ?_);refine a_1 ?_;refine bm (.nilq_arr rfl (a) rfl te_62.h) rfl rfl ?_;refine aq ?_;refine cF ?_
 ·refine aj (s_r 4 ?_)
  refine a_2 ?_;refine o_2 (.append_l rfl rfl rfl te_62.h rfl rfl rfl rfl rfl d_o η ξ rfl (.arr (mN _)) TZ.h rfl TB.h d_o μ) ?_;refine a_z ?_;exact ai (FinO.tmp rfl rfl rfl ψ)
theorem os_Trim(l:Lq)(h0:ap l≠[])(hl:l.length<=1099511627776):OSpec Tryz.prog 88 [.arr (pE l)] 42 3 (pE (ap l)):=by
 refine OSpec.enter Tryz.func88 rfl κ rfl rfl rfl ?_ ?_ rfl ?_;exact ae (aK (aQ _)) af;exact aQ _;refine r_z 1 ?_;refine r_z 3 ?_;refine bD (trS l) (λn=>n<=l.length/\ap l=l.take n) ?_ ?_;refine ah (ay (trS l) (λn=>n) (λn=>n<=l.length/\ap l=ap (l.take n)) l.length ⟨Nat.le_refl _,by rw[List.take_length]⟩ ?_ ?_);simp only[trS.eq_1];exact s_e [];rintro n ⟨g,a⟩;rw[trS.eq_1];cases n with
 |zero=>exact absurd (a.trans rfl) h0
 |succ n=>
  obtain⟨q,f⟩:∃q,l[n]?=some q:=⟨_,List.getElem?_eq_getElem ω⟩
  have b:(pE l)[(((n+1:Nat):Int)- 1).toNat]?=some (qC q):=by
   rw[show(((n+1:Nat):Int)- 1).toNat=n by omega];exact pE_get f
  have hs:ap (l.take (n+1))=if q=0 then ap (l.take n) else l.take (n+1):=by
   rw[cO f,mG]
  refine ac (s_r 11 ?_);refine a_3 ?_;refine y_g rfl υ (.move rfl) ?_;refine y_g rfl υ (.move rfl) ?_;refine y_g rfl υ (.bin rfl rfl (ow ω)) ?_;refine y_g rfl υ (.index_a rfl rfl ω b rfl te_62.h) ?_;refine y_g rfl υ (.load_a rfl b TG.h TS.h (nle rfl)) ?_;refine y_g rfl υ (.call rfl rfl rfl (c6 q)) ?_;refine y_g rfl υ (.bin rfl rfl bJ) ?_;refine o_0 (.pickT rfl υ rfl) ?_;refine aq ?_;refine ar rfl (λh=>?_) (λh=>?_)
  have h0:q=0:=by
   have c:sgZ q.num=0:=by simpa using h
   exact sgZ_num_eq.1 c
  refine aj (ah (r_m 3 ?_));refine a_z ?_;refine⟨n,Nat.lt_succ_self n,⟨ω,?_⟩,?_⟩;rw[a,hs,if_pos h0];simp only[trS.eq_1];exact s_e []
  have h0:q≠0:=by
   intro e;have c:¬sgZ q.num=0:=by simpa using h
   exact c (sgZ_num_eq.2 e)
  refine ax ⟨n+1,⟨g,?_⟩,?_⟩;rw[a,hs,if_neg h0];simp only[trS.eq_1];exact s_e []
 rintro n ⟨g,a⟩;rw[trS.eq_1];rw[a] at h0;have d:=JF (l.take n) h0 χ;refine s_r 5 ?_;refine a_2 ?_;refine o_0 (.sa_h rfl rfl (h:=n) rfl χ te_62.h (mN _)) ?_;refine o_1 (.callO rfl rfl rfl ((by rw[uU];exact d))) ?_;refine a_z ?_;refine ai ?_;rw[a];exact FinO.tmp rfl rfl rfl ψ
def dvS(q:Lq)(lead:Rat):Nat×Lq×Lq->AState
 |(c,u,o)=>⟨[(0,.lsl 1 0 o.length none 3),(1,.arr (pE q)),(4,.lsl 2 0 u.length (some u.length) 3),(6,.lptr 3 0 0),(7,i64 ((c:Int)- 1))],[(1,some ⟨42,3,pE o⟩),(2,some ⟨42,3,pE u⟩),(3,some ⟨42,3,[qC lead]⟩)],4,82⟩
def dvT(q:Lq)(lead:Rat)(n:Nat)(u:Lq)(k:Rat):Nat×Lq->AState
 |(i,o)=>⟨[(0,.lsl 1 0 o.length none 3),(1,.arr (pE q)),(4,.lsl 2 0 u.length (some u.length) 3),(6,.lptr 3 0 0),(7,i64 n),(8,.lptr 4 0 0),(55,.arr (pE q)),(56,i64 q.length),(57,i64 i)],[(1,some ⟨42,3,pE o⟩),(2,some ⟨42,3,pE u⟩),(3,some ⟨42,3,[qC lead]⟩),(4,some ⟨42,3,[qC k]⟩)],5,82⟩
theorem tD(p q:Lq)(s t:Nat)(hp:bdL p s)(hq:bdL q t)(hs:1<=s)(ht:1<=t)(h:2^ ((ap p).length+1- (ap q).length) * (s+2* t+1)<=137438953472)(hq0:ap q≠[])(hp1:p.length<=274877906944)(hq1:q.length<=274877906944):FS 238 [.arr (pE p),.arr (pE q)] (.tup [.arr (pE (cu p q).1),.arr (pE (cu p q).2)]):=by
 have hlp:=bh p;have hlq:=bh q;have hql:=List.length_pos_iff.2 hq0
 have hg:(pE (ap q))[(((ap q).length:Int)- 1).toNat]?=some (qC (aI q)):=by
  rw[show(((ap q).length:Int)- 1).toNat=(ap q).length- 1 by omega];exact pE_get (dj ω)
 have hne:=dd hq0;obtain⟨m,hm⟩:∃m,m=(ap p).length+1- (ap q).length:=⟨_,rfl⟩;have hmx:(if (0:Int)>((ap p).length:Int)- (ap q).length+1 then(0:Int) else((ap p).length:Int)- (ap q).length+1)=(m:Int):=by split <;> omega
 have hB:EP (ap q) (aI q) 137438953472 m (List.replicate m 0) (ap p):=by
  refine⟨s,t,ej (λx hx=>hp x (cz hx)) hs,ej (λx hx=>hq x (cz hx)) ht,hq _ (cz (List.mem_of_getElem? (dj (n:=(ap q).length- 1) ω))),ht,λn=>?_,by rw[hm];exact h⟩
  have:coP (List.replicate m 0) n=0:=by
   unfold coP;rw[List.getD_eq_getElem?_getD,List.getElem?_replicate];split <;> rfl
  rw[this];decide
 have hdv:cu p q=(ap (k6 (ap q) (aI q) m (List.replicate m 0) (ap p)).1,ap (k6 (ap q) (aI q) m (List.replicate m 0) (ap p)).2):=by rw[hm];rfl
 rw[hdv];refine f_c Tryz.func238 ?_;refine r_z 2 ?_;by_cases hp0:ap p=[]
 ·have hm0:m=0:=by rw[hm,hp0];simp;omega
  subst hm0;rw[hp0] at hmx⊢;have htp:=dK p ω;rw[hp0] at htp;refine r_c 6 (htp) ?_;refine c_s (dK q ω) ?_;refine a_z ?_;refine s_r 8 ?_;refine a_4 ?_;refine i_x hg ?_;refine l_x hg ?_;refine a_z ?_;refine s_r 9 ?_;refine a_7 ?_;refine o_1 (.makeSlice (l:=0) (c:=0) (by rw[<-hmx];rfl) (by rw[<-hmx];rfl) te_62.h TZ.h rfl TB.h ζ ζ ι) ?_;refine a_z ?_;refine ac (r_z 6 ?_);refine aC (λ_:Unit=>⟨[(0,.arr (pE [])),(4,.lsl 2 0 0 (some 0) 3)],[(2,some ⟨42,3,[]⟩)],3,82⟩) (λ_=>True) ?_ ?_;refine ah (ay (λ_:Unit=>⟨[(0,.arr (pE [])),(4,.lsl 2 0 0 (some 0) 3),(7,i64 (0- ((ap q).length:Int)))],[(2,some ⟨42,3,[]⟩)],3,82⟩) (λ_=>0) (λ_=>True) () trivial ?_ ?_);exact s_x [(2,4)] (λhs=>dD) (λhs=>e_20);rintro _ _;refine ac (r_z 2 ?_);refine ar rfl (λh1=>?_) (λh1=>?_);exact absurd h1 χ;refine ax ⟨(),trivial,?_⟩;exact s_x [] (λhs=>dD) (λhs=>e_20);rintro _ _;refine s_r 6 ?_;refine a_1 ?_;refine o_1 (.callS1 rfl rfl rfl (.shut rfl d_n (.nil)) rfl ((dK [] ψ))) ?_;refine c_s (dK [] ψ) ?_;refine a_z ?_;refine ai (Fin.many ⟨_,_,rfl,rfl,⟨_,_,rfl,rfl,rfl⟩⟩ (nle rfl) ?_);exact am (ao aF (aD _)) (am (ao aF (aD _)) av)
 have hpl:=List.length_pos_iff.2 hp0;have hto:=os_Trim p hp0 ω;have hdl:=lD (ap q) (aI q) m (List.replicate m 0) (ap p);have hend:=AQ hB;refine s_r 6 ?_;refine a_1 ?_;refine o_1 (.callO rfl rfl rfl (hto)) ?_;refine c_s (dK q ω) ?_;refine a_z ?_;refine AWp.ent (st':=⟨[(0,.lsl 1 0 (ap p).length none 3),(1,.arr (pE (ap q)))],[(1,some ⟨42,3,pE (ap p)⟩)],2,82⟩) ?_ ?_;exact s_e [(1,0)];refine s_r 8 ?_;refine a_4 ?_;refine i_x hg ?_;refine l_x hg ?_;refine a_z ?_;refine s_r 9 ?_;refine a_7 ?_;refine o_1 (.makeSlice (l:=m) (c:=m) (by rw[<-hmx];rfl) (by rw[<-hmx];rfl) te_62.h TZ.h rfl TB.h ζ ζ ι) ?_;refine a_z ?_;refine ac (r_z 6 ?_);refine aC (λx:Lq×Lq=>⟨[(0,.lsl 1 0 x.2.length none 3),(4,.lsl 2 0 x.1.length (some x.1.length) 3)],[(1,some ⟨42,3,pE x.2⟩),(2,some ⟨42,3,pE x.1⟩)],3,82⟩) (λx=>x=k6 (ap q) (aI q) m (List.replicate m 0) (ap p)) ?_ ?_;refine ah ?_;by_cases hab:(ap p).length< (ap q).length;have hm0:m=0:=ω
 subst hm0;refine ay (λ_:Unit=>⟨[(0,.lsl 1 0 (ap p).length none 3),(4,.lsl 2 0 0 (some 0) 3),(7,i64 (((ap p).length:Int)- ((ap q).length:Int)))],[(1,some ⟨42,3,pE (ap p)⟩),(2,some ⟨42,3,[]⟩)],3,82⟩) (λ_=>0) (λ_=>True) () trivial ?_ ?_;exact s_x [(1,0),(2,4)] (λhs=>dD) (λhs=>e_20);rintro _ _;refine ac (r_z 2 ?_);refine ar rfl (λh1=>?_) (λh1=>?_);exact absurd h1 χ;refine ax ⟨([],ap p),rfl,?_⟩;exact s_f [];refine ay (λx:Nat×Lq×Lq=>dvS (ap q) (aI q) x) (λx=>x.1) (λx=>x.1<=m/\x.2.1.length=m/\x.2.2.length=(ap p).length/\EP (ap q) (aI q) 137438953472 x.1 x.2.1 x.2.2/\k6 (ap q) (aI q) x.1 x.2.1 x.2.2=k6 (ap q) (aI q) m (List.replicate m 0) (ap p)) (m,List.replicate m 0,ap p) ⟨Nat.le_refl _,ψ,rfl,hB,rfl⟩ ?_ ?_;simp only[dvS.eq_1];have hm1:((ap p).length:Int)- (ap q).length=(m:Int)- 1:=ω
 rw[hm1];exact s_x [(1,0),(2,4),(3,6)] (λhs=>dD) (λhs=>e_36);rintro⟨c,u,o⟩ ⟨hc,hu,ho,hb,hr⟩;simp only at hc hu ho hb hr;simp only[dvS.eq_1];cases c with
 |zero=>
  refine ac (r_z 2 ?_);refine ar rfl (λh1=>?_) (λh1=>?_);exact absurd h1 ψ;refine ax ⟨(u,o),hr,?_⟩;exact s_e []
 |succ n=>
  obtain⟨B,tt,hb1,hb2,hb3,hb4⟩:=CJ hb;have hcn:((n+1:Nat):Int)- 1=(n:Int):=ω
  rw[hcn];refine ac (r_z 2 ?_);refine ar rfl (λh1=>?_) (λh1=>?_);refine aj ?_;obtain⟨k,hk⟩:∃k,k=coP o (n+(ap q).length- 1) / aI q:=⟨_,rfl⟩;have hst:=y5 hb;rw[k6] at hr;rw[<-hk] at hst hr
  have hgo:(pE o)[(0+(((n:Nat):Int)+((ap q).length:Nat)- 1).toNat)]?=some (qC (coP o (n+(ap q).length- 1))):=by
   rw[show 0+(((n:Nat):Int)+((ap q).length:Nat)- 1).toNat=n+(ap q).length- 1 by omega];exact pE_get (ci ω)
  have hov:=iT (coP o (n+(ap q).length- 1)) (aI q) hne (by have:=hb1 (n+(ap q).length- 1);omega);rw[<-hk] at hov
  have hgu:(pE u)[0+((n:Nat):Int).toNat]?=some (qC (coP u n)):=by
   rw[show 0+((n:Nat):Int).toNat=n by omega];exact pE_get (ci ω)
  refine ac (ah (ac (r_d aX 12 ?_)));refine a_7 ?_;refine bm (.load_l rfl rfl hgo TG.h TS.h (nle rfl)) rfl rfl ?_;refine c_s (hov) ?_;refine a_2 ?_;refine aq (n_k ?_);refine s_r 5 ?_;refine a_4 ?_;refine fN (.store rfl rfl hgu rfl rfl rfl TS.h (nle rfl)) ?_;refine aq ?_
  have hsu:(pE u).set (0+((n:Nat):Int).toNat) (qC k)=pE (u.set n k):=by
   rw[show 0+((n:Nat):Int).toNat=n by omega,mM]
  have hlu:(u.set n k).length=u.length:=ψ
  refine ac (r_c 3 (c6 k) ?_);refine a_z ?_;refine ar rfl (λh2=>?_) (λh2=>?_)
  have h0:k=0:=by
   have h2:sgZ k.num=0:=by simpa using h2
   exact sgZ_num_eq.1 h2
  rw[if_pos h0] at hst hr;refine ax (r_m 3 ?_);refine a_z ?_;refine⟨(n,u.set n k,o),Nat.lt_succ_self n,⟨ω,by simp only;omega,ho,hst,hr⟩,?_⟩;simp only[dvS.eq_1,hlu];exact s_f []
  have h0:k≠0:=by
   intro e;have h2:¬sgZ k.num=0:=by simpa using h2
   exact h2 (sgZ_num_eq.2 e)
  rw[if_neg h0] at hst hr;refine aj (r_z 3 ?_);refine AWp.cutB (λ_:Unit=>⟨[(0,.lsl 1 0 o.length none 3),(1,.arr (pE (ap q))),(4,.lsl 2 0 u.length (some u.length) 3),(6,.lptr 3 0 0),(7,i64 n)],[(1,some ⟨42,3,pE (fU o k (ap q) n (ap q).length)⟩),(2,some ⟨42,3,pE (u.set n k)⟩),(3,some ⟨42,3,[qC (aI q)]⟩)],4,82⟩) (λ_=>True) ?_ ?_;refine ah (ay (λi:Nat=>dvT (ap q) (aI q) n (u.set n k) k (i,fU o k (ap q) n i)) (λi=>(ap q).length- i) (λi=>i<=(ap q).length) 0 (Nat.zero_le _) ?_ ?_);simp only[dvT.eq_1,fU,hlu];exact s_f [(4,8)];rintro i hi;simp only[dvT.eq_1];refine r_z 1 ?_;refine ac (ar rfl (λh3=>?_) (λh3=>?_));refine aj ?_;have hlt2:i< (ap q).length:=by simpa using h3
  have hgq:(pE (ap q))[((i:Nat):Int).toNat]?=some (qC (coP (ap q) i)):=pE_get (ci hlt2)
  have hcur:qs (coP (fU o k (ap q) n i) (n+i))<=B:=by
   rw[nM _ _ _ _ _ _ ω];exact hb1 _
  have hkq:qs k<=B+tt:=by
   have e1:=fL (coP o (n+(ap q).length- 1)) (aI q);have e2:=hb1 (n+(ap q).length- 1);rw[hk];omega
  have hkm:=cx k (coP (ap q) i);have hqi:=hb2 i;have hik:n+i< (fU o k (ap q) n i).length:=χ
  have hgr:(pE (fU o k (ap q) n i))[(0+(((n:Nat):Int)+(i:Nat)).toNat)]?=some (qC (coP (fU o k (ap q) n i) (n+i))):=by
   rw[show 0+(((n:Nat):Int)+(i:Nat)).toNat=n+i by omega];exact pE_get (ci hik)
  refine ac (ah (s_r 6 ?_));refine a_1 ?_;refine i_x hgq ?_;refine l_x hgq ?_;refine a_z ?_;refine r_d aX 16 ?_;refine a_8 ?_;refine a_1 ?_;refine bm (.load_l rfl rfl hgr TG.h TS.h (nle rfl)) rfl rfl ?_;refine c_s (dk k (coP (ap q) i) ω) ?_;refine c_s (kU (coP (fU o k (ap q) n i) (n+i)) (k* coP (ap q) i) ω) ?_;refine a_1 ?_;refine fN (.store rfl rfl hgr rfl rfl rfl TS.h (nle rfl)) ?_;refine aq (n_k ?_);refine r_m 2 ?_;refine a_z ?_;refine⟨i+1,ω,hlt2,?_⟩
  have hst2:(pE (fU o k (ap q) n i)).set (0+(((n:Nat):Int)+(i:Nat)).toNat) (qC (coP (fU o k (ap q) n i) (n+i)- k* coP (ap q) i))=pE (fU o k (ap q) n (i+1)):=by
   rw[show 0+(((n:Nat):Int)+(i:Nat)).toNat=n+i by omega,mM];rfl
  have hl2:(fU o k (ap q) n (i+1)).length=(fU o k (ap q) n i).length:=ψ
  simp only[dvT.eq_1,hl2];exact s_x [] (λhs=>dD) (λhs=>e_37) e_1
  have hge:i=(ap q).length:=by
   have:¬i< (ap q).length:=by simpa using h3
   omega
  subst hge;refine ax ⟨(),trivial,?_⟩;rw[iu,hlu];exact s_e [];rintro _ _;refine r_m 3 ?_;refine a_z ?_;refine⟨(n,u.set n k,fU o k (ap q) n (ap q).length),Nat.lt_succ_self n,⟨ω,by simp only;omega,by simp only;rw[iu];exact ho,hst,hr⟩,?_⟩;simp only[dvS.eq_1,hlu,iu];exact s_e [];exact absurd h1 ψ
 rintro⟨u,o⟩ hx;rw[<-hx] at hdl hend⊢;simp only at hdl hend⊢;have hlu:u.length<=274877906945:=by rw[hdl.1];simp;omega
 have hfu:List.take u.length (List.drop 0 (pE u))=pE u:=by rw[List.drop_zero,List.take_of_length_le ψ]
 have hfo:List.take o.length (List.drop 0 (pE o))=pE o:=by rw[List.drop_zero,List.take_of_length_le ψ]
 refine s_r 6 ?_;refine a_1 ?_;refine o_1 (.callS1 rfl rfl rfl (.shut rfl d_n (.nil)) rfl ((by rw[hfu];exact dK u ω))) ?_;refine a_1 ?_;refine o_1 (.callS1 rfl rfl rfl (.shut rfl d_n (.nil)) rfl ((by rw[hfo];exact dK o (by rw[hdl.2];omega)))) ?_;refine a_z ?_;refine ai (Fin.many ⟨_,_,rfl,rfl,⟨_,_,rfl,rfl,rfl⟩⟩ (nle rfl) ?_);exact am (ao aF (aD _)) (am (ao aF (aD _)) av)
def gcS:Lq×Lq->AState
 |(p,q)=>⟨[(0,.arr (pE p)),(1,.arr (pE q))],[],1,21⟩
theorem D8(p:Lq)(q:Lq):gcS (p,q)=⟨[(0,.arr (pE p)),(1,.arr (pE q))],[],1,21⟩:=rfl
theorem degP_neg{l:Lq}:dt l< 0↔ap l=[]:=by
 unfold dt;constructor;intro h;exact List.length_eq_zero_iff.1 ω;intro h;rw[h];decide
theorem KF(f:Nat)(p q g:Lq)(h:ld f p q=some g)(hp1:p.length<=274877906944)(hq1:q.length<=274877906944):FS 265 [.arr (pE p),.arr (pE q)] (.arr (pE g)):=by
 refine f_c Tryz.func265 ?_;refine r_z 1 ?_;refine bD (λp:Lq=>⟨[(0,.arr (pE p))],[],1,21⟩) (λp=>smL p/\p.length<=274877906944/\g=ce p) ?_ ?_;refine ah (ay (λx:Nat×Lq×Lq=>gcS x.2) (λx=>x.1) (λx=>ld x.1 x.2.1 x.2.2=some g/\x.2.1.length<=274877906944/\x.2.2.length<=274877906944) (f,p,q) ⟨h,hp1,hq1⟩ ?_ ?_);simp only[D8];exact s_e [];rintro⟨f,p,q⟩ ⟨h,hp1,hq1⟩;simp only at h hp1 hq1;simp only[D8];cases f with
 |zero=>cases h
 |succ f=>
  rw[ld] at h;refine ac (r_c 3 (em q ω) ?_);refine a_z ?_;refine ar rfl (λb=>?_) (λb=>?_)
  ·have a:ap q≠[]:=by
    intro e;have e2:=degP_neg.2 e;simp at b;omega
   rw[if_neg a] at h;split at h
   case isFalse=>cases h
   case isTrue hs=>
   have d:=oq (p:=p) (q:=q);have c:=mQ (cu p q).2;refine aj (ah (r_c 8 (tD p q (mxL p) (mxL q) (fx p) (fx q) (fh p) (fh q) hs.1 a hp1 hq1) ?_));refine a_z ?_;refine r_m 5 ?_;refine c_s (wQ (cu p q).2 (AS hs a).2 ω) ?_;refine a_z ?_;refine⟨(f,q,ce (cu p q).2),Nat.lt_succ_self f,⟨h,hq1,by simp only;omega⟩,?_⟩;simp only[D8];exact s_e []
  ·have a:ap q=[]:=by
    refine degP_neg.1 ?_;simp at b;omega
   rw[if_pos a] at h;split at h
   case isFalse=>cases h
   case isTrue hs=>
   cases h;refine ax ⟨p,⟨hs,hp1,rfl⟩,?_⟩;exact s_e []
 rintro p ⟨hs,hp1,rfl⟩;refine r_c 3 (wQ p hs ω) ?_;refine a_z ?_;exact ai (t_e (aD _))

theorem lN(l:Lq)(hl:l.length<=281474976710656):GSpec Tryz.prog 241 [bP l] (mB l):=by
 refine GSpec.enter Tryz.func241 rfl κ rfl rfl rfl ?_ ?_ rfl ?_;exact ae (dz l) af;intro k xs h;unfold mB at h;split at h;cases h;exact ae (ak _) (ae (aP _) af);cases h;intro b N E;refine GWp.seq ?_;refine GWp.lift ?_;refine r_m 4 ?_;refine a_z ?_;refine GWp.block ?_;refine GWp.loopS (λm:Nat=>⟨[(0,.v (.func (.yield b) #[] #[])),(1,bP l),(3,i64 ((m:Int)- 1))],[],1,19⟩) (λm=>l.length- m) (λm=>m) (λm=>m<=l.length) l.length (Nat.le_refl _) ψ ?_ ?_;exact s_e [];intro m e;refine GWp.seq ?_;refine GWp.seq ?_;refine GWp.lift ?_;refine r_m 2 ?_;refine a_z ?_;refine GWp.cond rfl (λh=>?_) (λh=>?_)
 ·refine GWp.skip ?_
  have d:1<=m:=by have:=of_decide_eq_true h;omega
  have a:(pE l)[((m:Int)- 1).toNat]?=some (qC (coP l (m- 1))):=by rw[show((m:Int)- 1).toNat=m- 1 by omega];exact pE_get (ci ω)
  refine GWp.seq ?_;refine GWp.block ?_;refine GWp.seq ?_;refine GWp.regY (fr2:=[(0,.v (.func (.yield b) #[] #[])),(1,bP l),(3,i64 ((m:Int)- 1)),(11,.v (.func (.yield b) #[] #[])),(12,i64 ((m:Int)- 1)),(16,.agg (qC (coP l (m- 1))))]) (hp2:=[]) (nx2:=1) 6 rfl rfl rfl rfl rfl rfl ?_ rfl rfl rfl ?_ ?_ ?_;refine o_0 (.move rfl) ?_;refine o_0 (.move rfl) ?_;refine bm (.load_a1 rfl rfl TG.h rfl) rfl rfl ?_;refine o_0 (.move rfl) ?_;refine i_x a ?_;refine l_x a ?_;refine aq ?_;exact s_y [] (λhs=>dD) (λhs=>mC);rotate_left 2;intro c;refine o_0 (.un rfl px) ?_;refine aq ?_;rotate_left;unfold mB;rw[if_pos ω];have e1:((l.length- 1- (l.length- m):Nat):Int)=(m:Int)- 1:=ω
  have e2:l.length- 1- (l.length- m)=m- 1:=ω
  rw[e1,e2];rfl;exact ae (ak _) (ae (aP _) af);cases c with
  |false=>
   refine GWp.cond rfl (λh=>?_) (λh=>?_);exact GWp.ret ⟨.inr rfl,λh=>by cases h⟩;cases h
  |true=>
   refine GWp.cond rfl (λh=>?_) (λh=>?_);cases h;refine GWp.skip ?_;refine GWp.lift ?_;refine r_m 3 ?_;refine a_z ?_;refine⟨rfl,m- 1,ω,ω,ω,?_⟩;exact s_e []
 refine GWp.exit ⟨.inl rfl,λ_=>?_⟩;have:m=0:=by have:=of_decide_eq_false h;omega
 subst this;unfold mB;rw[if_neg ω]
theorem lQ(l:Lq):FS 190 [.arr (pE l)] (.clos 241 [] [bP l]):=by
 refine f_c Tryz.func190 ?_;refine r_z 2 ?_;refine r_z 2 ?_;refine ai (⟨.inr rfl,[_],⟨_,[],rfl,rfl,rfl⟩,?_⟩);exact Cv.clos av (am (Cv.boxp aF rfl (λ_ _ h=>by cases h) rfl (ae (aD l) af)) av)
def hoS(p:Lq)(g:Nat)(cap:La)(w:Nat->Rat):Nat->AState
 |k=>⟨[(4,.lptr 1 0 0),(5,.aptr [[.clos g [] cap]] 0 0),(6,.lptr 2 0 0),(10,.clos 241 [] [bP p])],[(1,some ⟨42,3,[qC (w k)]⟩),(2,some ⟨42,3,[zC]⟩)],3,18⟩
theorem Ep(p:Lq)(g:Nat)(cap:La)(w:Nat->Rat)(hl:p.length<=281474976710656)(hcap:∀c∈cap,Closed c)(hg:∀k,k< p.length->FS g ((.agg (qC (w k)):: .agg (qC (coP p (p.length- 1- k)))::cap).map coe) (.agg (qC (w (k+1))))):FS 103 [.arr (pE p),.agg (qC (w 0)),.clos g [] cap] (.agg (qC (w p.length))):=by
 have hb:=lQ p;have d:=lN p hl;have b:Closed (.clos g [] cap):=a6 af hcap;have i:Closed (.aptr [[.clos g [] cap]] 0 0):=bi (ae b af);have f:Closed (.clos 241 [] [bP p]):=a6 af (ae (dz p) af);refine f_c Tryz.func103 ?_;refine r_z 3 ?_;refine AWp.ent (st':=⟨[(0,.arr (pE p)),(4,.lptr 1 0 0),(5,.aptr [[.clos g [] cap]] 0 0),(6,.lptr 2 0 0)],[(1,some ⟨42,3,[qC (w 0)]⟩),(2,some ⟨42,3,[zC]⟩)],3,18⟩) ?_ ?_;have:=ae b af;exact s_f [(1,4),(2,6)];refine ac (r_c 2 (hb) ?_);refine aq ?_;refine aC (λ_:Unit=>⟨[(4,.lptr 1 0 0),(6,.lptr 2 0 0)],[(1,some ⟨42,3,[qC (w p.length)]⟩),(2,some ⟨42,3,[zC]⟩)],3,18⟩) (λ_=>True) ?_ ?_;refine ah (AWp.rangeFunc (α:=Nat) (γ:=Empty) p.length (hoS p g cap w) (λk=>k) (λk=>k<=p.length) (λe=>nomatch e) (λ_ e=>nomatch e) 0 rfl d rfl rfl ?_ (λ_=>⟨rfl,rfl⟩) (λe=>nomatch e) (Nat.zero_le _) rfl (λ_ h=>h) ?_ ?_ ?_ ?_ (λ_ e=>nomatch e));intro k xs a;unfold mB at a;split at a;cases a;rfl;cases a;rw[hoS.eq_1];exact s_y [] (λhs=>dD) (λhs=>mC);exact ae (dz p) af
 ·intro l k xs j a
  unfold mB at a;split at a;rotate_left;cases a;rename_i hlt;cases a;show AWp _ _ _ _ ⟨[(12,.agg (qC (coP p (p.length- 1- k)))),(11,i64 (p.length- 1- k:Nat)),(4,.lptr 1 0 0),(5,.aptr [[.clos g [] cap]] 0 0),(6,.lptr 2 0 0),(10,.clos 241 [] [bP p]),(1004,.lptr 1 0 0),(1005,.aptr [[.clos g [] cap]] 0 0),(1006,.lptr 2 0 0),(1010,.clos 241 [] [bP p])],[(1,some ⟨42,3,[qC (w k)]⟩),(2,some ⟨42,3,[zC]⟩)],3,18⟩;refine r_m 2 ?_;refine a_z ?_;refine ah (r_m 5 ?_);refine c_s (hg k hlt) ?_;refine a_z ?_;refine⟨k+1,⟨hlt,rfl⟩,?_⟩;show SEntT _ ⟨[(1004,.lptr 1 0 0),(1005,.aptr [[.clos g [] cap]] 0 0),(1006,.lptr 2 0 0),(1010,.clos 241 [] [bP p])],[(1,some ⟨42,3,[qC (w (k+1))]⟩),(2,some ⟨42,3,[zC]⟩)],3,18⟩;exact s_y [] (λhs=>dD) (λhs=>mC)
 intro k j a;unfold mB at a;split at a;cases a;refine⟨(),trivial,?_⟩;rw[hoS.eq_1];have m:k=p.length:=ω
 subst m;exact s_e [];rintro _ _;refine r_z 2 ?_;exact ai (c_e (aP _))
theorem KH(v c x:Rat)(h1:qs v+qs x<=549755813888)(h2:qs (v* x)+qs c<=549755813888):FS 104 [.agg (qC v),.agg (qC c),bQ x] (.agg (qC (v* x+c))):=by
 refine f_c Tryz.func104 ?_;refine r_z 3 ?_;refine ac (r_d aX 6 ?_);refine c_s (dk v x h1) ?_;refine c_s (fD (v* x) c h2) ?_;refine a_1 ?_;refine aq (n_k ?_);exact ai (c_e (aP _))
theorem jF(p:Lq)(x:Rat)(h:fM p x):FS 35 [.arr (pE p),.agg (qC x)] (.agg (qC (an p x))):=by
 have c:∀k,k< p.length->FS 104 [.agg (qC (an (p.drop (p.length- k)) x)),.agg (qC (coP p (p.length- 1- k))),bQ x] (.agg (qC (an (p.drop (p.length- (k+1))) x))):=λk b=>by
  have:=EH h k b;rw[tO b];exact KH _ _ _ this.1 this.2
 have a:=Ep p 104 [bQ x] (λk=>an (p.drop (p.length- k)) x) (by have:=h.2;omega) (ae (cL x) af) c;simp only[Nat.sub_zero,Nat.sub_self,List.drop_zero,List.drop_length] at a;rw[show an [] x=0 from rfl,qC0] at a;refine f_c Tryz.func35 ?_;refine r_z 2 ?_;refine AWp.ent (st':=⟨[(0,.arr (pE p)),(3,bQ x),(4,.lptr 1 0 0)],[(1,some ⟨42,3,[zC]⟩)],2,9⟩) ?_ ?_;exact s_e [(1,4)];refine r_c 5 (a) ?_;refine a_z ?_;exact ai (c_e (aP _))
def hsS(p:Lq)(g:Nat)(cap:La)(w:Nat->Rat×Rat):Nat->AState
 |k=>⟨[(4,.lptr 1 0 0),(5,.aptr [[.clos g [] cap]] 0 0),(6,.lptr 2 0 0),(10,.clos 241 [] [bP p])],[(1,some ⟨51,6,[spC (w k).1 (w k).2]⟩),(2,some ⟨51,6,[zC++zC]⟩)],3,18⟩
theorem Eo(p:Lq)(g:Nat)(cap:La)(w:Nat->Rat×Rat)(hl:p.length<=281474976710656)(hcap:∀c∈cap,Closed c)(hg:∀k,k< p.length->FS g ((.agg (spC (w k).1 (w k).2):: .agg (qC (coP p (p.length- 1- k)))::cap).map coe) (.agg (spC (w (k+1)).1 (w (k+1)).2))):FS 315 [.arr (pE p),.agg (spC (w 0).1 (w 0).2),.clos g [] cap] (.agg (spC (w p.length).1 (w p.length).2)):=by
 have hb:=lQ p;have d:=lN p hl;have b:Closed (.clos g [] cap):=a6 af hcap;have i:Closed (.aptr [[.clos g [] cap]] 0 0):=bi (ae b af);have f:Closed (.clos 241 [] [bP p]):=a6 af (ae (dz p) af);refine f_c Tryz.func315 ?_;refine r_z 3 ?_;refine AWp.ent (st':=⟨[(0,.arr (pE p)),(4,.lptr 1 0 0),(5,.aptr [[.clos g [] cap]] 0 0),(6,.lptr 2 0 0)],[(1,some ⟨51,6,[spC (w 0).1 (w 0).2]⟩),(2,some ⟨51,6,[zC++zC]⟩)],3,18⟩) ?_ ?_;have:=ae b af;exact s_f [(1,4),(2,6)];refine ac (r_c 2 (hb) ?_);refine aq ?_;refine aC (λ_:Unit=>⟨[(4,.lptr 1 0 0),(6,.lptr 2 0 0)],[(1,some ⟨51,6,[spC (w p.length).1 (w p.length).2]⟩),(2,some ⟨51,6,[zC++zC]⟩)],3,18⟩) (λ_=>True) ?_ ?_;refine ah (AWp.rangeFunc (α:=Nat) (γ:=Empty) p.length (hsS p g cap w) (λk=>k) (λk=>k<=p.length) (λe=>nomatch e) (λ_ e=>nomatch e) 0 rfl d rfl rfl ?_ (λ_=>⟨rfl,rfl⟩) (λe=>nomatch e) (Nat.zero_le _) rfl (λ_ h=>h) ?_ ?_ ?_ ?_ (λ_ e=>nomatch e));intro k xs a;unfold mB at a;split at a;cases a;rfl;cases a;rw[hsS.eq_1];exact s_y [] (λhs=>dD) (λhs=>mC);exact ae (dz p) af
 ·intro l k xs j a
  unfold mB at a;split at a;rotate_left;cases a;rename_i hlt;cases a;show AWp _ _ _ _ ⟨[(12,.agg (qC (coP p (p.length- 1- k)))),(11,i64 (p.length- 1- k:Nat)),(4,.lptr 1 0 0),(5,.aptr [[.clos g [] cap]] 0 0),(6,.lptr 2 0 0),(10,.clos 241 [] [bP p]),(1004,.lptr 1 0 0),(1005,.aptr [[.clos g [] cap]] 0 0),(1006,.lptr 2 0 0),(1010,.clos 241 [] [bP p])],[(1,some ⟨51,6,[spC (w k).1 (w k).2]⟩),(2,some ⟨51,6,[zC++zC]⟩)],3,18⟩;refine r_m 2 ?_;refine a_z ?_;refine ah (r_m 5 ?_);refine c_s (hg k hlt) ?_;refine a_z ?_;refine⟨k+1,⟨hlt,rfl⟩,?_⟩;show SEntT _ ⟨[(1004,.lptr 1 0 0),(1005,.aptr [[.clos g [] cap]] 0 0),(1006,.lptr 2 0 0),(1010,.clos 241 [] [bP p])],[(1,some ⟨51,6,[spC (w (k+1)).1 (w (k+1)).2]⟩),(2,some ⟨51,6,[zC++zC]⟩)],3,18⟩;exact s_y [] (λhs=>dD) (λhs=>mC)
 intro k j a;unfold mB at a;split at a;cases a;refine⟨(),trivial,?_⟩;rw[hsS.eq_1];have m:k=p.length:=ω
 subst m;exact s_e [];rintro _ _;refine r_z 2 ?_;exact ai (c_e (b9 _ _))
abbrev bS(s:Sp):AV:= .aptr [spC s.1 s.2] 0 0
theorem pk(s:Sp):Closed (bS s):=bi (bt _ _)
theorem I0{a b:Sp}(h:smL (BI a b)):smS (vL a b):=⟨qA h,qA h⟩
theorem Kz(v s:Sp)(c:Rat)(hv:smS v)(hs:smS s)(hc:sm c)(hp:smL (BI v s)):FS 316 [.agg (spC v.1 v.2),.agg (qC c),bS s] (.agg (spC (FE (vL v s) (c,c)).1 (FE (vL v s) (c,c)).2)):=by
 have a:=I0 hp;refine f_n Tryz.func316 ?_ ?_;exact ae (b9 _ _) (ae (aP c) (ae (pk s) af));refine r_z 3 ?_;refine ac (r_d aX 7 ?_);refine c_s (fs_SMul v.1 v.2 s.1 s.2 hv.1 hv.2 hs.1 hs.2 hp) ?_;refine c_s (Cn c) ?_;refine c_s (fs_SAdd (vL v s).1 (vL v s).2 c c a.1 a.2 hc hc) ?_;refine a_1 ?_;refine aq (n_k ?_);exact ai (c_e (b9 _ _))
theorem fs_Over(p:Lq)(s:Sp)(h:z8 p s):FS 280 [.arr (pE p),.agg (spC s.1 s.2)] (.agg (spC (je p s).1 (je p s).2)):=by
 obtain⟨g,hs,w,f⟩:=h;have r:=bh p;refine f_c Tryz.func280 ?_;refine r_z 2 ?_;refine AWp.ent (st':=⟨[(0,.arr (pE p)),(3,bS s),(4,.lptr 1 0 0)],[(1,some ⟨51,6,[zC++zC]⟩)],2,30⟩) ?_ ?_;exact s_e [(1,4)];refine r_c 3 (dK p ω) ?_;refine a_z ?_;refine bD (λ_:Unit=>⟨[(0,.arr (pE (ap p))),(3,bS s),(4,.lptr 1 0 0)],[(1,some ⟨51,6,[zC++zC]⟩)],2,30⟩) (λ_=>fb s.1 s.2<=0/\ap p≠[]) ?_ ?_;by_cases hv:fb s.1 s.2<=0;refine r_c 8 (kx s.1 s.2 hs.1 hs.2) ?_;refine a_2 ?_;refine y_g rfl (by simp[hv]) (.move rfl) ?_;refine y_g rfl (by simp[hv]) (.lenP rfl rfl rfl rfl te_62.h) ?_;refine y_g rfl (by simp[hv]) (.bin rfl rfl bJ) ?_;refine o_0 (.pickF rfl (by simp[hv]) rfl) ?_;refine aq ?_;refine ar rfl (λa=>?_) (λa=>?_)
 have c:ap p=[]:=by
  have:(ap p).length=0:=by simpa using a
  exact List.length_eq_zero_iff.1 this
 have d:je p s=(0,0):=by unfold je;rw[if_pos (.inr c)]
 rw[d];refine r_z 2 ?_;refine ai (Fin.cell rfl rfl rfl TG.h TS.h (nle rfl) (Cv.agg ?_));show CvL _ _ _ _ (qC 0++qC 0);rw[qC0];exact am (Cv.emp _) (am (ao aF (ak _)) (am (Cv.emp _) (am (Cv.emp _) (am (ao aF (ak _)) (am (Cv.emp _) av)))))
 have c:ap p≠[]:=by
  have:¬(ap p).length=0:=by simpa using a
  exact λe=>this (by rw[e];rfl)
 refine aj ⟨(),⟨hv,c⟩,?_⟩;exact s_e [];refine r_c 8 (kx s.1 s.2 hs.1 hs.2) ?_;refine a_2 ?_;refine n_g rfl (by simp[hv]) ?_;refine n_g rfl (by simp[hv]) ?_;refine n_g rfl (by simp[hv]) ?_;refine o_0 (.pickT rfl (by simp[hv]) rfl) ?_;refine aq ?_;refine ar rfl (λa=>?_) (λa=>?_);have d:je p s=(0,0):=by unfold je;rw[if_pos (.inl hv)]
 rw[d];refine r_z 2 ?_;refine ai (Fin.cell rfl rfl rfl TG.h TS.h (nle rfl) (Cv.agg ?_));show CvL _ _ _ _ (qC 0++qC 0);rw[qC0];exact am (Cv.emp _) (am (ao aF (ak _)) (am (Cv.emp _) (am (Cv.emp _) (am (ao aF (ak _)) (am (Cv.emp _) av)))));cases a;rintro _ ⟨hv,c⟩;have o:=List.length_pos_iff.2 c
 have d:je p s=ovP (aI p,aI p) s ((ap p).take ((ap p).length- 1)):=by
  unfold je;rw[if_neg (by rintro(e|e);exact e hv;exact c e)]
 obtain⟨l,b⟩:∃l,l=(ap p).take ((ap p).length- 1):=⟨_,rfl⟩;rw[<-b] at f d;rw[d];have m:l.length=(ap p).length- 1:=by rw[b];simp
 have i:∀q∈l,sm q:=λq u=>g q (cz (List.mem_of_mem_take (by rw[<-b];exact u)))
 have v:∀k,k< l.length->FS 316 [.agg (spC (ovP (aI p,aI p) s (l.drop (l.length- k))).1 (ovP (aI p,aI p) s (l.drop (l.length- k))).2),.agg (qC (coP l (l.length- 1- k))),bS s] (.agg (spC (ovP (aI p,aI p) s (l.drop (l.length- (k+1)))).1 (ovP (aI p,aI p) s (l.drop (l.length- (k+1)))).2)):=λk t=>by
  have a:=yv (l.length- (k+1)) f;rw[tO t] at a⊢;exact Kz _ s _ (okOv_sm a.1) hs a.2.2.1 a.2.1
 have n:=Eo l 316 [bS s] (λk=>ovP (aI p,aI p) s (l.drop (l.length- k))) ω (ae (pk s) af) v;simp only[Nat.sub_zero,Nat.sub_self,List.drop_zero,List.drop_length] at n
 have j:(pE (ap p))[(((ap p).length:Int)- 1).toNat]?=some (qC (aI p)):=by
  rw[show(((ap p).length:Int)- 1).toNat=(ap p).length- 1 by omega];exact pE_get (dj ω)
 refine r_z 4 ?_;refine ac (r_d aX 11 ?_);refine a_2 ?_;refine o_0 (.sa_h rfl rfl (h:=(ap p).length- 1) ω ψ te_62.h (mN _)) ?_;refine a_2 ?_;refine i_x j ?_;refine l_x j ?_;refine c_s (Cn (aI p)) ?_;refine o_0 (.makeFunc rfl rfl) ?_;refine o_0 (.call rfl rfl rfl ((by rw[uU,<-b];exact n))) ?_;refine fN (.store rfl rfl rfl rfl rfl rfl TS.h (nle rfl)) ?_;refine aq (n_k ?_);exact ai (c_e (b9 _ _))
def hpS(p:Lq)(g:Nat)(cap:La)(w:Nat->Lq):Nat->AState
 |k=>⟨[(4,.lptr 1 0 0),(5,.aptr [[.clos g [] cap]] 0 0),(10,.clos 241 [] [bP p])],[(1,some ⟨62,1,[[.arr (pE (w k))]]⟩)],2,18⟩
theorem Er(p:Lq)(g:Nat)(cap:La)(w:Nat->Lq)(hl:p.length<=281474976710656)(hcap:∀c∈cap,Closed c)(hg:∀k,k< p.length->FS g ((.arr (pE (w k)):: .agg (qC (coP p (p.length- 1- k)))::cap).map coe) (.arr (pE (w (k+1))))):FS 283 [.arr (pE p),.arr (pE (w 0)),.clos g [] cap] (.arr (pE (w p.length))):=by
 have hb:=lQ p;have d:=lN p hl;have b:Closed (.clos g [] cap):=a6 af hcap;have i:Closed (.aptr [[.clos g [] cap]] 0 0):=bi (ae b af);have f:Closed (.clos 241 [] [bP p]):=a6 af (ae (dz p) af);refine f_c Tryz.func283 ?_;refine r_z 3 ?_;refine AWp.ent (st':=⟨[(0,.arr (pE p)),(4,.lptr 1 0 0),(5,.aptr [[.clos g [] cap]] 0 0)],[(1,some ⟨62,1,[[.arr (pE (w 0))]]⟩)],2,18⟩) ?_ ?_;have:=ae b af;exact s_f [(1,4)];refine ac (r_c 2 (hb) ?_);refine aq ?_;refine aC (λ_:Unit=>⟨[(4,.lptr 1 0 0)],[(1,some ⟨62,1,[[.arr (pE (w p.length))]]⟩)],2,18⟩) (λ_=>True) ?_ ?_;refine ah (AWp.rangeFunc (α:=Nat) (γ:=Empty) p.length (hpS p g cap w) (λk=>k) (λk=>k<=p.length) (λe=>nomatch e) (λ_ e=>nomatch e) 0 rfl d rfl rfl ?_ (λ_=>⟨rfl,rfl⟩) (λe=>nomatch e) (Nat.zero_le _) rfl (λ_ h=>h) ?_ ?_ ?_ ?_ (λ_ e=>nomatch e));intro k xs a;unfold mB at a;split at a;cases a;rfl;cases a;rw[hpS.eq_1];exact s_y [] (λhs=>dD) (λhs=>mC);exact ae (dz p) af
 ·intro l k xs j a
  unfold mB at a;split at a;rotate_left;cases a;rename_i hlt;cases a;show AWp _ _ _ _ ⟨[(12,.agg (qC (coP p (p.length- 1- k)))),(11,i64 (p.length- 1- k:Nat)),(4,.lptr 1 0 0),(5,.aptr [[.clos g [] cap]] 0 0),(10,.clos 241 [] [bP p]),(1004,.lptr 1 0 0),(1005,.aptr [[.clos g [] cap]] 0 0),(1010,.clos 241 [] [bP p])],[(1,some ⟨62,1,[[.arr (pE (w k))]]⟩)],2,18⟩;refine r_m 2 ?_;refine a_z ?_;refine ah (r_m 5 ?_);refine c_s (hg k hlt) ?_;refine a_z ?_;refine⟨k+1,⟨hlt,rfl⟩,?_⟩;show SEntT _ ⟨[(1004,.lptr 1 0 0),(1005,.aptr [[.clos g [] cap]] 0 0),(1010,.clos 241 [] [bP p])],[(1,some ⟨62,1,[[.arr (pE (w (k+1)))]]⟩)],2,18⟩;exact s_y [] (λhs=>dD) (λhs=>mC)
 intro k j a;unfold mB at a;split at a;cases a;refine⟨(),trivial,?_⟩;rw[hpS.eq_1];have m:k=p.length:=ω
 subst m;exact s_e [];rintro _ _;refine r_z 2 ?_;exact ai (t_e (aD _))
theorem Ca(v q:Lq)(c:Rat)(h:ls v q)(hc:sm c)(hl:(aT v q).length<=274877906944):FS 284 [.arr (pE v),.agg (qC c),bP q] (.arr (pE (fR (aT v q) (eM c)))):=by
 have a:=nk c;refine f_c Tryz.func284 ?_;refine r_z 2 ?_;refine ac (r_d aX 7 ?_);refine c_s (KC v q (mxL v) (mxL q) (fx v) (fx q) (fh v) (fh q) h.1 h.2.1 h.2.2.1 h.2.2.2) ?_;refine c_s (uC c) ?_;refine c_s (pS (aT v q) (eM c) (ws h) (vM λx b=>by rw[List.mem_singleton.1 b];exact hc) ω ω) ?_;refine a_1 ?_;refine aq (n_k ?_);exact ai (t_e (aD _))
theorem Eu(p q:Lq)(h:ie q p)(hp:p.length<=274877906944):FS 252 [.arr (pE p),.arr (pE q)] (.arr (pE (cw q p))):=by
 have c:∀k,k< p.length->FS 284 [.arr (pE (cw q (p.drop (p.length- k)))),.agg (qC (coP p (p.length- 1- k))),bP q] (.arr (pE (cw q (p.drop (p.length- (k+1)))))):=λk d=>by
  have a:=ux (p.length- (k+1)) h;rw[tO d] at a⊢;exact Ca _ q _ a.2.1 a.2.2.1 a.2.2.2
 have b:=Er p 284 [bP q] (λk=>cw q (p.drop (p.length- k))) ω (ae (dz q) af) c;simp only[Nat.sub_zero,Nat.sub_self,List.drop_zero,List.drop_length] at b;refine f_c Tryz.func252 ?_;refine r_z 2 ?_;refine AWp.ent (st':=⟨[(0,.arr (pE p)),(3,bP q)],[],1,8⟩) ?_ ?_;exact s_e [];refine r_c 4 (b) ?_;refine a_z ?_;exact ai (t_e (aD _))
theorem w4(p:Lq)(c:Rat)(h:ie [c,1] p)(hp:p.length<=274877906944):FS 206 [.arr (pE p),.agg (qC c)] (.arr (pE (cw [c,1] p))):=by
 refine f_c Tryz.func206 ?_;refine r_z 2 ?_;refine r_c 5 (fs_line c) ?_;refine c_s (Eu p [c,1] h hp) ?_;refine a_z ?_;exact ai (t_e (aD _))
def coS:Nat×Nat->AState
 |(a,b)=>⟨[(2,.lptr 1 0 0),(3,.lptr 2 0 0),(4,.lptr 3 0 0)],[(1,some ⟨42,3,[qC (nQ a)]⟩),(2,some ⟨42,3,[qC (nQ b)]⟩),(3,some ⟨42,3,[zC]⟩)],4,18⟩
theorem xj(a:Nat)(b:Nat):coS (a,b)=⟨[(2,.lptr 1 0 0),(3,.lptr 2 0 0),(4,.lptr 3 0 0)],[(1,some ⟨42,3,[qC (nQ a)]⟩),(2,some ⟨42,3,[qC (nQ b)]⟩),(3,some ⟨42,3,[zC]⟩)],4,18⟩:=rfl
theorem wW(a b:Nat)(ha:bl a<=68719476736)(hb:bl b<=68719476736):FS 295 [.agg (qC (nQ a)),.agg (qC (nQ b))] (.agg (qC (nQ (Nat.gcd a b)))):=by
 refine f_c Tryz.func295 ?_;refine r_z 3 ?_;refine bD (λ_:Unit=>coS (Nat.gcd a b,0)) (λ_=>True) ?_ ?_;refine ah (ay coS (λx=>x.2) (λx=>Nat.gcd x.1 x.2=Nat.gcd a b/\bl x.1<=68719476736/\bl x.2<=68719476736) (a,b) ⟨rfl,ha,hb⟩ ?_ ?_);simp only[xj];exact s_e [];rintro⟨u,v⟩ ⟨m,i,hv⟩;simp only at m i hv;rw[xj];refine ac (r_c 3 (c6 (nQ v)) ?_);refine a_z ?_;refine ar rfl (λh=>?_) (λh=>?_)
 have c:v≠0:=by
  intro e;subst e;exact absurd h δ
 refine aj ?_;have o:=lj (n:=u) i δ;have p:=lj (n:=v) hv δ;have q:=fL (nQ u) (nQ v);have d:=iT (nQ u) (nQ v) (λe=>c (nQ_zero.1 e)) ω;have g:=rV (nQ u/ nQ v) ω;rw[Ab u v c,BT u v c] at g;rw[Ab u v c] at d;have s:=lj (n:=u/ v) (k:=68719476736) (Nat.le_trans (fv u v) i) δ;have f:=dk (nQ v) (nQ (u/ v)) ω;rw[JL] at f;have l:v* (u/ v)<=u:=Nat.mul_div_le u v;have r:=lj (n:=v* (u/ v)) (k:=68719476736) (Nat.le_trans (dO l) i) δ;have j:=kU (nQ u) (nQ (v* (u/ v))) ω;rw[nQ_sub l,show u- v* (u/ v)=u % v by have:=Nat.div_add_mod u v;omega] at j;refine ah (r_d aX 11 ?_);refine c_s (d) ?_;refine c_s (g) ?_;refine c_s (f) ?_;refine c_s (j) ?_;refine a_2 ?_;refine aq (n_k ?_);refine⟨(v,u % v),Nat.mod_lt _ ω,⟨?_,hv,Nat.le_trans (dO (Nat.mod_le u v)) i⟩,?_⟩;rw[<-m];show Nat.gcd v (u % v)=Nat.gcd u v;rw[Nat.gcd_comm v,Nat.gcd_comm u v,<-Nat.gcd_rec];simp only[xj];exact s_e []
 have c:v=0:=by
  have o:sgZ (nQ v).num=0:=by simpa using h
  exact nQ_zero.1 (sgZ_num_eq.1 o)
 subst c;rw[Nat.gcd_zero_right] at m;refine ax ⟨(),trivial,?_⟩;rw[<-m];simp only[xj];exact s_e [];rintro _ _;simp only[xj];refine r_z 2 ?_;exact ai (c_e (aP _))
def prS(t:Lq):Nat×Nat->AState
 |(i,d)=>⟨[(0,.arr (pE t)),(3,.lptr 1 0 0),(4,.lptr 2 0 0),(13,.arr (pE t)),(14,i64 t.length),(15,i64 i)],[(1,some ⟨42,3,[qC (nQ d)]⟩),(2,some ⟨42,3,[qC 0]⟩)],3,47⟩
def prT(t:Lq)(D:Nat):Nat×Nat->AState
 |(i,n)=>⟨[(0,.arr (pE t)),(3,.lptr 1 0 0),(4,.lptr 2 0 0),(29,.arr (pE t)),(30,i64 t.length),(31,i64 i)],[(1,some ⟨42,3,[qC (nQ D)]⟩),(2,some ⟨42,3,[qC (nQ n)]⟩)],3,47⟩
theorem o8{l:Lq}{i:Nat}(h:i< l.length):l.drop i=coP l i::l.drop (i+1):=by
 rw[List.drop_eq_getElem_cons h];congr 1;have:=ci h;rw[List.getElem?_eq_getElem h] at this;exact Option.some.inj this
theorem E8(a b:Nat):bl (Nat.gcd a b)<=max (bl a) (bl b):=by
 rcases Nat.eq_zero_or_pos a with h|h
 subst h;rw[Nat.gcd_zero_left];exact Nat.le_max_right _ _;exact Nat.le_trans (dO (Nat.gcd_le_left b h)) (Nat.le_max_left _ _)
theorem rR(p:Lq)(h:wo p)(h0:ap p≠[]):FS 266 [.arr (pE p)] (.arr (pE (bU p))):=by
 obtain⟨t,C⟩:∃t,t=ap p:=⟨_,rfl⟩;obtain⟨s,hs⟩:∃s,s=mxL p:=⟨_,rfl⟩;have hs1:1<=s:=by rw[hs];exact fh p
 have f:bdL t s:=λq hq=>by rw[hs];exact fx p q (cz (by rw[<-C];exact hq))
 have M:t.length<=p.length:=by rw[C];exact bh p
 obtain⟨H,Z⟩:=h;rw[<-hs] at H;have hts:t.length* s<=p.length* s:=Nat.mul_le_mul_right _ M;rw[Nat.add_mul] at H;obtain⟨D,G⟩:∃D,D=gM t 1:=⟨_,rfl⟩;have Q:D≠0:=by rw[G];exact pa t δ
 have hDb:bl D<=1+t.length* s:=by rw[G];exact AZ t 1 f
 have F:∀c∈t,c.den∣D:=by rw[G];exact(jS t 1).2
 obtain⟨N,T⟩:∃N,N=iO D t 0:=⟨_,rfl⟩
 have b:aI p∈t:=by
  rw[C];obtain⟨n,w⟩:∃n,(ap p).length=n+1:=⟨(ap p).length- 1,by have:=List.length_pos_iff.2 h0;omega⟩;exact List.mem_of_getElem? (dj w)
 have j:=(nY D t 0).2 (aI p) b;rw[<-T] at j;have X:=u5 (F _ b) Q (dd h0);have S:N≠0:=λe=>X (by rw[e] at j;exact Nat.zero_dvd.1 j);have hNb:bl N<=s+bl D:=Nat.le_trans (dO (Nat.le_of_dvd ω j)) (Nat.le_trans (Aj _ _) (by have:=f _ b;omega));have R:bU p=aR t (nQ D/ nQ N):=by unfold bU;rw[<-C,<-G,<-T]
 rw[R];have l:∀i,i< t.length->(pE t)[((i:Nat):Int).toNat]?=some (qC (coP t i)):=λi u=>pE_get (ci u);have g:∀i,i< t.length->coP t i∈t:=λi u=>List.mem_of_getElem? (ci u);have J:=dK p ω;rw[<-C] at J;refine f_c Tryz.func266 ?_;refine r_z 1 ?_;refine r_c 3 (J) ?_;refine a_z ?_;refine r_c 6 (eD 1 δ) ?_;refine a_z ?_;refine ac (r_z 3 ?_);refine aC (λ_:Unit=>⟨[(0,.arr (pE t)),(3,.lptr 1 0 0),(4,.lptr 2 0 0)],[(1,some ⟨42,3,[qC (nQ D)]⟩),(2,some ⟨42,3,[qC 0]⟩)],3,47⟩) (λ_=>True) ?_ ?_;refine ah (ay (prS t) (λx=>t.length- x.1) (λx=>x.1<=t.length/\x.2≠0/\gM (t.drop x.1) x.2=D) (0,1) ⟨Nat.zero_le _,δ,by rw[G];rfl⟩ ?_ ?_);simp only[prS.eq_1];rw[qC0];exact s_e [(1,3),(2,4)];rintro⟨i,d⟩ ⟨u,y,z⟩;simp only at u y z;rw[prS.eq_1];refine r_z 1 ?_;refine ac (ar rfl (λh=>?_) (λh=>?_));refine aj ?_;have a:i< t.length:=by simpa using h
 have hc:=f _ (g i a);have hcd:=dr (coP t i);have L:=(coP t i).den_nz;rw[o8 a] at z;have O:d∣D:=by rw[<-z];exact(jS _ d).1
 have hdb:=dO (Nat.le_of_dvd ω O);have A:=lj (n:=d) (k:=34359738368) ω δ;have Y:=lj (n:=(coP t i).den) (k:=34359738368) ω δ;have m:=dk (nQ d) (nQ (coP t i).den) ω;have r:=wW d (coP t i).den ω ω;have v:Nat.gcd d (coP t i).den≠0:=by have:=Nat.gcd_pos_of_pos_left (coP t i).den (Nat.pos_of_ne_zero y);omega
 have U:=E8 d (coP t i).den;have V:=lj (n:=Nat.gcd d (coP t i).den) (k:=34359738368) ω δ;have K:=cx (nQ d) (nQ (coP t i).den);rw[JL] at K m;have E:=iT (nQ (d* (coP t i).den)) (nQ (Nat.gcd d (coP t i).den)) (λe=>v (nQ_zero.1 e)) ω;rw[Ab _ _ v,yB _ _ v (Nat.dvd_mul_right_of_dvd (Nat.gcd_dvd_left _ _) _)] at E;refine ac (ah (s_r 4 ?_));refine bm (.index_a rfl rfl ω (l i a) rfl te_62.h) rfl rfl ?_;refine bm (.load_a rfl (l i a) TG.h TS.h (nle rfl)) rfl rfl ?_;refine a_z ?_;refine r_d aX 10 ?_;refine c_s (Kv (coP t i) (by unfold sm;omega)) ?_;refine c_s (m) ?_;refine c_s (Kv (coP t i) (by unfold sm;omega)) ?_;refine c_s (r) ?_;refine c_s (E) ?_;refine a_1 ?_;refine aq (n_k ?_);refine r_m 2 ?_;refine a_z ?_;refine⟨(i+1,Nat.lcm d (coP t i).den),by simp only;omega,⟨a,Gi y L,z⟩,?_⟩;simp only[prS.eq_1];exact s_e []
 have o:i=t.length:=by
  have:¬i< t.length:=by simpa using h
  omega
 subst o;rw[List.drop_length] at z;refine ax ⟨(),trivial,?_⟩;rw[<-z];exact s_e [];rintro _ _;refine ac (r_z 3 ?_);refine aC (λ_:Unit=>⟨[(0,.arr (pE t)),(3,.lptr 1 0 0),(4,.lptr 2 0 0)],[(1,some ⟨42,3,[qC (nQ D)]⟩),(2,some ⟨42,3,[qC (nQ N)]⟩)],3,47⟩) (λ_=>True) ?_ ?_;refine ah (ay (prT t D) (λx=>t.length- x.1) (λx=>x.1<=t.length/\bl x.2<=s+bl D/\iO D (t.drop x.1) x.2=N) (0,0) ⟨Nat.zero_le _,by rw[G5];exact Nat.zero_le _,by rw[T];rfl⟩ ?_ ?_);simp only[prT.eq_1];exact s_e [];rintro⟨i,n⟩ ⟨u,W,w⟩;simp only at u W w;rw[prT.eq_1];refine r_z 1 ?_;refine ac (ar rfl (λh=>?_) (λh=>?_));refine aj ?_;have a:i< t.length:=by simpa using h
 have hc:=f _ (g i a);rw[o8 a] at w;have hib:=Aj (coP t i) D;have U:=E8 n (gT (coP t i) D);have A:=lj (n:=D) (k:=34359738368) ω δ;have m:=dk (coP t i) (nQ D) ω;have B:=tF (coP t i* nQ D);rw[nZ _ _ (F _ (g i a))] at B;have r:=wW n (gT (coP t i) D) ω ω;refine ac (ah (s_r 4 ?_));refine bm (.index_a rfl rfl ω (l i a) rfl te_62.h) rfl rfl ?_;refine bm (.load_a rfl (l i a) TG.h TS.h (nle rfl)) rfl rfl ?_;refine a_z ?_;refine r_d aX 7 ?_;refine c_s (m) ?_;refine c_s (B) ?_;refine c_s (r) ?_;refine a_1 ?_;refine aq (n_k ?_);refine r_m 2 ?_;refine a_z ?_;refine⟨(i+1,Nat.gcd n (gT (coP t i) D)),by simp only;omega,⟨a,by simp only;omega,w⟩,?_⟩;simp only[prT.eq_1];exact s_e []
 have o:i=t.length:=by
  have:¬i< t.length:=by simpa using h
  omega
 subst o;rw[List.drop_length] at w;refine ax ⟨(),trivial,?_⟩;rw[<-w];exact s_e [];rintro _ _;have A:=lj (n:=D) (k:=34359738368) ω δ;have Y:=lj (n:=N) (k:=34359738368) ω δ;have V:=fL (nQ D) (nQ N);refine r_c 6 (iT (nQ D) (nQ N) (λe=>S (nQ_zero.1 e)) ω) ?_;refine c_s (jO t (nQ D/ nQ N) (io f ω) (by unfold sm;omega) ω) ?_;refine a_z ?_;exact ai (t_e (aD _))
end Go.Proofs.YtjmkjicckobojaaGreatDoor
