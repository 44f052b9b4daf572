/- Part Y21 of the proof. -/
import Derived.Test.YtjgokhkahkmpbaaGreatDoorY20
set_option linter.all false
namespace Go.Proofs.YtjgokhkahkmpbaaGreatDoor
open Go.Abs
set_option maxRecDepth 20000
set_option maxHeartbeats 2000000
theorem vw(f:Nat)(p r:Lq)(h:sqfM f p=some r):FS 266 [.arr (pE p)] (.arr (pE r)):=by
 unfold sqfM at h;split at h
 case isFalse=>cases h
 case isTrue hs=>
 obtain⟨g,hg,hr⟩:=Option.bind_eq_some_iff.1 h;split at hr
 case isFalse=>cases hr
 case isTrue hg2=>
 cases hr;have hdl:=se p;have hdv:=uJ (p:=p) (q:=g);refine f_c Tryz.func266 ?_;refine r_z 1 ?_;refine r_c 11 (qZ p hs.1 ω) ?_;refine c_s (HA f p (fc p) g hg hs.2 ω) ?_;refine c_s (qW p g (mxL p) (mxL g) (eb p) (eb g) (dR p) (dR g) hg2.2.1 hg2.1 hs.2 hg2.2.2.2) ?_;refine a_z ?_;refine r_c 3 (uo (kj p g).1 (yd hg2.2 hg2.1).1 ω) ?_;refine a_z ?_;exact an (t_e (aq _))
theorem zW(p:Lq)(hp:p.length<=1099511627776):FS 246 [.arr (pE p)] (i64 (lu p)):=by
 refine f_c Tryz.func246 ?_;refine r_z 1 ?_;refine ac (r_c 3 (cK p hp) ?_);refine a_z ?_;refine aG (λ_:Unit=>⟨[],[],1,12⟩) (λ_=>lu p=0) ?_ ?_;refine ak (r_z 3 ?_);refine aw rfl (λh=>?_) (λh=>?_);have h1:db p< 0:=by simpa using h
 refine r_z 1 ?_;refine an (aR rfl ?_ ?_);unfold lu;rw[if_pos h1];rfl;exact ag _;have h1:¬db p< 0:=by simpa using h
 refine r_z 3 ?_;refine aw rfl (λh2=>?_) (λh2=>?_);have h3:40< db p:=by simpa using h2
 refine r_z 1 ?_;refine an (aR rfl ?_ ?_);unfold lu;rw[if_neg h1,if_pos h3];rfl;exact ag _;have h3:¬40< db p:=by simpa using h2
 refine am ⟨(),by unfold lu;rw[if_neg h1,if_neg h3],?_⟩;exact s_e [];rintro _ hl;refine r_z 1 ?_;refine an (aR rfl ?_ ?_);rw[hl];rfl;exact ag _
def boS(t:Lq)(l:Lq):Nat×Rat->AState
 |(i,m)=>⟨[(0,.arr (pE t)),(2,.lptr 1 0 0),(3,.lptr 2 0 0),(13,.arr (pE l)),(14,i64 l.length),(15,i64 i)],[(1,some ⟨42,3,[zC]⟩),(2,some ⟨42,3,[qC m]⟩)],3,31⟩
theorem Ab(p:Lq)(h:sH p)(h0:aA p≠[]):FS 271 [.arr (pE p)] (.agg (qC (iY p))):=by
 obtain⟨hsz,hpl⟩:=h;obtain⟨t,ht⟩:∃t,t=aA p:=⟨_,rfl⟩;have htr:=dT p ω;have htl:=cv p;rw[<-ht] at htr htl;obtain⟨l,hl⟩:∃l,l=t.take (t.length- 1):=⟨_,rfl⟩;have hll:l.length=t.length- 1:=by rw[hl];simp
 have hbl:bdL l (mxL p):=λq hq=>eb p q (dy (by rw[<-ht];exact List.mem_of_mem_take (by rw[<-hl];exact hq)));have hpos:0< t.length:=by rw[ht];exact List.length_pos_iff.2 h0
 have hlead:bu t=bu p:=by rw[ht,BI]
 have hlb:qs (bu p)<=mxL p:=by
  obtain⟨n,hn⟩:∃n,(aA p).length=n+1:=⟨(aA p).length- 1,by rw[<-ht];omega⟩;exact eb p _ (dy (List.mem_of_getElem? (gq hn)))
 have hb:iY p=boL (bu p) l 0+1:=by unfold iY;rw[<-ht,<-hl]
 rw[hb];obtain⟨B,hB⟩:∃B,B=boL (bu p) l 0:=⟨_,rfl⟩;rw[<-hB];refine f_c Tryz.func271 ?_;refine r_z 1 ?_;refine r_c 3 (htr) ?_;refine a_z ?_;refine r_z 3 ?_;refine ac (s_r 7 ?_);refine a_4 ?_;refine o_0 (.sa_h rfl rfl (h:=t.length- 1) ω ψ te_30.h (fl _)) ?_;refine a_z ?_;refine aG (λ_:Unit=>⟨[(2,.lptr 1 0 0),(3,.lptr 2 0 0)],[(1,some ⟨42,3,[zC]⟩),(2,some ⟨42,3,[qC B]⟩)],3,31⟩) (λ_=>qs B<=2* mxL p+1) ?_ ?_;refine ak (aC (boS t l) (λx=>l.length- x.1) (λx=>x.1<=l.length/\qs x.2<=2* mxL p+1/\boL (bu p) (l.drop x.1) x.2=B) (0,0) ⟨Nat.zero_le _,Nat.le_trans (by decide:qs 0<=1) (Nat.le_add_left 1 _),by rw[hB];rfl⟩ ?_ ?_);simp only[boS.eq_1];rw[qC0];have e13:AV.arr (List.take (t.length- 1) (pE t))=AV.arr (pE l):=by rw[hl,li]
 refine s_x [(1,2),(2,3)] (λhs=>?_) (λhs=>?_) ?_
 ·repeat' (first|exact aF|refine aj rfl ?_ ?_|exact Cv.loE hs e13 (e13▸aq l)|exact aX|(refine Cv.loE hs ?_ (ag _);first|rfl|(simp[i64,u64,u32,bln,hll];done)|(simp[i64,u64,u32,bln,hll]<;> omega)))
 ·repeat' (first|exact aD|refine h_c ?_ ?_|exact bG|(refine aI hs ?_ (aJ _);first|(simp[j5,vZ,hll];done)|(simp[pE,ofV,hll];done))|refine ay ?_|exact ax|refine af ?_ ?_|exact Cv.loE hs e13 (e13▸aq l)|exact aX|(refine Cv.loE hs ?_ (ag _);first|(simp[i64,u64,u32,bln,hll];done)|(simp[i64,u64,u32,bln,hll]<;> omega)))
 ·repeat' (first|exact ShrL.nil|refine ShrL.cons rfl rfl rfl rfl (by first|rfl|(simp;done)|(simp[hll]<;> omega)) ?_)
 rintro⟨i,m⟩ ⟨hi,hm,hbo⟩;simp only at hi hm hbo;rw[boS.eq_1];refine r_z 1 ?_;refine ac (aw rfl (λh=>?_) (λh=>?_));refine am ?_;have hlt:i< l.length:=by simpa using h
 have hgt:(pE l)[((i:Nat):Int).toNat]?=some (qC (coP l i)):=cj (bJ hlt);have hc:qs (coP l i)<=mxL p:=hbl _ (List.mem_of_getElem? (bJ hlt));rw[gP hlt] at hbo;have hq:=fu (coP l i) (bu p);have hle:=lI t ω;rw[hlead] at hle;have hqa:=qs_abs (coP l i/ bu p)
 have hbm:bdL [m,c8 (coP l i/ bu p)] (2* mxL p+1):=by
  intro x hx;rcases List.mem_cons.1 hx with rfl|hx
  exact hm;rw[List.mem_singleton.1 hx];omega
 have hmx:=uA [m,c8 (coP l i/ bu p)] (vj hbm ω) ψ;refine ac (ak (s_r 4 ?_));refine i_x hgt ?_;refine l_x hgt ?_;refine a_z ?_;refine r_d hmix 9 ?_;refine c_s (hle) ?_;refine c_s (fP (coP l i) (bu p) (pD h0) ω) ?_;refine c_s (eY (coP l i/ bu p)) ?_;refine a_1 ?_;refine o_1 (.callS1 rfl rfl rfl (.shut rfl d_n (.nil)) rfl (hmx)) ?_;refine a_1 ?_;refine ao (n_k ?_);refine r_m 2 ?_;refine a_z ?_;refine⟨(i+1,oc [m,c8 (coP l i/ bu p)]),by simp only;omega,⟨hlt,maxL_le hbm (Nat.le_add_left 1 _),hbo⟩,?_⟩;simp only[boS.eq_1];exact s_e []
 have hge:i=l.length:=by
  have:¬i< l.length:=by simpa using h
  omega
 subst hge;rw[List.drop_length] at hbo;have hbo':m=B:=hbo;subst hbo';refine aB ⟨(),hm,?_⟩;exact s_e [];rintro _ hq;have h1:qs 1=1:=δ
 refine ac (r_d hmix 4 ?_);refine c_s (df 1 δ) ?_;refine c_s (fz B 1 ω) ?_;refine a_1 ?_;refine ao (n_k ?_);exact an (c_e (aS _))
def stS:Lq×Lw->AState
 |(next,acc)=>⟨[(3,.lsl 1 0 acc.length none 1),(4,.arr (pE next))],[(1,some ⟨30,1,cE acc⟩)],2,40⟩
theorem Bc(next:Lq)(acc:Lw):stS (next,acc)=⟨[(3,.lsl 1 0 acc.length none 1),(4,.arr (pE next))],[(1,some ⟨30,1,cE acc⟩)],2,40⟩:=rfl
theorem Ej(p:Lq):(eD p).length<=p.length:=
 Nat.le_trans (eB _ _) (cv p)
theorem He(f:Nat)(p:Lq)(r:Lw)(h:Ba f p=some r)(hf:f<=1000000):FS 267 [.arr (pE p)] (.arr (cE r)):=by
 unfold Ba at h;split at h
 case isFalse=>cases h
 case isTrue hp=>
 have hdl:=se p;have hpl:=hp.2.1.2;refine f_c Tryz.func267 ?_;refine r_z 1 ?_;refine r_c 4 (pS p hp.2.1 hp.2.2) ?_;refine a_z ?_;refine ac (r_c 3 (qZ p hp.1 ω) ?_);refine a_z ?_;refine aG (λ_:Unit=>⟨[(3,.lsl 1 0 r.length none 1)],[(1,some ⟨30,1,cE r⟩)],2,40⟩) (λ_=>True) ?_ ?_
 ·refine ak (aC (λx:Nat×Lq×Lq×Lw=>stS x.2.2) (λx=>x.1) (λx=>yp f x.1 x.2.1 x.2.2.1 x.2.2.2=some r/\x.2.2.1.length<=274877906944/\x.2.2.2.length+x.1<=1000001/\1<=x.2.2.2.length/\x.2.2.2[x.2.2.2.length- 1]?=some x.2.1) (f,eD p,fc p,[eD p]) ⟨h,by simp only;omega,by simp only[List.length_singleton];omega,ψ,rfl⟩ ?_ ?_)
  simp only[Bc];have:=eO [eD p];exact s_f [(1,3)];rintro⟨k,last,next,acc⟩ ⟨h,hn,hk,ha1,hla⟩;simp only at h hn hk ha1 hla;simp only[Bc];cases k with
  |zero=>cases h
  |succ k=>
   rw[yp] at h;refine ac (r_c 3 (cK next ω) ?_);refine a_z ?_;refine aw rfl (λh1=>?_) (λh1=>?_)
   ·have h0:aA next≠[]:=by
     intro e;have e2:=degP_neg.2 e;simp at h1;omega
    rw[if_neg h0] at h;split at h
    case isFalse=>cases h
    case isTrue hs=>
    have hpn:=Ej next
    have hdv:=uJ (p:=last) (q:=eD next);have hsl:=eB (kj last (eD next)).2 (-1);have hl2:=hs.2.1.2.1
    have hg1:(cE (acc++[eD next]))[0+(((acc.length+1:Nat):Int)- 2).toNat]?=some [.arr (pE last)]:=by
     rw[show 0+(((acc.length+1:Nat):Int)- 2).toNat=acc.length- 1 by omega];exact vg (by rw[List.getElem?_append_left ω];exact hla)
    have hg2:(cE (acc++[eD next]))[0+(((acc.length+1:Nat):Int)- 1).toNat]?=some [.arr (pE (eD next))]:=by
     rw[show 0+(((acc.length+1:Nat):Int)- 1).toNat=acc.length by omega];exact vg ψ
    refine am (ak (r_c 6 (pS next hs.1 h0) ?_));refine a_z ?_;refine AWp.ent (st':=⟨[(3,.lsl 1 0 (acc.length+1) none 1)],[(1,some ⟨30,1,cE (acc++[eD next])⟩)],2,40⟩) ?_ ?_
    ·have:=(yr acc (eD next)).symm
     exact s_f [(1,3)]
    refine ac (r_d hmix 18 ?_);refine a_5 ?_
    first|refine av (.load_l1 rfl rfl hg1 TG.h rfl) rfl rfl ?_|refine av (.load_a1 rfl hg1 TG.h rfl) rfl rfl ?_
    refine a_5 ?_
    first|refine av (.load_l1 rfl rfl hg2 TG.h rfl) rfl rfl ?_|refine av (.load_a1 rfl hg2 TG.h rfl) rfl rfl ?_
    refine c_s (qW last (eD next) (mxL last) (mxL (eD next)) (eb _) (eb _) (dR _) (dR _) hs.2.1.1 hs.2.2 hs.2.1.2.1 hs.2.1.2.2) ?_;refine a_5 ?_;refine ao (n_k ?_);refine r_m 4 ?_;refine c_s (df (-1) δ) ?_;refine c_s (iH (kj last (eD next)).2 (-1) (yd hs.2.1 hs.2.2).2 δ ω) ?_;refine a_z ?_;refine⟨(k,eD next,cI (kj last (eD next)).2 (-1),acc++[eD next]),Nat.lt_succ_self k,⟨h,by simp only;omega,by simp only[List.length_append,List.length_singleton];omega,ψ,ψ⟩,?_⟩;have hla:(acc++[eD next]).length=acc.length+1:=ψ
    simp only[Bc,hla];exact s_f []
   ·have h0:aA next=[]:=by
     refine degP_neg.1 ?_;simp at h1;omega
    rw[if_pos h0] at h;cases h;refine aB ⟨(),trivial,?_⟩;exact s_f []
 rintro _ _;refine r_z 2 ?_;exact an (Fin.tmpS rfl rfl rfl ψ (eO r))
def chS(ch:Lw)(g:Nat)(cap:La):Nat×Int×Int->AState
 |(i,n,last)=>⟨[(1,.clos g [] cap),(5,i64 n),(6,i64 last),(10,.arr (cE ch)),(11,i64 ch.length),(12,i64 i)],[],1,30⟩
theorem uw(ch:Lw)(g:Nat)(cap:La)(sg:Lq->Int)(hcap:∀c∈cap,Closed c)(hsg:∀q∈ch,-1<=sg q/\sg q<=1)(hl:ch.length<=274877906944)(hg:∀q∈ch,FS g ((.arr (pE q)::cap).map coe) (i64 (sg q))):FS 268 [.arr (cE ch),.clos g [] cap] (i64 (chL (ch.map sg) 0 0)):=by
 refine f_n Tryz.func268 ?_ ?_;exact ae (fH ch) (ae (aY ai hcap) ai);refine r_z 1 ?_;refine r_z 2 ?_;refine ac (r_z 3 ?_);obtain⟨R,hR⟩:∃R,R=chL (ch.map sg) 0 0:=⟨_,rfl⟩;rw[<-hR];refine aG (λ_:Unit=>⟨[(5,i64 R)],[],1,30⟩) (λ_=>True) ?_ ?_;refine ak (aC (chS ch g cap) (λx=>ch.length- x.1) (λx=>x.1<=ch.length/\0<=x.2.1/\x.2.1<=x.1/\ -1<=x.2.2/\x.2.2<=1/\chL ((ch.drop x.1).map sg) x.2.1 x.2.2=R) (0,0,0) ⟨Nat.zero_le _,δ,δ,δ,δ,by rw[hR];rfl⟩ ?_ ?_);simp only[chS.eq_1];exact s_x [] (λhs=>e_6) (λhs=>e_9);rintro⟨i,n,last⟩ ⟨hi,hn0,hn1,hl0,hl1,hc⟩;simp only at hi hn0 hn1 hl0 hl1 hc;rw[chS.eq_1];refine r_z 1 ?_;refine ac (aw rfl (λh=>?_) (λh=>?_));refine am ?_;have hlt:i< ch.length:=by simpa using h
 obtain⟨q,hq⟩:∃q,ch[i]?=some q:=⟨_,List.getElem?_eq_getElem hlt⟩;have hqm:=List.mem_of_getElem? hq;have hgt:(cE ch)[((i:Nat):Int).toNat]?=some [.arr (pE q)]:=vg hq
 have hd:ch.drop i=q::ch.drop (i+1):=by
  rw[List.drop_eq_getElem_cons hlt];rw[List.getElem?_eq_getElem hlt] at hq;rw[Option.some.inj hq]
 rw[hd,List.map_cons,chL] at hc;have hs2:=hsg q hqm;refine ac (ak (s_r 3 ?_));refine i_x hgt ?_;refine l_1 hgt ?_;refine a_z ?_;refine r_c 4 (hg q hqm) ?_;refine a_z ?_;refine r_z 2 ?_;refine aw rfl (λh1=>?_) (λh1=>?_);have hne:sg q≠0:=by simpa using h1
 rw[if_pos hne] at hc;refine ac (r_z 4 ?_);refine aw rfl (λh2=>?_) (λh2=>?_);have he:sg q= -last:=by simpa using h2
 rw[if_pos he] at hc;refine r_m 3 ?_;refine a_z ?_;refine r_m 2 ?_;refine a_z ?_;refine r_m 2 ?_;refine a_z ?_;refine⟨(i+1,n+1,sg q),by simp only;omega,⟨hlt,by simp only;omega,by simp only;omega,hs2.1,hs2.2,hc⟩,?_⟩;simp only[chS.eq_1];exact s_x [] (λhs=>e_6) (λhs=>e_9);have he:¬sg q= -last:=by simpa using h2
 rw[if_neg he] at hc;refine am (r_m 2 ?_);refine a_z ?_;refine r_m 2 ?_;refine a_z ?_;refine⟨(i+1,n,sg q),by simp only;omega,⟨hlt,hn0,by simp only;omega,hs2.1,hs2.2,hc⟩,?_⟩;simp only[chS.eq_1];exact s_x [] (λhs=>e_6) (λhs=>e_9);have hne:sg q=0:=by simpa using h1
 rw[if_neg (λe=>e hne)] at hc;refine am (r_m 2 ?_);refine a_z ?_;refine⟨(i+1,n,last),by simp only;omega,⟨hlt,hn0,by simp only;omega,hl0,hl1,hc⟩,?_⟩;simp only[chS.eq_1];exact s_x [] (λhs=>e_6) (λhs=>e_9)
 have hge:i=ch.length:=by
  have:¬i< ch.length:=by simpa using h
  omega
 subst hge;rw[List.drop_length] at hc;have hc':n=R:=hc;subst hc';refine aB ⟨(),trivial,?_⟩;exact s_e [];rintro _ _;refine r_z 2 ?_;exact an (t_e (ag _))
theorem Ca(q:Lq)(h0:aA q≠[])(hl:q.length<=274877906944):FS 269 [.arr (pE q)] (i64 (sgI q)):=by
 have hd:¬db q< 0:=λe=>h0 (degP_neg.1 e);have hb:=w4 (bu q).num;refine f_c Tryz.func269 ?_;refine r_z 1 ?_;refine ac (r_c 4 (cK q ω) ?_);refine a_z ?_;refine aw rfl (λh=>?_) (λh=>?_);have h1:db q % 2=1:=by simpa using h
 refine r_c 5 (lI q ω) ?_;refine c_s (cb (bu q)) ?_;refine a_z ?_;refine an (aR rfl ?_ ?_);unfold sgI;rw[if_pos h1];rfl;exact ag _;have h1:¬db q % 2=1:=by simpa using h
 refine am (r_c 4 (lI q ω) ?_);refine c_s (cb (bu q)) ?_;refine a_z ?_;refine an (aR rfl ?_ ?_);unfold sgI;rw[if_neg h1];exact ag _
theorem ny(f:Nat)(p:Lq)(c:Cnt)(h:fS f p=some c)(hf:f<=1000000):FS 247 [.arr (pE p)] (kA c):=by
 unfold fS at h;obtain⟨s,hs,h2⟩:=Option.bind_eq_some_iff.1 h;obtain⟨ch,hch,h3⟩:=Option.bind_eq_some_iff.1 h2;split at h3
 case isFalse=>cases h3
 case isTrue hk=>
 cases h3;have hcs:=uw ch 269 [] sgI ai (λq _=>sgI_abs q) hk.2.1 (λq hq=>Ca q (hk.1 q hq).1 (hk.1 q hq).2);refine f_c Tryz.func247 ?_;refine r_z 1 ?_;refine r_c 5 (vw f p s hs) ?_;refine a_z ?_;refine r_c 9 (He f s ch hch hf) ?_;refine a_z ?_;refine r_c 9 (hcs) ?_;refine a_z ?_;refine r_z 2 ?_;exact an (Fin.tmpP rfl rfl rfl (wB _))
theorem Hc(q:Lq)(x:Rat)(h:ea q x):FS 270 [.arr (pE q),bQ x] (i64 (sgE x q)):=by
 refine f_c Tryz.func270 ?_;refine r_z 1 ?_;refine r_c 5 (e8 q x h) ?_;refine c_s (cb (aO q x)) ?_;refine a_z ?_;exact an (t_e (ag _))
theorem lG(c:Cnt)(x:Rat)(h:sh c x):FS 249 [kA c,.agg (qC x)] (i64 (fo c x)):=by
 have hcs:=uw c.ch 270 [bQ x] (sgE x) (ae (aT x) ai) (λq _=>w4 _) h.1.2.1 (λq hq=>Hc q x (h.2 q hq));have hb:=oU (x:=x) h.1;unfold fo at hb⊢;refine f_c Tryz.func249 ?_;refine r_z 2 ?_;refine AWp.ent (st':=⟨[(0,kA c),(3,bQ x)],[],1,16⟩) ?_ ?_;exact s_e [];refine ac (r_d hmix 12 ?_);refine c_s (hcs) ?_;refine a_2 ?_;refine ao (n_k ?_);exact an (t_e (ag _))
theorem kL(c:Cnt)(x:Rat)(h:pv c x):FS 248 [kA c,.agg (qC x)] (i64 (cG c x)):=by
 have hb:=oU (x:=x) h.1.1;refine f_c Tryz.func248 ?_;refine r_z 2 ?_;refine r_c 4 (lG c x h.1) ?_;refine a_z ?_;refine bi (λn:Int=>⟨[(5,i64 n)],[],1,20⟩) (λn=>n=cG c x) ?_ ?_;refine ac (r_d hmix 8 ?_);refine c_s (e8 c.p x h.2) ?_;refine c_s (cb (aO c.p x)) ?_;refine a_1 ?_;refine ao (n_k ?_);refine aw rfl (λh1=>?_) (λh1=>?_)
 have h0:aO c.p x=0:=by
  have:sgZ (aO c.p x).num=0:=by simpa using h1
  exact sgZ_num_eq.1 this
 refine r_m 3 ?_;refine a_z ?_;refine⟨fo c x- 1,by unfold cG;rw[if_pos h0],?_⟩;exact s_e []
 have h0:aO c.p x≠0:=by
  intro e;have:¬sgZ (aO c.p x).num=0:=by simpa using h1
  exact this (sgZ_num_eq.2 e)
 refine am ⟨fo c x,by unfold cG;rw[if_neg h0],?_⟩;exact s_e [];rintro n rfl;refine r_z 2 ?_;exact an (t_e (ag _))
theorem fs_all(c:Cnt)(h:GE c):FS 251 [kA c] (i64 (Fj c)):=by
 refine f_c Tryz.func251 ?_;refine r_z 1 ?_;refine r_c 8 (Ab c.p h.1 h.2.1) ?_;refine c_s (lG c (iY c.p) h.2.2) ?_;refine a_z ?_;exact an (t_e (ag _))
theorem xH(c:Cnt)(i:Int)(x:Rat)(h:pv c x):FS 274 [plA c i,.agg (qC x)] (i64 (plC c i x)):=by
 refine f_n Tryz.func274 ?_ ?_;exact ae (dh c i) (ae (aS x) ai);refine r_z 2 ?_;refine ac (ac (r_d hmix 7 ?_));refine c_s (kL c x h) ?_;refine a_1 ?_;refine ao (n_k ?_);refine aG (λ_:Unit=>⟨[],[],1,36⟩) (λ_=>plC c i x=1) ?_ ?_;refine ak (r_z 7 ?_);refine aw rfl (λh1=>?_) (λh1=>?_);have h2:i< cG c x:=by simpa using h1
 refine r_z 1 ?_;refine an (aR rfl ?_ ?_);unfold plC;rw[if_pos h2];rfl;exact ag _;have h2:¬i< cG c x:=by simpa using h1
 by_cases h3:cG c x=i;refine ac (r_d hmix 17 ?_);refine a_7 ?_;refine y_g rfl (by simp[h3]) (.move rfl) ?_;refine y_g rfl (by simp[h3]) (.nilCheck rfl rfl) ?_
 first|refine y_g rfl (by simp[h3]) (.fieldAddr_l rfl TF.h δ) ?_|refine y_g rfl (by simp[h3]) (.fieldAddr_a rfl TF.h δ) ?_
 first|refine y_g rfl (by simp[h3]) (.load_l1 rfl rfl rfl TG.h rfl) ?_|refine y_g rfl (by simp[h3]) (.load_a1 rfl rfl TG.h rfl) ?_
 first|refine y_g rfl (by simp[h3]) (.load_l rfl rfl rfl TG.h TS.h (nle rfl)) ?_|refine y_g rfl (by simp[h3]) (.load_a rfl rfl TG.h TS.h (nle rfl)) ?_
 refine y_g rfl (by simp[h3]) (.call rfl rfl rfl (lG c x h.1)) ?_;refine y_g rfl (by simp[h3]) (.move rfl) ?_;refine y_g rfl (by simp[h3]) (.bin rfl rfl ct) ?_;refine o_0 (.pickT rfl (by simp[h3]) rfl) ?_;refine a_1 ?_;refine ao (n_k ?_);refine aw rfl (λh4=>?_) (λh4=>?_);have h5:cG c x< fo c x:=by simpa using h4
 refine r_z 1 ?_;refine an (aR rfl ?_ ?_);unfold plC;rw[if_neg h2,if_pos ⟨h3,h5⟩];rfl;exact ag _;have h5:¬cG c x< fo c x:=by simpa using h4
 refine am ⟨(),by unfold plC;rw[if_neg h2,if_neg λe=>h5 e.2],?_⟩;exact s_e [];refine ac (r_d hmix 17 ?_);refine a_7 ?_;refine n_g rfl (by simp[h3]) ?_;refine n_g rfl (by simp[h3]) ?_;refine n_g rfl (by simp[h3]) ?_;refine n_g rfl (by simp[h3]) ?_;refine n_g rfl (by simp[h3]) ?_;refine n_g rfl (by simp[h3]) ?_;refine n_g rfl (by simp[h3]) ?_;refine n_g rfl (by simp[h3]) ?_;refine o_0 (.pickF rfl (by simp[h3]) rfl) ?_;refine a_1 ?_;refine ao (n_k ?_);refine cF ?_;refine am ⟨(),by unfold plC;rw[if_neg h2,if_neg λe=>h3 e.1],?_⟩;exact s_e [];rintro _ hr;refine r_z 1 ?_;refine an (aR rfl ?_ ?_);rw[hr];rfl;exact ag _
def hiV(c:Cnt)(step:Rat):Rat:=vf (iY c.p/ step)
def GC(c:Cnt)(step:Rat)(lo:Rat):Prop:=sH c.p/\aA c.p≠[]/\step≠0/\qs (iY c.p)+qs step<=549755813888/\qs lo+qs step<=549755813888/\pv c (lo* step)
instance (c:Cnt) (step lo:Rat):Decidable (GC c step lo):=inferInstanceAs (Decidable (_/\_/\_/\_/\_/\_))
def HM(f:Nat)(c:Cnt)(i:Int)(step:Rat):Option (Rat×Bool):=
 (biM c i step f (-hiV c step) (hiV c step)).bind λlo=>if GC c step lo then some (lo* step,plC c i (lo* step)==0) else none
def dnS(c:Cnt)(i:Int)(step:Rat):Rat×Rat->AState
 |(lo,hi)=>⟨[(0,plA c i),(3,.lptr 1 0 0),(4,.lptr 2 0 0),(6,.lptr 3 0 0),(7,.lptr 4 0 0),(8,.lptr 5 0 0)],[(1,some ⟨42,3,[qC step]⟩),(2,some ⟨42,3,[zC]⟩),(3,some ⟨42,3,[qC hi]⟩),(4,some ⟨42,3,[qC lo]⟩),(5,some ⟨42,3,[qC 2]⟩)],6,52⟩
theorem fs_down(f:Nat)(c:Cnt)(i:Int)(step:Rat)(r:Rat×Bool)(h:HM f c i step=some r):FS 259 [plA c i,.agg (qC step)] (.tup [.agg (qC r.1),bln r.2]):=by
 unfold HM at h;obtain⟨l,hl,h2⟩:=Option.bind_eq_some_iff.1 h;split at h2
 case isFalse=>cases h2
 case isTrue hk=>
 cases h2;obtain⟨k1,k2,k3,k4,k5,k6⟩:=hk;have hq:=fu (iY c.p) step;refine f_n Tryz.func259 ?_ ?_;exact ae (dh c i) (ae (aS step) ai);refine r_z 3 ?_;refine ac (r_d hmix 13 ?_);refine c_s (Ab c.p k1 k2) ?_;refine c_s (fP (iY c.p) step k3 k4) ?_;refine c_s (DR (iY c.p/ step) ω) ?_;refine a_2 ?_;refine ao (n_k ?_);refine r_c 4 (jG (vf (iY c.p/ step))) ?_;refine a_z ?_;refine r_c 3 (df 2 δ) ?_;refine a_z ?_;refine bi (λhi:Rat=>dnS c i step (l,hi)) (λ_=>True) ?_ ?_
 ·refine ak (aC (λx:Nat×Rat×Rat=>dnS c i step x.2) (λx=>x.1) (λx=>biM c i step x.1 x.2.1 x.2.2=some l) (f,-hiV c step,hiV c step) hl ?_ ?_)
  simp only[dnS.eq_1,hiV];exact s_e [(2,4),(3,6),(4,7),(5,8)];rintro⟨f,lo,hi⟩ h;simp only at h;simp only[dnS.eq_1];cases f with
  |zero=>cases h
  |succ f=>
   rw[biM] at h;split at h
   case isFalse=>cases h
   case isTrue hs=>
   obtain⟨s1,s2,s3⟩:=hs;refine ac (r_c 6 (gO hi lo (sm2 s2 s1)) ?_);refine c_s (df 1 δ) ?_;refine c_s (ej (hi- lo) 1 s3 δ) ?_;refine a_z ?_;refine aw rfl (λh1=>?_) (λh1=>?_)
   ·have h2:0< dr (hi- lo) 1:=by simpa using h1
    rw[if_pos h2] at h;split at h
    case isFalse=>cases h
    case isTrue ht=>
    obtain⟨t1,t2⟩:=ht;have hq1:=qD lo hi;have hq2:qs 2=2:=δ
    have hq3:=fu (lo+hi) 2;unfold sm at s1 s2;refine am (ak (ac (r_d hmix 8 ?_)));refine c_s (fz lo hi ω) ?_;refine c_s (fP (lo+hi) 2 δ ω) ?_;refine c_s (pU ((lo+hi) / 2) ω) ?_;refine a_2 ?_;refine ao (n_k ?_);refine r_c 6 (dq (((lo+hi) / 2).floor:Rat) step t1) ?_;refine c_s (xH c i ((((lo+hi) / 2).floor:Rat) * step) t2) ?_;refine a_z ?_;refine aw rfl (λh3=>?_) (λh3=>?_);have h4:0<=plC c i ((((lo+hi) / 2).floor:Rat) * step):=by simpa using h3
    rw[if_pos h4] at h;refine r_m 2 ?_;refine a_z ?_;refine⟨(f,(((lo+hi) / 2).floor:Rat),hi),Nat.lt_succ_self f,h,?_⟩;simp only[dnS.eq_1];exact s_e [];have h4:¬0<=plC c i ((((lo+hi) / 2).floor:Rat) * step):=by simpa using h3
    rw[if_neg h4] at h;refine r_m 2 ?_;refine a_z ?_;refine⟨(f,lo,(((lo+hi) / 2).floor:Rat)),Nat.lt_succ_self f,h,?_⟩;simp only[dnS.eq_1];exact s_e []
   have h2:¬0< dr (hi- lo) 1:=by simpa using h1
   rw[if_neg h2] at h;cases h;refine aB ⟨hi,trivial,?_⟩;simp only[dnS.eq_1];exact s_e []
 rintro hi _;simp only[dnS.eq_1];refine r_c 4 (dq l step k5) ?_;refine a_z ?_;refine ac (r_d hmix 7 ?_);refine c_s (xH c i (l* step) k6) ?_;refine a_3 ?_;refine ao (n_k ?_);refine an (Fin.many ⟨_,_,rfl,⟨_,_,_,_,_,rfl,rfl,rfl,.inl ⟨TG.h,_,TS.h,nle rfl,rfl⟩⟩,⟨_,_,rfl,rfl,rfl⟩⟩ (nle rfl) ?_);exact af (ah aE (aS _)) (af (ah aE (ag _)) ax)
def tn(f:Nat)(c:Cnt)(i:Int)(k:Int):Option Sp:=
 (HM f c i (cw (wi k 256))).bind λr=>if r.2 then some (r.1,r.1) else if qs r.1+qs (cw (wi k 256))<=549755813888 then some (r.1,r.1+cw (wi k 256)) else none
theorem fs_span(f:Nat)(c:Cnt)(i:Int)(k:Int)(s:Sp)(h:tn f c i k=some s):FS 236 [plA c i,i64 k] (.agg (spC s.1 s.2)):=by
 unfold tn at h;obtain⟨⟨at',ex⟩,hd,h2⟩:=Option.bind_eq_some_iff.1 h;refine f_n Tryz.func236 ?_ ?_;exact ae (dh c i) (ae (ag _) ai);refine r_z 1 ?_;refine r_c 4 (jk k) ?_;refine a_z ?_;refine r_c 9 (fs_down f c i (cw (wi k 256)) (at',ex) hd) ?_;refine a_z ?_;refine ac (r_z 1 ?_);refine aw rfl (λh1=>?_) (λh1=>?_);subst h1;rw[if_pos rfl] at h2;cases h2;refine r_c 3 (Aj at') ?_;refine a_z ?_;exact an (c_e (bK _ _))
 ·subst h1
  rw[if_neg (show¬false=true by decide)] at h2;split at h2
  case isFalse=>cases h2
  case isTrue hs=>
  cases h2;refine am (ac (r_d hmix 6 ?_));refine c_s (fz at' (cw (wi k 256)) hs) ?_;refine a_2 ?_;refine ao (n_k ?_);exact an (c_e (bK _ _))
abbrev roA(p:Lq)(i:Int):AV:= .agg [.arr (pE p),i64 i]
theorem ot(p:Lq)(i:Int):Closed (roA p i):=aN (ae (aq p) (ae (ag _) ai))
def n8(f:Nat)(p:Lq):Option Cnt:=if p.length<=274877906944/\lu p=0 then(fS f p).bind λc=>if GE c then some c else none else none
theorem zQ(f:Nat)(p:Lq)(i:Int)(c:Cnt)(h:n8 f p=some c)(hf:f<=1000000)(hi:0<=i):FS 217 [roA p i] (.tup [plA c i,bln (decide (i< Fj c))]):=by
 unfold n8 at h;split at h
 case isFalse=>cases h
 case isTrue hp=>
 obtain⟨c',hc,h2⟩:=Option.bind_eq_some_iff.1 h;split at h2
 case isFalse=>cases h2
 case isTrue hk=>
 cases h2;refine f_n Tryz.func217 ?_ ?_;exact ae (ot p i) ai;refine r_z 3 ?_;refine ac (r_c 9 (zW p ω) ?_);refine a_2 ?_
 first|refine y_g rfl (by simp[hp.2]) (.fieldAddr_l rfl TF.h δ) ?_|refine y_g rfl (by simp[hp.2]) (.fieldAddr_a rfl TF.h δ) ?_
 first|refine y_g rfl (by simp[hp.2]) (.load_l1 rfl rfl rfl TG.h rfl) ?_|refine y_g rfl (by simp[hp.2]) (.load_a1 rfl rfl TG.h rfl) ?_
 refine y_g rfl (by simp[hp.2]) (.bin rfl rfl aZ) ?_;refine o_0 (.pickF rfl (by simp[hp.2]) rfl) ?_;refine ao ?_;refine aw rfl (λh=>?_) (λh=>?_);exact absurd h χ;refine am (ac (r_d hmix 8 ?_));refine c_s (ny f p c hc hf) ?_;refine a_5 ?_;refine ao (n_k ?_);refine ac (r_d hmix 11 ?_);refine c_s (fs_all c hk) ?_;refine a_3 ?_;refine ao (n_k ?_);refine an (Fin.many ⟨_,_,rfl,rfl,⟨_,_,rfl,rfl,rfl⟩⟩ (nle rfl) ?_);exact af (Cv.boxp aE rfl (λ_ _ h=>by cases h) rfl (ae (gu c) (ae (ag _) ai))) (af (ah aE (ag _)) ax)
def my(s:Sp):Rat:=(s.1+s.2) * cw 1
def zw(c:Cnt)(i:Int)(s:Sp):Sp:=if plC c i (my s)=0 then(my s,my s) else if plC c i (my s)=1 then(my s,s.2) else(s.1,my s)
def mr(c:Cnt)(s:Sp):Prop:=smS s/\pv c (my s)
instance (c:Cnt) (s:Sp):Decidable (mr c s):=inferInstanceAs (Decidable (_/\_))
def c9(c:Cnt)(i:Int)(s0:Sp):Nat->Sp
 |0=>s0
 |k+1=>zw c i (c9 c i s0 k)
def closT(c:Cnt)(i:Int)(s0:Sp)(k:Nat):Option La:=some [.agg (spC (c9 c i s0 k).1 (c9 c i s0 k).2)]
abbrev bPl(c:Cnt)(i:Int):AV:= .aptr [[plA c i]] 0 0
theorem dI(c:Cnt)(i:Int):Closed (bPl c i):=aW (ae (dh c i) ai)
theorem qT(f:Nat)(c:Cnt)(i:Int)(s0:Sp)(K:Nat)(h:tn f c i 0=some s0)(hok:∀k,k< K->mr c (c9 c i s0 k)):GSpecB Tryz.prog 273 [bPl c i] (closT c i s0) K:=by
 refine GSpecB.enter Tryz.func273 rfl κ rfl rfl rfl ?_ ?_ rfl ?_;exact ae (dI c i) ai;intro k xs h;cases h;exact ae (bK _ _) ai;intro ll N hN E;refine GWp.seq ?_;refine GWp.lift ?_;refine r_m 4 ?_;refine c_s (fs_span f c i 0 s0 h) ?_;refine a_z ?_;refine GWp.block ?_;refine GWp.loopS (λk:Nat=>⟨[(0,.v (.func (.yield ll) #[] #[])),(1,bPl c i),(3,.lptr 1 0 0)],[(1,some ⟨44,6,[spC (c9 c i s0 k).1 (c9 c i s0 k).2]⟩)],2,25⟩) (λk=>k) (λk=>N+1- k) (λk=>k<=N) 0 (Nat.zero_le _) rfl ?_ ?_;have:=dI c i;exact s_f [(1,3)];intro k hk;refine GWp.seq ?_;refine GWp.seq ?_;refine GWp.regY (fr2:=[(0,.v (.func (.yield ll) #[] #[])),(1,bPl c i),(3,.lptr 1 0 0),(7,.v (.func (.yield ll) #[] #[])),(8,.agg (spC (c9 c i s0 k).1 (c9 c i s0 k).2))]) (hp2:=[(1,some ⟨44,6,[spC (c9 c i s0 k).1 (c9 c i s0 k).2]⟩)]) (nx2:=2) 2 rfl rfl rfl rfl rfl rfl ?_ rfl rfl rfl ?_ ?_ ?_;refine o_0 (.move rfl) ?_
 first|refine av (.load_l rfl rfl rfl TG.h TS.h (nle rfl)) rfl rfl ?_|refine av (.load_a rfl rfl TG.h TS.h (nle rfl)) rfl rfl ?_
 refine ao ?_;exact s_y [] (λhs=>cN) (λhs=>jN);rotate_left 2;intro go;refine ao ?_;rotate_left;rfl;exact ae (bK _ _) ai;cases go with
 |false=>
  refine GWp.cond rfl (λh=>?_) (λh=>?_);cases h;exact GWp.exit ⟨.inl rfl,λh=>by cases h⟩
 |true=>
  refine GWp.bound λhk1=>?_;refine GWp.cond rfl (λh=>?_) (λh=>?_);rotate_left;cases h;refine GWp.skip ?_;have hn:=hok k ω;obtain⟨hs,hb⟩:=hn;have hnx:c9 c i s0 (k+1)=zw c i (c9 c i s0 k):=rfl;obtain⟨s,hsd⟩:∃s,s=c9 c i s0 k:=⟨_,rfl⟩;rw[<-hsd] at hs hb hnx⊢;refine GWp.lift ?_;refine ak (r_c 4 (uy s.1 s.2 hs.1 hs.2) ?_);refine a_z ?_;refine r_c 3 (xH c i (my s) hb) ?_;refine ao ?_;refine ak (r_z 2 ?_);refine aw rfl (λh1=>?_) (λh1=>?_);have h2:plC c i (my s)=0:=by simpa using h1
  have hx:c9 c i s0 (k+1)=(my s,my s):=by rw[hnx];unfold zw;rw[if_pos h2]
  refine r_m 3 ?_;refine c_s (Aj (my s)) ?_;refine a_z ?_;refine⟨rfl,k+1,ω,hk1,rfl,?_⟩;simp only[hx];have:=dI c i;exact s_f [];have h2:¬plC c i (my s)=0:=by simpa using h1
  refine r_z 2 ?_;refine aw rfl (λh3=>?_) (λh3=>?_);have h4:plC c i (my s)=1:=by simpa using h3
  have hx:c9 c i s0 (k+1)=(my s,s.2):=by rw[hnx];unfold zw;rw[if_neg h2,if_pos h4]
  refine r_m 3 ?_;refine a_z ?_;refine⟨rfl,k+1,ω,hk1,rfl,?_⟩;simp only[hx];have:=dI c i;exact s_f [];have h4:¬plC c i (my s)=1:=by simpa using h3
  have hx:c9 c i s0 (k+1)=(s.1,my s):=by rw[hnx];unfold zw;rw[if_neg h2,if_neg h4]
  refine r_m 3 ?_;refine a_z ?_;refine⟨rfl,k+1,ω,hk1,rfl,?_⟩;simp only[hx];have:=dI c i;exact s_f []
theorem qY(c:Cnt)(i:Int):FS 253 [plA c i] (.clos 273 [] [bPl c i]):=by
 refine f_n Tryz.func253 ?_ ?_;exact ae (dh c i) ai;refine r_z 2 ?_;refine r_z 2 ?_;refine an (⟨.inr rfl,[_],⟨_,[],rfl,rfl,rfl⟩,?_⟩);exact Cv.clos ax (af (Cv.boxp aE rfl (λ_ _ h=>by cases h) rfl (ae (dh c i) ai)) ax)
def om(t:Nat->Option Bool):Nat->Nat->Option Nat
 |0,_=>none
 |f+1,k=>match t k with
  |some true=>some k
  |some false=>om t f (k+1)
  |none=>none
theorem jX{t:Nat->Option Bool}:∀{f k0 k:Nat},om t f k0=some k->t k=some true/\k0<=k/\∀j,k0<=j->j< k->t j=some false
 |0,_,_,h=>by cases h
 |f+1,k0,k,h=>by
  rw[om] at h;split at h;cases h;exact⟨by assumption,Nat.le_refl _,λj h1 h2=>by omega⟩;obtain⟨h1,h2,h3⟩:=jX h;refine⟨h1,ω,λj hj1 hj2=>?_⟩;by_cases e:j=k0;rw[e];assumption;exact h3 j ω hj2;cases h
def oT(c:Cnt)(i:Int)(s:Sp):Option Bool:=if pv c s.1/\sh c s.2/\mr c s/\ -4611686018427387904<=i/\i<=4611686018427387904 then some (decide (cG c s.1=i/\fo c s.2=i+1)) else none
def alS(c:Cnt)(i:Int):Nat->AState
 |k=>⟨[(1,bPl c i),(2,.lptr 1 0 0),(3,.lptr 2 0 0),(6,.clos 273 [] [bPl c i])],[(1,some ⟨44,6,[zC++zC]⟩),(2,some ⟨44,6,[zC++zC]⟩)],3,37⟩
def alX(s:Sp):Unit->AState
 |u=>⟨[(2,.lptr 1 0 0),(3,.lptr 2 0 0)],[(1,some ⟨44,6,[zC++zC]⟩),(2,some ⟨44,6,[spC s.1 s.2]⟩)],3,37⟩
theorem Hv(f g:Nat)(c:Cnt)(i:Int)(s0:Sp)(kk:Nat)(h:tn f c i 0=some s0)(hk:om (λk=>oT c i (c9 c i s0 k)) g 0=some kk):FS 272 [plA c i] (.agg (spC (c9 c i s0 kk).1 (c9 c i s0 kk).2)):=by
 obtain⟨h1,_,h2⟩:=jX hk
 have hok:∀k,k<=kk->pv c (c9 c i s0 k).1/\sh c (c9 c i s0 k).2/\mr c (c9 c i s0 k)/\ -4611686018427387904<=i/\i<=4611686018427387904:=λk hk=>by
  have:∃b,oT c i (c9 c i s0 k)=some b:=by
   by_cases e:k=kk;rw[e];exact⟨_,h1⟩;exact⟨_,h2 k (Nat.zero_le _) ω⟩
  obtain⟨b,hb⟩:=this;unfold oT at hb;split at hb;assumption;cases hb
 have hgs:=qT f c i s0 kk h (λk hk=>(hok k ω).2.2.1);refine f_n Tryz.func272 ?_ ?_;exact ae (dh c i) ai;refine r_z 2 ?_;refine r_z 1 ?_;refine AWp.ent (st':=⟨[(1,bPl c i),(2,.lptr 1 0 0),(3,.lptr 2 0 0)],[(1,some ⟨44,6,[zC++zC]⟩),(2,some ⟨44,6,[zC++zC]⟩)],3,37⟩) ?_ ?_;have:=(ae (dh c i) ai);exact s_f [(1,2),(2,3)];refine ac (r_c 2 (qY c i) ?_);refine ao ?_;refine aG (alX (c9 c i s0 kk)) (λ_=>True) ?_ ?_;refine ak (AWp.rangeFuncB (α:=Nat) (γ:=Unit) kk (alS c i) (λk=>k) (λk=>k<=kk) (alX (c9 c i s0 kk)) (λe _=>e= .exit 0) 0 rfl hgs rfl rfl ?_ (λ_=>⟨rfl,rfl⟩) (λ_=>rfl) (Nat.zero_le _) rfl (λ_ h=>h) ?_ ?_ ?_ ?_ ?_);intro k xs hT;cases hT;rfl;rw[alS.eq_1];have:=dI c i;exact s_t [];exact ae (dI c i) ai;intro l k xs hk hT;cases hT;have hx:=hok k hk;obtain⟨s,hsd⟩:∃s,s=c9 c i s0 k:=⟨_,rfl⟩;rw[<-hsd] at hx⊢;obtain⟨x1,x2,x3,x4,x5⟩:=hx;show AWp _ _ _ _ ⟨[(7,.agg (spC s.1 s.2)),(1,bPl c i),(2,.lptr 1 0 0),(3,.lptr 2 0 0),(6,.clos 273 [] [bPl c i]),(1001,bPl c i),(1002,.lptr 1 0 0),(1003,.lptr 2 0 0),(1006,.clos 273 [] [bPl c i])],[(1,some ⟨44,6,[zC++zC]⟩),(2,some ⟨44,6,[zC++zC]⟩)],3,37⟩;refine r_m 2 ?_;refine a_z ?_;refine ak ?_;by_cases hb:cG c s.1=i;refine ac (r_d hmix 27 ?_);refine c_s (kL c s.1 x1) ?_;refine a_6 ?_
 first|refine y_g rfl (by simp[hb]) (.load_l1 rfl rfl rfl TG.h rfl) ?_|refine y_g rfl (by simp[hb]) (.load_a1 rfl rfl TG.h rfl) ?_
 refine y_g rfl (by simp[hb]) (.nilCheck rfl rfl) ?_
 first|refine y_g rfl (by simp[hb]) (.fieldAddr_l rfl TF.h δ) ?_|refine y_g rfl (by simp[hb]) (.fieldAddr_a rfl TF.h δ) ?_
 first|refine y_g rfl (by simp[hb]) (.load_l1 rfl rfl rfl TG.h rfl) ?_|refine y_g rfl (by simp[hb]) (.load_a1 rfl rfl TG.h rfl) ?_
 first|refine y_g rfl (by simp[hb]) (.fieldAddr_l rfl TF.h δ) ?_|refine y_g rfl (by simp[hb]) (.fieldAddr_a rfl TF.h δ) ?_
 first|refine y_g rfl (by simp[hb]) (.load_l rfl rfl rfl TG.h TS.h (nle rfl)) ?_|refine y_g rfl (by simp[hb]) (.load_a rfl rfl TG.h TS.h (nle rfl)) ?_
 refine y_g rfl (by simp[hb]) (.call rfl rfl rfl (lG c s.2 x2)) ?_
 first|refine y_g rfl (by simp[hb]) (.load_l1 rfl rfl rfl TG.h rfl) ?_|refine y_g rfl (by simp[hb]) (.load_a1 rfl rfl TG.h rfl) ?_
 refine y_g rfl (by simp[hb]) (.nilCheck rfl rfl) ?_
 first|refine y_g rfl (by simp[hb]) (.fieldAddr_l rfl TF.h δ) ?_|refine y_g rfl (by simp[hb]) (.fieldAddr_a rfl TF.h δ) ?_
 first|refine y_g rfl (by simp[hb]) (.load_l1 rfl rfl rfl TG.h rfl) ?_|refine y_g rfl (by simp[hb]) (.load_a1 rfl rfl TG.h rfl) ?_
 refine y_g rfl (by simp[hb]) (.bin rfl rfl (dj ω)) ?_;refine y_g rfl (by simp[hb]) (.bin rfl rfl aM) ?_;refine o_0 (.pickT rfl (by simp[hb]) rfl) ?_;refine ao (n_k ?_);refine aw rfl (λh5=>?_) (λh5=>?_);have h6:fo c s.2=i+1:=by simpa using h5
 have he:k=kk:=by
  refine Nat.le_antisymm hk (Nat.le_of_not_lt λhlt=>?_);have h7:=h2 k (Nat.zero_le _) hlt;rw[<-hsd] at h7;unfold oT at h7;rw[if_pos ⟨x1,x2,x3,x4,x5⟩] at h7;simp[hb,h6] at h7
 subst he;refine r_z 2 ?_;refine aB (⟨rfl,(),rfl,?_⟩);rw[<-hsd];show SEntT _ ⟨[(1002,.lptr 1 0 0),(1003,.lptr 2 0 0)],[(1,some ⟨44,6,[zC++zC]⟩),(2,some ⟨44,6,[spC s.1 s.2]⟩)],3,37⟩;exact s_y [] (λhs=>cN) (λhs=>jN);have h6:¬fo c s.2=i+1:=by simpa using h5
 have he:k< kk:=by
  refine Nat.lt_of_le_of_ne hk λe=>?_;subst e;rw[<-hsd] at h1;unfold oT at h1;rw[if_pos ⟨x1,x2,x3,x4,x5⟩] at h1;simp[h6] at h1
 refine am (⟨k+1,⟨he,rfl⟩,?_⟩);show SEntT _ ⟨[(1001,bPl c i),(1002,.lptr 1 0 0),(1003,.lptr 2 0 0),(1006,.clos 273 [] [bPl c i])],[(1,some ⟨44,6,[zC++zC]⟩),(2,some ⟨44,6,[zC++zC]⟩)],3,37⟩;exact s_y [] (λhs=>cN) (λhs=>jN);refine ac (r_d hmix 27 ?_);refine c_s (kL c s.1 x1) ?_;refine a_6 ?_;refine n_g rfl (by simp[hb]) ?_;refine n_g rfl (by simp[hb]) ?_;refine n_g rfl (by simp[hb]) ?_;refine n_g rfl (by simp[hb]) ?_;refine n_g rfl (by simp[hb]) ?_;refine n_g rfl (by simp[hb]) ?_;refine n_g rfl (by simp[hb]) ?_;refine n_g rfl (by simp[hb]) ?_;refine n_g rfl (by simp[hb]) ?_;refine n_g rfl (by simp[hb]) ?_;refine n_g rfl (by simp[hb]) ?_;refine n_g rfl (by simp[hb]) ?_;refine n_g rfl (by simp[hb]) ?_;refine o_0 (.pickF rfl (by simp[hb]) rfl) ?_;refine ao (n_k ?_);refine cF ?_
 have he:k< kk:=by
  refine Nat.lt_of_le_of_ne hk λe=>?_;subst e;rw[<-hsd] at h1;unfold oT at h1;rw[if_pos ⟨x1,x2,x3,x4,x5⟩] at h1;simp[hb] at h1
 refine am (⟨k+1,⟨he,rfl⟩,?_⟩);show SEntT _ ⟨[(1001,bPl c i),(1002,.lptr 1 0 0),(1003,.lptr 2 0 0),(1006,.clos 273 [] [bPl c i])],[(1,some ⟨44,6,[zC++zC]⟩),(2,some ⟨44,6,[zC++zC]⟩)],3,37⟩;exact s_y [] (λhs=>cN) (λhs=>jN);intro k hk hT;cases hT;rintro e u rfl;exact⟨u,trivial,SEnt.refl _⟩;rintro u _;rw[alX.eq_1];refine r_z 2 ?_;exact an (c_e (bK _ _))
def Ie(f g:Nat)(c:Cnt)(i:Int):Option Sp:=(tn f c i 0).bind λs0=>(om (λk=>oT c i (c9 c i s0 k)) g 0).map (c9 c i s0)
theorem EP(f g:Nat)(c:Cnt)(i:Int)(s:Sp)(h:Ie f g c i=some s):FS 272 [plA c i] (.agg (spC s.1 s.2)):=by
 obtain⟨s0,h1,h2⟩:=Option.bind_eq_some_iff.1 h;obtain⟨k,h3,rfl⟩:=Option.map_eq_some_iff.1 h2;exact Hv f g c i s0 k h1 h3
def wW(f g:Nat)(c:Cnt)(i:Int)(q:Lq):Option Bool:=
 if c.p.length<=274877906944/\q.length<=274877906944 then(ED f c.p q).bind λd=>
  if d.length<=274877906944 then
   if db d< 1 then some false
   else(fS f d).bind λc2=>(Ie f g c i).bind λs=>if sh c2 s.2/\pv c2 s.1 then some (decide (cG c2 s.1< fo c2 s.2)) else none
  else none
 else none
theorem EI(f g:Nat)(c:Cnt)(i:Int)(q:Lq)(r:Bool)(h:wW f g c i q=some r)(hf:f<=1000000):FS 252 [plA c i,.arr (pE q)] (bln r):=by
 unfold wW at h;split at h
 case isFalse=>cases h
 case isTrue hl=>
 obtain⟨d,hd,h2⟩:=Option.bind_eq_some_iff.1 h;split at h2
 case isFalse=>cases h2
 case isTrue hdl=>
 refine f_n Tryz.func252 ?_ ?_;exact ae (dh c i) (ae (aq q) ai);refine r_z 1 ?_;refine r_c 10 (HA f c.p q d hd hl.1 hl.2) ?_;refine a_z ?_;refine ac (r_c 3 (cK d ω) ?_);refine a_z ?_;refine aw rfl (λh3=>?_) (λh3=>?_);have h4:db d< 1:=by simpa using h3
 rw[if_pos h4] at h2;cases h2;refine r_z 1 ?_;exact an (t_e (ag _))
 ·have h4:¬db d< 1:=by simpa using h3
  rw[if_neg h4] at h2;obtain⟨c2,hc2,h5⟩:=Option.bind_eq_some_iff.1 h2;obtain⟨s,hs,h6⟩:=Option.bind_eq_some_iff.1 h5;split at h6
  case isFalse=>cases h6
  case isTrue hk=>
  cases h6;refine am (r_c 7 (ny f d c2 hc2 hf) ?_);refine c_s (EP f g c i s hs) ?_;refine a_z ?_;refine ac (r_d hmix 10 ?_);refine c_s (lG c2 s.2 hk.1) ?_;refine c_s (kL c2 s.1 hk.2) ?_;refine a_2 ?_;refine ao (n_k ?_);exact an (t_e (ag _))
def yQ(c:Cnt)(i:Int)(c2:Cnt)(s:Sp):Option Bool:=if sh c2 s.2/\pv c2 s.1/\mr c s then some (decide (fo c2 s.2=cG c2 s.1)) else none
def rJ(f g:Nat)(c:Cnt)(i:Int)(q:Lq):Option Int:=
 if q.length<=274877906944 then
  if db q< 0 then some 0
  else(wW f g c i q).bind λb=>if b then some 0 else(fS f q).bind λc2=>(tn f c i 0).bind λs0=>
   (om (λk=>yQ c i c2 (c9 c i s0 k)) g 0).bind λk=>if ea q (c9 c i s0 k).2 then some (sgZ (aO q (c9 c i s0 k).2).num) else none
 else none
def pgS(c:Cnt)(i:Int)(q:Lq)(c2:Cnt):Nat->AState
 |k=>⟨[(0,plA c i),(3,bP q),(4,.lptr 1 0 0),(5,.aptr [[kA c2]] 0 0),(18,.clos 273 [] [bPl c i])],[(1,some ⟨3,1,[[i64 0]]⟩)],2,34⟩
def pgX(r:Int):Unit->AState
 |u=>⟨[(4,.lptr 1 0 0)],[(1,some ⟨3,1,[[i64 r]]⟩)],2,34⟩
theorem u7(c:Cnt):Closed (.aptr [[kA c]] 0 0):=aW (ae (gu c) ai)
theorem DN(f g:Nat)(c:Cnt)(i:Int)(q:Lq)(r:Int)(h:rJ f g c i q=some r)(hf:f<=1000000):FS 218 [plA c i,.arr (pE q)] (i64 r):=by
 unfold rJ at h;split at h
 case isFalse=>cases h
 case isTrue hl=>
 refine f_n Tryz.func218 ?_ ?_;exact ae (dh c i) (ae (aq q) ai);refine r_z 2 ?_;refine AWp.ent (st':=⟨[(0,plA c i),(3,bP q),(4,.lptr 1 0 0)],[(1,some ⟨3,1,[[i64 0]]⟩)],2,34⟩) ?_ ?_;exact s_f [(1,4)];by_cases hd:db q< 0;rw[if_pos hd] at h;cases h;refine ac (r_c 8 (cK q ω) ?_);refine a_2 ?_;refine n_g rfl (by simp[hd]) ?_;refine n_g rfl (by simp[hd]) ?_;refine n_g rfl (by simp[hd]) ?_;refine o_0 (.pickT rfl (by simp[hd]) rfl) ?_;refine ao ?_;refine aw rfl (λh1=>?_) (λh1=>?_);refine r_z 1 ?_;exact an (Fin.cell1E rfl rfl rfl TG.h rfl rfl (ag _));cases h1;rw[if_neg hd] at h;obtain⟨b,hb,h2⟩:=Option.bind_eq_some_iff.1 h;refine ac (r_c 8 (cK q ω) ?_);refine a_2 ?_;refine y_g rfl (by simp[hd]) (.move rfl) ?_
 first|refine y_g rfl (by simp[hd]) (.load_l1 rfl rfl rfl TG.h rfl) ?_|refine y_g rfl (by simp[hd]) (.load_a1 rfl rfl TG.h rfl) ?_
 refine y_g rfl (by simp[hd]) (.call rfl rfl rfl (EI f g c i q b hb hf)) ?_;refine o_0 (.pickF rfl (by simp[hd]) rfl) ?_;refine ao ?_;refine aw rfl (λh1=>?_) (λh1=>?_);have hb1:b=true:=h1;subst hb1;rw[if_pos rfl] at h2;cases h2;refine r_z 1 ?_;exact an (Fin.cell1E rfl rfl rfl TG.h rfl rfl (ag _));have hb1:b=false:=h1;subst hb1;rw[if_neg (show¬false=true by decide)] at h2;obtain⟨c2,hc2,h3⟩:=Option.bind_eq_some_iff.1 h2;obtain⟨s0,hs0,h4⟩:=Option.bind_eq_some_iff.1 h3;obtain⟨kk,hkk,h5⟩:=Option.bind_eq_some_iff.1 h4;split at h5
 case isFalse=>cases h5
 case isTrue hev=>
 cases h5;obtain⟨t1,_,t2⟩:=jX hkk
 have hok:∀k,k<=kk->sh c2 (c9 c i s0 k).2/\pv c2 (c9 c i s0 k).1/\mr c (c9 c i s0 k):=λk hk=>by
  have:∃b,yQ c i c2 (c9 c i s0 k)=some b:=by
   by_cases e:k=kk;rw[e];exact⟨_,t1⟩;exact⟨_,t2 k (Nat.zero_le _) ω⟩
  obtain⟨b,hb⟩:=this;unfold yQ at hb;split at hb;assumption;cases hb
 have hgs:=qT f c i s0 kk hs0 (λk hk=>(hok k ω).2.2);obtain⟨r,hr⟩:∃r,r=sgZ (aO q (c9 c i s0 kk).2).num:=⟨_,rfl⟩;rw[<-hr];refine am (r_c 4 (ny f q c2 hc2 hf) ?_);refine a_z ?_;refine AWp.ent (st':=⟨[(0,plA c i),(3,bP q),(4,.lptr 1 0 0),(5,.aptr [[kA c2]] 0 0)],[(1,some ⟨3,1,[[i64 0]]⟩)],2,34⟩) ?_ ?_;have:=(ae (gu c2) ai);exact s_f [];refine ac (r_c 2 (qY c i) ?_);refine ao ?_;refine aG (pgX r) (λ_=>False) ?_ (λ_ h=>h.elim);refine ak (AWp.rangeFuncB (α:=Nat) (γ:=Unit) kk (pgS c i q c2) (λk=>k) (λk=>k<=kk) (pgX r) (λe _=>e= .ret) 0 rfl hgs rfl rfl ?_ (λ_=>⟨rfl,rfl⟩) (λ_=>rfl) (Nat.zero_le _) rfl (λ_ h=>h) ?_ ?_ ?_ ?_ ?_);intro k xs hT;cases hT;rfl;rw[pgS.eq_1];have:=u7 c2;exact s_t [];exact ae (dI c i) ai;intro l k xs hk hT;cases hT;have hx:=hok k hk;obtain⟨s,hsd⟩:∃s,s=c9 c i s0 k:=⟨_,rfl⟩;rw[<-hsd] at hx⊢;obtain⟨x1,x2,x3⟩:=hx;show AWp _ _ _ _ ⟨[(19,.agg (spC s.1 s.2)),(0,plA c i),(3,bP q),(4,.lptr 1 0 0),(5,.aptr [[kA c2]] 0 0),(18,.clos 273 [] [bPl c i]),(1000,plA c i),(1003,bP q),(1004,.lptr 1 0 0),(1005,.aptr [[kA c2]] 0 0),(1018,.clos 273 [] [bPl c i])],[(1,some ⟨3,1,[[i64 0]]⟩)],2,34⟩;refine r_m 2 ?_;refine a_z ?_;refine ak (ac (r_d hmix 9 ?_));refine c_s (lG c2 s.2 x1) ?_;refine c_s (kL c2 s.1 x2) ?_;refine a_1 ?_;refine ao (n_k ?_);refine aw rfl (λh6=>?_) (λh6=>?_);have h7:fo c2 s.2=cG c2 s.1:=by simpa using h6
 have he:k=kk:=by
  refine Nat.le_antisymm hk (Nat.le_of_not_lt λhlt=>?_);have h8:=t2 k (Nat.zero_le _) hlt;rw[<-hsd] at h8;unfold yQ at h8;rw[if_pos ⟨x1,x2,x3⟩] at h8;simp[h7] at h8
 subst he;rw[<-hsd] at hev hr;refine r_c 6 (e8 q s.2 hev) ?_;refine c_s (cb (aO q s.2)) ?_;refine a_z ?_;refine an (⟨rfl,(),rfl,?_⟩);rw[hr];show SEntT _ ⟨[(1004,.lptr 1 0 0)],[(1,some ⟨3,1,[[i64 (sgZ (aO q s.2).num)]]⟩)],2,34⟩;exact s_t [];have h7:¬fo c2 s.2=cG c2 s.1:=by simpa using h6
 have he:k< kk:=by
  refine Nat.lt_of_le_of_ne hk λe=>?_;subst e;rw[<-hsd] at t1;unfold yQ at t1;rw[if_pos ⟨x1,x2,x3⟩] at t1;simp[h7] at t1
 refine am (⟨k+1,⟨he,rfl⟩,?_⟩);show SEntT _ ⟨[(1000,plA c i),(1003,bP q),(1004,.lptr 1 0 0),(1005,.aptr [[kA c2]] 0 0),(1018,.clos 273 [] [bPl c i])],[(1,some ⟨3,1,[[i64 0]]⟩)],2,34⟩;have:=u7 c2;exact s_t [];intro k hk hT;cases hT;rintro e u rfl;exact Fin.cell1E rfl rfl rfl TG.h rfl rfl (ag _)
end Go.Proofs.YtjgokhkahkmpbaaGreatDoor
