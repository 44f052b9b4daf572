/- Part Z21 of the proof. -/
import Derived.Test.YtjgokhkahkmpbaaGreatDoorZ20
set_option linter.all false
namespace Go.Proofs.YtjgokhkahkmpbaaGreatDoor
open Go.Abs
set_option maxRecDepth 20000
set_option maxHeartbeats 2000000
def prS(t:Lq):Nat×Nat→AState
 |(i,d)=>⟨[(0,.arr (pE t)),(3,.lptr 1 0 0),(4,.lptr 2 0 0),(13,.arr (pE t)),(14,i64 t.length),(15,i64 i)],[(1,some ⟨42,3,[qC (nQ d)]⟩),(2,some ⟨42,3,[qC 0]⟩)],3,47⟩
def prT(t:Lq)(D:Nat):Nat×Nat→AState
 |(i,n)=>⟨[(0,.arr (pE t)),(3,.lptr 1 0 0),(4,.lptr 2 0 0),(29,.arr (pE t)),(30,i64 t.length),(31,i64 i)],[(1,some ⟨42,3,[qC (nQ D)]⟩),(2,some ⟨42,3,[qC (nQ n)]⟩)],3,47⟩
theorem gC{l:Lq}{i:Nat}(h:i< l.length):l.drop i=coP l i::l.drop (i+1):=by
 rw[List.drop_eq_getElem_cons h];congr 1;have:=bm h;rw[List.getElem?_eq_getElem h] at this;exact Option.some.inj this
theorem F7(a b:Nat):bl (Nat.gcd a b)≤max (bl a) (bl b):=by
 rcases Nat.eq_zero_or_pos a with h|h
 subst h;rw[Nat.gcd_zero_left];exact Nat.le_max_right _ _;exact Nat.le_trans (dK (Nat.gcd_le_left b h)) (Nat.le_max_left _ _)
theorem oB(p:Lq)(h:v7 p)(h0:av p≠[]):FS 282 [.arr (pE p)] (.arr (pE (ee p))):=by
 obtain⟨t,ht⟩:∃t,t=av p:=⟨_,rfl⟩;obtain⟨s,hs⟩:∃s,s=mxL p:=⟨_,rfl⟩;have hs1:1≤s:=by rw[hs];exact dy p
 have hbt:bdL t s:=fun q hq=>by rw[hs];exact dL p q (cX (by rw[←ht];exact hq))
 have htl:t.length≤p.length:=by rw[ht];exact ci p
 obtain⟨hsz,hpl⟩:=h;rw[←hs] at hsz;have hts:t.length* s≤p.length* s:=Nat.mul_le_mul_right _ htl;rw[Nat.add_mul] at hsz;obtain⟨D,hD⟩:∃D,D=tG t 1:=⟨_,rfl⟩;have hD0:D≠0:=by rw[hD];exact CC t (by decide)
 have hDb:bl D≤1+t.length* s:=by rw[hD];exact CD t 1 hbt
 have hDd:∀c∈t,c.den∣D:=by rw[hD];exact(tF t 1).2
 obtain⟨N,hN⟩:∃N,N=C8 D t 0:=⟨_,rfl⟩
 have hlast:aS p∈t:=by
  rw[ht];obtain⟨n,hn⟩:∃n,(av p).length=n+1:=⟨(av p).length- 1,by have:=List.length_pos_iff.2 h0;omega⟩;exact List.mem_of_getElem? (dV hn)
 have hNd:=(x8 D t 0).2 (aS p) hlast;rw[←hN] at hNd;have hi0:=intC_ne (hDd _ hlast) hD0 (gu h0);have hN0:N≠0:=fun e=>hi0 (by rw[e] at hNd;exact Nat.zero_dvd.1 hNd);have hNb:bl N≤s+bl D:=Nat.le_trans (dK (Nat.le_of_dvd (by omega) hNd)) (Nat.le_trans (Cc _ _) (by have:=hbt _ hlast;omega));have hpr:ee p=cj t (nQ D/ nQ N):=by unfold ee;rw[←ht,←hD,←hN]
 rw[hpr];have hgt:∀i,i< t.length→(pE t)[((i:Nat):Int).toNat]?=some (qC (coP t i)):=fun i hi=>bK (bm hi);have hmem:∀i,i< t.length→coP t i∈t:=fun i hi=>List.mem_of_getElem? (bm hi);have htr:=cY p (by omega);rw[←ht] at htr;refine f_c Tryz.func282 ?_;refine r_z 1 ?_;refine r_c 3 (htr) ?_;refine a_z ?_;refine r_c 6 (cN 1 (by decide)) ?_;refine a_z ?_;refine ae (r_z 3 ?_);refine aH (fun _:Unit=>⟨[(0,.arr (pE t)),(3,.lptr 1 0 0),(4,.lptr 2 0 0)],[(1,some ⟨42,3,[qC (nQ D)]⟩),(2,some ⟨42,3,[qC 0]⟩)],3,47⟩) (fun _=>True) ?_ ?_;refine ak (aC (prS t) (fun x=>t.length- x.1) (fun x=>x.1≤t.length∧x.2≠0∧tG (t.drop x.1) x.2=D) (0,1) ⟨Nat.zero_le _,by decide,by rw[hD];rfl⟩ ?_ ?_);simp only[prS.eq_1];rw[qC0];exact s_e [(1,3),(2,4)];rintro⟨i,d⟩ ⟨hi,hd0,hd⟩;simp only at hi hd0 hd;rw[prS.eq_1];refine r_z 1 ?_;refine ae (au rfl (fun h=>?_) (fun h=>?_));refine an ?_;have hlt:i< t.length:=by simpa using h
 have hc:=hbt _ (hmem i hlt);have hcd:=dO (coP t i);have hcn:=(coP t i).den_nz;rw[gC hlt] at hd;have hdD:d∣D:=by rw[←hd];exact(tF _ d).1
 have hdb:=dK (Nat.le_of_dvd (by omega) hdD);have hq1:=mD (n:=d) (k:=34359738368) (by omega) (by decide);have hq2:=mD (n:=(coP t i).den) (k:=34359738368) (by omega) (by decide);have hmu:=c7 (nQ d) (nQ (coP t i).den) (by omega);have hco:=tg d (coP t i).den (by omega) (by omega);have hg0:Nat.gcd d (coP t i).den≠0:=by have:=Nat.gcd_pos_of_pos_left (coP t i).den (Nat.pos_of_ne_zero hd0);omega
 have hgb:=F7 d (coP t i).den;have hq3:=mD (n:=Nat.gcd d (coP t i).den) (k:=34359738368) (by omega) (by decide);have hq4:=e8 (nQ d) (nQ (coP t i).den);rw[E1] at hq4 hmu;have hov:=fE (nQ (d* (coP t i).den)) (nQ (Nat.gcd d (coP t i).den)) (fun e=>hg0 (nQ_zero.1 e)) (by omega);rw[Ak _ _ hg0,Dc _ _ hg0 (Nat.dvd_mul_right_of_dvd (Nat.gcd_dvd_left _ _) _)] at hov;refine ae (ak (s_r 4 ?_))
 first|refine ax (.index_l rfl rfl (by omega) (by omega) te_30.h) rfl rfl ?_|refine ax (.index_a rfl rfl (by omega) (hgt i hlt) rfl te_30.h) rfl rfl ?_
 first|refine ax (.load_l rfl rfl (hgt i hlt) TG.h TS.h (nle rfl)) rfl rfl ?_|refine ax (.load_a rfl (hgt i hlt) TG.h TS.h (nle rfl)) rfl rfl ?_
 refine a_z ?_;refine r_d hmix 10 ?_;refine c_s (FA (coP t i) (by unfold sm;omega)) ?_;refine c_s (hmu) ?_;refine c_s (FA (coP t i) (by unfold sm;omega)) ?_;refine c_s (hco) ?_;refine c_s (hov) ?_;refine a_1 ?_;refine aq (n_k ?_);refine r_m 2 ?_;refine a_z ?_;refine⟨(i+1,Nat.lcm d (coP t i).den),by simp only;omega,⟨hlt,B9 hd0 hcn,hd⟩,?_⟩;simp only[prS.eq_1];exact s_e []
 have hge:i=t.length:=by
  have:¬i< t.length:=by simpa using h
  omega
 subst hge;rw[List.drop_length] at hd;refine aB ⟨(),trivial,?_⟩;rw[←hd];exact s_e [];rintro _ _;refine ae (r_z 3 ?_);refine aH (fun _:Unit=>⟨[(0,.arr (pE t)),(3,.lptr 1 0 0),(4,.lptr 2 0 0)],[(1,some ⟨42,3,[qC (nQ D)]⟩),(2,some ⟨42,3,[qC (nQ N)]⟩)],3,47⟩) (fun _=>True) ?_ ?_;refine ak (aC (prT t D) (fun x=>t.length- x.1) (fun x=>x.1≤t.length∧bl x.2≤s+bl D∧C8 D (t.drop x.1) x.2=N) (0,0) ⟨Nat.zero_le _,by rw[bl_zero];exact Nat.zero_le _,by rw[hN];rfl⟩ ?_ ?_);simp only[prT.eq_1];exact s_e [];rintro⟨i,n⟩ ⟨hi,hnb,hn⟩;simp only at hi hnb hn;rw[prT.eq_1];refine r_z 1 ?_;refine ae (au rfl (fun h=>?_) (fun h=>?_));refine an ?_;have hlt:i< t.length:=by simpa using h
 have hc:=hbt _ (hmem i hlt);rw[gC hlt] at hn;have hib:=Cc (coP t i) D;have hgb:=F7 n (qB (coP t i) D);have hq1:=mD (n:=D) (k:=34359738368) (by omega) (by decide);have hmu:=c7 (coP t i) (nQ D) (by omega);have hab:=eH (coP t i* nQ D);rw[E3 _ _ (hDd _ (hmem i hlt))] at hab;have hco:=tg n (qB (coP t i) D) (by omega) (by omega);refine ae (ak (s_r 4 ?_))
 first|refine ax (.index_l rfl rfl (by omega) (by omega) te_30.h) rfl rfl ?_|refine ax (.index_a rfl rfl (by omega) (hgt i hlt) rfl te_30.h) rfl rfl ?_
 first|refine ax (.load_l rfl rfl (hgt i hlt) TG.h TS.h (nle rfl)) rfl rfl ?_|refine ax (.load_a rfl (hgt i hlt) TG.h TS.h (nle rfl)) rfl rfl ?_
 refine a_z ?_;refine r_d hmix 7 ?_;refine c_s (hmu) ?_;refine c_s (hab) ?_;refine c_s (hco) ?_;refine a_1 ?_;refine aq (n_k ?_);refine r_m 2 ?_;refine a_z ?_;refine⟨(i+1,Nat.gcd n (qB (coP t i) D)),by simp only;omega,⟨hlt,by simp only;omega,hn⟩,?_⟩;simp only[prT.eq_1];exact s_e []
 have hge:i=t.length:=by
  have:¬i< t.length:=by simpa using h
  omega
 subst hge;rw[List.drop_length] at hn;refine aB ⟨(),trivial,?_⟩;rw[←hn];exact s_e [];rintro _ _;have hq1:=mD (n:=D) (k:=34359738368) (by omega) (by decide);have hq2:=mD (n:=N) (k:=34359738368) (by omega) (by decide);have hq3:=gi (nQ D) (nQ N);refine r_c 6 (fE (nQ D) (nQ N) (fun e=>hN0 (nQ_zero.1 e)) (by omega)) ?_;refine c_s (ii t (nQ D/ nQ N) (jJ hbt (by omega)) (by unfold sm;omega) (by omega)) ?_;refine a_z ?_;exact am (t_e (ao _))
theorem uj(f:Nat)(p r:Lq)(h:sqfM f p=some r):FS 266 [.arr (pE p)] (.arr (pE r)):=by
 unfold sqfM at h;split at h
 case isFalse=>cases h
 case isTrue hs=>
 obtain⟨g,hg,hr⟩:=Option.bind_eq_some_iff.1 h;split at hr
 case isFalse=>cases hr
 case isTrue hg2=>
 cases hr;have hdl:=qu p;have hdv:=oI (p:=p) (q:=g);refine f_c Tryz.func266 ?_;refine r_z 1 ?_;refine r_c 11 (pI p hs.1 (by omega)) ?_;refine c_s (AW f p (eJ p) g hg hs.2 (by omega)) ?_;refine c_s (pF p g (mxL p) (mxL g) (dL p) (dL g) (dy p) (dy g) hg2.2.1 hg2.1 hs.2 hg2.2.2.2) ?_;refine a_z ?_;refine r_c 3 (ta (fh p g).1 (wS hg2.2 hg2.1).1 (by omega)) ?_;refine a_z ?_;exact am (t_e (ao _))
theorem yw(p:Lq)(hp:p.length≤1099511627776):FS 246 [.arr (pE p)] (i64 (kF p)):=by
 refine f_c Tryz.func246 ?_;refine r_z 1 ?_;refine ae (r_c 3 (bZ p hp) ?_);refine a_z ?_;refine aH (fun _:Unit=>⟨[],[],1,12⟩) (fun _=>kF p=0) ?_ ?_;refine ak (r_z 3 ?_);refine au rfl (fun h=>?_) (fun h=>?_);have h1:ct p< 0:=by simpa using h
 refine r_z 1 ?_;refine am (aR rfl ?_ ?_);unfold kF;rw[if_pos h1];rfl;exact ag _;have h1:¬ct p< 0:=by simpa using h
 refine r_z 3 ?_;refine au rfl (fun h2=>?_) (fun h2=>?_);have h3:40< ct p:=by simpa using h2
 refine r_z 1 ?_;refine am (aR rfl ?_ ?_);unfold kF;rw[if_neg h1,if_pos h3];rfl;exact ag _;have h3:¬40< ct p:=by simpa using h2
 refine an ⟨(),by unfold kF;rw[if_neg h1,if_neg h3],?_⟩;exact s_e [];rintro _ hl;refine r_z 1 ?_;refine am (aR rfl ?_ ?_);rw[hl];rfl;exact ag _
def boS(t:Lq)(l:Lq):Nat×Rat→AState
 |(i,m)=>⟨[(0,.arr (pE t)),(2,.lptr 1 0 0),(3,.lptr 2 0 0),(13,.arr (pE l)),(14,i64 l.length),(15,i64 i)],[(1,some ⟨42,3,[zC]⟩),(2,some ⟨42,3,[qC m]⟩)],3,31⟩
theorem yD(p:Lq)(h:rj p)(h0:av p≠[]):FS 271 [.arr (pE p)] (.agg (qC (iC p))):=by
 obtain⟨hsz,hpl⟩:=h;obtain⟨t,ht⟩:∃t,t=av p:=⟨_,rfl⟩;have htr:=cY p (by omega);have htl:=ci p;rw[←ht] at htr htl;obtain⟨l,hl⟩:∃l,l=t.take (t.length- 1):=⟨_,rfl⟩;have hll:l.length=t.length- 1:=by rw[hl];simp
 have hbl:bdL l (mxL p):=fun q hq=>dL p q (cX (by rw[←ht];exact List.mem_of_mem_take (by rw[←hl];exact hq)));have hpos:0< t.length:=by rw[ht];exact List.length_pos_iff.2 h0
 have hlead:aS t=aS p:=by rw[ht,Aq]
 have hlb:qs (aS p)≤mxL p:=by
  obtain⟨n,hn⟩:∃n,(av p).length=n+1:=⟨(av p).length- 1,by rw[←ht];omega⟩;exact dL p _ (cX (List.mem_of_getElem? (dV hn)))
 have hb:iC p=boL (aS p) l 0+1:=by unfold iC;rw[←ht,←hl]
 rw[hb];obtain⟨B,hB⟩:∃B,B=boL (aS p) l 0:=⟨_,rfl⟩;rw[←hB];refine f_c Tryz.func271 ?_;refine r_z 1 ?_;refine r_c 3 (htr) ?_;refine a_z ?_;refine r_z 3 ?_;refine ae (s_r 7 ?_);refine a_4 ?_;refine o_0 (.sa_h rfl rfl (h:=t.length- 1) (by omega) (by simp) te_30.h (eF _)) ?_;refine a_z ?_;refine aH (fun _:Unit=>⟨[(2,.lptr 1 0 0),(3,.lptr 2 0 0)],[(1,some ⟨42,3,[zC]⟩),(2,some ⟨42,3,[qC B]⟩)],3,31⟩) (fun _=>qs B≤2* mxL p+1) ?_ ?_;refine ak (aC (boS t l) (fun x=>l.length- x.1) (fun x=>x.1≤l.length∧qs x.2≤2* mxL p+1∧boL (aS p) (l.drop x.1) x.2=B) (0,0) ⟨Nat.zero_le _,Nat.le_trans (by decide:qs 0≤1) (Nat.le_add_left 1 _),by rw[hB];rfl⟩ ?_ ?_);simp only[boS.eq_1];rw[qC0];have e13:AV.arr (List.take (t.length- 1) (pE t))=AV.arr (pE l):=by rw[hl,kx]
 refine s_x [(1,2),(2,3)] (fun hs=>?_) (fun hs=>?_) ?_
 ·repeat' (first|exact aG|refine aj rfl ?_ ?_|exact Cv.loE hs e13 (e13▸ao l)|exact aW|(refine Cv.loE hs ?_ (ag _);first|rfl|(simp[i64,u64,u32,bln,hll];done)|(simp[i64,u64,u32,bln,hll]<;> omega)))
 ·repeat' (first|exact aD|refine h_c ?_ ?_|exact bC|(refine aI hs ?_ (aF _);first|(simp[jD,pj,hll];done)|(simp[pE,ofV,hll];done))|refine aw ?_|exact ay|refine af ?_ ?_|exact Cv.loE hs e13 (e13▸ao l)|exact aW|(refine Cv.loE hs ?_ (ag _);first|(simp[i64,u64,u32,bln,hll];done)|(simp[i64,u64,u32,bln,hll]<;> omega)))
 ·repeat' (first|exact ShrL.nil|refine ShrL.cons rfl rfl rfl rfl (by first|rfl|(simp;done)|(simp[hll]<;> omega)) ?_)
 rintro⟨i,m⟩ ⟨hi,hm,hbo⟩;simp only at hi hm hbo;rw[boS.eq_1];refine r_z 1 ?_;refine ae (au rfl (fun h=>?_) (fun h=>?_));refine an ?_;have hlt:i< l.length:=by simpa using h
 have hgt:(pE l)[((i:Nat):Int).toNat]?=some (qC (coP l i)):=bK (bm hlt);have hc:qs (coP l i)≤mxL p:=hbl _ (List.mem_of_getElem? (bm hlt));rw[gC hlt] at hbo;have hq:=gi (coP l i) (aS p);have hle:=kK t (by omega);rw[hlead] at hle;have hqa:=qs_abs (coP l i/ aS p)
 have hbm:bdL [m,cI (coP l i/ aS p)] (2* mxL p+1):=by
  intro x hx;rcases List.mem_cons.1 hx with rfl|hx
  exact hm;rw[List.mem_singleton.1 hx];omega
 have hmx:=tn [m,cI (coP l i/ aS p)] (jJ hbm (by omega)) (by simp);refine ae (ak (s_r 4 ?_));refine i_x hgt ?_;refine l_x hgt ?_;refine a_z ?_;refine r_d hmix 9 ?_;refine c_s (hle) ?_;refine c_s (fE (coP l i) (aS p) (gu h0) (by omega)) ?_;refine c_s (eH (coP l i/ aS p)) ?_;refine a_1 ?_;refine o_1 (.callS1 rfl rfl rfl (.shut rfl d_n (.nil)) rfl (hmx)) ?_;refine a_1 ?_;refine aq (n_k ?_);refine r_m 2 ?_;refine a_z ?_;refine⟨(i+1,mY [m,cI (coP l i/ aS p)]),by simp only;omega,⟨hlt,maxL_le hbm (Nat.le_add_left 1 _),hbo⟩,?_⟩;simp only[boS.eq_1];exact s_e []
 have hge:i=l.length:=by
  have:¬i< l.length:=by simpa using h
  omega
 subst hge;rw[List.drop_length] at hbo;have hbo':m=B:=hbo;subst hbo';refine aB ⟨(),hm,?_⟩;exact s_e [];rintro _ hq;have h1:qs 1=1:=by decide
 refine ae (r_d hmix 4 ?_);refine c_s (cN 1 (by decide)) ?_;refine c_s (ff B 1 (by omega)) ?_;refine a_1 ?_;refine aq (n_k ?_);exact am (c_e (aM _))
def stS:Lq×Lw→AState
 |(next,acc)=>⟨[(3,.lsl 1 0 acc.length none 1),(4,.arr (pE next))],[(1,some ⟨30,1,cE acc⟩)],2,40⟩
theorem zM(next:Lq)(acc:Lw):stS (next,acc)=⟨[(3,.lsl 1 0 acc.length none 1),(4,.arr (pE next))],[(1,some ⟨30,1,cE acc⟩)],2,40⟩:=rfl
theorem C1(p:Lq):(ee p).length≤p.length:=
 Nat.le_trans (eY _ _) (ci p)
theorem Fp(f:Nat)(p:Lq)(r:Lw)(h:zK f p=some r)(hf:f≤1000000):FS 267 [.arr (pE p)] (.arr (cE r)):=by
 unfold zK at h;split at h
 case isFalse=>cases h
 case isTrue hp=>
 have hdl:=qu p;have hpl:=hp.2.1.2;refine f_c Tryz.func267 ?_;refine r_z 1 ?_;refine r_c 4 (oB p hp.2.1 hp.2.2) ?_;refine a_z ?_;refine ae (r_c 3 (pI p hp.1 (by omega)) ?_);refine a_z ?_;refine aH (fun _:Unit=>⟨[(3,.lsl 1 0 r.length none 1)],[(1,some ⟨30,1,cE r⟩)],2,40⟩) (fun _=>True) ?_ ?_
 ·refine ak (aC (fun x:Nat×Lq×Lq×Lw=>stS x.2.2) (fun x=>x.1) (fun x=>xc f x.1 x.2.1 x.2.2.1 x.2.2.2=some r∧x.2.2.1.length≤274877906944∧x.2.2.2.length+x.1≤1000001∧1≤x.2.2.2.length∧x.2.2.2[x.2.2.2.length- 1]?=some x.2.1) (f,ee p,eJ p,[ee p]) ⟨h,by simp only;omega,by simp only[List.length_singleton];omega,by simp,rfl⟩ ?_ ?_)
  simp only[zM];have:=eA [ee p];exact s_f [(1,3)];rintro⟨k,last,next,acc⟩ ⟨h,hn,hk,ha1,hla⟩;simp only at h hn hk ha1 hla;simp only[zM];cases k with
  |zero=>cases h
  |succ k=>
   rw[xc] at h;refine ae (r_c 3 (bZ next (by omega)) ?_);refine a_z ?_;refine au rfl (fun h1=>?_) (fun h1=>?_)
   ·have h0:av next≠[]:=by
     intro e;have e2:=degP_neg.2 e;simp at h1;omega
    rw[if_neg h0] at h;split at h
    case isFalse=>cases h
    case isTrue hs=>
    have hpn:=C1 next
    have hdv:=oI (p:=last) (q:=ee next);have hsl:=eY (fh last (ee next)).2 (-1);have hl2:=hs.2.1.2.1
    have hg1:(cE (acc++[ee next]))[0+(((acc.length+1:Nat):Int)- 2).toNat]?=some [.arr (pE last)]:=by
     rw[show 0+(((acc.length+1:Nat):Int)- 2).toNat=acc.length- 1 by omega];exact tY (by rw[List.getElem?_append_left (by omega)];exact hla)
    have hg2:(cE (acc++[ee next]))[0+(((acc.length+1:Nat):Int)- 1).toNat]?=some [.arr (pE (ee next))]:=by
     rw[show 0+(((acc.length+1:Nat):Int)- 1).toNat=acc.length by omega];exact tY (by simp)
    refine an (ak (r_c 6 (oB next hs.1 h0) ?_));refine a_z ?_;refine AWp.ent (st':=⟨[(3,.lsl 1 0 (acc.length+1) none 1)],[(1,some ⟨30,1,cE (acc++[ee next])⟩)],2,40⟩) ?_ ?_
    ·have:=(xe acc (ee next)).symm
     exact s_f [(1,3)]
    refine ae (r_d hmix 18 ?_);refine a_5 ?_
    first|refine ax (.load_l1 rfl rfl hg1 TG.h rfl) rfl rfl ?_|refine ax (.load_a1 rfl hg1 TG.h rfl) rfl rfl ?_
    refine a_5 ?_
    first|refine ax (.load_l1 rfl rfl hg2 TG.h rfl) rfl rfl ?_|refine ax (.load_a1 rfl hg2 TG.h rfl) rfl rfl ?_
    refine c_s (pF last (ee next) (mxL last) (mxL (ee next)) (dL _) (dL _) (dy _) (dy _) hs.2.1.1 hs.2.2 hs.2.1.2.1 hs.2.1.2.2) ?_;refine a_5 ?_;refine aq (n_k ?_);refine r_m 4 ?_;refine c_s (cN (-1) (by decide)) ?_;refine c_s (ii (fh last (ee next)).2 (-1) (wS hs.2.1 hs.2.2).2 (by decide) (by omega)) ?_;refine a_z ?_;refine⟨(k,ee next,cj (fh last (ee next)).2 (-1),acc++[ee next]),Nat.lt_succ_self k,⟨h,by simp only;omega,by simp only[List.length_append,List.length_singleton];omega,by simp,by simp⟩,?_⟩;have hla:(acc++[ee next]).length=acc.length+1:=by simp
    simp only[zM,hla];exact s_f []
   ·have h0:av next=[]:=by
     refine degP_neg.1 ?_;simp at h1;omega
    rw[if_pos h0] at h;cases h;refine aB ⟨(),trivial,?_⟩;exact s_f []
 rintro _ _;refine r_z 2 ?_;exact am (Fin.tmpS rfl rfl rfl (by simp) (eA r))
def chS(ch:Lw)(g:Nat)(cap:La):Nat×Int×Int→AState
 |(i,n,last)=>⟨[(1,.clos g [] cap),(5,i64 n),(6,i64 last),(10,.arr (cE ch)),(11,i64 ch.length),(12,i64 i)],[],1,30⟩
theorem th(ch:Lw)(g:Nat)(cap:La)(sg:Lq→Int)(hcap:∀c∈cap,Closed c)(hsg:∀q∈ch,-1≤sg q∧sg q≤1)(hl:ch.length≤274877906944)(hg:∀q∈ch,FS g ((.arr (pE q)::cap).map coe) (i64 (sg q))):FS 268 [.arr (cE ch),.clos g [] cap] (i64 (chL (ch.map sg) 0 0)):=by
 refine f_n Tryz.func268 ?_ ?_;exact ac (fw ch) (ac (aT ai hcap) ai);refine r_z 1 ?_;refine r_z 2 ?_;refine ae (r_z 3 ?_);obtain⟨R,hR⟩:∃R,R=chL (ch.map sg) 0 0:=⟨_,rfl⟩;rw[←hR];refine aH (fun _:Unit=>⟨[(5,i64 R)],[],1,30⟩) (fun _=>True) ?_ ?_;refine ak (aC (chS ch g cap) (fun x=>ch.length- x.1) (fun x=>x.1≤ch.length∧0≤x.2.1∧x.2.1≤x.1∧ -1≤x.2.2∧x.2.2≤1∧chL ((ch.drop x.1).map sg) x.2.1 x.2.2=R) (0,0,0) ⟨Nat.zero_le _,by decide,by decide,by decide,by decide,by rw[hR];rfl⟩ ?_ ?_);simp only[chS.eq_1];exact s_x [] (fun hs=>e_4) (fun hs=>e_10);rintro⟨i,n,last⟩ ⟨hi,hn0,hn1,hl0,hl1,hc⟩;simp only at hi hn0 hn1 hl0 hl1 hc;rw[chS.eq_1];refine r_z 1 ?_;refine ae (au rfl (fun h=>?_) (fun h=>?_));refine an ?_;have hlt:i< ch.length:=by simpa using h
 obtain⟨q,hq⟩:∃q,ch[i]?=some q:=⟨_,List.getElem?_eq_getElem hlt⟩;have hqm:=List.mem_of_getElem? hq;have hgt:(cE ch)[((i:Nat):Int).toNat]?=some [.arr (pE q)]:=tY hq
 have hd:ch.drop i=q::ch.drop (i+1):=by
  rw[List.drop_eq_getElem_cons hlt];rw[List.getElem?_eq_getElem hlt] at hq;rw[Option.some.inj hq]
 rw[hd,List.map_cons,chL] at hc;have hs2:=hsg q hqm;refine ae (ak (s_r 3 ?_));refine i_x hgt ?_;refine l_1 hgt ?_;refine a_z ?_;refine r_c 4 (hg q hqm) ?_;refine a_z ?_;refine r_z 2 ?_;refine au rfl (fun h1=>?_) (fun h1=>?_);have hne:sg q≠0:=by simpa using h1
 rw[if_pos hne] at hc;refine ae (r_z 4 ?_);refine au rfl (fun h2=>?_) (fun h2=>?_);have he:sg q= -last:=by simpa using h2
 rw[if_pos he] at hc;refine r_m 3 ?_;refine a_z ?_;refine r_m 2 ?_;refine a_z ?_;refine r_m 2 ?_;refine a_z ?_;refine⟨(i+1,n+1,sg q),by simp only;omega,⟨hlt,by simp only;omega,by simp only;omega,hs2.1,hs2.2,hc⟩,?_⟩;simp only[chS.eq_1];exact s_x [] (fun hs=>e_4) (fun hs=>e_10);have he:¬sg q= -last:=by simpa using h2
 rw[if_neg he] at hc;refine an (r_m 2 ?_);refine a_z ?_;refine r_m 2 ?_;refine a_z ?_;refine⟨(i+1,n,sg q),by simp only;omega,⟨hlt,hn0,by simp only;omega,hs2.1,hs2.2,hc⟩,?_⟩;simp only[chS.eq_1];exact s_x [] (fun hs=>e_4) (fun hs=>e_10);have hne:sg q=0:=by simpa using h1
 rw[if_neg (fun e=>e hne)] at hc;refine an (r_m 2 ?_);refine a_z ?_;refine⟨(i+1,n,last),by simp only;omega,⟨hlt,hn0,by simp only;omega,hl0,hl1,hc⟩,?_⟩;simp only[chS.eq_1];exact s_x [] (fun hs=>e_4) (fun hs=>e_10)
 have hge:i=ch.length:=by
  have:¬i< ch.length:=by simpa using h
  omega
 subst hge;rw[List.drop_length] at hc;have hc':n=R:=hc;subst hc';refine aB ⟨(),trivial,?_⟩;exact s_e [];rintro _ _;refine r_z 2 ?_;exact am (t_e (ag _))
theorem AQ(q:Lq)(h0:av q≠[])(hl:q.length≤274877906944):FS 269 [.arr (pE q)] (i64 (sgI q)):=by
 have hd:¬ct q< 0:=fun e=>h0 (degP_neg.1 e);have hb:=vI (aS q).num;refine f_c Tryz.func269 ?_;refine r_z 1 ?_;refine ae (r_c 4 (bZ q (by omega)) ?_);refine a_z ?_;refine au rfl (fun h=>?_) (fun h=>?_);have h1:ct q % 2=1:=by simpa using h
 refine r_c 5 (kK q (by omega)) ?_;refine c_s (b6 (aS q)) ?_;refine a_z ?_;refine am (aR rfl ?_ ?_);unfold sgI;rw[if_pos h1];rfl;exact ag _;have h1:¬ct q % 2=1:=by simpa using h
 refine an (r_c 4 (kK q (by omega)) ?_);refine c_s (b6 (aS q)) ?_;refine a_z ?_;refine am (aR rfl ?_ ?_);unfold sgI;rw[if_neg h1];exact ag _
theorem mc(f:Nat)(p:Lq)(c:Cnt)(h:fH f p=some c)(hf:f≤1000000):FS 247 [.arr (pE p)] (kA c):=by
 unfold fH at h;obtain⟨s,hs,h2⟩:=Option.bind_eq_some_iff.1 h;obtain⟨ch,hch,h3⟩:=Option.bind_eq_some_iff.1 h2;split at h3
 case isFalse=>cases h3
 case isTrue hk=>
 cases h3;have hcs:=th ch 269 [] sgI ai (fun q _=>sgI_abs q) hk.2.1 (fun q hq=>AQ q (hk.1 q hq).1 (hk.1 q hq).2);refine f_c Tryz.func247 ?_;refine r_z 1 ?_;refine r_c 5 (uj f p s hs) ?_;refine a_z ?_;refine r_c 9 (Fp f s ch hch hf) ?_;refine a_z ?_;refine r_c 9 (hcs) ?_;refine a_z ?_;refine r_z 2 ?_;exact am (Fin.tmpP rfl rfl rfl (vg _))
theorem Fm(q:Lq)(x:Rat)(h:dI q x):FS 270 [.arr (pE q),bQ x] (i64 (sgE x q)):=by
 refine f_c Tryz.func270 ?_;refine r_z 1 ?_;refine r_c 5 (eI q x h) ?_;refine c_s (b6 (aA q x)) ?_;refine a_z ?_;exact am (t_e (ag _))
theorem kJ(c:Cnt)(x:Rat)(h:qy c x):FS 249 [kA c,.agg (qC x)] (i64 (eW c x)):=by
 have hcs:=th c.ch 270 [bQ x] (sgE x) (ac (aO x) ai) (fun q _=>vI _) h.1.2.1 (fun q hq=>Fm q x (h.2 q hq));have hb:=nC (x:=x) h.1;unfold eW at hb⊢;refine f_c Tryz.func249 ?_;refine r_z 2 ?_;refine AWp.ent (st':=⟨[(0,kA c),(3,bQ x)],[],1,16⟩) ?_ ?_;exact s_e [];refine ae (r_d hmix 12 ?_);refine c_s (hcs) ?_;refine a_2 ?_;refine aq (n_k ?_);exact am (t_e (ag _))
theorem jW(c:Cnt)(x:Rat)(h:n8 c x):FS 248 [kA c,.agg (qC x)] (i64 (cr c x)):=by
 have hb:=nC (x:=x) h.1.1;refine f_c Tryz.func248 ?_;refine r_z 2 ?_;refine r_c 4 (kJ c x h.1) ?_;refine a_z ?_;refine aZ (fun n:Int=>⟨[(5,i64 n)],[],1,20⟩) (fun n=>n=cr c x) ?_ ?_;refine ae (r_d hmix 8 ?_);refine c_s (eI c.p x h.2) ?_;refine c_s (b6 (aA c.p x)) ?_;refine a_1 ?_;refine aq (n_k ?_);refine au rfl (fun h1=>?_) (fun h1=>?_)
 have h0:aA c.p x=0:=by
  have:sgZ (aA c.p x).num=0:=by simpa using h1
  exact sgZ_num_eq.1 this
 refine r_m 3 ?_;refine a_z ?_;refine⟨eW c x- 1,by unfold cr;rw[if_pos h0],?_⟩;exact s_e []
 have h0:aA c.p x≠0:=by
  intro e;have:¬sgZ (aA c.p x).num=0:=by simpa using h1
  exact this (sgZ_num_eq.2 e)
 refine an ⟨eW c x,by unfold cr;rw[if_neg h0],?_⟩;exact s_e [];rintro n rfl;refine r_z 2 ?_;exact am (t_e (ag _))
theorem fs_all(c:Cnt)(h:EZ c):FS 251 [kA c] (i64 (DU c)):=by
 refine f_c Tryz.func251 ?_;refine r_z 1 ?_;refine r_c 8 (yD c.p h.1 h.2.1) ?_;refine c_s (kJ c (iC c.p) h.2.2) ?_;refine a_z ?_;exact am (t_e (ag _))
theorem ww(c:Cnt)(i:Int)(x:Rat)(h:n8 c x):FS 274 [plA c i,.agg (qC x)] (i64 (plC c i x)):=by
 refine f_n Tryz.func274 ?_ ?_;exact ac (cO c i) (ac (aM x) ai);refine r_z 2 ?_;refine ae (ae (r_d hmix 7 ?_));refine c_s (jW c x h) ?_;refine a_1 ?_;refine aq (n_k ?_);refine aH (fun _:Unit=>⟨[],[],1,36⟩) (fun _=>plC c i x=1) ?_ ?_;refine ak (r_z 7 ?_);refine au rfl (fun h1=>?_) (fun h1=>?_);have h2:i< cr c x:=by simpa using h1
 refine r_z 1 ?_;refine am (aR rfl ?_ ?_);unfold plC;rw[if_pos h2];rfl;exact ag _;have h2:¬i< cr c x:=by simpa using h1
 by_cases h3:cr c x=i;refine ae (r_d hmix 17 ?_);refine a_7 ?_;refine y_g rfl (by simp[h3]) (.move rfl) ?_;refine y_g rfl (by simp[h3]) (.nilCheck rfl rfl) ?_
 first|refine y_g rfl (by simp[h3]) (.fieldAddr_l rfl TF.h (by decide)) ?_|refine y_g rfl (by simp[h3]) (.fieldAddr_a rfl TF.h (by decide)) ?_
 first|refine y_g rfl (by simp[h3]) (.load_l1 rfl rfl rfl TG.h rfl) ?_|refine y_g rfl (by simp[h3]) (.load_a1 rfl rfl TG.h rfl) ?_
 first|refine y_g rfl (by simp[h3]) (.load_l rfl rfl rfl TG.h TS.h (nle rfl)) ?_|refine y_g rfl (by simp[h3]) (.load_a rfl rfl TG.h TS.h (nle rfl)) ?_
 refine y_g rfl (by simp[h3]) (.call rfl rfl rfl (kJ c x h.1)) ?_;refine y_g rfl (by simp[h3]) (.move rfl) ?_;refine y_g rfl (by simp[h3]) (.bin rfl rfl fl) ?_;refine o_0 (.pickT rfl (by simp[h3]) rfl) ?_;refine a_1 ?_;refine aq (n_k ?_);refine au rfl (fun h4=>?_) (fun h4=>?_);have h5:cr c x< eW c x:=by simpa using h4
 refine r_z 1 ?_;refine am (aR rfl ?_ ?_);unfold plC;rw[if_neg h2,if_pos ⟨h3,h5⟩];rfl;exact ag _;have h5:¬cr c x< eW c x:=by simpa using h4
 refine an ⟨(),by unfold plC;rw[if_neg h2,if_neg fun e=>h5 e.2],?_⟩;exact s_e [];refine ae (r_d hmix 17 ?_);refine a_7 ?_;refine n_g rfl (by simp[h3]) ?_;refine n_g rfl (by simp[h3]) ?_;refine n_g rfl (by simp[h3]) ?_;refine n_g rfl (by simp[h3]) ?_;refine n_g rfl (by simp[h3]) ?_;refine n_g rfl (by simp[h3]) ?_;refine n_g rfl (by simp[h3]) ?_;refine n_g rfl (by simp[h3]) ?_;refine o_0 (.pickF rfl (by simp[h3]) rfl) ?_;refine a_1 ?_;refine aq (n_k ?_);refine cF ?_;refine an ⟨(),by unfold plC;rw[if_neg h2,if_neg fun e=>h3 e.1],?_⟩;exact s_e [];rintro _ hr;refine r_z 1 ?_;refine am (aR rfl ?_ ?_);rw[hr];rfl;exact ag _
def hiV(c:Cnt)(step:Rat):Rat:=tX (iC c.p/ step)
def EX(c:Cnt)(step:Rat)(lo:Rat):Prop:=rj c.p∧av c.p≠[]∧step≠0∧qs (iC c.p)+qs step≤549755813888∧qs lo+qs step≤549755813888∧n8 c (lo* step)
instance (c:Cnt) (step lo:Rat):Decidable (EX c step lo):=inferInstanceAs (Decidable (_∧_∧_∧_∧_∧_))
def FQ(f:Nat)(c:Cnt)(i:Int)(step:Rat):Option (Rat×Bool):=
 (biM c i step f (-hiV c step) (hiV c step)).bind fun lo=>if EX c step lo then some (lo* step,plC c i (lo* step)==0) else none
def dnS(c:Cnt)(i:Int)(step:Rat):Rat×Rat→AState
 |(lo,hi)=>⟨[(0,plA c i),(3,.lptr 1 0 0),(4,.lptr 2 0 0),(6,.lptr 3 0 0),(7,.lptr 4 0 0),(8,.lptr 5 0 0)],[(1,some ⟨42,3,[qC step]⟩),(2,some ⟨42,3,[zC]⟩),(3,some ⟨42,3,[qC hi]⟩),(4,some ⟨42,3,[qC lo]⟩),(5,some ⟨42,3,[qC 2]⟩)],6,52⟩
theorem fs_down(f:Nat)(c:Cnt)(i:Int)(step:Rat)(r:Rat×Bool)(h:FQ f c i step=some r):FS 259 [plA c i,.agg (qC step)] (.tup [.agg (qC r.1),bln r.2]):=by
 unfold FQ at h;obtain⟨l,hl,h2⟩:=Option.bind_eq_some_iff.1 h;split at h2
 case isFalse=>cases h2
 case isTrue hk=>
 cases h2;obtain⟨k1,k2,k3,k4,k5,k6⟩:=hk;have hq:=gi (iC c.p) step;refine f_n Tryz.func259 ?_ ?_;exact ac (cO c i) (ac (aM step) ai);refine r_z 3 ?_;refine ae (r_d hmix 13 ?_);refine c_s (yD c.p k1 k2) ?_;refine c_s (fE (iC c.p) step k3 k4) ?_;refine c_s (Cp (iC c.p/ step) (by omega)) ?_;refine a_2 ?_;refine aq (n_k ?_);refine r_c 4 (jf (tX (iC c.p/ step))) ?_;refine a_z ?_;refine r_c 3 (cN 2 (by decide)) ?_;refine a_z ?_;refine aZ (fun hi:Rat=>dnS c i step (l,hi)) (fun _=>True) ?_ ?_
 ·refine ak (aC (fun x:Nat×Rat×Rat=>dnS c i step x.2) (fun x=>x.1) (fun x=>biM c i step x.1 x.2.1 x.2.2=some l) (f,-hiV c step,hiV c step) hl ?_ ?_)
  simp only[dnS.eq_1,hiV];exact s_e [(2,4),(3,6),(4,7),(5,8)];rintro⟨f,lo,hi⟩ h;simp only at h;simp only[dnS.eq_1];cases f with
  |zero=>cases h
  |succ f=>
   rw[biM] at h;split at h
   case isFalse=>cases h
   case isTrue hs=>
   obtain⟨s1,s2,s3⟩:=hs;refine ae (r_c 6 (gx hi lo (sm2 s2 s1)) ?_);refine c_s (cN 1 (by decide)) ?_;refine c_s (dJ (hi- lo) 1 s3 (by decide)) ?_;refine a_z ?_;refine au rfl (fun h1=>?_) (fun h1=>?_)
   ·have h2:0< cZ (hi- lo) 1:=by simpa using h1
    rw[if_pos h2] at h;split at h
    case isFalse=>cases h
    case isTrue ht=>
    obtain⟨t1,t2⟩:=ht;have hq1:=sI lo hi;have hq2:qs 2=2:=by decide
    have hq3:=gi (lo+hi) 2;unfold sm at s1 s2;refine an (ak (ae (r_d hmix 8 ?_)));refine c_s (ff lo hi (by omega)) ?_;refine c_s (fE (lo+hi) 2 (by decide) (by omega)) ?_;refine c_s (oD ((lo+hi) / 2) (by omega)) ?_;refine a_2 ?_;refine aq (n_k ?_);refine r_c 6 (c7 (((lo+hi) / 2).floor:Rat) step t1) ?_;refine c_s (ww c i ((((lo+hi) / 2).floor:Rat) * step) t2) ?_;refine a_z ?_;refine au rfl (fun h3=>?_) (fun h3=>?_);have h4:0≤plC c i ((((lo+hi) / 2).floor:Rat) * step):=by simpa using h3
    rw[if_pos h4] at h;refine r_m 2 ?_;refine a_z ?_;refine⟨(f,(((lo+hi) / 2).floor:Rat),hi),Nat.lt_succ_self f,h,?_⟩;simp only[dnS.eq_1];exact s_e [];have h4:¬0≤plC c i ((((lo+hi) / 2).floor:Rat) * step):=by simpa using h3
    rw[if_neg h4] at h;refine r_m 2 ?_;refine a_z ?_;refine⟨(f,lo,(((lo+hi) / 2).floor:Rat)),Nat.lt_succ_self f,h,?_⟩;simp only[dnS.eq_1];exact s_e []
   have h2:¬0< cZ (hi- lo) 1:=by simpa using h1
   rw[if_neg h2] at h;cases h;refine aB ⟨hi,trivial,?_⟩;simp only[dnS.eq_1];exact s_e []
 rintro hi _;simp only[dnS.eq_1];refine r_c 4 (c7 l step k5) ?_;refine a_z ?_;refine ae (r_d hmix 7 ?_);refine c_s (ww c i (l* step) k6) ?_;refine a_3 ?_;refine aq (n_k ?_);refine am (Fin.many ⟨_,_,rfl,⟨_,_,_,_,_,rfl,rfl,rfl,.inl ⟨TG.h,_,TS.h,nle rfl,rfl⟩⟩,⟨_,_,rfl,rfl,rfl⟩⟩ (nle rfl) ?_);exact af (ah aE (aM _)) (af (ah aE (ag _)) ay)
def rR(f:Nat)(c:Cnt)(i:Int)(k:Int):Option Sp:=
 (FQ f c i (cg (wi k 256))).bind fun r=>if r.2 then some (r.1,r.1) else if qs r.1+qs (cg (wi k 256))≤549755813888 then some (r.1,r.1+cg (wi k 256)) else none
theorem fs_span(f:Nat)(c:Cnt)(i:Int)(k:Int)(s:Sp)(h:rR f c i k=some s):FS 236 [plA c i,i64 k] (.agg (spC s.1 s.2)):=by
 unfold rR at h;obtain⟨⟨at',ex⟩,hd,h2⟩:=Option.bind_eq_some_iff.1 h;refine f_n Tryz.func236 ?_ ?_;exact ac (cO c i) (ac (ag _) ai);refine r_z 1 ?_;refine r_c 4 (iK k) ?_;refine a_z ?_;refine r_c 9 (fs_down f c i (cg (wi k 256)) (at',ex) hd) ?_;refine a_z ?_;refine ae (r_z 1 ?_);refine au rfl (fun h1=>?_) (fun h1=>?_);subst h1;rw[if_pos rfl] at h2;cases h2;refine r_c 3 (yK at') ?_;refine a_z ?_;exact am (c_e (bt _ _))
 ·subst h1
  rw[if_neg (show¬false=true by decide)] at h2;split at h2
  case isFalse=>cases h2
  case isTrue hs=>
  cases h2;refine an (ae (r_d hmix 6 ?_));refine c_s (ff at' (cg (wi k 256)) hs) ?_;refine a_2 ?_;refine aq (n_k ?_);exact am (c_e (bt _ _))
abbrev roA(p:Lq)(i:Int):AV:= .agg [.arr (pE p),i64 i]
theorem nu(p:Lq)(i:Int):Closed (roA p i):=aK (ac (ao p) (ac (ag _) ai))
def mV(f:Nat)(p:Lq):Option Cnt:=if p.length≤274877906944∧kF p=0 then(fH f p).bind fun c=>if EZ c then some c else none else none
theorem yp(f:Nat)(p:Lq)(i:Int)(c:Cnt)(h:mV f p=some c)(hf:f≤1000000)(hi:0≤i):FS 217 [roA p i] (.tup [plA c i,bln (decide (i< DU c))]):=by
 unfold mV at h;split at h
 case isFalse=>cases h
 case isTrue hp=>
 obtain⟨c',hc,h2⟩:=Option.bind_eq_some_iff.1 h;split at h2
 case isFalse=>cases h2
 case isTrue hk=>
 cases h2;refine f_n Tryz.func217 ?_ ?_;exact ac (nu p i) ai;refine r_z 3 ?_;refine ae (r_c 9 (yw p (by omega)) ?_);refine a_2 ?_
 first|refine y_g rfl (by simp[hp.2]) (.fieldAddr_l rfl TF.h (by decide)) ?_|refine y_g rfl (by simp[hp.2]) (.fieldAddr_a rfl TF.h (by decide)) ?_
 first|refine y_g rfl (by simp[hp.2]) (.load_l1 rfl rfl rfl TG.h rfl) ?_|refine y_g rfl (by simp[hp.2]) (.load_a1 rfl rfl TG.h rfl) ?_
 refine y_g rfl (by simp[hp.2]) (.bin rfl rfl dY) ?_;refine o_0 (.pickF rfl (by simp[hp.2]) rfl) ?_;refine aq ?_;refine au rfl (fun h=>?_) (fun h=>?_);exact absurd h (by simp;omega);refine an (ae (r_d hmix 8 ?_));refine c_s (mc f p c hc hf) ?_;refine a_5 ?_;refine aq (n_k ?_);refine ae (r_d hmix 11 ?_);refine c_s (fs_all c hk) ?_;refine a_3 ?_;refine aq (n_k ?_);refine am (Fin.many ⟨_,_,rfl,rfl,⟨_,_,rfl,rfl,rfl⟩⟩ (nle rfl) ?_);exact af (Cv.boxp aE rfl (fun _ _ h=>by cases h) rfl (ac (fY c) (ac (ag _) ai))) (af (ah aE (ag _)) ay)
def lG(s:Sp):Rat:=(s.1+s.2) * cg 1
def x9(c:Cnt)(i:Int)(s:Sp):Sp:=if plC c i (lG s)=0 then(lG s,lG s) else if plC c i (lG s)=1 then(lG s,s.2) else(s.1,lG s)
def lC(c:Cnt)(s:Sp):Prop:=smS s∧n8 c (lG s)
instance (c:Cnt) (s:Sp):Decidable (lC c s):=inferInstanceAs (Decidable (_∧_))
def cJ(c:Cnt)(i:Int)(s0:Sp):Nat→Sp
 |0=>s0
 |k+1=>x9 c i (cJ c i s0 k)
def closT(c:Cnt)(i:Int)(s0:Sp)(k:Nat):Option La:=some [.agg (spC (cJ c i s0 k).1 (cJ c i s0 k).2)]
abbrev bPl(c:Cnt)(i:Int):AV:= .aptr [[plA c i]] 0 0
theorem dr(c:Cnt)(i:Int):Closed (bPl c i):=aX (ac (cO c i) ai)
theorem pz(f:Nat)(c:Cnt)(i:Int)(s0:Sp)(K:Nat)(h:rR f c i 0=some s0)(hok:∀k,k< K→lC c (cJ c i s0 k)):GSpecB Tryz.prog 273 [bPl c i] (closT c i s0) K:=by
 refine GSpecB.enter Tryz.func273 rfl (by kernel_rfl) rfl rfl rfl ?_ ?_ rfl ?_;exact ac (dr c i) ai;intro k xs h;cases h;exact ac (bt _ _) ai;intro ll N hN E;refine GWp.seq ?_;refine GWp.lift ?_;refine r_m 4 ?_;refine c_s (fs_span f c i 0 s0 h) ?_;refine a_z ?_;refine GWp.block ?_;refine GWp.loopS (fun k:Nat=>⟨[(0,.v (.func (.yield ll) #[] #[])),(1,bPl c i),(3,.lptr 1 0 0)],[(1,some ⟨44,6,[spC (cJ c i s0 k).1 (cJ c i s0 k).2]⟩)],2,25⟩) (fun k=>k) (fun k=>N+1- k) (fun k=>k≤N) 0 (Nat.zero_le _) rfl ?_ ?_;have:=dr c i;exact s_f [(1,3)];intro k hk;refine GWp.seq ?_;refine GWp.seq ?_;refine GWp.regY (fr2:=[(0,.v (.func (.yield ll) #[] #[])),(1,bPl c i),(3,.lptr 1 0 0),(7,.v (.func (.yield ll) #[] #[])),(8,.agg (spC (cJ c i s0 k).1 (cJ c i s0 k).2))]) (hp2:=[(1,some ⟨44,6,[spC (cJ c i s0 k).1 (cJ c i s0 k).2]⟩)]) (nx2:=2) 2 rfl rfl rfl rfl rfl rfl ?_ rfl rfl rfl ?_ ?_ ?_;refine o_0 (.move rfl) ?_
 first|refine ax (.load_l rfl rfl rfl TG.h TS.h (nle rfl)) rfl rfl ?_|refine ax (.load_a rfl rfl TG.h TS.h (nle rfl)) rfl rfl ?_
 refine aq ?_;exact s_y [] (fun hs=>dj) (fun hs=>jq);rotate_left 2;intro go;refine aq ?_;rotate_left;rfl;exact ac (bt _ _) ai;cases go with
 |false=>
  refine GWp.cond rfl (fun h=>?_) (fun h=>?_);cases h;exact GWp.exit ⟨.inl rfl,fun h=>by cases h⟩
 |true=>
  refine GWp.bound fun hk1=>?_;refine GWp.cond rfl (fun h=>?_) (fun h=>?_);rotate_left;cases h;refine GWp.skip ?_;have hn:=hok k (by omega);obtain⟨hs,hb⟩:=hn;have hnx:cJ c i s0 (k+1)=x9 c i (cJ c i s0 k):=rfl;obtain⟨s,hsd⟩:∃s,s=cJ c i s0 k:=⟨_,rfl⟩;rw[←hsd] at hs hb hnx⊢;refine GWp.lift ?_;refine ak (r_c 4 (tk s.1 s.2 hs.1 hs.2) ?_);refine a_z ?_;refine r_c 3 (ww c i (lG s) hb) ?_;refine aq ?_;refine ak (r_z 2 ?_);refine au rfl (fun h1=>?_) (fun h1=>?_);have h2:plC c i (lG s)=0:=by simpa using h1
  have hx:cJ c i s0 (k+1)=(lG s,lG s):=by rw[hnx];unfold x9;rw[if_pos h2]
  refine r_m 3 ?_;refine c_s (yK (lG s)) ?_;refine a_z ?_;refine⟨rfl,k+1,by omega,hk1,rfl,?_⟩;simp only[hx];have:=dr c i;exact s_f [];have h2:¬plC c i (lG s)=0:=by simpa using h1
  refine r_z 2 ?_;refine au rfl (fun h3=>?_) (fun h3=>?_);have h4:plC c i (lG s)=1:=by simpa using h3
  have hx:cJ c i s0 (k+1)=(lG s,s.2):=by rw[hnx];unfold x9;rw[if_neg h2,if_pos h4]
  refine r_m 3 ?_;refine a_z ?_;refine⟨rfl,k+1,by omega,hk1,rfl,?_⟩;simp only[hx];have:=dr c i;exact s_f [];have h4:¬plC c i (lG s)=1:=by simpa using h3
  have hx:cJ c i s0 (k+1)=(s.1,lG s):=by rw[hnx];unfold x9;rw[if_neg h2,if_neg h4]
  refine r_m 3 ?_;refine a_z ?_;refine⟨rfl,k+1,by omega,hk1,rfl,?_⟩;simp only[hx];have:=dr c i;exact s_f []
theorem pH(c:Cnt)(i:Int):FS 253 [plA c i] (.clos 273 [] [bPl c i]):=by
 refine f_n Tryz.func253 ?_ ?_;exact ac (cO c i) ai;refine r_z 2 ?_;refine r_z 2 ?_;refine am (⟨.inr rfl,[_],⟨_,[],rfl,rfl,rfl⟩,?_⟩);exact Cv.clos ay (af (Cv.boxp aE rfl (fun _ _ h=>by cases h) rfl (ac (cO c i) ai)) ay)
def nk(t:Nat→Option Bool):Nat→Nat→Option Nat
 |0,_=>none
 |f+1,k=>match t k with
  |some true=>some k
  |some false=>nk t f (k+1)
  |none=>none
theorem jw{t:Nat→Option Bool}:∀{f k0 k:Nat},nk t f k0=some k→t k=some true∧k0≤k∧∀j,k0≤j→j< k→t j=some false
 |0,_,_,h=>by cases h
 |f+1,k0,k,h=>by
  rw[nk] at h;split at h;cases h;exact⟨by assumption,Nat.le_refl _,fun j h1 h2=>by omega⟩;obtain⟨h1,h2,h3⟩:=jw h;refine⟨h1,by omega,fun j hj1 hj2=>?_⟩;by_cases e:j=k0;rw[e];assumption;exact h3 j (by omega) hj2;cases h
def nA(c:Cnt)(i:Int)(s:Sp):Option Bool:=if n8 c s.1∧qy c s.2∧lC c s∧ -4611686018427387904≤i∧i≤4611686018427387904 then some (decide (cr c s.1=i∧eW c s.2=i+1)) else none
def alS(c:Cnt)(i:Int):Nat→AState
 |k=>⟨[(1,bPl c i),(2,.lptr 1 0 0),(3,.lptr 2 0 0),(6,.clos 273 [] [bPl c i])],[(1,some ⟨44,6,[zC++zC]⟩),(2,some ⟨44,6,[zC++zC]⟩)],3,37⟩
def alX(s:Sp):Unit→AState
 |u=>⟨[(2,.lptr 1 0 0),(3,.lptr 2 0 0)],[(1,some ⟨44,6,[zC++zC]⟩),(2,some ⟨44,6,[spC s.1 s.2]⟩)],3,37⟩
theorem FB(f g:Nat)(c:Cnt)(i:Int)(s0:Sp)(kk:Nat)(h:rR f c i 0=some s0)(hk:nk (fun k=>nA c i (cJ c i s0 k)) g 0=some kk):FS 272 [plA c i] (.agg (spC (cJ c i s0 kk).1 (cJ c i s0 kk).2)):=by
 obtain⟨h1,_,h2⟩:=jw hk
 have hok:∀k,k≤kk→n8 c (cJ c i s0 k).1∧qy c (cJ c i s0 k).2∧lC c (cJ c i s0 k)∧ -4611686018427387904≤i∧i≤4611686018427387904:=fun k hk=>by
  have:∃b,nA c i (cJ c i s0 k)=some b:=by
   by_cases e:k=kk;rw[e];exact⟨_,h1⟩;exact⟨_,h2 k (Nat.zero_le _) (by omega)⟩
  obtain⟨b,hb⟩:=this;unfold nA at hb;split at hb;assumption;cases hb
 have hgs:=pz f c i s0 kk h (fun k hk=>(hok k (by omega)).2.2.1);refine f_n Tryz.func272 ?_ ?_;exact ac (cO c i) ai;refine r_z 2 ?_;refine r_z 1 ?_;refine AWp.ent (st':=⟨[(1,bPl c i),(2,.lptr 1 0 0),(3,.lptr 2 0 0)],[(1,some ⟨44,6,[zC++zC]⟩),(2,some ⟨44,6,[zC++zC]⟩)],3,37⟩) ?_ ?_;have:=(ac (cO c i) ai);exact s_f [(1,2),(2,3)];refine ae (r_c 2 (pH c i) ?_);refine aq ?_;refine aH (alX (cJ c i s0 kk)) (fun _=>True) ?_ ?_;refine ak (AWp.rangeFuncB (α:=Nat) (γ:=Unit) kk (alS c i) (fun k=>k) (fun k=>k≤kk) (alX (cJ c i s0 kk)) (fun e _=>e= .exit 0) 0 rfl hgs rfl rfl ?_ (fun _=>⟨rfl,rfl⟩) (fun _=>rfl) (Nat.zero_le _) rfl (fun _ h=>h) ?_ ?_ ?_ ?_ ?_);intro k xs hT;cases hT;rfl;rw[alS.eq_1];have:=dr c i;exact s_t [];exact ac (dr c i) ai;intro l k xs hk hT;cases hT;have hx:=hok k hk;obtain⟨s,hsd⟩:∃s,s=cJ c i s0 k:=⟨_,rfl⟩;rw[←hsd] at hx⊢;obtain⟨x1,x2,x3,x4,x5⟩:=hx;show AWp _ _ _ _ ⟨[(7,.agg (spC s.1 s.2)),(1,bPl c i),(2,.lptr 1 0 0),(3,.lptr 2 0 0),(6,.clos 273 [] [bPl c i]),(1001,bPl c i),(1002,.lptr 1 0 0),(1003,.lptr 2 0 0),(1006,.clos 273 [] [bPl c i])],[(1,some ⟨44,6,[zC++zC]⟩),(2,some ⟨44,6,[zC++zC]⟩)],3,37⟩;refine r_m 2 ?_;refine a_z ?_;refine ak ?_;by_cases hb:cr c s.1=i;refine ae (r_d hmix 27 ?_);refine c_s (jW c s.1 x1) ?_;refine a_6 ?_
 first|refine y_g rfl (by simp[hb]) (.load_l1 rfl rfl rfl TG.h rfl) ?_|refine y_g rfl (by simp[hb]) (.load_a1 rfl rfl TG.h rfl) ?_
 refine y_g rfl (by simp[hb]) (.nilCheck rfl rfl) ?_
 first|refine y_g rfl (by simp[hb]) (.fieldAddr_l rfl TF.h (by decide)) ?_|refine y_g rfl (by simp[hb]) (.fieldAddr_a rfl TF.h (by decide)) ?_
 first|refine y_g rfl (by simp[hb]) (.load_l1 rfl rfl rfl TG.h rfl) ?_|refine y_g rfl (by simp[hb]) (.load_a1 rfl rfl TG.h rfl) ?_
 first|refine y_g rfl (by simp[hb]) (.fieldAddr_l rfl TF.h (by decide)) ?_|refine y_g rfl (by simp[hb]) (.fieldAddr_a rfl TF.h (by decide)) ?_
 first|refine y_g rfl (by simp[hb]) (.load_l rfl rfl rfl TG.h TS.h (nle rfl)) ?_|refine y_g rfl (by simp[hb]) (.load_a rfl rfl TG.h TS.h (nle rfl)) ?_
 refine y_g rfl (by simp[hb]) (.call rfl rfl rfl (kJ c s.2 x2)) ?_
 first|refine y_g rfl (by simp[hb]) (.load_l1 rfl rfl rfl TG.h rfl) ?_|refine y_g rfl (by simp[hb]) (.load_a1 rfl rfl TG.h rfl) ?_
 refine y_g rfl (by simp[hb]) (.nilCheck rfl rfl) ?_
 first|refine y_g rfl (by simp[hb]) (.fieldAddr_l rfl TF.h (by decide)) ?_|refine y_g rfl (by simp[hb]) (.fieldAddr_a rfl TF.h (by decide)) ?_
 first|refine y_g rfl (by simp[hb]) (.load_l1 rfl rfl rfl TG.h rfl) ?_|refine y_g rfl (by simp[hb]) (.load_a1 rfl rfl TG.h rfl) ?_
 refine y_g rfl (by simp[hb]) (.bin rfl rfl (zo (by omega))) ?_;refine y_g rfl (by simp[hb]) (.bin rfl rfl aV) ?_;refine o_0 (.pickT rfl (by simp[hb]) rfl) ?_;refine aq (n_k ?_);refine au rfl (fun h5=>?_) (fun h5=>?_);have h6:eW c s.2=i+1:=by simpa using h5
 have he:k=kk:=by
  refine Nat.le_antisymm hk (Nat.le_of_not_lt fun hlt=>?_);have h7:=h2 k (Nat.zero_le _) hlt;rw[←hsd] at h7;unfold nA at h7;rw[if_pos ⟨x1,x2,x3,x4,x5⟩] at h7;simp[hb,h6] at h7
 subst he;refine r_z 2 ?_;refine aB (⟨rfl,(),rfl,?_⟩);rw[←hsd];show SEntT _ ⟨[(1002,.lptr 1 0 0),(1003,.lptr 2 0 0)],[(1,some ⟨44,6,[zC++zC]⟩),(2,some ⟨44,6,[spC s.1 s.2]⟩)],3,37⟩;exact s_y [] (fun hs=>dj) (fun hs=>jq);have h6:¬eW c s.2=i+1:=by simpa using h5
 have he:k< kk:=by
  refine Nat.lt_of_le_of_ne hk fun e=>?_;subst e;rw[←hsd] at h1;unfold nA at h1;rw[if_pos ⟨x1,x2,x3,x4,x5⟩] at h1;simp[h6] at h1
 refine an (⟨k+1,⟨he,rfl⟩,?_⟩);show SEntT _ ⟨[(1001,bPl c i),(1002,.lptr 1 0 0),(1003,.lptr 2 0 0),(1006,.clos 273 [] [bPl c i])],[(1,some ⟨44,6,[zC++zC]⟩),(2,some ⟨44,6,[zC++zC]⟩)],3,37⟩;exact s_y [] (fun hs=>dj) (fun hs=>jq);refine ae (r_d hmix 27 ?_);refine c_s (jW c s.1 x1) ?_;refine a_6 ?_;refine n_g rfl (by simp[hb]) ?_;refine n_g rfl (by simp[hb]) ?_;refine n_g rfl (by simp[hb]) ?_;refine n_g rfl (by simp[hb]) ?_;refine n_g rfl (by simp[hb]) ?_;refine n_g rfl (by simp[hb]) ?_;refine n_g rfl (by simp[hb]) ?_;refine n_g rfl (by simp[hb]) ?_;refine n_g rfl (by simp[hb]) ?_;refine n_g rfl (by simp[hb]) ?_;refine n_g rfl (by simp[hb]) ?_;refine n_g rfl (by simp[hb]) ?_;refine n_g rfl (by simp[hb]) ?_;refine o_0 (.pickF rfl (by simp[hb]) rfl) ?_;refine aq (n_k ?_);refine cF ?_
 have he:k< kk:=by
  refine Nat.lt_of_le_of_ne hk fun e=>?_;subst e;rw[←hsd] at h1;unfold nA at h1;rw[if_pos ⟨x1,x2,x3,x4,x5⟩] at h1;simp[hb] at h1
 refine an (⟨k+1,⟨he,rfl⟩,?_⟩);show SEntT _ ⟨[(1001,bPl c i),(1002,.lptr 1 0 0),(1003,.lptr 2 0 0),(1006,.clos 273 [] [bPl c i])],[(1,some ⟨44,6,[zC++zC]⟩),(2,some ⟨44,6,[zC++zC]⟩)],3,37⟩;exact s_y [] (fun hs=>dj) (fun hs=>jq);intro k hk hT;cases hT;rintro e u rfl;exact⟨u,trivial,SEnt.refl _⟩;rintro u _;rw[alX.eq_1];refine r_z 2 ?_;exact am (c_e (bt _ _))
end Go.Proofs.YtjgokhkahkmpbaaGreatDoor
