/- Part Z16 of the proof. -/
import Derived.Test.YtdjfjpeoddmamaaGreatDoorZ15
set_option linter.all false
namespace Go.Proofs.YtdjfjpeoddmamaaGreatDoor
open Go.Abs
set_option maxRecDepth 20000
set_option maxHeartbeats 2000000
def prS(t:List Rat):Nat×Nat→AState
 |(i,d)=>⟨[(0,.arr (pE t)),(3,.lptr 1 0 0),(4,.lptr 2 0 0),(13,.arr (pE t)),(14,i64 t.length),(15,i64 i)],[(1,some ⟨35,3,[qC (nQ d)]⟩),(2,some ⟨35,3,[qC 0]⟩)],3,47⟩
theorem q0_(t:List Rat)(i:Nat)(d:Nat):prS t (i,d)=⟨[(0,.arr (pE t)),(3,.lptr 1 0 0),(4,.lptr 2 0 0),(13,.arr (pE t)),(14,i64 t.length),(15,i64 i)],[(1,some ⟨35,3,[qC (nQ d)]⟩),(2,some ⟨35,3,[qC 0]⟩)],3,47⟩:=rfl
def prT(t:List Rat)(D:Nat):Nat×Nat→AState
 |(i,n)=>⟨[(0,.arr (pE t)),(3,.lptr 1 0 0),(4,.lptr 2 0 0),(29,.arr (pE t)),(30,i64 t.length),(31,i64 i)],[(1,some ⟨35,3,[qC (nQ D)]⟩),(2,some ⟨35,3,[qC (nQ n)]⟩)],3,47⟩
theorem qZ_(t:List Rat)(D:Nat)(i:Nat)(n:Nat):prT t D (i,n)=⟨[(0,.arr (pE t)),(3,.lptr 1 0 0),(4,.lptr 2 0 0),(29,.arr (pE t)),(30,i64 t.length),(31,i64 i)],[(1,some ⟨35,3,[qC (nQ D)]⟩),(2,some ⟨35,3,[qC (nQ n)]⟩)],3,47⟩:=rfl
theorem hm_{l:List Rat}{i:Nat}(h:i< l.length):l.drop i=coP l i::l.drop (i+1):=by
 rw[List.drop_eq_getElem_cons h]
 congr 1
 have:=be_ h
 rw[List.getElem?_eq_getElem h] at this
 exact Option.some.inj this
theorem sL_(a b:Nat):bl (Nat.gcd a b)≤max (bl a) (bl b):=by
 rcases Nat.eq_zero_or_pos a with h|h
 subst h;rw[Nat.gcd_zero_left];exact Nat.le_max_right _ _
 exact Nat.le_trans (b6_ (Nat.gcd_le_left b h)) (Nat.le_max_left _ _)
theorem hF_(p:List Rat)(h:mc_ p)(h0:trimQ p≠[]):FSpec Tryz.prog 271 [.arr (pE p)] (.arr (pE (primP p))):=by
 obtain⟨t,ht⟩:∃t,t=trimQ p:=⟨_,rfl⟩
 obtain⟨s,hs⟩:∃s,s=mxL p:=⟨_,rfl⟩
 have hs1:1≤s:=by rw[hs];exact b0_ p
 have hbt:bdL t s:=fun q hq=>by rw[hs];exact cl_ p q (bk_ (by rw[←ht];exact hq))
 have htl:t.length≤p.length:=by rw[ht];exact aI_ p
 obtain⟨hsz,hpl⟩:=h
 rw[←hs] at hsz
 have hts:t.length* s≤p.length* s:=Nat.mul_le_mul_right _ htl
 rw[Nat.add_mul] at hsz
 obtain⟨D,hD⟩:∃D,D=denL t 1:=⟨_,rfl⟩
 have hD0:D≠0:=by rw[hD];exact hn_ t (by decide)
 have hDb:bl D≤1+t.length* s:=by rw[hD];exact n7_ t 1 hbt
 have hDd:∀c∈t,c.den∣D:=by rw[hD];exact(et_ t 1).2
 obtain⟨N,hN⟩:∃N,N=numL D t 0:=⟨_,rfl⟩
 have hlast:leadP p∈t:=by
  rw[ht]
  obtain⟨n,hn⟩:∃n,(trimQ p).length=n+1:=⟨(trimQ p).length- 1,by have:=List.length_pos_iff.2 h0;omega⟩
  exact List.mem_of_getElem? (bH_ hn)
 have hNd:=(gA_ D t 0).2 (leadP p) hlast
 rw[←hN] at hNd
 have hi0:=kW_ (hDd _ hlast) hD0 (bF_ h0)
 have hN0:N≠0:=fun e=>hi0 (by rw[e] at hNd;exact Nat.zero_dvd.1 hNd)
 have hNb:bl N≤s+bl D:=Nat.le_trans (b6_ (Nat.le_of_dvd (by omega) hNd)) (Nat.le_trans (nI_ _ _) (by have:=hbt _ hlast;omega))
 have hpr:primP p=az_ t (nQ D/ nQ N):=by unfold primP;rw[←ht,←hD,←hN]
 rw[hpr]
 have hgt:∀i,i< t.length→(pE t)[((i:Nat):Int).toNat]?=some (qC (coP t i)):=fun i hi=>bO_ (be_ hi)
 have hmem:∀i,i< t.length→coP t i∈t:=fun i hi=>List.mem_of_getElem? (be_ hi)
 have htr:=cu_ p (by omega)
 rw[←ht] at htr
 refine f_n Tryz.func271 ?_ ?_
 exact aa_ (as_ p) ab_
 refine r_z 1 ?_
 refine r_c 3 (htr) ?_
 refine a_z ?_
 refine r_c 6 (ea_ 1 (by decide)) ?_
 refine a_z ?_
 refine ac_ (r_z 3 ?_)
 refine aD_ (fun _:Unit=>⟨[(0,.arr (pE t)),(3,.lptr 1 0 0),(4,.lptr 2 0 0)],[(1,some ⟨35,3,[qC (nQ D)]⟩),(2,some ⟨35,3,[qC 0]⟩)],3,47⟩) (fun _=>True) ?_ ?_
 refine ah_ (aw_ (prS t) (fun x=>t.length- x.1) (fun x=>x.1≤t.length∧x.2≠0∧denL (t.drop x.1) x.2=D) (0,1) ⟨Nat.zero_le _,by decide,by rw[hD];rfl⟩ ?_ ?_)
 simp only[q0_]
 rw[qC0]
 exact s_e [(1,3),(2,4)]
 rintro⟨i,d⟩ ⟨hi,hd0,hd⟩
 simp only at hi hd0 hd
 rw[q0_]
 refine r_z 1 ?_
 refine ac_ (aj_ rfl (fun h=>?_) (fun h=>?_))
 refine ai_ ?_
 have hlt:i< t.length:=by simpa using h
 have hc:=hbt _ (hmem i hlt)
 have hcd:=b8_ (coP t i)
 have hcn:=(coP t i).den_nz
 rw[hm_ hlt] at hd
 have hdD:d∣D:=by rw[←hd];exact(et_ _ d).1
 have hdb:=b6_ (Nat.le_of_dvd (by omega) hdD)
 have hq1:=qs_nQ (n:=d) (k:=34359738368) (by omega) (by decide)
 have hq2:=qs_nQ (n:=(coP t i).den) (k:=34359738368) (by omega) (by decide)
 have hmu:=de_ (nQ d) (nQ (coP t i).den) (by omega)
 have hco:=j0_ d (coP t i).den (by omega) (by omega)
 have hg0:Nat.gcd d (coP t i).den≠0:=by have:=Nat.gcd_pos_of_pos_left (coP t i).den (Nat.pos_of_ne_zero hd0);omega
 have hgb:=sL_ d (coP t i).den
 have hq3:=qs_nQ (n:=Nat.gcd d (coP t i).den) (k:=34359738368) (by omega) (by decide)
 have hq4:=b3_ (nQ d) (nQ (coP t i).den)
 rw[oP_] at hq4 hmu
 have hov:=eq_ (nQ (d* (coP t i).den)) (nQ (Nat.gcd d (coP t i).den)) (fun e=>hg0 (nQ_zero.1 e)) (by omega)
 rw[oQ_ _ _ hg0,mh_ _ _ hg0 (Nat.dvd_mul_right_of_dvd (Nat.gcd_dvd_left _ _) _)] at hov
 refine ac_ (ah_ (s_r 4 ?_))
 first|refine aM_ (.index_l rfl rfl (by omega) (by omega) te_55.h) rfl rfl ?_|refine aM_ (.index_a rfl rfl (by omega) (hgt i hlt) rfl te_55.h) rfl rfl ?_
 first|refine aM_ (.load_l rfl rfl (hgt i hlt) tg_35.h ts_35.h (nle rfl)) rfl rfl ?_|refine aM_ (.load_a rfl (hgt i hlt) tg_35.h ts_35.h (nle rfl)) rfl rfl ?_
 refine a_z ?_
 refine r_d hmix 10 ?_
 refine c_s (fs_den (coP t i) (by unfold sm;omega)) ?_
 refine c_s (hmu) ?_
 refine c_s (fs_den (coP t i) (by unfold sm;omega)) ?_
 refine c_s (hco) ?_
 refine c_s (hov) ?_
 refine a_1 ?_
 refine ak_ (n_k ?_)
 refine r_m 2 ?_
 refine a_z ?_
 refine⟨(i+1,Nat.lcm d (coP t i).den),by simp only;omega,⟨hlt,rl_ hd0 hcn,hd⟩,?_⟩
 simp only[q0_]
 exact s_e []
 have hge:i=t.length:=by
  have:¬i< t.length:=by simpa using h
  omega
 subst hge
 rw[List.drop_length] at hd
 refine av_ ⟨(),trivial,?_⟩
 rw[←hd]
 exact s_e []
 rintro _ _
 refine ac_ (r_z 3 ?_)
 refine aD_ (fun _:Unit=>⟨[(0,.arr (pE t)),(3,.lptr 1 0 0),(4,.lptr 2 0 0)],[(1,some ⟨35,3,[qC (nQ D)]⟩),(2,some ⟨35,3,[qC (nQ N)]⟩)],3,47⟩) (fun _=>True) ?_ ?_
 refine ah_ (aw_ (prT t D) (fun x=>t.length- x.1) (fun x=>x.1≤t.length∧bl x.2≤s+bl D∧numL D (t.drop x.1) x.2=N) (0,0) ⟨Nat.zero_le _,by rw[sK_];exact Nat.zero_le _,by rw[hN];rfl⟩ ?_ ?_)
 simp only[qZ_]
 exact s_e []
 rintro⟨i,n⟩ ⟨hi,hnb,hn⟩
 simp only at hi hnb hn
 rw[qZ_]
 refine r_z 1 ?_
 refine ac_ (aj_ rfl (fun h=>?_) (fun h=>?_))
 refine ai_ ?_
 have hlt:i< t.length:=by simpa using h
 have hc:=hbt _ (hmem i hlt)
 rw[hm_ hlt] at hn
 have hib:=nI_ (coP t i) D
 have hgb:=sL_ n (intC (coP t i) D)
 have hq1:=qs_nQ (n:=D) (k:=34359738368) (by omega) (by decide)
 have hmu:=de_ (coP t i) (nQ D) (by omega)
 have hab:=pa_ (coP t i* nQ D)
 rw[gB_ _ _ (hDd _ (hmem i hlt))] at hab
 have hco:=j0_ n (intC (coP t i) D) (by omega) (by omega)
 refine ac_ (ah_ (s_r 4 ?_))
 first|refine aM_ (.index_l rfl rfl (by omega) (by omega) te_55.h) rfl rfl ?_|refine aM_ (.index_a rfl rfl (by omega) (hgt i hlt) rfl te_55.h) rfl rfl ?_
 first|refine aM_ (.load_l rfl rfl (hgt i hlt) tg_35.h ts_35.h (nle rfl)) rfl rfl ?_|refine aM_ (.load_a rfl (hgt i hlt) tg_35.h ts_35.h (nle rfl)) rfl rfl ?_
 refine a_z ?_
 refine r_d hmix 7 ?_
 refine c_s (hmu) ?_
 refine c_s (hab) ?_
 refine c_s (hco) ?_
 refine a_1 ?_
 refine ak_ (n_k ?_)
 refine r_m 2 ?_
 refine a_z ?_
 refine⟨(i+1,Nat.gcd n (intC (coP t i) D)),by simp only;omega,⟨hlt,by simp only;omega,hn⟩,?_⟩
 simp only[qZ_]
 exact s_e []
 have hge:i=t.length:=by
  have:¬i< t.length:=by simpa using h
  omega
 subst hge
 rw[List.drop_length] at hn
 refine av_ ⟨(),trivial,?_⟩
 rw[←hn]
 exact s_e []
 rintro _ _
 have hq1:=qs_nQ (n:=D) (k:=34359738368) (by omega) (by decide)
 have hq2:=qs_nQ (n:=N) (k:=34359738368) (by omega) (by decide)
 have hq3:=c8_ (nQ D) (nQ N)
 refine r_c 6 (eq_ (nQ D) (nQ N) (fun e=>hN0 (nQ_zero.1 e)) (by omega)) ?_
 refine c_s (er_ t (nQ D/ nQ N) (ev_ hbt (by omega)) (by unfold sm;omega) (by omega)) ?_
 refine a_z ?_
 exact ag_ (t_e (as_ _))
theorem k0_(f:Nat)(p r:List Rat)(h:sqfM f p=some r):FSpec Tryz.prog 221 [.arr (pE p)] (.arr (pE r)):=by
 unfold sqfM at h
 split at h
 case isFalse=>cases h
 case isTrue hs=>
 obtain⟨g,hg,hr⟩:=Option.bind_eq_some_iff.1 h
 split at hr
 case isFalse=>cases hr
 case isTrue hg2=>
 cases hr
 have hdl:=c0_ p
 have hdv:=eZ_ (p:=p) (q:=g)
 refine f_n Tryz.func221 ?_ ?_
 exact aa_ (as_ p) ab_
 refine r_z 1 ?_
 refine r_c 11 (gP_ p hs.1 (by omega)) ?_
 refine c_s (fs_Gcd f p (ax_ p) g hg hs.2 (by omega)) ?_
 refine c_s (fo_ p g (mxL p) (mxL g) (cl_ p) (cl_ g) (b0_ p) (b0_ g) hg2.2.1 hg2.1 hs.2 hg2.2.2.2) ?_
 refine a_z ?_
 refine r_c 3 (la_ (divP p g).1 (n4_ hg2.2 hg2.1).1 (by omega)) ?_
 refine a_z ?_
 exact ag_ (t_e (as_ _))
theorem fs_large(p:List Rat)(hp:p.length≤1099511627776):FSpec Tryz.prog 147 [.arr (pE p)] (i64 (hB_ p)):=by
 refine f_n Tryz.func147 ?_ ?_
 exact aa_ (as_ p) ab_
 refine r_z 1 ?_
 refine ac_ (r_c 3 (bI_ p hp) ?_)
 refine a_z ?_
 refine aD_ (fun _:Unit=>⟨[],[],1,12⟩) (fun _=>hB_ p=0) ?_ ?_
 refine ah_ (r_z 3 ?_)
 refine aj_ rfl (fun h=>?_) (fun h=>?_)
 have h1:degP p< 0:=by simpa using h
 refine r_z 1 ?_
 refine ag_ (aS_ rfl ?_ ?_)
 unfold hB_;rw[if_pos h1];rfl
 exact ad_ _
 have h1:¬degP p< 0:=by simpa using h
 refine r_z 3 ?_
 refine aj_ rfl (fun h2=>?_) (fun h2=>?_)
 have h3:40< degP p:=by simpa using h2
 refine r_z 1 ?_
 refine ag_ (aS_ rfl ?_ ?_)
 unfold hB_;rw[if_neg h1,if_pos h3];rfl
 exact ad_ _
 have h3:¬40< degP p:=by simpa using h2
 refine ai_ ⟨(),by unfold hB_;rw[if_neg h1,if_neg h3],?_⟩
 exact s_e []
 rintro _ hl
 refine r_z 1 ?_
 refine ag_ (aS_ rfl ?_ ?_)
 rw[hl];rfl
 exact ad_ _
def boS(t:List Rat)(l:List Rat):Nat×Rat→AState
 |(i,m)=>⟨[(0,.arr (pE t)),(2,.lptr 1 0 0),(3,.lptr 2 0 0),(13,.arr (pE l)),(14,i64 l.length),(15,i64 i)],[(1,some ⟨35,3,[zC]⟩),(2,some ⟨35,3,[qC m]⟩)],3,31⟩
theorem sJ_(t:List Rat)(l:List Rat)(i:Nat)(m:Rat):boS t l (i,m)=⟨[(0,.arr (pE t)),(2,.lptr 1 0 0),(3,.lptr 2 0 0),(13,.arr (pE l)),(14,i64 l.length),(15,i64 i)],[(1,some ⟨35,3,[zC]⟩),(2,some ⟨35,3,[qC m]⟩)],3,31⟩:=rfl
theorem fs_bound(p:List Rat)(h:ff_ p)(h0:trimQ p≠[]):FSpec Tryz.prog 151 [.arr (pE p)] (.agg (qC (bc_ p))):=by
 obtain⟨hsz,hpl⟩:=h
 obtain⟨t,ht⟩:∃t,t=trimQ p:=⟨_,rfl⟩
 have htr:=cu_ p (by omega)
 have htl:=aI_ p
 rw[←ht] at htr htl
 obtain⟨l,hl⟩:∃l,l=t.take (t.length- 1):=⟨_,rfl⟩
 have hll:l.length=t.length- 1:=by rw[hl];simp
 have hbl:bdL l (mxL p):=fun q hq=>cl_ p q (bk_ (by rw[←ht];exact List.mem_of_mem_take (by rw[←hl];exact hq)))
 have hpos:0< t.length:=by rw[ht];exact List.length_pos_iff.2 h0
 have hlead:leadP t=leadP p:=by rw[ht,dn_]
 have hlb:qs (leadP p)≤mxL p:=by
  obtain⟨n,hn⟩:∃n,(trimQ p).length=n+1:=⟨(trimQ p).length- 1,by rw[←ht];omega⟩
  exact cl_ p _ (bk_ (List.mem_of_getElem? (bH_ hn)))
 have hb:bc_ p=boL (leadP p) l 0+1:=by unfold bc_;rw[←ht,←hl]
 rw[hb]
 obtain⟨B,hB⟩:∃B,B=boL (leadP p) l 0:=⟨_,rfl⟩
 rw[←hB]
 refine f_n Tryz.func151 ?_ ?_
 exact aa_ (as_ p) ab_
 refine r_z 1 ?_
 refine r_c 3 (htr) ?_
 refine a_z ?_
 refine r_z 3 ?_
 refine ac_ (s_r 7 ?_)
 refine a_4 ?_
 refine o_0 (.sa_h rfl rfl (h:=t.length- 1) (by omega) (by simp) te_55.h (gc_ _)) ?_
 refine a_z ?_
 refine aD_ (fun _:Unit=>⟨[(2,.lptr 1 0 0),(3,.lptr 2 0 0)],[(1,some ⟨35,3,[zC]⟩),(2,some ⟨35,3,[qC B]⟩)],3,31⟩) (fun _=>qs B≤2* mxL p+1) ?_ ?_
 refine ah_ (aw_ (boS t l) (fun x=>l.length- x.1) (fun x=>x.1≤l.length∧qs x.2≤2* mxL p+1∧boL (leadP p) (l.drop x.1) x.2=B) (0,0) ⟨Nat.zero_le _,Nat.le_trans (by decide:qs 0≤1) (Nat.le_add_left 1 _),by rw[hB];rfl⟩ ?_ ?_)
 simp only[sJ_]
 rw[qC0]
 have e13:AV.arr (List.take (t.length- 1) (pE t))=AV.arr (pE l):=by rw[hl,nz_]
 refine at_ [(1,2),(2,3)] rfl rfl rfl ?_ (fun hs=>?_) (fun hs=>?_)
 ·repeat' (first|exact ShrL.nil|refine ShrL.cons rfl rfl rfl rfl (by first|rfl|(simp;done)|(simp[hll]<;> omega)) ?_)
 ·repeat' (first|exact aK_|refine aE_ rfl ?_ ?_)
  all_goals (first|(exact Cv.loE hs e13 (e13▸as_ l))|exact au_c|(refine Cv.loE hs ?_ (ad_ _);first|rfl|(simp[i64,u64,u32,bln,hll];done)|(simp[i64,u64,u32,bln,hll]<;> omega)))
 ·repeat' (first|exact aq_|refine al_ rfl rfl rfl rfl ?_ ?_)
  all_goals (first|exact au_e|(refine aH_ hs ?_ (aJ_ _);first|(simp[ir_,l8_,hll];done)|(simp[pE,ofV,hll];done))|(refine ae_ ?_;repeat' (first|exact ap_|refine af_ ?_ ?_)))
  all_goals (first|(exact Cv.loE hs e13 (e13▸as_ l))|exact au_c|(refine Cv.loE hs ?_ (ad_ _);first|(simp[i64,u64,u32,bln,hll];done)|(simp[i64,u64,u32,bln,hll]<;> omega)))
 rintro⟨i,m⟩ ⟨hi,hm,hbo⟩
 simp only at hi hm hbo
 rw[sJ_]
 refine r_z 1 ?_
 refine ac_ (aj_ rfl (fun h=>?_) (fun h=>?_))
 refine ai_ ?_
 have hlt:i< l.length:=by simpa using h
 have hgt:(pE l)[((i:Nat):Int).toNat]?=some (qC (coP l i)):=bO_ (be_ hlt)
 have hc:qs (coP l i)≤mxL p:=hbl _ (List.mem_of_getElem? (be_ hlt))
 rw[hm_ hlt] at hbo
 have hq:=c8_ (coP l i) (leadP p)
 have hle:=gi_ t (by omega)
 rw[hlead] at hle
 have hqa:=l6_ (coP l i/ leadP p)
 have hbm:bdL [m,absQ (coP l i/ leadP p)] (2* mxL p+1):=by
  intro x hx
  rcases List.mem_cons.1 hx with rfl|hx
  exact hm
  rw[List.mem_singleton.1 hx];omega
 have hmx:=fs_Max [m,absQ (coP l i/ leadP p)] (ev_ hbm (by omega)) (by simp)
 refine ac_ (ah_ (s_r 4 ?_))
 refine i_x hgt ?_
 refine l_x hgt ?_
 refine a_z ?_
 refine r_d hmix 9 ?_
 refine c_s (hle) ?_
 refine c_s (eq_ (coP l i) (leadP p) (bF_ h0) (by omega)) ?_
 refine c_s (pa_ (coP l i/ leadP p)) ?_
 refine a_1 ?_
 refine o_1 (.callS1 rfl rfl rfl (.shut rfl d_n (.nil)) rfl (hmx)) ?_
 refine a_1 ?_
 refine ak_ (n_k ?_)
 refine r_m 2 ?_
 refine a_z ?_
 refine⟨(i+1,maxL [m,absQ (coP l i/ leadP p)]),by simp only;omega,⟨hlt,nF_ hbm (Nat.le_add_left 1 _),hbo⟩,?_⟩
 simp only[sJ_]
 exact s_e []
 have hge:i=l.length:=by
  have:¬i< l.length:=by simpa using h
  omega
 subst hge
 rw[List.drop_length] at hbo
 have hbo':m=B:=hbo
 subst hbo'
 refine av_ ⟨(),hm,?_⟩
 exact s_e []
 rintro _ hq
 have h1:qs 1=1:=by decide
 refine ac_ (r_d hmix 4 ?_)
 refine c_s (ea_ 1 (by decide)) ?_
 refine c_s (f4_ B 1 (by omega)) ?_
 refine a_1 ?_
 refine ak_ (n_k ?_)
 exact ag_ (c_e (ay_ _))
def stS:List Rat×List (List Rat)→AState
 |(next,acc)=>⟨[(3,.lsl 1 0 acc.length none 1),(4,.arr (pE next))],[(1,some ⟨55,1,cE acc⟩)],2,40⟩
theorem qB_(next:List Rat)(acc:List (List Rat)):stS (next,acc)=⟨[(3,.lsl 1 0 acc.length none 1),(4,.arr (pE next))],[(1,some ⟨55,1,cE acc⟩)],2,40⟩:=rfl
theorem qY_(p:List Rat):(primP p).length≤p.length:=
 Nat.le_trans (bK_ _ _) (aI_ p)
theorem fs_sturm(f:Nat)(p:List Rat)(r:List (List Rat))(h:e2_ f p=some r)(hf:f≤1000000):FSpec Tryz.prog 222 [.arr (pE p)] (.arr (cE r)):=by
 unfold e2_ at h
 split at h
 case isFalse=>cases h
 case isTrue hp=>
 have hdl:=c0_ p
 have hpl:=hp.2.1.2
 refine f_n Tryz.func222 ?_ ?_
 exact aa_ (as_ p) ab_
 refine r_z 1 ?_
 refine r_c 4 (hF_ p hp.2.1 hp.2.2) ?_
 refine a_z ?_
 refine ac_ (r_c 3 (gP_ p hp.1 (by omega)) ?_)
 refine a_z ?_
 refine aD_ (fun _:Unit=>⟨[(3,.lsl 1 0 r.length none 1)],[(1,some ⟨55,1,cE r⟩)],2,40⟩) (fun _=>True) ?_ ?_
 ·refine ah_ (aw_ (fun x:Nat×List Rat×List Rat×List (List Rat)=>stS x.2.2) (fun x=>x.1) (fun x=>ef_ f x.1 x.2.1 x.2.2.1 x.2.2.2=some r∧x.2.2.1.length≤274877906944∧x.2.2.2.length+x.1≤1000001∧1≤x.2.2.2.length∧x.2.2.2[x.2.2.2.length- 1]?=some x.2.1) (f,primP p,ax_ p,[primP p]) ⟨h,by simp only;omega,by simp only[List.length_singleton];omega,by simp,rfl⟩ ?_ ?_)
  simp only[qB_]
  have:=fx_ [primP p]
  exact s_f [(1,3)]
  rintro⟨k,last,next,acc⟩ ⟨h,hn,hk,ha1,hla⟩
  simp only at h hn hk ha1 hla
  simp only[qB_]
  cases k with
  |zero=>cases h
  |succ k=>
   rw[ef_] at h
   refine ac_ (r_c 3 (bI_ next (by omega)) ?_)
   refine a_z ?_
   refine aj_ rfl (fun h1=>?_) (fun h1=>?_)
   ·have h0:trimQ next≠[]:=by
     intro e
     have e2:=degP_neg.2 e
     simp at h1;omega
    rw[if_neg h0] at h
    split at h
    case isFalse=>cases h
    case isTrue hs=>
    have hpn:=qY_ next
    have hdv:=eZ_ (p:=last) (q:=primP next)
    have hsl:=bK_ (divP last (primP next)).2 (-1)
    have hl2:=hs.2.1.2.1
    have hg1:(cE (acc++[primP next]))[0+(((acc.length+1:Nat):Int)- 2).toNat]?=some [.arr (pE last)]:=by
     rw[show 0+(((acc.length+1:Nat):Int)- 2).toNat=acc.length- 1 by omega]
     exact sG_ (by rw[List.getElem?_append_left (by omega)];exact hla)
    have hg2:(cE (acc++[primP next]))[0+(((acc.length+1:Nat):Int)- 1).toNat]?=some [.arr (pE (primP next))]:=by
     rw[show 0+(((acc.length+1:Nat):Int)- 1).toNat=acc.length by omega]
     exact sG_ (by simp)
    refine ai_ (ah_ (r_c 6 (hF_ next hs.1 h0) ?_))
    refine a_z ?_
    refine AWp.ent (st':=⟨[(3,.lsl 1 0 (acc.length+1) none 1)],[(1,some ⟨55,1,cE (acc++[primP next])⟩)],2,40⟩) ?_ ?_
    ·have:=(cE_snoc acc (primP next)).symm
     exact s_f [(1,3)]
    refine ac_ (r_d hmix 18 ?_)
    refine a_5 ?_
    first|refine aM_ (.load_l1 rfl rfl hg1 tg_55.h rfl) rfl rfl ?_|refine aM_ (.load_a1 rfl hg1 tg_55.h rfl) rfl rfl ?_
    refine a_5 ?_
    first|refine aM_ (.load_l1 rfl rfl hg2 tg_55.h rfl) rfl rfl ?_|refine aM_ (.load_a1 rfl hg2 tg_55.h rfl) rfl rfl ?_
    refine c_s (fo_ last (primP next) (mxL last) (mxL (primP next)) (cl_ _) (cl_ _) (b0_ _) (b0_ _) hs.2.1.1 hs.2.2 hs.2.1.2.1 hs.2.1.2.2) ?_
    refine a_5 ?_
    refine ak_ (n_k ?_)
    refine r_m 4 ?_
    refine c_s (ea_ (-1) (by decide)) ?_
    refine c_s (er_ (divP last (primP next)).2 (-1) (n4_ hs.2.1 hs.2.2).2 (by decide) (by omega)) ?_
    refine a_z ?_
    refine⟨(k,primP next,az_ (divP last (primP next)).2 (-1),acc++[primP next]),Nat.lt_succ_self k,⟨h,by simp only;omega,by simp only[List.length_append,List.length_singleton];omega,by simp,by simp⟩,?_⟩
    have hla:(acc++[primP next]).length=acc.length+1:=by simp
    simp only[qB_,hla]
    exact s_f []
   ·have h0:trimQ next=[]:=by
     refine degP_neg.1 ?_
     simp at h1;omega
    rw[if_pos h0] at h
    cases h
    refine av_ ⟨(),trivial,?_⟩
    exact s_f []
 rintro _ _
 refine r_z 2 ?_
 exact ag_ (Fin.tmpS rfl rfl rfl (by simp) (fx_ r))
def chS(ch:List (List Rat))(g:Nat)(cap:List AV):Nat×Int×Int→AState
 |(i,n,last)=>⟨[(1,.clos g [] cap),(5,i64 n),(6,i64 last),(10,.arr (cE ch)),(11,i64 ch.length),(12,i64 i)],[],1,30⟩
theorem nd_(ch:List (List Rat))(g:Nat)(cap:List AV)(i:Nat)(n:Int)(last:Int):chS ch g cap (i,n,last)=⟨[(1,.clos g [] cap),(5,i64 n),(6,i64 last),(10,.arr (cE ch)),(11,i64 ch.length),(12,i64 i)],[],1,30⟩:=rfl
theorem j2_(ch:List (List Rat))(g:Nat)(cap:List AV)(sg:List Rat→Int)(hcap:∀c∈cap,Closed c)(hsg:∀q∈ch,-1≤sg q∧sg q≤1)(hl:ch.length≤274877906944)(hg:∀q∈ch,FSpec Tryz.prog g ((.arr (pE q)::cap).map coe) (i64 (sg q))):FSpec Tryz.prog 223 [.arr (cE ch),.clos g [] cap] (i64 (chL (ch.map sg) 0 0)):=by
 refine f_n Tryz.func223 ?_ ?_
 exact aa_ (gZ_ ch) (aa_ (aW_ ab_ hcap) ab_)
 refine r_z 1 ?_
 refine r_z 2 ?_
 refine ac_ (r_z 3 ?_)
 obtain⟨R,hR⟩:∃R,R=chL (ch.map sg) 0 0:=⟨_,rfl⟩
 rw[←hR]
 refine aD_ (fun _:Unit=>⟨[(5,i64 R)],[],1,30⟩) (fun _=>True) ?_ ?_
 refine ah_ (aw_ (chS ch g cap) (fun x=>ch.length- x.1) (fun x=>x.1≤ch.length∧0≤x.2.1∧x.2.1≤x.1∧ -1≤x.2.2∧x.2.2≤1∧chL ((ch.drop x.1).map sg) x.2.1 x.2.2=R) (0,0,0) ⟨Nat.zero_le _,by decide,by decide,by decide,by decide,by rw[hR];rfl⟩ ?_ ?_)
 simp only[nd_]
 refine at_ [] rfl rfl rfl au_r (fun hs=>?_) (fun hs=>?_)
 ·repeat' (first|exact aK_|refine aE_ rfl ?_ ?_)
  all_goals (first|(exact an_ hs (aW_ ab_ hcap))|exact au_c)
 ·repeat' (first|exact aq_|refine al_ rfl rfl rfl rfl ?_ ?_)
  all_goals (first|exact au_e|(refine ae_ ?_;repeat' (first|exact ap_|refine af_ ?_ ?_)))
  all_goals (first|(exact an_ hs (aW_ ab_ hcap))|exact au_c)
 rintro⟨i,n,last⟩ ⟨hi,hn0,hn1,hl0,hl1,hc⟩
 simp only at hi hn0 hn1 hl0 hl1 hc
 rw[nd_]
 refine r_z 1 ?_
 refine ac_ (aj_ rfl (fun h=>?_) (fun h=>?_))
 refine ai_ ?_
 have hlt:i< ch.length:=by simpa using h
 obtain⟨q,hq⟩:∃q,ch[i]?=some q:=⟨_,List.getElem?_eq_getElem hlt⟩
 have hqm:=List.mem_of_getElem? hq
 have hgt:(cE ch)[((i:Nat):Int).toNat]?=some [.arr (pE q)]:=sG_ hq
 have hd:ch.drop i=q::ch.drop (i+1):=by
  rw[List.drop_eq_getElem_cons hlt]
  rw[List.getElem?_eq_getElem hlt] at hq
  rw[Option.some.inj hq]
 rw[hd,List.map_cons,chL] at hc
 have hs2:=hsg q hqm
 refine ac_ (ah_ (s_r 3 ?_))
 refine i_x hgt ?_
 refine l_1 hgt ?_
 refine a_z ?_
 refine r_c 4 (hg q hqm) ?_
 refine a_z ?_
 refine r_z 2 ?_
 refine aj_ rfl (fun h1=>?_) (fun h1=>?_)
 have hne:sg q≠0:=by simpa using h1
 rw[if_pos hne] at hc
 refine ac_ (r_z 4 ?_)
 refine aj_ rfl (fun h2=>?_) (fun h2=>?_)
 have he:sg q= -last:=by simpa using h2
 rw[if_pos he] at hc
 refine r_m 3 ?_
 refine a_z ?_
 refine r_m 2 ?_
 refine a_z ?_
 refine r_m 2 ?_
 refine a_z ?_
 refine⟨(i+1,n+1,sg q),by simp only;omega,⟨hlt,by simp only;omega,by simp only;omega,hs2.1,hs2.2,hc⟩,?_⟩
 simp only[nd_]
 refine at_ [] rfl rfl rfl au_r (fun hs=>?_) (fun hs=>?_)
 ·repeat' (first|exact aK_|refine aE_ rfl ?_ ?_)
  all_goals (first|(exact an_ hs (aW_ ab_ hcap))|exact au_c)
 ·repeat' (first|exact aq_|refine al_ rfl rfl rfl rfl ?_ ?_)
  all_goals (first|exact au_e|(refine ae_ ?_;repeat' (first|exact ap_|refine af_ ?_ ?_)))
  all_goals (first|(exact an_ hs (aW_ ab_ hcap))|exact au_c)
 have he:¬sg q= -last:=by simpa using h2
 rw[if_neg he] at hc
 refine ai_ (r_m 2 ?_)
 refine a_z ?_
 refine r_m 2 ?_
 refine a_z ?_
 refine⟨(i+1,n,sg q),by simp only;omega,⟨hlt,hn0,by simp only;omega,hs2.1,hs2.2,hc⟩,?_⟩
 simp only[nd_]
 refine at_ [] rfl rfl rfl au_r (fun hs=>?_) (fun hs=>?_)
 ·repeat' (first|exact aK_|refine aE_ rfl ?_ ?_)
  all_goals (first|(exact an_ hs (aW_ ab_ hcap))|exact au_c)
 ·repeat' (first|exact aq_|refine al_ rfl rfl rfl rfl ?_ ?_)
  all_goals (first|exact au_e|(refine ae_ ?_;repeat' (first|exact ap_|refine af_ ?_ ?_)))
  all_goals (first|(exact an_ hs (aW_ ab_ hcap))|exact au_c)
 have hne:sg q=0:=by simpa using h1
 rw[if_neg (fun e=>e hne)] at hc
 refine ai_ (r_m 2 ?_)
 refine a_z ?_
 refine⟨(i+1,n,last),by simp only;omega,⟨hlt,hn0,by simp only;omega,hl0,hl1,hc⟩,?_⟩
 simp only[nd_]
 refine at_ [] rfl rfl rfl au_r (fun hs=>?_) (fun hs=>?_)
 ·repeat' (first|exact aK_|refine aE_ rfl ?_ ?_)
  all_goals (first|(exact an_ hs (aW_ ab_ hcap))|exact au_c)
 ·repeat' (first|exact aq_|refine al_ rfl rfl rfl rfl ?_ ?_)
  all_goals (first|exact au_e|(refine ae_ ?_;repeat' (first|exact ap_|refine af_ ?_ ?_)))
  all_goals (first|(exact an_ hs (aW_ ab_ hcap))|exact au_c)
 have hge:i=ch.length:=by
  have:¬i< ch.length:=by simpa using h
  omega
 subst hge
 rw[List.drop_length] at hc
 have hc':n=R:=hc
 subst hc'
 refine av_ ⟨(),trivial,?_⟩
 exact s_e []
 rintro _ _
 refine r_z 2 ?_
 exact ag_ (t_e (ad_ _))
theorem p5_(q:List Rat)(h0:trimQ q≠[])(hl:q.length≤274877906944):FSpec Tryz.prog 224 [.arr (pE q)] (i64 (sgI q)):=by
 have hd:¬degP q< 0:=fun e=>h0 (degP_neg.1 e)
 have hb:=g7_ (leadP q).num
 refine f_n Tryz.func224 ?_ ?_
 exact aa_ (as_ q) ab_
 refine r_z 1 ?_
 refine ac_ (r_c 4 (bI_ q (by omega)) ?_)
 refine a_z ?_
 refine aj_ rfl (fun h=>?_) (fun h=>?_)
 have h1:degP q % 2=1:=by simpa using h
 refine r_c 5 (gi_ q (by omega)) ?_
 refine c_s (bU_ (leadP q)) ?_
 refine a_z ?_
 refine ag_ (aS_ rfl ?_ ?_)
 unfold sgI;rw[if_pos h1];rfl
 exact ad_ _
 have h1:¬degP q % 2=1:=by simpa using h
 refine ai_ (r_c 4 (gi_ q (by omega)) ?_)
 refine c_s (bU_ (leadP q)) ?_
 refine a_z ?_
 refine ag_ (aS_ rfl ?_ ?_)
 unfold sgI;rw[if_neg h1]
 exact ad_ _
theorem rO_(f:Nat)(p:List Rat)(c:Cnt)(h:cR_ f p=some c)(hf:f≤1000000):FSpec Tryz.prog 148 [.arr (pE p)] (kA c):=by
 unfold cR_ at h
 obtain⟨s,hs,h2⟩:=Option.bind_eq_some_iff.1 h
 obtain⟨ch,hch,h3⟩:=Option.bind_eq_some_iff.1 h2
 split at h3
 case isFalse=>cases h3
 case isTrue hk=>
 cases h3
 have hcs:=j2_ ch 224 [] sgI ab_ (fun q _=>sgI_abs q) hk.2.1 (fun q hq=>p5_ q (hk.1 q hq).1 (hk.1 q hq).2)
 refine f_n Tryz.func148 ?_ ?_
 exact aa_ (as_ p) ab_
 refine r_z 1 ?_
 refine r_c 5 (k0_ f p s hs) ?_
 refine a_z ?_
 refine r_c 9 (fs_sturm f s ch hch hf) ?_
 refine a_z ?_
 refine r_c 9 (hcs) ?_
 refine a_z ?_
 refine r_z 2 ?_
 exact ag_ (Fin.tmpP rfl rfl rfl (m9_ _))
theorem fs_upto1(q:List Rat)(x:Rat)(h:d3_ q x):FSpec Tryz.prog 225 [.arr (pE q),bQ x] (i64 (sgE x q)):=by
 refine f_n Tryz.func225 ?_ ?_
 exact aa_ (as_ q) (aa_ (cx_ x) ab_)
 refine r_z 1 ?_
 refine r_c 5 (ll_ q x h) ?_
 refine c_s (bU_ (evalP q x)) ?_
 refine a_z ?_
 exact ag_ (t_e (ad_ _))
theorem rE_(c:Cnt)(x:Rat)(h:okUp c x):FSpec Tryz.prog 149 [kA c,.agg (qC x)] (i64 (uptoV c x)):=by
 have hcs:=j2_ c.ch 225 [bQ x] (sgE x) (aa_ (cx_ x) ab_) (fun q _=>g7_ _) h.1.2.1 (fun q hq=>fs_upto1 q x (h.2 q hq))
 have hb:=hO_ (x:=x) h.1
 unfold uptoV at hb⊢
 refine f_n Tryz.func149 ?_ ?_
 exact aa_ (fv_ c) (aa_ (ay_ x) ab_)
 refine r_z 2 ?_
 refine AWp.ent (st':=⟨[(0,kA c),(3,bQ x)],[],1,16⟩) ?_ ?_
 exact s_e []
 refine ac_ (r_d hmix 12 ?_)
 refine c_s (hcs) ?_
 refine a_2 ?_
 refine ak_ (n_k ?_)
 exact ag_ (t_e (ad_ _))
theorem fs_below(c:Cnt)(x:Rat)(h:okBe c x):FSpec Tryz.prog 150 [kA c,.agg (qC x)] (i64 (e6_ c x)):=by
 have hb:=hO_ (x:=x) h.1.1
 refine f_n Tryz.func150 ?_ ?_
 exact aa_ (fv_ c) (aa_ (ay_ x) ab_)
 refine r_z 2 ?_
 refine r_c 4 (rE_ c x h.1) ?_
 refine a_z ?_
 refine a2_ (fun n:Int=>⟨[(5,i64 n)],[],1,20⟩) (fun n=>n=e6_ c x) ?_ ?_
 refine ac_ (r_d hmix 8 ?_)
 refine c_s (ll_ c.p x h.2) ?_
 refine c_s (bU_ (evalP c.p x)) ?_
 refine a_1 ?_
 refine ak_ (n_k ?_)
 refine aj_ rfl (fun h1=>?_) (fun h1=>?_)
 have h0:evalP c.p x=0:=by
  have:sgZ (evalP c.p x).num=0:=by simpa using h1
  exact sgZ_num_eq.1 this
 refine r_m 3 ?_
 refine a_z ?_
 refine⟨uptoV c x- 1,by unfold e6_;rw[if_pos h0],?_⟩
 exact s_e []
 have h0:evalP c.p x≠0:=by
  intro e
  have:¬sgZ (evalP c.p x).num=0:=by simpa using h1
  exact this (sgZ_num_eq.2 e)
 refine ai_ ⟨uptoV c x,by unfold e6_;rw[if_neg h0],?_⟩
 exact s_e []
 rintro n rfl
 refine r_z 2 ?_
 exact ag_ (t_e (ad_ _))

def okDown(c:Cnt)(step:Rat)(lo:Rat):Prop:=ff_ c.p∧trimQ c.p≠[]∧step≠0∧qs (bc_ c.p)+qs step≤549755813888∧qs lo+qs step≤549755813888∧okBe c (lo* step)
instance (c:Cnt) (step lo:Rat):Decidable (okDown c step lo):=inferInstanceAs (Decidable (_∧_∧_∧_∧_∧_))

def midV(s:Sp):Rat:=(s.1+s.2) * fineQ 1
def okNext(c:Cnt)(s:Sp):Prop:=smS s∧okBe c (midV s)
instance (c:Cnt) (s:Sp):Decidable (okNext c s):=inferInstanceAs (Decidable (_∧_))
abbrev bPl(c:Cnt)(i:Int):AV:= .aptr [[plA c i]] 0 0
theorem fT_(c:Cnt)(i:Int):Closed (bPl c i):=am_ (aa_ (hq_ c i) ab_)



def qSpan(a:Rat)(k:Int):Sp:=(downQ a (wi k 256),upQ a (wi k 256))
def okRange(p:List Rat)(s:Sp)(k:Int):Prop:=smS s∧d3_ p s.1∧d3_ p s.2∧smL p∧p.length≤274877906944∧cmpQ s.1 s.2≤0∧degP p≤40∧smS (qSpan (evalP p s.1) k)∧smS (qSpan (evalP p s.2) k)
instance (p:List Rat) (s:Sp) (k:Int):Decidable (okRange p s k):=inferInstanceAs (Decidable (_∧_∧_∧_∧_∧_∧_∧_∧_))
theorem r3_(p q:List Rat)(h:okDiv p q)(h0:trimQ q≠[]):FSpec Tryz.prog 154 [.arr (pE p),.arr (pE q)] (.tup [.arr (pE (divP p q).1),.arr (pE (divP p q).2),i64 0]):=by
 have hl:=h.2.2
 refine f_n Tryz.func154 ?_ ?_
 exact aa_ (as_ p) (aa_ (as_ q) ab_)
 refine r_z 3 ?_
 refine ac_ (r_c 3 (bI_ q (by omega)) ?_)
 refine a_z ?_
 refine aj_ rfl (fun h1=>?_) (fun h1=>?_)
 exact absurd (degP_neg.1 (by simpa using h1)) h0
 refine ai_ (r_c 8 (fo_ p q (mxL p) (mxL q) (cl_ p) (cl_ q) (b0_ p) (b0_ q) h.1 h0 h.2.1 h.2.2) ?_)
 refine a_z ?_
 refine r_z 5 ?_
 refine ag_ (Fin.many ⟨_,_,rfl,rfl,⟨_,_,rfl,rfl,⟨_,_,rfl,rfl,rfl⟩⟩⟩ (nle rfl) ?_)
 exact af_ (an_ au_ (as_ _)) (af_ (an_ au_ (as_ _)) (af_ (an_ au_ (ad_ _)) ap_))



def qz_:List Nat→AState
 |l=>⟨[(0,.arr (iE l))],[],1,15⟩
theorem ey_(l:List Nat):qz_ l=⟨[(0,.arr (iE l))],[],1,15⟩:=rfl
theorem eo_(l:List Nat)(hl:l.length≤281474976710656):FSpec Tryz.prog 258 [.arr (iE l)] (.arr (iE (dJ_ l))):=by
 refine f_n Tryz.func258 ?_ ?_
 exact aa_ (bo_ l) ab_
 refine r_z 1 ?_
 refine a2_ qz_ (fun m=>m=dJ_ l) ?_ ?_
 refine ah_ (aw_ qz_ (fun m=>m.length) (fun m=>m.length≤281474976710656∧dJ_ m=dJ_ l) l ⟨hl,rfl⟩ ?_ ?_)
 simp only[ey_]
 exact s_e []
 rintro m ⟨hm,he⟩
 rw[ey_]
 cases m with
 |nil=>
  refine ac_ (s_r 9 ?_)
  refine a_4 ?_
  refine n_g rfl d_f ?_
  refine n_g rfl d_f ?_
  refine n_g rfl d_f ?_
  refine n_g rfl d_f ?_
  refine o_0 (.pickF rfl d_f rfl) ?_
  refine ak_ ?_
  refine cF ?_
  refine av_ ⟨[],by simpa[dJ_] using he,?_⟩
  simp only[ey_]
  exact s_e []
 |cons d m=>
  have hd:(iE (d::m))[(0:Int).toNat]?=some [i64 d]:=rfl
  refine ac_ (s_r 9 ?_)
  refine a_4 ?_
  refine y_g rfl (by simp) (.move rfl) ?_
  first|refine y_g rfl (by simp) (.index_l rfl rfl (by omega) (by omega) te_38.h) ?_|refine y_g rfl (by simp) (.index_a rfl rfl (by omega) hd rfl te_38.h) ?_
  first|refine y_g rfl (by simp) (.load_l1 rfl rfl hd tg_3.h rfl) ?_|refine y_g rfl (by simp) (.load_a1 rfl hd tg_3.h rfl) ?_
  refine y_g rfl (by simp) (.bin rfl rfl bq_) ?_
  refine o_0 (.pickT rfl (by simp) rfl) ?_
  refine ak_ ?_
  refine aj_ rfl (fun h=>?_) (fun h=>?_)
  have h0:d=0:=by simpa using h
  refine ai_ ?_
  subst h0
  refine ah_ (r_m 3 ?_)
  refine a_1 ?_
  refine o_0 (.sa_l rfl rfl rfl (by simp) te_38.h (gf_ _)) ?_
  refine a_z ?_
  refine⟨m,by simp,⟨by simp at hm;omega,by simpa[dJ_] using he⟩,?_⟩
  simp only[ey_]
  exact s_e []
  have h0:d≠0:=by simpa using h
  refine av_ ⟨d::m,by rw[←he];simp[dJ_,h0],?_⟩
  simp only[ey_]
  exact s_e []
 rintro m rfl
 rw[ey_]
 refine r_z 2 ?_
 exact ag_ (t_e (bo_ _))
theorem fn_(s:Int)(l:List Nat)(z:Int)(hl:l.length≤281474976710656)(hd:∀d∈l,d< UB)(hz:hv l=z.natAbs)(hs:z≠0→s=sgZ z):FSpec Tryz.prog 207 [i64 s,.arr (iE l)] (.agg (zZ z)):=by
 refine f_n Tryz.func207 ?_ ?_
 exact aa_ (ad_ _) (aa_ (bo_ l) ab_)
 refine r_z 1 ?_
 refine r_c 3 (eo_ l hl) ?_
 refine a_z ?_
 refine ac_ (r_z 3 ?_)
 refine aj_ rfl (fun h=>?_) (fun h=>?_)
 have h0:dJ_ l=[]:=by
  have:(dJ_ l).length=0:=by simpa using h
  exact List.length_eq_zero_iff.1 this
 have hz0:z=0:=by have:=(jw_ hd).1 h0;omega
 subst hz0
 refine r_z 2 ?_
 refine ag_ (Fin.cell rfl rfl rfl tg_40.h ts_40.h (nle rfl) ?_)
 rw[qn_]
 exact Cv.agg (af_ (an_ au_ (ad_ _)) (af_ (Cv.emp _) ap_))
 have h0:dJ_ l≠[]:=fun e=>by rw[e] at h;simp at h
 have hz0:z≠0:=by
  intro e
  subst e
  exact h0 ((jw_ hd).2 hz)
 refine ai_ (r_z 4 ?_)
 refine ag_ (b7_ rfl rfl rfl tg_40.h ts_40.h (nle rfl) ?_ ?_)
 show AV.agg [i64 s,.arr (iE (dJ_ l))]=_
 unfold zZ
 rw[hs hz0,c5_ hd,hz]
 exact aZ_ _
theorem zZ_neg(z:Int):zZ (-z)=[i64 (-sgZ z),.arr (iE (zd z.natAbs))]:=by
 unfold zZ
 rw[Int.natAbs_neg]
 congr 2
 unfold sgZ
 split <;> split <;>(try split)<;>(try split)<;> omega
theorem bD_(z:Int):sgZ z= -1∧z< 0∨sgZ z=0∧z=0∨sgZ z=1∧0< z:=by
 unfold sgZ;split
 right;left;exact⟨rfl,by assumption⟩
 split
 left;exact⟨rfl,by assumption⟩
 right;right;exact⟨rfl,by omega⟩
theorem lg_(z:Int):FSpec Tryz.prog 208 [.agg (zZ z)] (.agg (zZ (-z))):=by
 have hs:=bD_ z
 have hc:=aZ_ (-z)
 rw[zZ_neg] at hc⊢
 refine f_n Tryz.func208 ?_ ?_
 exact aa_ (aZ_ z) ab_
 refine r_z 2 ?_
 refine r_z 7 ?_
 exact ag_ (c_e (hc))
theorem zZ_abs(z:Int):zZ (z.natAbs:Int)=[i64 (sgZ z* sgZ z),.arr (iE (zd z.natAbs))]:=by
 unfold zZ
 rw[Int.natAbs_natCast]
 congr 2
 rcases bD_ z with⟨h,h'⟩|⟨h,h'⟩|⟨h,h'⟩<;> rcases bD_ (z.natAbs:Int) with⟨g,g'⟩|⟨g,g'⟩|⟨g,g'⟩<;> rw[h,g]<;> omega
theorem fs_ZAbs(z:Int):FSpec Tryz.prog 294 [.agg (zZ z)] (.agg (zZ (z.natAbs:Int))):=by
 have hs:=bD_ z
 have hm: -9223372036854775808≤sgZ z* sgZ z∧sgZ z* sgZ z≤9223372036854775807:=by rcases hs with⟨h,_⟩|⟨h,_⟩|⟨h,_⟩<;> rw[h]<;> decide
 have hc:=aZ_ (z.natAbs:Int)
 rw[zZ_abs] at hc⊢
 refine f_n Tryz.func294 ?_ ?_
 exact aa_ (aZ_ z) ab_
 refine r_z 2 ?_
 refine s_r 9 ?_
 refine a_4 ?_
 refine o_0 (.bin rfl rfl (g4_ hm)) ?_
 refine a_z ?_
 exact ag_ (c_e (hc))
theorem le_(l:List Nat)(i:Nat)(hl:l.length≤281474976710656):FSpec Tryz.prog 292 [.arr (iE l),i64 i] (i64 (l.reverse[i]?.getD 0:Nat)):=by
 refine f_n Tryz.func292 ?_ ?_
 exact aa_ (bo_ l) (aa_ (ad_ _) ab_)
 refine r_z 1 ?_
 refine ac_ (r_z 4 ?_)
 refine aj_ rfl (fun h=>?_) (fun h=>?_)
 have hi:l.length≤i:=by simpa using h
 refine r_z 1 ?_
 refine ag_ (aS_ rfl ?_ (ad_ _))
 rw[List.getElem?_eq_none (by simpa using hi)]
 rfl
 have hi:i< l.length:=by simp at h;omega
 refine ai_ ?_
 obtain⟨d,hd⟩:∃d,l[l.length- 1- i]?=some d:=⟨_,List.getElem?_eq_getElem (by omega)⟩
 have hd':(iE l)[((l.length:Int)- 1- i).toNat]?=some [i64 d]:=by rw[show((l.length:Int)- 1- i).toNat=l.length- 1- i by omega];exact f2_ hd
 refine s_r 9 ?_
 refine a_6 ?_
 refine i_x hd' ?_
 refine l_1 hd' ?_
 refine a_z ?_
 refine ag_ (aS_ rfl ?_ (ad_ _))
 rw[List.getElem?_reverse hi,hd]
 rfl
theorem p3_(a b:List Nat):FSpec Tryz.prog 291 [.arr (iE a),.arr (iE b)] (i64 (max a.length b.length:Nat)):=by
 refine f_n Tryz.func291 ?_ ?_
 exact aa_ (bo_ a) (aa_ (bo_ b) ab_)
 refine r_z 1 ?_
 refine ac_ (r_z 5 ?_)
 refine aj_ rfl (fun h=>?_) (fun h=>?_)
 refine r_z 3 ?_
 refine ag_ (aS_ rfl ?_ (ad_ _))
 have:b.length< a.length:=by simpa using h
 simp[i64];omega
 refine ai_ (r_z 3 ?_)
 refine ag_ (aS_ rfl ?_ (ad_ _))
 have:¬b.length< a.length:=by simpa using h
 simp[i64];omega
def sU_(a:Nat)(b:Nat):Nat→AState
 |i=>⟨[(0,.arr (iE (zd a))),(1,.arr (iE (zd b))),(5,i64 i)],[],1,40⟩
theorem fA_(a:Nat)(b:Nat)(i:Nat):sU_ a b i=⟨[(0,.arr (iE (zd a))),(1,.arr (iE (zd b))),(5,i64 i)],[],1,40⟩:=rfl
theorem oj_{n i d:Nat}(h:(digs UB n)[i]?=some d):(zd n)[(digs UB n).length- 1- i]?=some d:=by
 have hi:i< (digs UB n).length:=(List.getElem?_eq_some_iff.1 h).1
 unfold zd
 rw[List.getElem?_reverse (by omega),show(digs UB n).length- 1- ((digs UB n).length- 1- i)=i by omega];exact h
theorem o9_(a b:Nat)(ha:(zd a).length≤281474976710656)(hb:(zd b).length≤281474976710656):FSpec Tryz.prog 257 [.arr (iE (zd a)),.arr (iE (zd b))] (i64 (cmpZ a b)):=by
 have hza:=bG_ a
 have hzb:=bG_ b
 refine f_n Tryz.func257 ?_ ?_
 exact aa_ (bo_ _) (aa_ (bo_ _) ab_)
 refine r_z 1 ?_
 refine ac_ (r_z 5 ?_)
 refine aj_ rfl (fun h=>?_) (fun h=>?_)
 have hne:(zd a).length≠(zd b).length:=by simp at h;omega
 refine ac_ (r_z 5 ?_)
 refine aj_ rfl (fun h1=>?_) (fun h1=>?_)
 refine r_z 1 ?_
 refine ag_ (aS_ rfl ?_ (ad_ _))
 have hl:(zd a).length< (zd b).length:=by simpa using h1
 rw[gn_]
 rfl
 have:=eD_ (b:=UB) (by decide) (show(digs UB a).length< (digs UB b).length by omega);omega
 refine ai_ (r_z 1 ?_)
 refine ag_ (aS_ rfl ?_ (ad_ _))
 have hl:(zd b).length< (zd a).length:=by simp at h1;omega
 rw[ho_]
 rfl
 have:=eD_ (b:=UB) (by decide) (show(digs UB b).length< (digs UB a).length by omega);omega
 have heq:(digs UB a).length=(digs UB b).length:=by simp at h;omega
 refine ai_ (ac_ (r_z 1 ?_))
 refine aD_ (sU_ a b) (fun _=>a=b) ?_ ?_
 refine ah_ (aw_ (sU_ a b) (fun i=>(digs UB a).length- i) (fun i=>i≤(digs UB a).length∧(digs UB a).drop ((digs UB a).length- i)=(digs UB b).drop ((digs UB a).length- i)) 0 ⟨Nat.zero_le _,by rw[Nat.sub_zero,List.drop_length,heq,List.drop_length]⟩ ?_ ?_)
 simp only[fA_]
 exact s_e []
 rintro i ⟨hi,hd⟩
 rw[fA_]
 refine ac_ (r_z 4 ?_)
 refine aj_ rfl (fun h=>?_) (fun h=>?_)
 have hlt:i< (digs UB a).length:=by simp at h;omega
 obtain⟨k,hk⟩:∃k,k=(digs UB a).length- 1- i:=⟨_,rfl⟩
 have hk1:(digs UB a).length- i=k+1:=by omega
 rw[hk1] at hd
 obtain⟨x,hx⟩:∃x,(digs UB a)[k]?=some x:=⟨_,List.getElem?_eq_getElem (by omega)⟩
 obtain⟨y,hy⟩:∃y,(digs UB b)[k]?=some y:=⟨_,List.getElem?_eq_getElem (by omega)⟩
 have hx':(iE (zd a))[((i:Nat):Int).toNat]?=some [i64 x]:=by
  have:=oj_ hx
  rw[show(digs UB a).length- 1- k=i by omega] at this
  exact f2_ this
 have hy':(iE (zd b))[((i:Nat):Int).toNat]?=some [i64 y]:=by
  have:=oj_ hy
  rw[show(digs UB b).length- 1- k=i by omega] at this
  exact f2_ this
 refine ai_ (ac_ (ah_ (ac_ (ac_ (r_d hmix 9 ?_)))))
 refine a_2 ?_
 refine i_x hx' ?_
 refine l_1 hx' ?_
 refine a_2 ?_
 refine i_x hy' ?_
 refine l_1 hy' ?_
 refine a_1 ?_
 refine ak_ (n_k ?_)
 refine aj_ rfl (fun h1=>?_) (fun h1=>?_)
 refine r_z 1 ?_
 refine ag_ (aS_ rfl ?_ (ad_ _))
 have hxy:x< y:=by simpa using h1
 have:=gD_ (fun d hd=>cq_ (by decide) a d hd) hx hy hd hxy
 rw[a8_ (by decide),a8_ (by decide)] at this
 rw[gn_ (by omega)];rfl
 refine ai_ (ac_ (r_d hmix 9 ?_))
 refine a_2 ?_
 refine i_x hx' ?_
 refine l_1 hx' ?_
 refine a_2 ?_
 refine i_x hy' ?_
 refine l_1 hy' ?_
 refine a_1 ?_
 refine ak_ (n_k ?_)
 refine aj_ rfl (fun h2=>?_) (fun h2=>?_)
 refine r_z 1 ?_
 refine ag_ (aS_ rfl ?_ (ad_ _))
 have hxy:y< x:=by simpa using h2
 have:=gD_ (fun d hd=>cq_ (by decide) b d hd) hy hx hd.symm hxy
 rw[a8_ (by decide),a8_ (by decide)] at this
 rw[ho_ (by omega)];rfl
 have hxy:x=y:=by simp at h1 h2;omega
 subst hxy
 refine ai_ (r_m 3 ?_)
 refine a_z ?_
 refine⟨i+1,by omega,⟨by omega,?_⟩,?_⟩
 rw[show(digs UB a).length- (i+1)=k by omega,db_ hx,db_ hy,hd]
 simp only[fA_]
 exact s_e []
 have hge:i=(digs UB a).length:=by simp at h;omega
 refine av_ ⟨i,?_,?_⟩
 subst hge
 rw[Nat.sub_self,List.drop_zero,List.drop_zero] at hd
 rw[←a8_ (b:=UB) (by decide) a,←a8_ (b:=UB) (by decide) b,hd]
 simp only[fA_]
 exact s_e []
 rintro i rfl
 rw[fA_]
 refine r_z 1 ?_
 refine ag_ (aS_ rfl ?_ (ad_ _))
 rw[sy_ rfl];rfl
def bothS(a:Nat)(b:Nat)(k:Int)(N:Nat):List Nat×Int→AState
 |(s,c)=>⟨[(0,.arr (iE (zd a))),(1,.arr (iE (zd b))),(2,i64 k),(7,i64 N),(8,.lsl 1 0 N (some N) 1),(9,i64 c),(10,i64 s.length)],[(1,some ⟨3,1,iE (List.replicate (N- s.length) 0++s.reverse)⟩)],2,51⟩
theorem lx_(a:Nat)(b:Nat)(k:Int)(N:Nat)(s:List Nat)(c:Int):bothS a b k N (s,c)=⟨[(0,.arr (iE (zd a))),(1,.arr (iE (zd b))),(2,i64 k),(7,i64 N),(8,.lsl 1 0 N (some N) 1),(9,i64 c),(10,i64 s.length)],[(1,some ⟨3,1,iE (List.replicate (N- s.length) 0++s.reverse)⟩)],2,51⟩:=rfl
def bothT(a:Nat)(b:Nat)(k:Int)(N:Nat)(s:List Nat):Int×Int→AState
 |(x,c)=>⟨[(0,.arr (iE (zd a))),(1,.arr (iE (zd b))),(2,i64 k),(7,i64 N),(8,.lsl 1 0 N (some N) 1),(9,i64 c),(10,i64 s.length),(11,i64 x)],[(1,some ⟨3,1,iE (List.replicate (N- s.length) 0++s.reverse)⟩)],2,51⟩
theorem fU_(a:Nat)(b:Nat)(k:Int)(N:Nat)(s:List Nat)(x:Int)(c:Int):bothT a b k N s (x,c)=⟨[(0,.arr (iE (zd a))),(1,.arr (iE (zd b))),(2,i64 k),(7,i64 N),(8,.lsl 1 0 N (some N) 1),(9,i64 c),(10,i64 s.length),(11,i64 x)],[(1,some ⟨3,1,iE (List.replicate (N- s.length) 0++s.reverse)⟩)],2,51⟩:=rfl
theorem iX_(a b:Nat)(k:Int)(r:Nat)(hk:k=1∨k= -1)(hr:(r:Int)=a+k* b)(ha:(zd a).length≤17592186044416)(hb:(zd b).length≤17592186044416):FSpec Tryz.prog 256 [.arr (iE (zd a)),.arr (iE (zd b)),i64 k] (.arr (iE (zd r))):=by
 have hza:=bG_ a
 have hzb:=bG_ b
 obtain⟨N,hN⟩:∃N,N=max (zd a).length (zd b).length+1:=⟨_,rfl⟩
 refine f_n Tryz.func256 ?_ ?_
 exact aa_ (bo_ _) (aa_ (bo_ _) (aa_ (ad_ _) ab_))
 refine r_z 1 ?_
 refine r_c 5 (p3_ (zd a) (zd b)) ?_
 refine a_z ?_
 have hNI:((max (zd a).length (zd b).length:Nat):Int)+1=(N:Int):=by omega
 refine s_r 3 ?_
 refine a_1 ?_
 refine o_1 (.makeSlice (congrArg (fun z=>some (AV.v (.int .i64 z))) hNI) (congrArg (fun z=>some (AV.v (.int .i64 z))) hNI) te_38.h tz_3.h rfl tb_3.h (by first|omega|(simp;done)|(simp;omega)) (by first|omega|(simp;done)|(simp;omega)) (by unfold maxLen;first|omega|(simp;done)|(simp;omega))) ?_
 refine a_z ?_
 refine r_z 1 ?_
 refine ac_ (r_z 1 ?_)
 have hdl:=cT_ (b:=UB) (by decide) (n:=r) (k:=N) (by
  have h1:=dC_ (b:=UB) (cq_ (by decide) a)
  have h2:=dC_ (b:=UB) (cq_ (by decide) b)
  rw[a8_ (by decide)] at h1 h2
  have h3:UB^ (digs UB a).length≤UB^ (N- 1):=Nat.pow_le_pow_right (by decide) (by omega)
  have h4:UB^ (digs UB b).length≤UB^ (N- 1):=Nat.pow_le_pow_right (by decide) (by omega)
  have h5:UB^ N=UB^ (N- 1) * UB:=by rw[←Nat.pow_succ];congr 1;omega
  rw[h5]
  show r< UB^ (N- 1) * 32768
  rcases hk with rfl|rfl <;> omega)
 have hrN:r< UB^ N:=by
  have h1:=dC_ (b:=UB) (cq_ (by decide) r)
  rw[a8_ (by decide)] at h1
  exact Nat.lt_of_lt_of_le h1 (Nat.pow_le_pow_right (by decide) hdl)
 refine aD_ (fun s:List Nat=>⟨[(8,.lsl 1 0 N (some N) 1)],[(1,some ⟨3,1,iE s.reverse⟩)],2,51⟩) (fun s=>s.length=N∧(∀d∈s,d< UB)∧ofD UB s=r) ?_ ?_
 refine ah_ (aw_ (bothS a b k N) (fun x=>N- x.1.length) (fun x=>x.1.length≤N∧(∀d∈x.1,d< UB)∧(x.2= -1∨x.2=0∨x.2=1)∧((ofD UB x.1:Nat):Int)+((UB^ x.1.length:Nat):Int) * x.2=(ofD UB ((digs UB a).take x.1.length):Nat)+k* (ofD UB ((digs UB b).take x.1.length):Nat)) ([],0) ⟨by simp,by simp,by simp,by simp[ofD]⟩ ?_ ?_)
 simp only[lx_]
 exact s_e [(1,8)]
 rintro⟨s,c⟩ ⟨hs,hd,hc,hval⟩
 simp only at hs hd hc hval
 simp only[lx_]
 refine ac_ (r_z 3 ?_)
 refine aj_ rfl (fun h=>?_) (fun h=>?_)
 have hlt:s.length< N:=by simpa using h
 refine ai_ ?_
 obtain⟨x,hx⟩:∃x,x=(digs UB a)[s.length]?.getD 0:=⟨_,rfl⟩
 obtain⟨y,hy⟩:∃y,y=(digs UB b)[s.length]?.getD 0:=⟨_,rfl⟩
 have hx1:x< 32768:=by
  rw[hx];cases hh:(digs UB a)[s.length]? with
  |none=>decide
  |some d=>exact bv_ (by decide) hh
 have hy1:y< 32768:=by
  rw[hy];cases hh:(digs UB b)[s.length]? with
  |none=>decide
  |some d=>exact bv_ (by decide) hh
 have hda:=le_ (zd a) s.length (by omega)
 have hdb:=le_ (zd b) s.length (by omega)
 unfold zd at hda hdb
 rw[List.reverse_reverse,←hx] at hda
 rw[List.reverse_reverse,←hy] at hdb
 have hky: -32768< k* y∧k* y< 32768:=by rcases hk with rfl|rfl <;> omega
 obtain⟨X,hX⟩:∃X:Int,X=x+k* y+c:=⟨_,rfl⟩
 have hXr: -32768≤X∧X≤65536:=by omega
 refine ac_ (ah_ (r_c 12 (hda) ?_))
 refine c_s (hdb) ?_
 refine a_z ?_
 refine r_z 1 ?_
 refine a2_ (bothT a b k N s) (fun v=>v.1=(if X< 0 then X+32768 else X)∧v.2=(if X< 0 then -1 else 0)) ?_ ?_
 refine r_z 2 ?_
 refine aj_ rfl (fun h1=>?_) (fun h1=>?_)
 have hX0:X< 0:=by rw[hX];simpa using h1
 refine r_z 3 ?_
 refine r_m 1 ?_
 refine a_z ?_
 refine⟨(X+32768,-1),⟨by rw[if_pos hX0],by rw[if_pos hX0]⟩,?_⟩
 simp only[fU_]
 refine at_ [] rfl rfl rfl ?_ (fun hs=>?_) (fun hs=>?_)
 ·repeat' (first|exact ShrL.nil|refine ShrL.cons rfl rfl rfl rfl (by first|rfl|(simp;done)|(simp[hX]<;> omega)) ?_)
 ·repeat' (first|exact aK_|refine aE_ rfl ?_ ?_)
  all_goals (first|exact au_c|(refine Cv.loE hs ?_ (ad_ _);first|rfl|(simp[i64,u64,u32,bln,hX];done)|(simp[i64,u64,u32,bln,hX]<;> omega)))
 ·repeat' (first|exact aq_|refine al_ rfl rfl rfl rfl ?_ ?_)
  all_goals (first|exact au_e|(refine aH_ hs ?_ (bY_ _);first|(simp[hD_,fm_,dD_,hX];done)|(simp[iE,i64,ofV,hX];done))|(refine ae_ ?_;repeat' (first|exact ap_|refine af_ ?_ ?_)))
  all_goals (first|exact au_c|(refine Cv.loE hs ?_ (ad_ _);first|(simp[i64,u64,u32,bln,hX];done)|(simp[i64,u64,u32,bln,hX]<;> omega)))
 have hX0:¬X< 0:=by rw[hX];simpa using h1
 refine ai_ ⟨(X,0),⟨by rw[if_neg hX0],by rw[if_neg hX0]⟩,?_⟩
 simp only[fU_]
 refine at_ [] rfl rfl rfl ?_ (fun hs=>?_) (fun hs=>?_)
 ·repeat' (first|exact ShrL.nil|refine ShrL.cons rfl rfl rfl rfl (by first|rfl|(simp;done)|(simp[hX]<;> omega)) ?_)
 ·repeat' (first|exact aK_|refine aE_ rfl ?_ ?_)
  all_goals (first|exact au_c|(refine Cv.loE hs ?_ (ad_ _);first|rfl|(simp[i64,u64,u32,bln,hX];done)|(simp[i64,u64,u32,bln,hX]<;> omega)))
 ·repeat' (first|exact aq_|refine al_ rfl rfl rfl rfl ?_ ?_)
  all_goals (first|exact au_e|(refine aH_ hs ?_ (bY_ _);first|(simp[hD_,fm_,dD_,hX];done)|(simp[iE,i64,ofV,hX];done))|(refine ae_ ?_;repeat' (first|exact ap_|refine af_ ?_ ?_)))
  all_goals (first|exact au_c|(refine Cv.loE hs ?_ (ad_ _);first|(simp[i64,u64,u32,bln,hX];done)|(simp[i64,u64,u32,bln,hX]<;> omega)))
 rintro⟨X1,c1⟩ ⟨hX1,hc1⟩
 simp only at hX1 hc1
 rw[fU_]
 refine a2_ (bothT a b k N s) (fun v=>v.1=X % 32768∧v.2=X/ 32768) ?_ ?_
 refine r_z 2 ?_
 refine aj_ rfl (fun h1=>?_) (fun h1=>?_)
 have h2:32768≤X1:=by simpa using h1
 have hX1r:X1≤65536:=by rw[hX1];split <;> omega
 refine r_z 3 ?_
 refine r_m 1 ?_
 refine a_z ?_
 have hX0:¬X< 0:=by intro h0;rw[if_pos h0] at hX1;omega
 rw[if_neg hX0] at hX1
 refine⟨(X1- 32768,1),⟨by simp only;omega,by simp only;omega⟩,?_⟩
 simp only[fU_]
 exact s_e []
 ·have h2:X1< 32768:=by simp at h1;omega
  refine ai_ ⟨(X1,c1),⟨by rw[hX1] at h2⊢;simp only;split <;> rename_i h3 <;> simp only[h3,if_true,if_false] at h2 <;> omega,by rw[hX1] at h2;rw[hc1];simp only;split <;> rename_i h3 <;> simp only[h3,if_true,if_false] at h2 <;> omega⟩,?_⟩
  simp only[fU_]
  exact s_e []
 rintro⟨X2,c2⟩ ⟨hX2,hc2⟩
 simp only at hX2 hc2
 rw[fU_]
 obtain⟨d,hdX⟩:∃d:Nat,X2=d:=⟨X2.toNat,by omega⟩
 have hd1:d< 32768:=by omega
 subst hdX
 have hlen:(List.replicate (N- s.length) 0++s.reverse).length=N:=by simp;omega
 have hrep:List.replicate (N- s.length) 0=List.replicate (N- (s.length+1)) 0++[0]:=by
  rw[show N- s.length=(N- (s.length+1))+1 by omega,List.replicate_succ']
 have hget:(iE (List.replicate (N- s.length) 0++s.reverse))[0+((N:Int)- 1- s.length).toNat]?=some [i64 0]:=by
  rw[show 0+((N:Int)- 1- s.length).toNat=N- (s.length+1) by omega]
  refine f2_ ?_
  rw[hrep,List.append_assoc]
  exact iQ_ _ _ _ _ (by simp)
 have hset:(iE (List.replicate (N- s.length) 0++s.reverse)).set (0+((N:Int)- 1- s.length).toNat) [i64 d]=iE (List.replicate (N- (s++[d]).length) 0++(s++[d]).reverse):=by
  rw[show 0+((N:Int)- 1- s.length).toNat=N- (s.length+1) by omega,hD_,hrep,List.append_assoc]
  simp only[List.singleton_append,List.length_append,List.length_cons,List.length_nil,List.reverse_append,List.reverse_cons,List.reverse_nil,List.nil_append]
  rw[ih_ _ _ _ _ _ (by simp)]
  simp
 refine r_m 8 ?_
 refine a_7 ?_
 refine o_1n (.store rfl rfl hget rfl rfl rfl ts_3.h (nle rfl)) ?_
 refine ak_ ?_
 refine r_m 3 ?_
 refine a_z ?_
 refine⟨(s++[d],c2),by simp;omega,⟨by simp;omega,?_,by simp only;omega,?_⟩,?_⟩
 intro e he
 rcases List.mem_append.1 he with he|he
 exact hd e he
 simp at he;subst he;exact hd1
 simp only[List.length_append,List.length_cons,List.length_nil,Nat.zero_add]
 rw[dN_,cz_,cz_,←hx,←hy,Nat.pow_succ]
 obtain⟨B,hB⟩:∃B,B=UB^ s.length:=⟨_,rfl⟩
 rw[←hB] at hval⊢
 have hXX:X=32768* c2+d:=by omega
 have hBX:(B:Int) * X=B* x+k* (B* y)+B* c:=by
  rw[hX,Int.mul_add,Int.mul_add,Int.mul_left_comm]
 rw[hXX,Int.mul_add] at hBX
 have e1:((B* 32768:Nat):Int) * c2=B* (32768* c2):=by rw[Int.natCast_mul,Int.mul_assoc];rfl
 have e2:k* ((ofD UB ((digs UB b).take s.length)+B* y:Nat):Int)=k* (ofD UB ((digs UB b).take s.length):Nat)+k* (B* y):=by
  rw[Int.natCast_add,Int.mul_add,Int.natCast_mul]
 show((ofD UB s+B* d:Nat):Int)+((B* 32768:Nat):Int) * c2=_
 rw[e1,e2,Int.natCast_add,Int.natCast_add,Int.natCast_mul,Int.natCast_mul]
 omega
 simp only[lx_]
 refine at_ [] rfl rfl rfl ?_ (fun hs=>au_f) (fun hs=>?_)
 ·repeat' (first|exact ShrL.nil|refine ShrL.cons rfl rfl rfl rfl (by first|(exact congrArg List.length hset)|rfl|(simp;done)|(simp <;> omega)) ?_)
 ·repeat' (first|exact aq_|refine al_ rfl rfl rfl rfl ?_ ?_)
  all_goals (first|(exact aH_ hs hset (bY_ _))|exact au_e)
 have hge:s.length=N:=by simp at h;omega
 refine av_ ⟨s,⟨hge,hd,?_⟩,?_⟩
 rw[hge,List.take_of_length_le (by omega),List.take_of_length_le (by omega),a8_ (by decide),a8_ (by decide),←hr] at hval
 have hsl:=dC_ hd
 rw[hge] at hsl
 obtain⟨B,hB⟩:∃B,B=UB^ N:=⟨_,rfl⟩
 rw[←hB] at hval hsl hrN
 rcases hc with rfl|rfl|rfl <;> omega
 have e:iE (List.replicate (N- s.length) 0++s.reverse)=iE s.reverse:=by rw[hge];simp
 refine at_ [] rfl rfl rfl ?_ (fun hs=>au_f) (fun hs=>?_)
 ·repeat' (first|exact ShrL.nil|refine ShrL.cons rfl rfl rfl rfl (by first|(exact congrArg List.length e)|rfl|(simp;done)|(simp <;> omega)) ?_)
 ·repeat' (first|exact aq_|refine al_ rfl rfl rfl rfl ?_ ?_)
  all_goals (first|(exact aH_ hs e (bY_ _))|exact au_e)
 rintro s ⟨hs,hd,hval⟩
 have hd':∀d∈s.reverse,d< UB:=fun d h=>hd d (List.mem_reverse.1 h)
 have hst:=eo_ s.reverse (by simp;omega)
 rw[c5_ hd',show hv s.reverse=r by unfold hv;rw[List.reverse_reverse];assumption] at hst
 have hfull:((iE s.reverse).drop 0).take N=iE s.reverse:=by rw[List.drop_zero,List.take_of_length_le (by simp;omega)]
 refine s_r 3 ?_
 refine a_1 ?_
 refine o_1 (.callS1 rfl rfl rfl (.shut rfl d_n (.nil)) rfl ((by rw[hfull];exact hst))) ?_
 refine a_z ?_
 exact ag_ (t_e (bo_ _))
def zl(z:Int):Prop:=bl z.natAbs≤8796093022208
theorem oi_{z:Int}(h:zl z):(zd z.natAbs).length≤17592186044416:=by
 have:=bd_ (b:=UB) (by decide) z.natAbs
 rw[bG_];unfold zl at h;omega
theorem l0_{x y:Int}(h:sgZ x=sgZ y)(hx:x≠0):(x+y).natAbs=x.natAbs+y.natAbs∧(x+y≠0→sgZ x=sgZ (x+y)):=by
 rcases bD_ x with⟨a,b⟩|⟨a,b⟩|⟨a,b⟩<;> rcases bD_ y with⟨c,d⟩|⟨c,d⟩|⟨c,d⟩<;> rcases bD_ (x+y) with⟨e,f⟩|⟨e,f⟩|⟨e,f⟩<;> rw[a,c] at h <;> rw[a,e]<;> first|omega|(constructor <;> omega)
theorem jB_{x y:Int}(h:sgZ x≠sgZ y)(hx:x≠0)(hy:y≠0)(hg:y.natAbs≤x.natAbs):(x+y).natAbs=x.natAbs- y.natAbs∧(x+y≠0→sgZ x=sgZ (x+y)):=by
 rcases bD_ x with⟨a,b⟩|⟨a,b⟩|⟨a,b⟩<;> rcases bD_ y with⟨c,d⟩|⟨c,d⟩|⟨c,d⟩<;> rcases bD_ (x+y) with⟨e,f⟩|⟨e,f⟩|⟨e,f⟩<;> rw[a,c] at h <;> rw[a,e]<;> first|omega|(constructor <;> omega)
theorem rS_(x y:Int)(hx:zl x)(hy:zl y):FSpec Tryz.prog 205 [.agg (zZ x),.agg (zZ y)] (.agg (zZ (x+y))):=by
 have hlx:=oi_ hx
 have hly:=oi_ hy
 have bound:∀r:Nat,r≤x.natAbs+y.natAbs→(zd r).length≤281474976710656:=by
  intro r hr
  have h1:=bd_ (b:=UB) (by decide) r
  have h2:=b6_ hr
  have h3:=sN_ x.natAbs y.natAbs
  unfold zl at hx hy
  rw[bG_];omega
 refine f_n Tryz.func205 ?_ ?_
 exact aa_ (aZ_ x) (aa_ (aZ_ y) ab_)
 refine r_z 3 ?_
 refine ac_ (r_z 3 ?_)
 refine aj_ rfl (fun h=>?_) (fun h=>?_)
 have h0:x=0:=by
  have:sgZ x=0:=by simpa using h
  rcases bD_ x with⟨a,b⟩|⟨a,b⟩|⟨a,b⟩<;> omega
 refine r_z 2 ?_
 refine ag_ (b7_ rfl rfl rfl tg_40.h ts_40.h (nle rfl) ?_ ?_)
 rw[h0,Int.zero_add];rfl
 exact aZ_ _
 have hx0:x≠0:=by rintro rfl;simp[sgZ] at h
 refine ai_ (ac_ (r_z 3 ?_))
 refine aj_ rfl (fun h1=>?_) (fun h1=>?_)
 have h0:y=0:=by
  have:sgZ y=0:=by simpa using h1
  rcases bD_ y with⟨a,b⟩|⟨a,b⟩|⟨a,b⟩<;> omega
 refine r_z 2 ?_
 refine ag_ (b7_ rfl rfl rfl tg_40.h ts_40.h (nle rfl) ?_ ?_)
 rw[h0,Int.add_zero];rfl
 exact aZ_ _
 have hy0:y≠0:=by rintro rfl;simp[sgZ] at h1
 refine ai_ (ac_ (r_z 5 ?_))
 refine aj_ rfl (fun h2=>?_) (fun h2=>?_)
 have hs:sgZ x=sgZ y:=by simpa using h2
 obtain⟨e1,e2⟩:=l0_ hs hx0
 refine ac_ (r_d hmix 9 ?_)
 refine c_s (iX_ x.natAbs y.natAbs 1 (x.natAbs+y.natAbs) (.inl rfl) (by omega) hlx hly) ?_
 refine c_s (fn_ (sgZ x) (zd (x.natAbs+y.natAbs)) (x+y) (bound _ (Nat.le_refl _)) (zd_lt _) (by rw[hv_zd,e1]) e2) ?_
 refine a_1 ?_
 refine ak_ (n_k ?_)
 exact ag_ (c_e (aZ_ _))
 have hs:sgZ x≠sgZ y:=by simpa using h2
 refine ai_ (ac_ (r_c 6 (o9_ x.natAbs y.natAbs (by omega) (by omega)) ?_))
 refine a_z ?_
 refine aj_ rfl (fun h3=>?_) (fun h3=>?_)
 have hge:y.natAbs≤x.natAbs:=by
  have:=of_decide_eq_true h3
  unfold cmpZ at this;split at this
  omega
  omega
 obtain⟨e1,e2⟩:=jB_ hs hx0 hy0 hge
 refine ac_ (r_d hmix 9 ?_)
 refine c_s (iX_ x.natAbs y.natAbs (-1) (x.natAbs- y.natAbs) (.inr rfl) (by omega) hlx hly) ?_
 refine c_s (fn_ (sgZ x) (zd (x.natAbs- y.natAbs)) (x+y) (bound _ (by omega)) (zd_lt _) (by rw[hv_zd,e1]) e2) ?_
 refine a_1 ?_
 refine ak_ (n_k ?_)
 exact ag_ (c_e (aZ_ _))
 have hlt:x.natAbs≤y.natAbs:=by
  have:=of_decide_eq_false h3
  unfold cmpZ at this;split at this
  omega
  split at this <;> omega
 obtain⟨e1,e2⟩:=jB_ (fun h=>hs h.symm) hy0 hx0 hlt
 rw[Int.add_comm] at e1 e2
 refine ai_ (ac_ (r_d hmix 9 ?_))
 refine c_s (iX_ y.natAbs x.natAbs (-1) (y.natAbs- x.natAbs) (.inr rfl) (by omega) hly hlx) ?_
 refine c_s (fn_ (sgZ y) (zd (y.natAbs- x.natAbs)) (x+y) (bound _ (by omega)) (zd_lt _) (by rw[hv_zd,e1]) e2) ?_
 refine a_1 ?_
 refine ak_ (n_k ?_)
 exact ag_ (c_e (aZ_ _))
theorem zl_neg{z:Int}(h:zl z):zl (-z):=by unfold zl at *;rwa[Int.natAbs_neg]
theorem fs_ZSub(x y:Int)(hx:zl x)(hy:zl y):FSpec Tryz.prog 206 [.agg (zZ x),.agg (zZ y)] (.agg (zZ (x- y))):=by
 have hs:=rS_ x (-y) hx (zl_neg hy)
 rw[←Int.sub_eq_add_neg] at hs
 refine f_n Tryz.func206 ?_ ?_
 exact aa_ (aZ_ x) (aa_ (aZ_ y) ab_)
 refine r_z 3 ?_
 refine ac_ (r_d hmix 5 ?_)
 refine c_s (lg_ y) ?_
 refine c_s (hs) ?_
 refine a_1 ?_
 refine ak_ (n_k ?_)
 exact ag_ (c_e (aZ_ _))
theorem fs_ZCmp(x y:Int)(hx:zl x)(hy:zl y):FSpec Tryz.prog 124 [.agg (zZ x),.agg (zZ y)] (i64 (cmpZ x y)):=by
 have e:cmpZ x y=sgZ (x- y):=by
  unfold cmpZ sgZ
  split <;> split <;>(try split)<;>(try split)<;> omega
 rw[e]
 refine f_n Tryz.func124 ?_ ?_
 exact aa_ (aZ_ x) (aa_ (aZ_ y) ab_)
 refine r_z 3 ?_
 refine r_c 5 (fs_ZSub x y hx hy) ?_
 refine a_z ?_
 exact ag_ (t_e (ad_ _))
def qG_(l:List Nat):Nat→AState
 |i=>⟨[(0,.arr (iE l)),(3,i64 (hv (l.take i))),(4,i64 i)],[],1,19⟩
theorem gt_(l:List Nat)(i:Nat):qG_ l i=⟨[(0,.arr (iE l)),(3,i64 (hv (l.take i))),(4,i64 i)],[],1,19⟩:=rfl
theorem p0_{l:List Nat}(hd:∀d∈l,d< UB)(hl:l.length≤4)(i:Nat):hv (l.take i)< 1152921504606846976:=by
 have h1:=hv_lt (l:=l.take i) fun d h=>hd d (List.mem_of_mem_take h)
 have h2:(l.take i).length≤4:=by rw[List.length_take];omega
 exact Nat.lt_of_lt_of_le h1 (Nat.pow_le_pow_right (by decide) h2)
theorem o3_(l:List Nat)(hl:l.length≤4)(hd:∀d∈l,d< UB):FSpec Tryz.prog 254 [.arr (iE l)] (i64 (hv l)):=by
 refine f_n Tryz.func254 ?_ ?_
 exact aa_ (bo_ l) ab_
 refine r_z 1 ?_
 refine r_z 1 ?_
 refine ac_ (r_z 1 ?_)
 refine aD_ (qG_ l) (fun i=>i=l.length) ?_ ?_
 refine ah_ (aw_ (qG_ l) (fun i=>l.length- i) (fun i=>i≤l.length) 0 (Nat.zero_le _) ?_ ?_)
 simp only[gt_]
 exact s_e []
 intro i hi
 rw[gt_]
 refine ac_ (r_z 4 ?_)
 refine aj_ rfl (fun h=>?_) (fun h=>?_)
 have hlt:i< l.length:=by simpa using h
 obtain⟨d,hdi⟩:∃d,l[i]?=some d:=⟨_,List.getElem?_eq_getElem hlt⟩
 have hd1:=hd d (List.mem_of_getElem? hdi)
 have hdi':(iE l)[((i:Nat):Int).toNat]?=some [i64 d]:=f2_ hdi
 have hsn:=iO_ (l.take i) d
 rw[←cc_ hdi] at hsn
 have hb:=p0_ hd hl (i+1)
 obtain⟨V,hV⟩:∃V,V=hv (l.take i):=⟨_,rfl⟩
 rw[←hV] at hsn⊢
 have hsn':hv (l.take (i+1))=V* 32768+d:=hsn
 refine ai_ (ac_ (ah_ (r_m 8 ?_)))
 refine a_4 ?_
 refine i_x hdi' ?_
 refine l_1 hdi' ?_
 refine a_z ?_
 refine r_m 3 ?_
 refine a_z ?_
 refine⟨i+1,by omega,hlt,?_⟩
 simp only[gt_]
 refine at_ [] rfl rfl rfl ?_ (fun hs=>?_) (fun hs=>?_)
 ·repeat' (first|exact ShrL.nil|refine ShrL.cons rfl rfl rfl rfl (by first|rfl|(simp;done)|(simp[hsn']<;> omega)) ?_)
 ·repeat' (first|exact aK_|refine aE_ rfl ?_ ?_)
  all_goals (first|exact au_c|(refine Cv.loE hs ?_ (ad_ _);first|rfl|(simp[i64,u64,u32,bln,hsn'];done)|(simp[i64,u64,u32,bln,hsn']<;> omega)))
 ·repeat' (first|exact aq_|refine al_ rfl rfl rfl rfl ?_ ?_)
  all_goals (first|exact au_e|(refine aH_ hs ?_ (bY_ _);first|(simp[hD_,fm_,dD_,hsn'];done)|(simp[iE,i64,ofV,hsn'];done))|(refine ae_ ?_;repeat' (first|exact ap_|refine af_ ?_ ?_)))
  all_goals (first|exact au_c|(refine Cv.loE hs ?_ (ad_ _);first|(simp[i64,u64,u32,bln,hsn'];done)|(simp[i64,u64,u32,bln,hsn']<;> omega)))
 have hge:i=l.length:=by simp at h;omega
 refine av_ ⟨i,hge,?_⟩
 exact s_e []
 rintro i rfl
 rw[gt_,List.take_length]
 refine r_z 2 ?_
 refine ag_ (aS_ rfl rfl (ad_ _))
def zintS(s:Int):Int×List Nat→AState
 |(n,l)=>⟨[(0,i64 n),(2,.lptr 1 0 0),(3,i64 s),(4,.arr (iE l))],[(1,some ⟨40,2,[[i64 0,.emp]]⟩)],2,25⟩
theorem gp_(s:Int)(n:Int)(l:List Nat):zintS s (n,l)=⟨[(0,i64 n),(2,.lptr 1 0 0),(3,i64 s),(4,.arr (iE l))],[(1,some ⟨40,2,[[i64 0,.emp]]⟩)],2,25⟩:=rfl
theorem ew_(n:Int)(h: -9223372036854775808≤n∧n≤9223372036854775807):FSpec Tryz.prog 202 [i64 n] (.agg (zZ n)):=by
 obtain⟨s,hs⟩:∃s:Int,s=if n< 0 then -1 else 1:=⟨_,rfl⟩
 have hsz:n≠0→s=sgZ n:=by
  intro h0;rw[hs];unfold sgZ;rw[if_neg h0]
 refine f_n Tryz.func202 ?_ ?_
 exact aa_ (ad_ _) ab_
 refine r_z 1 ?_
 refine r_z 1 ?_
 refine a2_ (fun _:Unit=>⟨[(0,i64 n),(2,.lptr 1 0 0),(3,i64 s)],[(1,some ⟨40,2,[[i64 0,.emp]]⟩)],2,25⟩) (fun _=>True) ?_ ?_
 refine r_z 2 ?_
 refine aj_ rfl (fun h1=>?_) (fun h1=>?_)
 have hn:n< 0:=by simpa using h1
 rw[hs,if_pos hn]
 refine r_m 1 ?_
 refine a_z ?_
 refine⟨(),trivial,?_⟩
 exact s_e []
 have hn:¬n< 0:=by simpa using h1
 rw[hs,if_neg hn]
 refine ai_ ⟨(),trivial,?_⟩
 exact s_e []
 rintro _ _
 refine r_z 1 ?_
 refine a2_ (fun l:List Nat=>zintS s (0,l)) (fun l=>l.length≤10∧(∀d∈l,d< UB)∧hv l=n.natAbs) ?_ ?_
 refine ah_ (aw_ (zintS s) (fun x=>x.1.natAbs) (fun x=>(-9223372036854775808≤x.1∧x.1≤9223372036854775807)∧(∀d∈x.2,d< UB)∧n.natAbs=hv x.2+UB^ x.2.length* x.1.natAbs∧x.2.length≤5) (n,[]) ⟨h,by simp,by simp[mn_],by simp⟩ ?_ ?_)
 simp only[gp_]
 exact s_e [(1,2)]
 rintro⟨m,l⟩ ⟨hm,hd,hval,hl6⟩
 simp only at hm hd hval hl6
 rw[gp_]
 refine ac_ (r_z 2 ?_)
 refine aj_ rfl (fun h=>?_) (fun h=>?_)
 ·have hm0:m≠0:=by simpa using h
  have hl:l.length≤4:=by
   refine Nat.le_of_not_lt fun h5=>?_
   have h6:UB^ 5≤UB^ l.length:=Nat.pow_le_pow_right (by decide) h5
   have h7:UB^ l.length* 1≤UB^ l.length* m.natAbs:=Nat.mul_le_mul_left _ (by omega)
   have h8:UB^ 5=37778931862957161709568:=by decide
   omega
  obtain⟨d,hdm⟩:∃d,d=m.natAbs % 32768:=⟨_,rfl⟩
  have hd1:d< 32768:=by omega
  have hr:(m.tmod 32768).natAbs=d:=by rw[Int.natAbs_tmod,hdm];rfl
  have hq:(m.tdiv 32768).natAbs=m.natAbs/ 32768:=by rw[Int.natAbs_tdiv];rfl
  have hlq:m.natAbs/ 32768< m.natAbs:=Nat.div_lt_self (by omega) (by decide)
  have hdm2:=Nat.div_add_mod m.natAbs 32768
  refine ai_ (ah_ (s_r 3 ?_))
  refine a_1 ?_
  refine o_0 (.bin rfl rfl (sR_ (by decide))) ?_
  refine a_z ?_
  refine a2_ (fun _:Unit=>⟨[(0,i64 m),(2,.lptr 1 0 0),(3,i64 s),(4,.arr (iE l)),(5,i64 d)],[(1,some ⟨40,2,[[i64 0,.emp]]⟩)],2,25⟩) (fun _=>True) ?_ ?_
  refine r_z 2 ?_
  refine aj_ rfl (fun h1=>?_) (fun h1=>?_)
  have hneg:m.tmod 32768< 0:=by simpa using h1
  refine r_m 3 ?_
  refine a_z ?_
  have e: -m.tmod 32768=d:=by omega
  refine⟨(),trivial,?_⟩
  have:=(congrArg (fun z=>AV.v (.int .i64 z)) e)
  exact s_f []
  have hneg:¬m.tmod 32768< 0:=by simpa using h1
  have e:m.tmod 32768=d:=by omega
  refine ai_ ⟨(),trivial,?_⟩
  have:=(congrArg (fun z=>AV.v (.int .i64 z)) e)
  exact s_f []
  rintro _ _
  refine s_r 5 ?_
  refine a_3 ?_
  refine o_2 (.append_l rfl rfl rfl te_38.h rfl rfl rfl rfl rfl d_o (by first|exact df_ _|exact dd_ _|exact c2_ _|exact dg_ _|exact c7_ _|assumption|rfl|simp) (by first|rfl|exact df_ _|exact dd_ _|exact c2_ _|exact dg_ _|exact c7_ _|simp) rfl (.arr (gf_ _)) tz_3.h rfl tb_3.h d_o (by first|(simp[maxLen];done)|(simp[maxLen];omega))) ?_
  refine a_z ?_
  refine r_m 3 ?_
  refine a_1 ?_
  refine o_0 (.bin rfl rfl (jj_ (by decide) (by omega))) ?_
  refine a_z ?_
  refine⟨(m.tdiv 32768,d::l),by simp only;omega,⟨by simp only;omega,?_,?_,by simp;omega⟩,?_⟩
  intro e he
  rcases List.mem_cons.1 he with rfl|he
  exact hd1
  exact hd e he
  simp only[iP_,List.length_cons]
  rw[hval,hq,Nat.pow_succ,Nat.mul_assoc,Nat.add_assoc,←Nat.mul_add]
  congr 2
  show m.natAbs=d+32768* (m.natAbs/ 32768)
  omega
  simp only[gp_]
  have e:[[i64 d]]++iE l=iE (d::l):=rfl
  refine at_ [] rfl rfl rfl au_r (fun hs=>?_) (fun hs=>?_)
  ·repeat' (first|exact aK_|refine aE_ rfl ?_ ?_)
   all_goals (first|(exact Cv.sealE hs rfl (aQ_ rfl) e (by simp;omega) (bY_ _))|exact au_c)
  ·repeat' (first|exact aq_|refine al_ rfl rfl rfl rfl ?_ ?_)
   all_goals (first|exact au_e|(refine ae_ ?_;repeat' (first|exact ap_|refine af_ ?_ ?_)))
   all_goals (first|(exact Cv.sealE hs rfl (aQ_ rfl) e (by simp;omega) (bY_ _))|exact au_c)
 have hm0:m=0:=by simpa using h
 subst hm0
 refine av_ ⟨l,⟨by omega,hd,by simpa using hval.symm⟩,?_⟩
 simp only[gp_]
 exact s_e []
 rintro l ⟨hl,hd,hval⟩
 rw[gp_]
 refine r_c 4 (fn_ s l n (by omega) hd hval hsz) ?_
 refine a_z ?_
 exact ag_ (c_e (aZ_ _))
end Go.Proofs.YtdjfjpeoddmamaaGreatDoor
