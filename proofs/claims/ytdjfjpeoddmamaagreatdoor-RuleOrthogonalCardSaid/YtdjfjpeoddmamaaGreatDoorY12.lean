/- Part Y12 of the proof. -/
import Derived.Test.YtdjfjpeoddmamaaGreatDoorY11
set_option linter.all false
namespace Go.Proofs.YtdjfjpeoddmamaaGreatDoor
open Go.Abs
set_option maxRecDepth 20000
set_option maxHeartbeats 2000000
def prS(t:List Rat):Nat×Nat→AState
 |(i,d)=>⟨[(0,.arr (pE t)),(3,.lptr 1 0 0),(4,.lptr 2 0 0),(13,.arr (pE t)),(14,i64 t.length),(15,i64 i)],[(1,some ⟨35,3,[qC (nQ d)]⟩),(2,some ⟨35,3,[qC 0]⟩)],3,47⟩
def prT(t:List Rat)(D:Nat):Nat×Nat→AState
 |(i,n)=>⟨[(0,.arr (pE t)),(3,.lptr 1 0 0),(4,.lptr 2 0 0),(29,.arr (pE t)),(30,i64 t.length),(31,i64 i)],[(1,some ⟨35,3,[qC (nQ D)]⟩),(2,some ⟨35,3,[qC (nQ n)]⟩)],3,47⟩
theorem nt_{l:List Rat}{i:Nat}(h:i< l.length):l.drop i=coP l i::l.drop (i+1):=by
 rw[List.drop_eq_getElem_cons h]
 congr 1
 have:=bd_ h
 rw[List.getElem?_eq_getElem h] at this
 exact Option.some.inj this
theorem bl_gcd(a b:Nat):bl (Nat.gcd a b)≤max (bl a) (bl b):=by
 rcases Nat.eq_zero_or_pos a with h|h
 subst h;rw[Nat.gcd_zero_left];exact Nat.le_max_right _ _
 exact Nat.le_trans (bR_ (Nat.gcd_le_left b h)) (Nat.le_max_left _ _)
theorem hH_(p:List Rat)(h:lB_ p)(h0:trimQ p≠[]):FSpec Tryz.prog 271 [.arr (pE p)] (.arr (pE (primP p))):=by
 obtain⟨t,ht⟩:∃t,t=trimQ p:=⟨_,rfl⟩
 obtain⟨s,hs⟩:∃s,s=mxL p:=⟨_,rfl⟩
 have hs1:1≤s:=by rw[hs];exact bP_ p
 have hbt:bdL t s:=fun q hq=>by rw[hs];exact ce_ p q (bl_ (by rw[←ht];exact hq))
 have htl:t.length≤p.length:=by rw[ht];exact a2_ p
 obtain⟨hsz,hpl⟩:=h
 rw[←hs] at hsz
 have hts:t.length* s≤p.length* s:=Nat.mul_le_mul_right _ htl
 rw[Nat.add_mul] at hsz
 obtain⟨D,hD⟩:∃D,D=denL t 1:=⟨_,rfl⟩
 have hD0:D≠0:=by rw[hD];exact jc_ t (by decide)
 have hDb:bl D≤1+t.length* s:=by rw[hD];exact ny_ t 1 hbt
 have hDd:∀c∈t,c.den∣D:=by rw[hD];exact(fH_ t 1).2
 obtain⟨N,hN⟩:∃N,N=numL D t 0:=⟨_,rfl⟩
 have hlast:leadP p∈t:=by
  rw[ht]
  obtain⟨n,hn⟩:∃n,(trimQ p).length=n+1:=⟨(trimQ p).length- 1,by have:=List.length_pos_iff.2 h0;omega⟩
  exact List.mem_of_getElem? (bH_ hn)
 have hNd:=(hV_ D t 0).2 (leadP p) hlast
 rw[←hN] at hNd
 have hi0:=m4_ (hDd _ hlast) hD0 (b9_ h0)
 have hN0:N≠0:=fun e=>hi0 (by rw[e] at hNd;exact Nat.zero_dvd.1 hNd)
 have hNb:bl N≤s+bl D:=Nat.le_trans (bR_ (Nat.le_of_dvd (by omega) hNd)) (Nat.le_trans (m5_ _ _) (by have:=hbt _ hlast;omega))
 have hpr:primP p=aJ_ t (nQ D/ nQ N):=by unfold primP;rw[←ht,←hD,←hN]
 rw[hpr]
 have hgt:∀i,i< t.length→(pE t)[((i:Nat):Int).toNat]?=some (qC (coP t i)):=fun i hi=>bD_ (bd_ hi)
 have hmem:∀i,i< t.length→coP t i∈t:=fun i hi=>List.mem_of_getElem? (bd_ hi)
 have htr:=cI_ p (by omega)
 rw[←ht] at htr
 refine f_n Tryz.func271 ?_ ?_
 exact aa_ (at_ p) ab_
 refine r_z 1 ?_
 refine r_c 3 (htr) ?_
 refine a_z ?_
 refine r_c 6 (dz_ 1 (by decide)) ?_
 refine a_z ?_
 refine ac_ (r_z 3 ?_)
 refine aB_ (fun _:Unit=>⟨[(0,.arr (pE t)),(3,.lptr 1 0 0),(4,.lptr 2 0 0)],[(1,some ⟨35,3,[qC (nQ D)]⟩),(2,some ⟨35,3,[qC 0]⟩)],3,47⟩) (fun _=>True) ?_ ?_
 refine ag_ (ax_ (prS t) (fun x=>t.length- x.1) (fun x=>x.1≤t.length∧x.2≠0∧denL (t.drop x.1) x.2=D) (0,1) ⟨Nat.zero_le _,by decide,by rw[hD];rfl⟩ ?_ ?_)
 simp only[prS.eq_1]
 rw[qC0]
 exact s_e [(1,3),(2,4)]
 rintro⟨i,d⟩ ⟨hi,hd0,hd⟩
 simp only at hi hd0 hd
 rw[prS.eq_1]
 refine r_z 1 ?_
 refine ac_ (am_ rfl (fun h=>?_) (fun h=>?_))
 refine ah_ ?_
 have hlt:i< t.length:=by simpa using h
 have hc:=hbt _ (hmem i hlt)
 have hcd:=bW_ (coP t i)
 have hcn:=(coP t i).den_nz
 rw[nt_ hlt] at hd
 have hdD:d∣D:=by rw[←hd];exact(fH_ _ d).1
 have hdb:=bR_ (Nat.le_of_dvd (by omega) hdD)
 have hq1:=qs_nQ (n:=d) (k:=34359738368) (by omega) (by decide)
 have hq2:=qs_nQ (n:=(coP t i).den) (k:=34359738368) (by omega) (by decide)
 have hmu:=dd_ (nQ d) (nQ (coP t i).den) (by omega)
 have hco:=j0_ d (coP t i).den (by omega) (by omega)
 have hg0:Nat.gcd d (coP t i).den≠0:=by have:=Nat.gcd_pos_of_pos_left (coP t i).den (Nat.pos_of_ne_zero hd0);omega
 have hgb:=bl_gcd d (coP t i).den
 have hq3:=qs_nQ (n:=Nat.gcd d (coP t i).den) (k:=34359738368) (by omega) (by decide)
 have hq4:=bZ_ (nQ d) (nQ (coP t i).den)
 rw[nQ_mul] at hq4 hmu
 have hov:=ea_ (nQ (d* (coP t i).den)) (nQ (Nat.gcd d (coP t i).den)) (fun e=>hg0 (nQ_zero.1 e)) (by omega)
 rw[of_ _ _ hg0,lJ_ _ _ hg0 (Nat.dvd_mul_right_of_dvd (Nat.gcd_dvd_left _ _) _)] at hov
 refine ac_ (ag_ (s_r 4 ?_))
 first|refine aw_ (.index_l rfl rfl (by omega) (by omega) te_55.h) rfl rfl ?_|refine aw_ (.index_a rfl rfl (by omega) (hgt i hlt) rfl te_55.h) rfl rfl ?_
 first|refine aw_ (.load_l rfl rfl (hgt i hlt) tg_35.h ts_35.h (nle rfl)) rfl rfl ?_|refine aw_ (.load_a rfl (hgt i hlt) tg_35.h ts_35.h (nle rfl)) rfl rfl ?_
 refine a_z ?_
 refine r_d hmix 10 ?_
 refine c_s (fs_den (coP t i) (by unfold sm;omega)) ?_
 refine c_s (hmu) ?_
 refine c_s (fs_den (coP t i) (by unfold sm;omega)) ?_
 refine c_s (hco) ?_
 refine c_s (hov) ?_
 refine a_1 ?_
 refine an_ (n_k ?_)
 refine r_m 2 ?_
 refine a_z ?_
 refine⟨(i+1,Nat.lcm d (coP t i).den),by simp only;omega,⟨hlt,q2_ hd0 hcn,hd⟩,?_⟩
 simp only[prS.eq_1]
 exact s_e []
 have hge:i=t.length:=by
  have:¬i< t.length:=by simpa using h
  omega
 subst hge
 rw[List.drop_length] at hd
 refine av_ ⟨(),trivial,?_⟩
 rw[←hd]
 exact s_e []
 rintro _ _
 refine ac_ (r_z 3 ?_)
 refine aB_ (fun _:Unit=>⟨[(0,.arr (pE t)),(3,.lptr 1 0 0),(4,.lptr 2 0 0)],[(1,some ⟨35,3,[qC (nQ D)]⟩),(2,some ⟨35,3,[qC (nQ N)]⟩)],3,47⟩) (fun _=>True) ?_ ?_
 refine ag_ (ax_ (prT t D) (fun x=>t.length- x.1) (fun x=>x.1≤t.length∧bl x.2≤s+bl D∧numL D (t.drop x.1) x.2=N) (0,0) ⟨Nat.zero_le _,by rw[bl_zero];exact Nat.zero_le _,by rw[hN];rfl⟩ ?_ ?_)
 simp only[prT.eq_1]
 exact s_e []
 rintro⟨i,n⟩ ⟨hi,hnb,hn⟩
 simp only at hi hnb hn
 rw[prT.eq_1]
 refine r_z 1 ?_
 refine ac_ (am_ rfl (fun h=>?_) (fun h=>?_))
 refine ah_ ?_
 have hlt:i< t.length:=by simpa using h
 have hc:=hbt _ (hmem i hlt)
 rw[nt_ hlt] at hn
 have hib:=m5_ (coP t i) D
 have hgb:=bl_gcd n (intC (coP t i) D)
 have hq1:=qs_nQ (n:=D) (k:=34359738368) (by omega) (by decide)
 have hmu:=dd_ (coP t i) (nQ D) (by omega)
 have hab:=oy_ (coP t i* nQ D)
 rw[hW_ _ _ (hDd _ (hmem i hlt))] at hab
 have hco:=j0_ n (intC (coP t i) D) (by omega) (by omega)
 refine ac_ (ag_ (s_r 4 ?_))
 first|refine aw_ (.index_l rfl rfl (by omega) (by omega) te_55.h) rfl rfl ?_|refine aw_ (.index_a rfl rfl (by omega) (hgt i hlt) rfl te_55.h) rfl rfl ?_
 first|refine aw_ (.load_l rfl rfl (hgt i hlt) tg_35.h ts_35.h (nle rfl)) rfl rfl ?_|refine aw_ (.load_a rfl (hgt i hlt) tg_35.h ts_35.h (nle rfl)) rfl rfl ?_
 refine a_z ?_
 refine r_d hmix 7 ?_
 refine c_s (hmu) ?_
 refine c_s (hab) ?_
 refine c_s (hco) ?_
 refine a_1 ?_
 refine an_ (n_k ?_)
 refine r_m 2 ?_
 refine a_z ?_
 refine⟨(i+1,Nat.gcd n (intC (coP t i) D)),by simp only;omega,⟨hlt,by simp only;omega,hn⟩,?_⟩
 simp only[prT.eq_1]
 exact s_e []
 have hge:i=t.length:=by
  have:¬i< t.length:=by simpa using h
  omega
 subst hge
 rw[List.drop_length] at hn
 refine av_ ⟨(),trivial,?_⟩
 rw[←hn]
 exact s_e []
 rintro _ _
 have hq1:=qs_nQ (n:=D) (k:=34359738368) (by omega) (by decide)
 have hq2:=qs_nQ (n:=N) (k:=34359738368) (by omega) (by decide)
 have hq3:=dy_ (nQ D) (nQ N)
 refine r_c 6 (ea_ (nQ D) (nQ N) (fun e=>hN0 (nQ_zero.1 e)) (by omega)) ?_
 refine c_s (dE_ t (nQ D/ nQ N) (gO_ hbt (by omega)) (by unfold sm;omega) (by omega)) ?_
 refine a_z ?_
 exact aj_ (t_e (at_ _))
theorem kE_(f:Nat)(p r:List Rat)(h:sqfM f p=some r):FSpec Tryz.prog 221 [.arr (pE p)] (.arr (pE r)):=by
 unfold sqfM at h
 split at h
 case isFalse=>cases h
 case isTrue hs=>
 obtain⟨g,hg,hr⟩:=Option.bind_eq_some_iff.1 h
 split at hr
 case isFalse=>cases hr
 case isTrue hg2=>
 cases hr
 have hdl:=f8_ p
 have hdv:=gE_ (p:=p) (q:=g)
 refine f_n Tryz.func221 ?_ ?_
 exact aa_ (at_ p) ab_
 refine r_z 1 ?_
 refine r_c 11 (i0_ p hs.1 (by omega)) ?_
 refine c_s (fs_Gcd f p (aY_ p) g hg hs.2 (by omega)) ?_
 refine c_s (fe_ p g (mxL p) (mxL g) (ce_ p) (ce_ g) (bP_ p) (bP_ g) hg2.2.1 hg2.1 hs.2 hg2.2.2.2) ?_
 refine a_z ?_
 refine r_c 3 (kJ_ (divP p g).1 (nw_ hg2.2 hg2.1).1 (by omega)) ?_
 refine a_z ?_
 exact aj_ (t_e (at_ _))
theorem fs_large(p:List Rat)(hp:p.length≤1099511627776):FSpec Tryz.prog 147 [.arr (pE p)] (i64 (iL_ p)):=by
 refine f_n Tryz.func147 ?_ ?_
 exact aa_ (at_ p) ab_
 refine r_z 1 ?_
 refine ac_ (r_c 3 (bJ_ p hp) ?_)
 refine a_z ?_
 refine aB_ (fun _:Unit=>⟨[],[],1,12⟩) (fun _=>iL_ p=0) ?_ ?_
 refine ag_ (r_z 3 ?_)
 refine am_ rfl (fun h=>?_) (fun h=>?_)
 have h1:degP p< 0:=by simpa using h
 refine r_z 1 ?_
 refine aj_ (aR_ rfl ?_ ?_)
 unfold iL_;rw[if_pos h1];rfl
 exact ad_ _
 have h1:¬degP p< 0:=by simpa using h
 refine r_z 3 ?_
 refine am_ rfl (fun h2=>?_) (fun h2=>?_)
 have h3:40< degP p:=by simpa using h2
 refine r_z 1 ?_
 refine aj_ (aR_ rfl ?_ ?_)
 unfold iL_;rw[if_neg h1,if_pos h3];rfl
 exact ad_ _
 have h3:¬40< degP p:=by simpa using h2
 refine ah_ ⟨(),by unfold iL_;rw[if_neg h1,if_neg h3],?_⟩
 exact s_e []
 rintro _ hl
 refine r_z 1 ?_
 refine aj_ (aR_ rfl ?_ ?_)
 rw[hl];rfl
 exact ad_ _
def boS(t:List Rat)(l:List Rat):Nat×Rat→AState
 |(i,m)=>⟨[(0,.arr (pE t)),(2,.lptr 1 0 0),(3,.lptr 2 0 0),(13,.arr (pE l)),(14,i64 l.length),(15,i64 i)],[(1,some ⟨35,3,[zC]⟩),(2,some ⟨35,3,[qC m]⟩)],3,31⟩
theorem fs_bound(p:List Rat)(h:e4_ p)(h0:trimQ p≠[]):FSpec Tryz.prog 151 [.arr (pE p)] (.agg (qC (cB_ p))):=by
 obtain⟨hsz,hpl⟩:=h
 obtain⟨t,ht⟩:∃t,t=trimQ p:=⟨_,rfl⟩
 have htr:=cI_ p (by omega)
 have htl:=a2_ p
 rw[←ht] at htr htl
 obtain⟨l,hl⟩:∃l,l=t.take (t.length- 1):=⟨_,rfl⟩
 have hll:l.length=t.length- 1:=by rw[hl];simp
 have hbl:bdL l (mxL p):=fun q hq=>ce_ p q (bl_ (by rw[←ht];exact List.mem_of_mem_take (by rw[←hl];exact hq)))
 have hpos:0< t.length:=by rw[ht];exact List.length_pos_iff.2 h0
 have hlead:leadP t=leadP p:=by rw[ht,jR_]
 have hlb:qs (leadP p)≤mxL p:=by
  obtain⟨n,hn⟩:∃n,(trimQ p).length=n+1:=⟨(trimQ p).length- 1,by rw[←ht];omega⟩
  exact ce_ p _ (bl_ (List.mem_of_getElem? (bH_ hn)))
 have hb:cB_ p=boL (leadP p) l 0+1:=by unfold cB_;rw[←ht,←hl]
 rw[hb]
 obtain⟨B,hB⟩:∃B,B=boL (leadP p) l 0:=⟨_,rfl⟩
 rw[←hB]
 refine f_n Tryz.func151 ?_ ?_
 exact aa_ (at_ p) ab_
 refine r_z 1 ?_
 refine r_c 3 (htr) ?_
 refine a_z ?_
 refine r_z 3 ?_
 refine ac_ (s_r 7 ?_)
 refine a_4 ?_
 refine o_0 (.sa_h rfl rfl (h:=t.length- 1) (by omega) (by simp) te_55.h (fZ_ _)) ?_
 refine a_z ?_
 refine aB_ (fun _:Unit=>⟨[(2,.lptr 1 0 0),(3,.lptr 2 0 0)],[(1,some ⟨35,3,[zC]⟩),(2,some ⟨35,3,[qC B]⟩)],3,31⟩) (fun _=>qs B≤2* mxL p+1) ?_ ?_
 refine ag_ (ax_ (boS t l) (fun x=>l.length- x.1) (fun x=>x.1≤l.length∧qs x.2≤2* mxL p+1∧boL (leadP p) (l.drop x.1) x.2=B) (0,0) ⟨Nat.zero_le _,Nat.le_trans (by decide:qs 0≤1) (Nat.le_add_left 1 _),by rw[hB];rfl⟩ ?_ ?_)
 simp only[boS.eq_1]
 rw[qC0]
 have e13:AV.arr (List.take (t.length- 1) (pE t))=AV.arr (pE l):=by rw[hl,mW_]
 refine ar_ [(1,2),(2,3)] rfl rfl rfl ?_ (fun hs=>?_) (fun hs=>?_)
 ·repeat' (first|exact ShrL.nil|refine ShrL.cons rfl rfl rfl rfl (by first|rfl|(simp;done)|(simp[hll]<;> omega)) ?_)
 ·repeat' (first|exact aA_|refine au_ rfl ?_ ?_)
  all_goals (first|(exact Cv.loE hs e13 (e13▸at_ l))|exact au_c|(refine Cv.loE hs ?_ (ad_ _);first|rfl|(simp[i64,u64,u32,bln,hll];done)|(simp[i64,u64,u32,bln,hll]<;> omega)))
 ·repeat' (first|exact ap_|refine al_ rfl rfl rfl rfl ?_ ?_)
  all_goals (first|exact au_e|(refine aD_ hs ?_ (aI_ _);first|(simp[iu_,lx_,hll];done)|(simp[pE,ofV,hll];done))|(refine ae_ ?_;repeat' (first|exact ao_|refine af_ ?_ ?_)))
  all_goals (first|(exact Cv.loE hs e13 (e13▸at_ l))|exact au_c|(refine Cv.loE hs ?_ (ad_ _);first|(simp[i64,u64,u32,bln,hll];done)|(simp[i64,u64,u32,bln,hll]<;> omega)))
 rintro⟨i,m⟩ ⟨hi,hm,hbo⟩
 simp only at hi hm hbo
 rw[boS.eq_1]
 refine r_z 1 ?_
 refine ac_ (am_ rfl (fun h=>?_) (fun h=>?_))
 refine ah_ ?_
 have hlt:i< l.length:=by simpa using h
 have hgt:(pE l)[((i:Nat):Int).toNat]?=some (qC (coP l i)):=bD_ (bd_ hlt)
 have hc:qs (coP l i)≤mxL p:=hbl _ (List.mem_of_getElem? (bd_ hlt))
 rw[nt_ hlt] at hbo
 have hq:=dy_ (coP l i) (leadP p)
 have hle:=f6_ t (by omega)
 rw[hlead] at hle
 have hqa:=qs_abs (coP l i/ leadP p)
 have hbm:bdL [m,absQ (coP l i/ leadP p)] (2* mxL p+1):=by
  intro x hx
  rcases List.mem_cons.1 hx with rfl|hx
  exact hm
  rw[List.mem_singleton.1 hx];omega
 have hmx:=fs_Max [m,absQ (coP l i/ leadP p)] (gO_ hbm (by omega)) (by simp)
 refine ac_ (ag_ (s_r 4 ?_))
 refine i_x hgt ?_
 refine l_x hgt ?_
 refine a_z ?_
 refine r_d hmix 9 ?_
 refine c_s (hle) ?_
 refine c_s (ea_ (coP l i) (leadP p) (b9_ h0) (by omega)) ?_
 refine c_s (oy_ (coP l i/ leadP p)) ?_
 refine a_1 ?_
 refine o_1 (.callS1 rfl rfl rfl (.shut rfl d_n (.nil)) rfl (hmx)) ?_
 refine a_1 ?_
 refine an_ (n_k ?_)
 refine r_m 2 ?_
 refine a_z ?_
 refine⟨(i+1,maxL [m,absQ (coP l i/ leadP p)]),by simp only;omega,⟨hlt,maxL_le hbm (Nat.le_add_left 1 _),hbo⟩,?_⟩
 simp only[boS.eq_1]
 exact s_e []
 have hge:i=l.length:=by
  have:¬i< l.length:=by simpa using h
  omega
 subst hge
 rw[List.drop_length] at hbo
 have hbo':m=B:=hbo
 subst hbo'
 refine av_ ⟨(),hm,?_⟩
 exact s_e []
 rintro _ hq
 have h1:qs 1=1:=by decide
 refine ac_ (r_d hmix 4 ?_)
 refine c_s (dz_ 1 (by decide)) ?_
 refine c_s (fT_ B 1 (by omega)) ?_
 refine a_1 ?_
 refine an_ (n_k ?_)
 exact aj_ (c_e (az_ _))
def stS:List Rat×List (List Rat)→AState
 |(next,acc)=>⟨[(3,.lsl 1 0 acc.length none 1),(4,.arr (pE next))],[(1,some ⟨55,1,cE acc⟩)],2,40⟩
theorem qg_(next:List Rat)(acc:List (List Rat)):stS (next,acc)=⟨[(3,.lsl 1 0 acc.length none 1),(4,.arr (pE next))],[(1,some ⟨55,1,cE acc⟩)],2,40⟩:=rfl
theorem qA_(p:List Rat):(primP p).length≤p.length:=
 Nat.le_trans (bT_ _ _) (a2_ p)
theorem fs_sturm(f:Nat)(p:List Rat)(r:List (List Rat))(h:lj_ f p=some r)(hf:f≤1000000):FSpec Tryz.prog 222 [.arr (pE p)] (.arr (cE r)):=by
 unfold lj_ at h
 split at h
 case isFalse=>cases h
 case isTrue hp=>
 have hdl:=f8_ p
 have hpl:=hp.2.1.2
 refine f_n Tryz.func222 ?_ ?_
 exact aa_ (at_ p) ab_
 refine r_z 1 ?_
 refine r_c 4 (hH_ p hp.2.1 hp.2.2) ?_
 refine a_z ?_
 refine ac_ (r_c 3 (i0_ p hp.1 (by omega)) ?_)
 refine a_z ?_
 refine aB_ (fun _:Unit=>⟨[(3,.lsl 1 0 r.length none 1)],[(1,some ⟨55,1,cE r⟩)],2,40⟩) (fun _=>True) ?_ ?_
 ·refine ag_ (ax_ (fun x:Nat×List Rat×List Rat×List (List Rat)=>stS x.2.2) (fun x=>x.1) (fun x=>kb_ f x.1 x.2.1 x.2.2.1 x.2.2.2=some r∧x.2.2.1.length≤274877906944∧x.2.2.2.length+x.1≤1000001∧1≤x.2.2.2.length∧x.2.2.2[x.2.2.2.length- 1]?=some x.2.1) (f,primP p,aY_ p,[primP p]) ⟨h,by simp only;omega,by simp only[List.length_singleton];omega,by simp,rfl⟩ ?_ ?_)
  simp only[qg_]
  have:=fn_ [primP p]
  exact s_f [(1,3)]
  rintro⟨k,last,next,acc⟩ ⟨h,hn,hk,ha1,hla⟩
  simp only at h hn hk ha1 hla
  simp only[qg_]
  cases k with
  |zero=>cases h
  |succ k=>
   rw[kb_] at h
   refine ac_ (r_c 3 (bJ_ next (by omega)) ?_)
   refine a_z ?_
   refine am_ rfl (fun h1=>?_) (fun h1=>?_)
   ·have h0:trimQ next≠[]:=by
     intro e
     have e2:=degP_neg.2 e
     simp at h1;omega
    rw[if_neg h0] at h
    split at h
    case isFalse=>cases h
    case isTrue hs=>
    have hpn:=qA_ next
    have hdv:=gE_ (p:=last) (q:=primP next)
    have hsl:=bT_ (divP last (primP next)).2 (-1)
    have hl2:=hs.2.1.2.1
    have hg1:(cE (acc++[primP next]))[0+(((acc.length+1:Nat):Int)- 2).toNat]?=some [.arr (pE last)]:=by
     rw[show 0+(((acc.length+1:Nat):Int)- 2).toNat=acc.length- 1 by omega]
     exact sh_ (by rw[List.getElem?_append_left (by omega)];exact hla)
    have hg2:(cE (acc++[primP next]))[0+(((acc.length+1:Nat):Int)- 1).toNat]?=some [.arr (pE (primP next))]:=by
     rw[show 0+(((acc.length+1:Nat):Int)- 1).toNat=acc.length by omega]
     exact sh_ (by simp)
    refine ah_ (ag_ (r_c 6 (hH_ next hs.1 h0) ?_))
    refine a_z ?_
    refine AWp.ent (st':=⟨[(3,.lsl 1 0 (acc.length+1) none 1)],[(1,some ⟨55,1,cE (acc++[primP next])⟩)],2,40⟩) ?_ ?_
    ·have:=(cE_snoc acc (primP next)).symm
     exact s_f [(1,3)]
    refine ac_ (r_d hmix 18 ?_)
    refine a_5 ?_
    first|refine aw_ (.load_l1 rfl rfl hg1 tg_55.h rfl) rfl rfl ?_|refine aw_ (.load_a1 rfl hg1 tg_55.h rfl) rfl rfl ?_
    refine a_5 ?_
    first|refine aw_ (.load_l1 rfl rfl hg2 tg_55.h rfl) rfl rfl ?_|refine aw_ (.load_a1 rfl hg2 tg_55.h rfl) rfl rfl ?_
    refine c_s (fe_ last (primP next) (mxL last) (mxL (primP next)) (ce_ _) (ce_ _) (bP_ _) (bP_ _) hs.2.1.1 hs.2.2 hs.2.1.2.1 hs.2.1.2.2) ?_
    refine a_5 ?_
    refine an_ (n_k ?_)
    refine r_m 4 ?_
    refine c_s (dz_ (-1) (by decide)) ?_
    refine c_s (dE_ (divP last (primP next)).2 (-1) (nw_ hs.2.1 hs.2.2).2 (by decide) (by omega)) ?_
    refine a_z ?_
    refine⟨(k,primP next,aJ_ (divP last (primP next)).2 (-1),acc++[primP next]),Nat.lt_succ_self k,⟨h,by simp only;omega,by simp only[List.length_append,List.length_singleton];omega,by simp,by simp⟩,?_⟩
    have hla:(acc++[primP next]).length=acc.length+1:=by simp
    simp only[qg_,hla]
    exact s_f []
   ·have h0:trimQ next=[]:=by
     refine degP_neg.1 ?_
     simp at h1;omega
    rw[if_pos h0] at h
    cases h
    refine av_ ⟨(),trivial,?_⟩
    exact s_f []
 rintro _ _
 refine r_z 2 ?_
 exact aj_ (Fin.tmpS rfl rfl rfl (by simp) (fn_ r))
def chS(ch:List (List Rat))(g:Nat)(cap:List AV):Nat×Int×Int→AState
 |(i,n,last)=>⟨[(1,.clos g [] cap),(5,i64 n),(6,i64 last),(10,.arr (cE ch)),(11,i64 ch.length),(12,i64 i)],[],1,30⟩
theorem mD_(ch:List (List Rat))(g:Nat)(cap:List AV)(i:Nat)(n:Int)(last:Int):chS ch g cap (i,n,last)=⟨[(1,.clos g [] cap),(5,i64 n),(6,i64 last),(10,.arr (cE ch)),(11,i64 ch.length),(12,i64 i)],[],1,30⟩:=rfl
theorem j2_(ch:List (List Rat))(g:Nat)(cap:List AV)(sg:List Rat→Int)(hcap:∀c∈cap,Closed c)(hsg:∀q∈ch,-1≤sg q∧sg q≤1)(hl:ch.length≤274877906944)(hg:∀q∈ch,FSpec Tryz.prog g ((.arr (pE q)::cap).map coe) (i64 (sg q))):FSpec Tryz.prog 223 [.arr (cE ch),.clos g [] cap] (i64 (chL (ch.map sg) 0 0)):=by
 refine f_n Tryz.func223 ?_ ?_
 exact aa_ (gK_ ch) (aa_ (aT_ ab_ hcap) ab_)
 refine r_z 1 ?_
 refine r_z 2 ?_
 refine ac_ (r_z 3 ?_)
 obtain⟨R,hR⟩:∃R,R=chL (ch.map sg) 0 0:=⟨_,rfl⟩
 rw[←hR]
 refine aB_ (fun _:Unit=>⟨[(5,i64 R)],[],1,30⟩) (fun _=>True) ?_ ?_
 refine ag_ (ax_ (chS ch g cap) (fun x=>ch.length- x.1) (fun x=>x.1≤ch.length∧0≤x.2.1∧x.2.1≤x.1∧ -1≤x.2.2∧x.2.2≤1∧chL ((ch.drop x.1).map sg) x.2.1 x.2.2=R) (0,0,0) ⟨Nat.zero_le _,by decide,by decide,by decide,by decide,by rw[hR];rfl⟩ ?_ ?_)
 simp only[mD_]
 refine ar_ [] rfl rfl rfl au_r (fun hs=>?_) (fun hs=>?_)
 ·repeat' (first|exact aA_|refine au_ rfl ?_ ?_)
  all_goals (first|(exact ak_ hs (aT_ ab_ hcap))|exact au_c)
 ·repeat' (first|exact ap_|refine al_ rfl rfl rfl rfl ?_ ?_)
  all_goals (first|exact au_e|(refine ae_ ?_;repeat' (first|exact ao_|refine af_ ?_ ?_)))
  all_goals (first|(exact ak_ hs (aT_ ab_ hcap))|exact au_c)
 rintro⟨i,n,last⟩ ⟨hi,hn0,hn1,hl0,hl1,hc⟩
 simp only at hi hn0 hn1 hl0 hl1 hc
 rw[mD_]
 refine r_z 1 ?_
 refine ac_ (am_ rfl (fun h=>?_) (fun h=>?_))
 refine ah_ ?_
 have hlt:i< ch.length:=by simpa using h
 obtain⟨q,hq⟩:∃q,ch[i]?=some q:=⟨_,List.getElem?_eq_getElem hlt⟩
 have hqm:=List.mem_of_getElem? hq
 have hgt:(cE ch)[((i:Nat):Int).toNat]?=some [.arr (pE q)]:=sh_ hq
 have hd:ch.drop i=q::ch.drop (i+1):=by
  rw[List.drop_eq_getElem_cons hlt]
  rw[List.getElem?_eq_getElem hlt] at hq
  rw[Option.some.inj hq]
 rw[hd,List.map_cons,chL] at hc
 have hs2:=hsg q hqm
 refine ac_ (ag_ (s_r 3 ?_))
 refine i_x hgt ?_
 refine l_1 hgt ?_
 refine a_z ?_
 refine r_c 4 (hg q hqm) ?_
 refine a_z ?_
 refine r_z 2 ?_
 refine am_ rfl (fun h1=>?_) (fun h1=>?_)
 have hne:sg q≠0:=by simpa using h1
 rw[if_pos hne] at hc
 refine ac_ (r_z 4 ?_)
 refine am_ rfl (fun h2=>?_) (fun h2=>?_)
 have he:sg q= -last:=by simpa using h2
 rw[if_pos he] at hc
 refine r_m 3 ?_
 refine a_z ?_
 refine r_m 2 ?_
 refine a_z ?_
 refine r_m 2 ?_
 refine a_z ?_
 refine⟨(i+1,n+1,sg q),by simp only;omega,⟨hlt,by simp only;omega,by simp only;omega,hs2.1,hs2.2,hc⟩,?_⟩
 simp only[mD_]
 refine ar_ [] rfl rfl rfl au_r (fun hs=>?_) (fun hs=>?_)
 ·repeat' (first|exact aA_|refine au_ rfl ?_ ?_)
  all_goals (first|(exact ak_ hs (aT_ ab_ hcap))|exact au_c)
 ·repeat' (first|exact ap_|refine al_ rfl rfl rfl rfl ?_ ?_)
  all_goals (first|exact au_e|(refine ae_ ?_;repeat' (first|exact ao_|refine af_ ?_ ?_)))
  all_goals (first|(exact ak_ hs (aT_ ab_ hcap))|exact au_c)
 have he:¬sg q= -last:=by simpa using h2
 rw[if_neg he] at hc
 refine ah_ (r_m 2 ?_)
 refine a_z ?_
 refine r_m 2 ?_
 refine a_z ?_
 refine⟨(i+1,n,sg q),by simp only;omega,⟨hlt,hn0,by simp only;omega,hs2.1,hs2.2,hc⟩,?_⟩
 simp only[mD_]
 refine ar_ [] rfl rfl rfl au_r (fun hs=>?_) (fun hs=>?_)
 ·repeat' (first|exact aA_|refine au_ rfl ?_ ?_)
  all_goals (first|(exact ak_ hs (aT_ ab_ hcap))|exact au_c)
 ·repeat' (first|exact ap_|refine al_ rfl rfl rfl rfl ?_ ?_)
  all_goals (first|exact au_e|(refine ae_ ?_;repeat' (first|exact ao_|refine af_ ?_ ?_)))
  all_goals (first|(exact ak_ hs (aT_ ab_ hcap))|exact au_c)
 have hne:sg q=0:=by simpa using h1
 rw[if_neg (fun e=>e hne)] at hc
 refine ah_ (r_m 2 ?_)
 refine a_z ?_
 refine⟨(i+1,n,last),by simp only;omega,⟨hlt,hn0,by simp only;omega,hl0,hl1,hc⟩,?_⟩
 simp only[mD_]
 refine ar_ [] rfl rfl rfl au_r (fun hs=>?_) (fun hs=>?_)
 ·repeat' (first|exact aA_|refine au_ rfl ?_ ?_)
  all_goals (first|(exact ak_ hs (aT_ ab_ hcap))|exact au_c)
 ·repeat' (first|exact ap_|refine al_ rfl rfl rfl rfl ?_ ?_)
  all_goals (first|exact au_e|(refine ae_ ?_;repeat' (first|exact ao_|refine af_ ?_ ?_)))
  all_goals (first|(exact ak_ hs (aT_ ab_ hcap))|exact au_c)
 have hge:i=ch.length:=by
  have:¬i< ch.length:=by simpa using h
  omega
 subst hge
 rw[List.drop_length] at hc
 have hc':n=R:=hc
 subst hc'
 refine av_ ⟨(),trivial,?_⟩
 exact s_e []
 rintro _ _
 refine r_z 2 ?_
 exact aj_ (t_e (ad_ _))
theorem pB_(q:List Rat)(h0:trimQ q≠[])(hl:q.length≤274877906944):FSpec Tryz.prog 224 [.arr (pE q)] (i64 (sgI q)):=by
 have hd:¬degP q< 0:=fun e=>h0 (degP_neg.1 e)
 have hb:=gZ_ (leadP q).num
 refine f_n Tryz.func224 ?_ ?_
 exact aa_ (at_ q) ab_
 refine r_z 1 ?_
 refine ac_ (r_c 4 (bJ_ q (by omega)) ?_)
 refine a_z ?_
 refine am_ rfl (fun h=>?_) (fun h=>?_)
 have h1:degP q % 2=1:=by simpa using h
 refine r_c 5 (f6_ q (by omega)) ?_
 refine c_s (bI_ (leadP q)) ?_
 refine a_z ?_
 refine aj_ (aR_ rfl ?_ ?_)
 unfold sgI;rw[if_pos h1];rfl
 exact ad_ _
 have h1:¬degP q % 2=1:=by simpa using h
 refine ah_ (r_c 4 (f6_ q (by omega)) ?_)
 refine c_s (bI_ (leadP q)) ?_
 refine a_z ?_
 refine aj_ (aR_ rfl ?_ ?_)
 unfold sgI;rw[if_neg h1]
 exact ad_ _
theorem rz_(f:Nat)(p:List Rat)(c:Cnt)(h:dX_ f p=some c)(hf:f≤1000000):FSpec Tryz.prog 148 [.arr (pE p)] (kA c):=by
 unfold dX_ at h
 obtain⟨s,hs,h2⟩:=Option.bind_eq_some_iff.1 h
 obtain⟨ch,hch,h3⟩:=Option.bind_eq_some_iff.1 h2
 split at h3
 case isFalse=>cases h3
 case isTrue hk=>
 cases h3
 have hcs:=j2_ ch 224 [] sgI ab_ (fun q _=>sgI_abs q) hk.2.1 (fun q hq=>pB_ q (hk.1 q hq).1 (hk.1 q hq).2)
 refine f_n Tryz.func148 ?_ ?_
 exact aa_ (at_ p) ab_
 refine r_z 1 ?_
 refine r_c 5 (kE_ f p s hs) ?_
 refine a_z ?_
 refine r_c 9 (fs_sturm f s ch hch hf) ?_
 refine a_z ?_
 refine r_c 9 (hcs) ?_
 refine a_z ?_
 refine r_z 2 ?_
 exact aj_ (Fin.tmpP rfl rfl rfl (my_ _))
theorem fs_upto1(q:List Rat)(x:Rat)(h:dS_ q x):FSpec Tryz.prog 225 [.arr (pE q),bQ x] (i64 (sgE x q)):=by
 refine f_n Tryz.func225 ?_ ?_
 exact aa_ (at_ q) (aa_ (cs_ x) ab_)
 refine r_z 1 ?_
 refine r_c 5 (kT_ q x h) ?_
 refine c_s (bI_ (evalP q x)) ?_
 refine a_z ?_
 exact aj_ (t_e (ad_ _))
theorem ro_(c:Cnt)(x:Rat)(h:okUp c x):FSpec Tryz.prog 149 [kA c,.agg (qC x)] (i64 (uptoV c x)):=by
 have hcs:=j2_ c.ch 225 [bQ x] (sgE x) (aa_ (cs_ x) ab_) (fun q _=>gZ_ _) h.1.2.1 (fun q hq=>fs_upto1 q x (h.2 q hq))
 have hb:=hO_ (x:=x) h.1
 unfold uptoV at hb⊢
 refine f_n Tryz.func149 ?_ ?_
 exact aa_ (fm_ c) (aa_ (az_ x) ab_)
 refine r_z 2 ?_
 refine AWp.ent (st':=⟨[(0,kA c),(3,bQ x)],[],1,16⟩) ?_ ?_
 exact s_e []
 refine ac_ (r_d hmix 12 ?_)
 refine c_s (hcs) ?_
 refine a_2 ?_
 refine an_ (n_k ?_)
 exact aj_ (t_e (ad_ _))
theorem fs_below(c:Cnt)(x:Rat)(h:okBe c x):FSpec Tryz.prog 150 [kA c,.agg (qC x)] (i64 (gN_ c x)):=by
 have hb:=hO_ (x:=x) h.1.1
 refine f_n Tryz.func150 ?_ ?_
 exact aa_ (fm_ c) (aa_ (az_ x) ab_)
 refine r_z 2 ?_
 refine r_c 4 (ro_ c x h.1) ?_
 refine a_z ?_
 refine aU_ (fun n:Int=>⟨[(5,i64 n)],[],1,20⟩) (fun n=>n=gN_ c x) ?_ ?_
 refine ac_ (r_d hmix 8 ?_)
 refine c_s (kT_ c.p x h.2) ?_
 refine c_s (bI_ (evalP c.p x)) ?_
 refine a_1 ?_
 refine an_ (n_k ?_)
 refine am_ rfl (fun h1=>?_) (fun h1=>?_)
 have h0:evalP c.p x=0:=by
  have:sgZ (evalP c.p x).num=0:=by simpa using h1
  exact sgZ_num_eq.1 this
 refine r_m 3 ?_
 refine a_z ?_
 refine⟨uptoV c x- 1,by unfold gN_;rw[if_pos h0],?_⟩
 exact s_e []
 have h0:evalP c.p x≠0:=by
  intro e
  have:¬sgZ (evalP c.p x).num=0:=by simpa using h1
  exact this (sgZ_num_eq.2 e)
 refine ah_ ⟨uptoV c x,by unfold gN_;rw[if_neg h0],?_⟩
 exact s_e []
 rintro n rfl
 refine r_z 2 ?_
 exact aj_ (t_e (ad_ _))

def okDown(c:Cnt)(step:Rat)(lo:Rat):Prop:=e4_ c.p∧trimQ c.p≠[]∧step≠0∧qs (cB_ c.p)+qs step≤549755813888∧qs lo+qs step≤549755813888∧okBe c (lo* step)
instance (c:Cnt) (step lo:Rat):Decidable (okDown c step lo):=inferInstanceAs (Decidable (_∧_∧_∧_∧_∧_))

def midV(s:Sp):Rat:=(s.1+s.2) * fineQ 1
def okNext(c:Cnt)(s:Sp):Prop:=smS s∧okBe c (midV s)
instance (c:Cnt) (s:Sp):Decidable (okNext c s):=inferInstanceAs (Decidable (_∧_))
abbrev bPl(c:Cnt)(i:Int):AV:= .aptr [[plA c i]] 0 0
theorem fK_(c:Cnt)(i:Int):Closed (bPl c i):=ai_ (aa_ (hu_ c i) ab_)



def qSpan(a:Rat)(k:Int):Sp:=(downQ a (wi k 256),upQ a (wi k 256))
def okRange(p:List Rat)(s:Sp)(k:Int):Prop:=smS s∧dS_ p s.1∧dS_ p s.2∧smL p∧p.length≤274877906944∧cmpQ s.1 s.2≤0∧degP p≤40∧smS (qSpan (evalP p s.1) k)∧smS (qSpan (evalP p s.2) k)
instance (p:List Rat) (s:Sp) (k:Int):Decidable (okRange p s k):=inferInstanceAs (Decidable (_∧_∧_∧_∧_∧_∧_∧_∧_))
theorem rO_(p q:List Rat)(h:okDiv p q)(h0:trimQ q≠[]):FSpec Tryz.prog 154 [.arr (pE p),.arr (pE q)] (.tup [.arr (pE (divP p q).1),.arr (pE (divP p q).2),i64 0]):=by
 have hl:=h.2.2
 refine f_n Tryz.func154 ?_ ?_
 exact aa_ (at_ p) (aa_ (at_ q) ab_)
 refine r_z 3 ?_
 refine ac_ (r_c 3 (bJ_ q (by omega)) ?_)
 refine a_z ?_
 refine am_ rfl (fun h1=>?_) (fun h1=>?_)
 exact absurd (degP_neg.1 (by simpa using h1)) h0
 refine ah_ (r_c 8 (fe_ p q (mxL p) (mxL q) (ce_ p) (ce_ q) (bP_ p) (bP_ q) h.1 h0 h.2.1 h.2.2) ?_)
 refine a_z ?_
 refine r_z 5 ?_
 refine aj_ (Fin.many ⟨_,_,rfl,rfl,⟨_,_,rfl,rfl,⟨_,_,rfl,rfl,rfl⟩⟩⟩ (nle rfl) ?_)
 exact af_ (ak_ as_ (at_ _)) (af_ (ak_ as_ (at_ _)) (af_ (ak_ as_ (ad_ _)) ao_))



def qf_:List Nat→AState
 |l=>⟨[(0,.arr (iE l))],[],1,15⟩
theorem ei_(l:List Nat):qf_ l=⟨[(0,.arr (iE l))],[],1,15⟩:=rfl
theorem d8_(l:List Nat)(hl:l.length≤281474976710656):FSpec Tryz.prog 258 [.arr (iE l)] (.arr (iE (dx_ l))):=by
 refine f_n Tryz.func258 ?_ ?_
 exact aa_ (bi_ l) ab_
 refine r_z 1 ?_
 refine aU_ qf_ (fun m=>m=dx_ l) ?_ ?_
 refine ag_ (ax_ qf_ (fun m=>m.length) (fun m=>m.length≤281474976710656∧dx_ m=dx_ l) l ⟨hl,rfl⟩ ?_ ?_)
 simp only[ei_]
 exact s_e []
 rintro m ⟨hm,he⟩
 rw[ei_]
 cases m with
 |nil=>
  refine ac_ (s_r 9 ?_)
  refine a_4 ?_
  refine n_g rfl d_f ?_
  refine n_g rfl d_f ?_
  refine n_g rfl d_f ?_
  refine n_g rfl d_f ?_
  refine o_0 (.pickF rfl d_f rfl) ?_
  refine an_ ?_
  refine cF ?_
  refine av_ ⟨[],by simpa[dx_] using he,?_⟩
  simp only[ei_]
  exact s_e []
 |cons d m=>
  have hd:(iE (d::m))[(0:Int).toNat]?=some [i64 d]:=rfl
  refine ac_ (s_r 9 ?_)
  refine a_4 ?_
  refine y_g rfl (by simp) (.move rfl) ?_
  first|refine y_g rfl (by simp) (.index_l rfl rfl (by omega) (by omega) te_38.h) ?_|refine y_g rfl (by simp) (.index_a rfl rfl (by omega) hd rfl te_38.h) ?_
  first|refine y_g rfl (by simp) (.load_l1 rfl rfl hd tg_3.h rfl) ?_|refine y_g rfl (by simp) (.load_a1 rfl hd tg_3.h rfl) ?_
  refine y_g rfl (by simp) (.bin rfl rfl a9_) ?_
  refine o_0 (.pickT rfl (by simp) rfl) ?_
  refine an_ ?_
  refine am_ rfl (fun h=>?_) (fun h=>?_)
  have h0:d=0:=by simpa using h
  refine ah_ ?_
  subst h0
  refine ag_ (r_m 3 ?_)
  refine a_1 ?_
  refine o_0 (.sa_l rfl rfl rfl (by simp) te_38.h (f3_ _)) ?_
  refine a_z ?_
  refine⟨m,by simp,⟨by simp at hm;omega,by simpa[dx_] using he⟩,?_⟩
  simp only[ei_]
  exact s_e []
  have h0:d≠0:=by simpa using h
  refine av_ ⟨d::m,by rw[←he];simp[dx_,h0],?_⟩
  simp only[ei_]
  exact s_e []
 rintro m rfl
 rw[ei_]
 refine r_z 2 ?_
 exact aj_ (t_e (bi_ _))
theorem fb_(s:Int)(l:List Nat)(z:Int)(hl:l.length≤281474976710656)(hd:∀d∈l,d< UB)(hz:hv l=z.natAbs)(hs:z≠0→s=sgZ z):FSpec Tryz.prog 207 [i64 s,.arr (iE l)] (.agg (zZ z)):=by
 refine f_n Tryz.func207 ?_ ?_
 exact aa_ (ad_ _) (aa_ (bi_ l) ab_)
 refine r_z 1 ?_
 refine r_c 3 (d8_ l hl) ?_
 refine a_z ?_
 refine ac_ (r_z 3 ?_)
 refine am_ rfl (fun h=>?_) (fun h=>?_)
 have h0:dx_ l=[]:=by
  have:(dx_ l).length=0:=by simpa using h
  exact List.length_eq_zero_iff.1 this
 have hz0:z=0:=by have:=(jA_ hd).1 h0;omega
 subst hz0
 refine r_z 2 ?_
 refine aj_ (Fin.cell rfl rfl rfl tg_40.h ts_40.h (nle rfl) ?_)
 rw[pX_]
 exact Cv.agg (af_ (ak_ as_ (ad_ _)) (af_ (Cv.emp _) ao_))
 have h0:dx_ l≠[]:=fun e=>by rw[e] at h;simp at h
 have hz0:z≠0:=by
  intro e
  subst e
  exact h0 ((jA_ hd).2 hz)
 refine ah_ (r_z 4 ?_)
 refine aj_ (bY_ rfl rfl rfl tg_40.h ts_40.h (nle rfl) ?_ ?_)
 show AV.agg [i64 s,.arr (iE (dx_ l))]=_
 unfold zZ
 rw[hs hz0,c6_ hd,hz]
 exact a5_ _
theorem zZ_neg(z:Int):zZ (-z)=[i64 (-sgZ z),.arr (iE (zd z.natAbs))]:=by
 unfold zZ
 rw[Int.natAbs_neg]
 congr 2
 unfold sgZ
 split <;> split <;>(try split)<;>(try split)<;> omega
theorem bG_(z:Int):sgZ z= -1∧z< 0∨sgZ z=0∧z=0∨sgZ z=1∧0< z:=by
 unfold sgZ;split
 right;left;exact⟨rfl,by assumption⟩
 split
 left;exact⟨rfl,by assumption⟩
 right;right;exact⟨rfl,by omega⟩
theorem kP_(z:Int):FSpec Tryz.prog 208 [.agg (zZ z)] (.agg (zZ (-z))):=by
 have hs:=bG_ z
 have hc:=a5_ (-z)
 rw[zZ_neg] at hc⊢
 refine f_n Tryz.func208 ?_ ?_
 exact aa_ (a5_ z) ab_
 refine r_z 2 ?_
 refine r_z 7 ?_
 exact aj_ (c_e (hc))
theorem kN_(l:List Nat)(i:Nat)(hl:l.length≤281474976710656):FSpec Tryz.prog 292 [.arr (iE l),i64 i] (i64 (l.reverse[i]?.getD 0:Nat)):=by
 refine f_n Tryz.func292 ?_ ?_
 exact aa_ (bi_ l) (aa_ (ad_ _) ab_)
 refine r_z 1 ?_
 refine ac_ (r_z 4 ?_)
 refine am_ rfl (fun h=>?_) (fun h=>?_)
 have hi:l.length≤i:=by simpa using h
 refine r_z 1 ?_
 refine aj_ (aR_ rfl ?_ (ad_ _))
 rw[List.getElem?_eq_none (by simpa using hi)]
 rfl
 have hi:i< l.length:=by simp at h;omega
 refine ah_ ?_
 obtain⟨d,hd⟩:∃d,l[l.length- 1- i]?=some d:=⟨_,List.getElem?_eq_getElem (by omega)⟩
 have hd':(iE l)[((l.length:Int)- 1- i).toNat]?=some [i64 d]:=by rw[show((l.length:Int)- 1- i).toNat=l.length- 1- i by omega];exact fS_ hd
 refine s_r 9 ?_
 refine a_6 ?_
 refine i_x hd' ?_
 refine l_1 hd' ?_
 refine a_z ?_
 refine aj_ (aR_ rfl ?_ (ad_ _))
 rw[List.getElem?_reverse hi,hd]
 rfl
theorem pv_(a b:List Nat):FSpec Tryz.prog 291 [.arr (iE a),.arr (iE b)] (i64 (max a.length b.length:Nat)):=by
 refine f_n Tryz.func291 ?_ ?_
 exact aa_ (bi_ a) (aa_ (bi_ b) ab_)
 refine r_z 1 ?_
 refine ac_ (r_z 5 ?_)
 refine am_ rfl (fun h=>?_) (fun h=>?_)
 refine r_z 3 ?_
 refine aj_ (aR_ rfl ?_ (ad_ _))
 have:b.length< a.length:=by simpa using h
 simp[i64];omega
 refine ah_ (r_z 3 ?_)
 refine aj_ (aR_ rfl ?_ (ad_ _))
 have:¬b.length< a.length:=by simpa using h
 simp[i64];omega
def ss_(a:Nat)(b:Nat):Nat→AState
 |i=>⟨[(0,.arr (iE (zd a))),(1,.arr (iE (zd b))),(5,i64 i)],[],1,40⟩
theorem nK_{n i d:Nat}(h:(digs UB n)[i]?=some d):(zd n)[(digs UB n).length- 1- i]?=some d:=by
 have hi:i< (digs UB n).length:=(List.getElem?_eq_some_iff.1 h).1
 unfold zd
 rw[List.getElem?_reverse (by omega),show(digs UB n).length- 1- ((digs UB n).length- 1- i)=i by omega];exact h
theorem ox_(a b:Nat)(ha:(zd a).length≤281474976710656)(hb:(zd b).length≤281474976710656):FSpec Tryz.prog 257 [.arr (iE (zd a)),.arr (iE (zd b))] (i64 (cmpZ a b)):=by
 have hza:=bv_ a
 have hzb:=bv_ b
 refine f_n Tryz.func257 ?_ ?_
 exact aa_ (bi_ _) (aa_ (bi_ _) ab_)
 refine r_z 1 ?_
 refine ac_ (r_z 5 ?_)
 refine am_ rfl (fun h=>?_) (fun h=>?_)
 have hne:(zd a).length≠(zd b).length:=by simp at h;omega
 refine ac_ (r_z 5 ?_)
 refine am_ rfl (fun h1=>?_) (fun h1=>?_)
 refine r_z 1 ?_
 refine aj_ (aR_ rfl ?_ (ad_ _))
 have hl:(zd a).length< (zd b).length:=by simpa using h1
 rw[gb_]
 rfl
 have:=el_ (b:=UB) (by decide) (show(digs UB a).length< (digs UB b).length by omega);omega
 refine ah_ (r_z 1 ?_)
 refine aj_ (aR_ rfl ?_ (ad_ _))
 have hl:(zd b).length< (zd a).length:=by simp at h1;omega
 rw[hs_]
 rfl
 have:=el_ (b:=UB) (by decide) (show(digs UB b).length< (digs UB a).length by omega);omega
 have heq:(digs UB a).length=(digs UB b).length:=by simp at h;omega
 refine ah_ (ac_ (r_z 1 ?_))
 refine aB_ (ss_ a b) (fun _=>a=b) ?_ ?_
 refine ag_ (ax_ (ss_ a b) (fun i=>(digs UB a).length- i) (fun i=>i≤(digs UB a).length∧(digs UB a).drop ((digs UB a).length- i)=(digs UB b).drop ((digs UB a).length- i)) 0 ⟨Nat.zero_le _,by rw[Nat.sub_zero,List.drop_length,heq,List.drop_length]⟩ ?_ ?_)
 simp only[ss_.eq_1]
 exact s_e []
 rintro i ⟨hi,hd⟩
 rw[ss_.eq_1]
 refine ac_ (r_z 4 ?_)
 refine am_ rfl (fun h=>?_) (fun h=>?_)
 have hlt:i< (digs UB a).length:=by simp at h;omega
 obtain⟨k,hk⟩:∃k,k=(digs UB a).length- 1- i:=⟨_,rfl⟩
 have hk1:(digs UB a).length- i=k+1:=by omega
 rw[hk1] at hd
 obtain⟨x,hx⟩:∃x,(digs UB a)[k]?=some x:=⟨_,List.getElem?_eq_getElem (by omega)⟩
 obtain⟨y,hy⟩:∃y,(digs UB b)[k]?=some y:=⟨_,List.getElem?_eq_getElem (by omega)⟩
 have hx':(iE (zd a))[((i:Nat):Int).toNat]?=some [i64 x]:=by
  have:=nK_ hx
  rw[show(digs UB a).length- 1- k=i by omega] at this
  exact fS_ this
 have hy':(iE (zd b))[((i:Nat):Int).toNat]?=some [i64 y]:=by
  have:=nK_ hy
  rw[show(digs UB b).length- 1- k=i by omega] at this
  exact fS_ this
 refine ah_ (ac_ (ag_ (ac_ (ac_ (r_d hmix 9 ?_)))))
 refine a_2 ?_
 refine i_x hx' ?_
 refine l_1 hx' ?_
 refine a_2 ?_
 refine i_x hy' ?_
 refine l_1 hy' ?_
 refine a_1 ?_
 refine an_ (n_k ?_)
 refine am_ rfl (fun h1=>?_) (fun h1=>?_)
 refine r_z 1 ?_
 refine aj_ (aR_ rfl ?_ (ad_ _))
 have hxy:x< y:=by simpa using h1
 have:=gq_ (fun d hd=>b0_ (by decide) a d hd) hx hy hd hxy
 rw[a7_ (by decide),a7_ (by decide)] at this
 rw[gb_ (by omega)];rfl
 refine ah_ (ac_ (r_d hmix 9 ?_))
 refine a_2 ?_
 refine i_x hx' ?_
 refine l_1 hx' ?_
 refine a_2 ?_
 refine i_x hy' ?_
 refine l_1 hy' ?_
 refine a_1 ?_
 refine an_ (n_k ?_)
 refine am_ rfl (fun h2=>?_) (fun h2=>?_)
 refine r_z 1 ?_
 refine aj_ (aR_ rfl ?_ (ad_ _))
 have hxy:y< x:=by simpa using h2
 have:=gq_ (fun d hd=>b0_ (by decide) b d hd) hy hx hd.symm hxy
 rw[a7_ (by decide),a7_ (by decide)] at this
 rw[hs_ (by omega)];rfl
 have hxy:x=y:=by simp at h1 h2;omega
 subst hxy
 refine ah_ (r_m 3 ?_)
 refine a_z ?_
 refine⟨i+1,by omega,⟨by omega,?_⟩,?_⟩
 rw[show(digs UB a).length- (i+1)=k by omega,da_ hx,da_ hy,hd]
 simp only[ss_.eq_1]
 exact s_e []
 have hge:i=(digs UB a).length:=by simp at h;omega
 refine av_ ⟨i,?_,?_⟩
 subst hge
 rw[Nat.sub_self,List.drop_zero,List.drop_zero] at hd
 rw[←a7_ (b:=UB) (by decide) a,←a7_ (b:=UB) (by decide) b,hd]
 simp only[ss_.eq_1]
 exact s_e []
 rintro i rfl
 rw[ss_.eq_1]
 refine r_z 1 ?_
 refine aj_ (aR_ rfl ?_ (ad_ _))
 rw[se_ rfl];rfl
def bothS(a:Nat)(b:Nat)(k:Int)(N:Nat):List Nat×Int→AState
 |(s,c)=>⟨[(0,.arr (iE (zd a))),(1,.arr (iE (zd b))),(2,i64 k),(7,i64 N),(8,.lsl 1 0 N (some N) 1),(9,i64 c),(10,i64 s.length)],[(1,some ⟨3,1,iE (List.replicate (N- s.length) 0++s.reverse)⟩)],2,51⟩
def bothT(a:Nat)(b:Nat)(k:Int)(N:Nat)(s:List Nat):Int×Int→AState
 |(x,c)=>⟨[(0,.arr (iE (zd a))),(1,.arr (iE (zd b))),(2,i64 k),(7,i64 N),(8,.lsl 1 0 N (some N) 1),(9,i64 c),(10,i64 s.length),(11,i64 x)],[(1,some ⟨3,1,iE (List.replicate (N- s.length) 0++s.reverse)⟩)],2,51⟩
theorem iZ_(a b:Nat)(k:Int)(r:Nat)(hk:k=1∨k= -1)(hr:(r:Int)=a+k* b)(ha:(zd a).length≤17592186044416)(hb:(zd b).length≤17592186044416):FSpec Tryz.prog 256 [.arr (iE (zd a)),.arr (iE (zd b)),i64 k] (.arr (iE (zd r))):=by
 have hza:=bv_ a
 have hzb:=bv_ b
 obtain⟨N,hN⟩:∃N,N=max (zd a).length (zd b).length+1:=⟨_,rfl⟩
 refine f_n Tryz.func256 ?_ ?_
 exact aa_ (bi_ _) (aa_ (bi_ _) (aa_ (ad_ _) ab_))
 refine r_z 1 ?_
 refine r_c 5 (pv_ (zd a) (zd b)) ?_
 refine a_z ?_
 have hNI:((max (zd a).length (zd b).length:Nat):Int)+1=(N:Int):=by omega
 refine s_r 3 ?_
 refine a_1 ?_
 refine o_1 (.makeSlice (congrArg (fun z=>some (AV.v (.int .i64 z))) hNI) (congrArg (fun z=>some (AV.v (.int .i64 z))) hNI) te_38.h tz_3.h rfl tb_3.h (by first|omega|(simp;done)|(simp;omega)) (by first|omega|(simp;done)|(simp;omega)) (by unfold maxLen;first|omega|(simp;done)|(simp;omega))) ?_
 refine a_z ?_
 refine r_z 1 ?_
 refine ac_ (r_z 1 ?_)
 have hdl:=cu_ (b:=UB) (by decide) (n:=r) (k:=N) (by
  have h1:=ds_ (b:=UB) (b0_ (by decide) a)
  have h2:=ds_ (b:=UB) (b0_ (by decide) b)
  rw[a7_ (by decide)] at h1 h2
  have h3:UB^ (digs UB a).length≤UB^ (N- 1):=Nat.pow_le_pow_right (by decide) (by omega)
  have h4:UB^ (digs UB b).length≤UB^ (N- 1):=Nat.pow_le_pow_right (by decide) (by omega)
  have h5:UB^ N=UB^ (N- 1) * UB:=by rw[←Nat.pow_succ];congr 1;omega
  rw[h5]
  show r< UB^ (N- 1) * 32768
  rcases hk with rfl|rfl <;> omega)
 have hrN:r< UB^ N:=by
  have h1:=ds_ (b:=UB) (b0_ (by decide) r)
  rw[a7_ (by decide)] at h1
  exact Nat.lt_of_lt_of_le h1 (Nat.pow_le_pow_right (by decide) hdl)
 refine aB_ (fun s:List Nat=>⟨[(8,.lsl 1 0 N (some N) 1)],[(1,some ⟨3,1,iE s.reverse⟩)],2,51⟩) (fun s=>s.length=N∧(∀d∈s,d< UB)∧ofD UB s=r) ?_ ?_
 refine ag_ (ax_ (bothS a b k N) (fun x=>N- x.1.length) (fun x=>x.1.length≤N∧(∀d∈x.1,d< UB)∧(x.2= -1∨x.2=0∨x.2=1)∧((ofD UB x.1:Nat):Int)+((UB^ x.1.length:Nat):Int) * x.2=(ofD UB ((digs UB a).take x.1.length):Nat)+k* (ofD UB ((digs UB b).take x.1.length):Nat)) ([],0) ⟨by simp,by simp,by simp,by simp[ofD]⟩ ?_ ?_)
 simp only[bothS.eq_1]
 exact s_e [(1,8)]
 rintro⟨s,c⟩ ⟨hs,hd,hc,hval⟩
 simp only at hs hd hc hval
 simp only[bothS.eq_1]
 refine ac_ (r_z 3 ?_)
 refine am_ rfl (fun h=>?_) (fun h=>?_)
 have hlt:s.length< N:=by simpa using h
 refine ah_ ?_
 obtain⟨x,hx⟩:∃x,x=(digs UB a)[s.length]?.getD 0:=⟨_,rfl⟩
 obtain⟨y,hy⟩:∃y,y=(digs UB b)[s.length]?.getD 0:=⟨_,rfl⟩
 have hx1:x< 32768:=by
  rw[hx];cases hh:(digs UB a)[s.length]? with
  |none=>decide
  |some d=>exact bq_ (by decide) hh
 have hy1:y< 32768:=by
  rw[hy];cases hh:(digs UB b)[s.length]? with
  |none=>decide
  |some d=>exact bq_ (by decide) hh
 have hda:=kN_ (zd a) s.length (by omega)
 have hdb:=kN_ (zd b) s.length (by omega)
 unfold zd at hda hdb
 rw[List.reverse_reverse,←hx] at hda
 rw[List.reverse_reverse,←hy] at hdb
 have hky: -32768< k* y∧k* y< 32768:=by rcases hk with rfl|rfl <;> omega
 obtain⟨X,hX⟩:∃X:Int,X=x+k* y+c:=⟨_,rfl⟩
 have hXr: -32768≤X∧X≤65536:=by omega
 refine ac_ (ag_ (r_c 12 (hda) ?_))
 refine c_s (hdb) ?_
 refine a_z ?_
 refine r_z 1 ?_
 refine aU_ (bothT a b k N s) (fun v=>v.1=(if X< 0 then X+32768 else X)∧v.2=(if X< 0 then -1 else 0)) ?_ ?_
 refine r_z 2 ?_
 refine am_ rfl (fun h1=>?_) (fun h1=>?_)
 have hX0:X< 0:=by rw[hX];simpa using h1
 refine r_z 3 ?_
 refine r_m 1 ?_
 refine a_z ?_
 refine⟨(X+32768,-1),⟨by rw[if_pos hX0],by rw[if_pos hX0]⟩,?_⟩
 simp only[bothT.eq_1]
 refine ar_ [] rfl rfl rfl ?_ (fun hs=>?_) (fun hs=>?_)
 ·repeat' (first|exact ShrL.nil|refine ShrL.cons rfl rfl rfl rfl (by first|rfl|(simp;done)|(simp[hX]<;> omega)) ?_)
 ·repeat' (first|exact aA_|refine au_ rfl ?_ ?_)
  all_goals (first|exact au_c|(refine Cv.loE hs ?_ (ad_ _);first|rfl|(simp[i64,u64,u32,bln,hX];done)|(simp[i64,u64,u32,bln,hX]<;> omega)))
 ·repeat' (first|exact ap_|refine al_ rfl rfl rfl rfl ?_ ?_)
  all_goals (first|exact au_e|(refine aD_ hs ?_ (bN_ _);first|(simp[hF_,fa_,dt_,hX];done)|(simp[iE,i64,ofV,hX];done))|(refine ae_ ?_;repeat' (first|exact ao_|refine af_ ?_ ?_)))
  all_goals (first|exact au_c|(refine Cv.loE hs ?_ (ad_ _);first|(simp[i64,u64,u32,bln,hX];done)|(simp[i64,u64,u32,bln,hX]<;> omega)))
 have hX0:¬X< 0:=by rw[hX];simpa using h1
 refine ah_ ⟨(X,0),⟨by rw[if_neg hX0],by rw[if_neg hX0]⟩,?_⟩
 simp only[bothT.eq_1]
 refine ar_ [] rfl rfl rfl ?_ (fun hs=>?_) (fun hs=>?_)
 ·repeat' (first|exact ShrL.nil|refine ShrL.cons rfl rfl rfl rfl (by first|rfl|(simp;done)|(simp[hX]<;> omega)) ?_)
 ·repeat' (first|exact aA_|refine au_ rfl ?_ ?_)
  all_goals (first|exact au_c|(refine Cv.loE hs ?_ (ad_ _);first|rfl|(simp[i64,u64,u32,bln,hX];done)|(simp[i64,u64,u32,bln,hX]<;> omega)))
 ·repeat' (first|exact ap_|refine al_ rfl rfl rfl rfl ?_ ?_)
  all_goals (first|exact au_e|(refine aD_ hs ?_ (bN_ _);first|(simp[hF_,fa_,dt_,hX];done)|(simp[iE,i64,ofV,hX];done))|(refine ae_ ?_;repeat' (first|exact ao_|refine af_ ?_ ?_)))
  all_goals (first|exact au_c|(refine Cv.loE hs ?_ (ad_ _);first|(simp[i64,u64,u32,bln,hX];done)|(simp[i64,u64,u32,bln,hX]<;> omega)))
 rintro⟨X1,c1⟩ ⟨hX1,hc1⟩
 simp only at hX1 hc1
 rw[bothT.eq_1]
 refine aU_ (bothT a b k N s) (fun v=>v.1=X % 32768∧v.2=X/ 32768) ?_ ?_
 refine r_z 2 ?_
 refine am_ rfl (fun h1=>?_) (fun h1=>?_)
 have h2:32768≤X1:=by simpa using h1
 have hX1r:X1≤65536:=by rw[hX1];split <;> omega
 refine r_z 3 ?_
 refine r_m 1 ?_
 refine a_z ?_
 have hX0:¬X< 0:=by intro h0;rw[if_pos h0] at hX1;omega
 rw[if_neg hX0] at hX1
 refine⟨(X1- 32768,1),⟨by simp only;omega,by simp only;omega⟩,?_⟩
 simp only[bothT.eq_1]
 exact s_e []
 ·have h2:X1< 32768:=by simp at h1;omega
  refine ah_ ⟨(X1,c1),⟨by rw[hX1] at h2⊢;simp only;split <;> rename_i h3 <;> simp only[h3,if_true,if_false] at h2 <;> omega,by rw[hX1] at h2;rw[hc1];simp only;split <;> rename_i h3 <;> simp only[h3,if_true,if_false] at h2 <;> omega⟩,?_⟩
  simp only[bothT.eq_1]
  exact s_e []
 rintro⟨X2,c2⟩ ⟨hX2,hc2⟩
 simp only at hX2 hc2
 rw[bothT.eq_1]
 obtain⟨d,hdX⟩:∃d:Nat,X2=d:=⟨X2.toNat,by omega⟩
 have hd1:d< 32768:=by omega
 subst hdX
 have hlen:(List.replicate (N- s.length) 0++s.reverse).length=N:=by simp;omega
 have hrep:List.replicate (N- s.length) 0=List.replicate (N- (s.length+1)) 0++[0]:=by
  rw[show N- s.length=(N- (s.length+1))+1 by omega,List.replicate_succ']
 have hget:(iE (List.replicate (N- s.length) 0++s.reverse))[0+((N:Int)- 1- s.length).toNat]?=some [i64 0]:=by
  rw[show 0+((N:Int)- 1- s.length).toNat=N- (s.length+1) by omega]
  refine fS_ ?_
  rw[hrep,List.append_assoc]
  exact iS_ _ _ _ _ (by simp)
 have hset:(iE (List.replicate (N- s.length) 0++s.reverse)).set (0+((N:Int)- 1- s.length).toNat) [i64 d]=iE (List.replicate (N- (s++[d]).length) 0++(s++[d]).reverse):=by
  rw[show 0+((N:Int)- 1- s.length).toNat=N- (s.length+1) by omega,hF_,hrep,List.append_assoc]
  simp only[List.singleton_append,List.length_append,List.length_cons,List.length_nil,List.reverse_append,List.reverse_cons,List.reverse_nil,List.nil_append]
  rw[ik_ _ _ _ _ _ (by simp)]
  simp
 refine r_m 8 ?_
 refine a_7 ?_
 refine o_1n (.store rfl rfl hget rfl rfl rfl ts_3.h (nle rfl)) ?_
 refine an_ ?_
 refine r_m 3 ?_
 refine a_z ?_
 refine⟨(s++[d],c2),by simp;omega,⟨by simp;omega,?_,by simp only;omega,?_⟩,?_⟩
 intro e he
 rcases List.mem_append.1 he with he|he
 exact hd e he
 simp at he;subst he;exact hd1
 simp only[List.length_append,List.length_cons,List.length_nil,Nat.zero_add]
 rw[dC_,ct_,ct_,←hx,←hy,Nat.pow_succ]
 obtain⟨B,hB⟩:∃B,B=UB^ s.length:=⟨_,rfl⟩
 rw[←hB] at hval⊢
 have hXX:X=32768* c2+d:=by omega
 have hBX:(B:Int) * X=B* x+k* (B* y)+B* c:=by
  rw[hX,Int.mul_add,Int.mul_add,Int.mul_left_comm]
 rw[hXX,Int.mul_add] at hBX
 have e1:((B* 32768:Nat):Int) * c2=B* (32768* c2):=by rw[Int.natCast_mul,Int.mul_assoc];rfl
 have e2:k* ((ofD UB ((digs UB b).take s.length)+B* y:Nat):Int)=k* (ofD UB ((digs UB b).take s.length):Nat)+k* (B* y):=by
  rw[Int.natCast_add,Int.mul_add,Int.natCast_mul]
 show((ofD UB s+B* d:Nat):Int)+((B* 32768:Nat):Int) * c2=_
 rw[e1,e2,Int.natCast_add,Int.natCast_add,Int.natCast_mul,Int.natCast_mul]
 omega
 simp only[bothS.eq_1]
 refine ar_ [] rfl rfl rfl ?_ (fun hs=>au_f) (fun hs=>?_)
 ·repeat' (first|exact ShrL.nil|refine ShrL.cons rfl rfl rfl rfl (by first|(exact congrArg List.length hset)|rfl|(simp;done)|(simp <;> omega)) ?_)
 ·repeat' (first|exact ap_|refine al_ rfl rfl rfl rfl ?_ ?_)
  all_goals (first|(exact aD_ hs hset (bN_ _))|exact au_e)
 have hge:s.length=N:=by simp at h;omega
 refine av_ ⟨s,⟨hge,hd,?_⟩,?_⟩
 rw[hge,List.take_of_length_le (by omega),List.take_of_length_le (by omega),a7_ (by decide),a7_ (by decide),←hr] at hval
 have hsl:=ds_ hd
 rw[hge] at hsl
 obtain⟨B,hB⟩:∃B,B=UB^ N:=⟨_,rfl⟩
 rw[←hB] at hval hsl hrN
 rcases hc with rfl|rfl|rfl <;> omega
 have e:iE (List.replicate (N- s.length) 0++s.reverse)=iE s.reverse:=by rw[hge];simp
 refine ar_ [] rfl rfl rfl ?_ (fun hs=>au_f) (fun hs=>?_)
 ·repeat' (first|exact ShrL.nil|refine ShrL.cons rfl rfl rfl rfl (by first|(exact congrArg List.length e)|rfl|(simp;done)|(simp <;> omega)) ?_)
 ·repeat' (first|exact ap_|refine al_ rfl rfl rfl rfl ?_ ?_)
  all_goals (first|(exact aD_ hs e (bN_ _))|exact au_e)
 rintro s ⟨hs,hd,hval⟩
 have hd':∀d∈s.reverse,d< UB:=fun d h=>hd d (List.mem_reverse.1 h)
 have hst:=d8_ s.reverse (by simp;omega)
 rw[c6_ hd',show hv s.reverse=r by unfold hv;rw[List.reverse_reverse];assumption] at hst
 have hfull:((iE s.reverse).drop 0).take N=iE s.reverse:=by rw[List.drop_zero,List.take_of_length_le (by simp;omega)]
 refine s_r 3 ?_
 refine a_1 ?_
 refine o_1 (.callS1 rfl rfl rfl (.shut rfl d_n (.nil)) rfl ((by rw[hfull];exact hst))) ?_
 refine a_z ?_
 exact aj_ (t_e (bi_ _))
def zl(z:Int):Prop:=bl z.natAbs≤8796093022208
theorem nJ_{z:Int}(h:zl z):(zd z.natAbs).length≤17592186044416:=by
 have:=a6_ (b:=UB) (by decide) z.natAbs
 rw[bv_];unfold zl at h;omega
theorem lq_{x y:Int}(h:sgZ x=sgZ y)(hx:x≠0):(x+y).natAbs=x.natAbs+y.natAbs∧(x+y≠0→sgZ x=sgZ (x+y)):=by
 rcases bG_ x with⟨a,b⟩|⟨a,b⟩|⟨a,b⟩<;> rcases bG_ y with⟨c,d⟩|⟨c,d⟩|⟨c,d⟩<;> rcases bG_ (x+y) with⟨e,f⟩|⟨e,f⟩|⟨e,f⟩<;> rw[a,c] at h <;> rw[a,e]<;> first|omega|(constructor <;> omega)
theorem jF_{x y:Int}(h:sgZ x≠sgZ y)(hx:x≠0)(hy:y≠0)(hg:y.natAbs≤x.natAbs):(x+y).natAbs=x.natAbs- y.natAbs∧(x+y≠0→sgZ x=sgZ (x+y)):=by
 rcases bG_ x with⟨a,b⟩|⟨a,b⟩|⟨a,b⟩<;> rcases bG_ y with⟨c,d⟩|⟨c,d⟩|⟨c,d⟩<;> rcases bG_ (x+y) with⟨e,f⟩|⟨e,f⟩|⟨e,f⟩<;> rw[a,c] at h <;> rw[a,e]<;> first|omega|(constructor <;> omega)
theorem rC_(x y:Int)(hx:zl x)(hy:zl y):FSpec Tryz.prog 205 [.agg (zZ x),.agg (zZ y)] (.agg (zZ (x+y))):=by
 have hlx:=nJ_ hx
 have hly:=nJ_ hy
 have bound:∀r:Nat,r≤x.natAbs+y.natAbs→(zd r).length≤281474976710656:=by
  intro r hr
  have h1:=a6_ (b:=UB) (by decide) r
  have h2:=bR_ hr
  have h3:=sm_ x.natAbs y.natAbs
  unfold zl at hx hy
  rw[bv_];omega
 refine f_n Tryz.func205 ?_ ?_
 exact aa_ (a5_ x) (aa_ (a5_ y) ab_)
 refine r_z 3 ?_
 refine ac_ (r_z 3 ?_)
 refine am_ rfl (fun h=>?_) (fun h=>?_)
 have h0:x=0:=by
  have:sgZ x=0:=by simpa using h
  rcases bG_ x with⟨a,b⟩|⟨a,b⟩|⟨a,b⟩<;> omega
 refine r_z 2 ?_
 refine aj_ (bY_ rfl rfl rfl tg_40.h ts_40.h (nle rfl) ?_ ?_)
 rw[h0,Int.zero_add];rfl
 exact a5_ _
 have hx0:x≠0:=by rintro rfl;simp[sgZ] at h
 refine ah_ (ac_ (r_z 3 ?_))
 refine am_ rfl (fun h1=>?_) (fun h1=>?_)
 have h0:y=0:=by
  have:sgZ y=0:=by simpa using h1
  rcases bG_ y with⟨a,b⟩|⟨a,b⟩|⟨a,b⟩<;> omega
 refine r_z 2 ?_
 refine aj_ (bY_ rfl rfl rfl tg_40.h ts_40.h (nle rfl) ?_ ?_)
 rw[h0,Int.add_zero];rfl
 exact a5_ _
 have hy0:y≠0:=by rintro rfl;simp[sgZ] at h1
 refine ah_ (ac_ (r_z 5 ?_))
 refine am_ rfl (fun h2=>?_) (fun h2=>?_)
 have hs:sgZ x=sgZ y:=by simpa using h2
 obtain⟨e1,e2⟩:=lq_ hs hx0
 refine ac_ (r_d hmix 9 ?_)
 refine c_s (iZ_ x.natAbs y.natAbs 1 (x.natAbs+y.natAbs) (.inl rfl) (by omega) hlx hly) ?_
 refine c_s (fb_ (sgZ x) (zd (x.natAbs+y.natAbs)) (x+y) (bound _ (Nat.le_refl _)) (zd_lt _) (by rw[hv_zd,e1]) e2) ?_
 refine a_1 ?_
 refine an_ (n_k ?_)
 exact aj_ (c_e (a5_ _))
 have hs:sgZ x≠sgZ y:=by simpa using h2
 refine ah_ (ac_ (r_c 6 (ox_ x.natAbs y.natAbs (by omega) (by omega)) ?_))
 refine a_z ?_
 refine am_ rfl (fun h3=>?_) (fun h3=>?_)
 have hge:y.natAbs≤x.natAbs:=by
  have:=of_decide_eq_true h3
  unfold cmpZ at this;split at this
  omega
  omega
 obtain⟨e1,e2⟩:=jF_ hs hx0 hy0 hge
 refine ac_ (r_d hmix 9 ?_)
 refine c_s (iZ_ x.natAbs y.natAbs (-1) (x.natAbs- y.natAbs) (.inr rfl) (by omega) hlx hly) ?_
 refine c_s (fb_ (sgZ x) (zd (x.natAbs- y.natAbs)) (x+y) (bound _ (by omega)) (zd_lt _) (by rw[hv_zd,e1]) e2) ?_
 refine a_1 ?_
 refine an_ (n_k ?_)
 exact aj_ (c_e (a5_ _))
 have hlt:x.natAbs≤y.natAbs:=by
  have:=of_decide_eq_false h3
  unfold cmpZ at this;split at this
  omega
  split at this <;> omega
 obtain⟨e1,e2⟩:=jF_ (fun h=>hs h.symm) hy0 hx0 hlt
 rw[Int.add_comm] at e1 e2
 refine ah_ (ac_ (r_d hmix 9 ?_))
 refine c_s (iZ_ y.natAbs x.natAbs (-1) (y.natAbs- x.natAbs) (.inr rfl) (by omega) hly hlx) ?_
 refine c_s (fb_ (sgZ y) (zd (y.natAbs- x.natAbs)) (x+y) (bound _ (by omega)) (zd_lt _) (by rw[hv_zd,e1]) e2) ?_
 refine a_1 ?_
 refine an_ (n_k ?_)
 exact aj_ (c_e (a5_ _))
theorem zl_neg{z:Int}(h:zl z):zl (-z):=by unfold zl at *;rwa[Int.natAbs_neg]
theorem fs_ZSub(x y:Int)(hx:zl x)(hy:zl y):FSpec Tryz.prog 206 [.agg (zZ x),.agg (zZ y)] (.agg (zZ (x- y))):=by
 have hs:=rC_ x (-y) hx (zl_neg hy)
 rw[←Int.sub_eq_add_neg] at hs
 refine f_n Tryz.func206 ?_ ?_
 exact aa_ (a5_ x) (aa_ (a5_ y) ab_)
 refine r_z 3 ?_
 refine ac_ (r_d hmix 5 ?_)
 refine c_s (kP_ y) ?_
 refine c_s (hs) ?_
 refine a_1 ?_
 refine an_ (n_k ?_)
 exact aj_ (c_e (a5_ _))
theorem fs_ZCmp(x y:Int)(hx:zl x)(hy:zl y):FSpec Tryz.prog 124 [.agg (zZ x),.agg (zZ y)] (i64 (cmpZ x y)):=by
 have e:cmpZ x y=sgZ (x- y):=by
  unfold cmpZ sgZ
  split <;> split <;>(try split)<;>(try split)<;> omega
 rw[e]
 refine f_n Tryz.func124 ?_ ?_
 exact aa_ (a5_ x) (aa_ (a5_ y) ab_)
 refine r_z 3 ?_
 refine r_c 5 (fs_ZSub x y hx hy) ?_
 refine a_z ?_
 exact aj_ (t_e (ad_ _))
def ql_(l:List Nat):Nat→AState
 |i=>⟨[(0,.arr (iE l)),(3,i64 (hv (l.take i))),(4,i64 i)],[],1,19⟩
theorem pr_{l:List Nat}(hd:∀d∈l,d< UB)(hl:l.length≤4)(i:Nat):hv (l.take i)< 1152921504606846976:=by
 have h1:=hv_lt (l:=l.take i) fun d h=>hd d (List.mem_of_mem_take h)
 have h2:(l.take i).length≤4:=by rw[List.length_take];omega
 exact Nat.lt_of_lt_of_le h1 (Nat.pow_le_pow_right (by decide) h2)
theorem kF_(l:List Nat)(hl:l.length≤4)(hd:∀d∈l,d< UB):FSpec Tryz.prog 254 [.arr (iE l)] (i64 (hv l)):=by
 refine f_n Tryz.func254 ?_ ?_
 exact aa_ (bi_ l) ab_
 refine r_z 1 ?_
 refine r_z 1 ?_
 refine ac_ (r_z 1 ?_)
 refine aB_ (ql_ l) (fun i=>i=l.length) ?_ ?_
 refine ag_ (ax_ (ql_ l) (fun i=>l.length- i) (fun i=>i≤l.length) 0 (Nat.zero_le _) ?_ ?_)
 simp only[ql_.eq_1]
 exact s_e []
 intro i hi
 rw[ql_.eq_1]
 refine ac_ (r_z 4 ?_)
 refine am_ rfl (fun h=>?_) (fun h=>?_)
 have hlt:i< l.length:=by simpa using h
 obtain⟨d,hdi⟩:∃d,l[i]?=some d:=⟨_,List.getElem?_eq_getElem hlt⟩
 have hd1:=hd d (List.mem_of_getElem? hdi)
 have hdi':(iE l)[((i:Nat):Int).toNat]?=some [i64 d]:=fS_ hdi
 have hsn:=iP_ (l.take i) d
 rw[←cD_ hdi] at hsn
 have hb:=pr_ hd hl (i+1)
 obtain⟨V,hV⟩:∃V,V=hv (l.take i):=⟨_,rfl⟩
 rw[←hV] at hsn⊢
 have hsn':hv (l.take (i+1))=V* 32768+d:=hsn
 refine ah_ (ac_ (ag_ (r_m 8 ?_)))
 refine a_4 ?_
 refine i_x hdi' ?_
 refine l_1 hdi' ?_
 refine a_z ?_
 refine r_m 3 ?_
 refine a_z ?_
 refine⟨i+1,by omega,hlt,?_⟩
 simp only[ql_.eq_1]
 refine ar_ [] rfl rfl rfl ?_ (fun hs=>?_) (fun hs=>?_)
 ·repeat' (first|exact ShrL.nil|refine ShrL.cons rfl rfl rfl rfl (by first|rfl|(simp;done)|(simp[hsn']<;> omega)) ?_)
 ·repeat' (first|exact aA_|refine au_ rfl ?_ ?_)
  all_goals (first|exact au_c|(refine Cv.loE hs ?_ (ad_ _);first|rfl|(simp[i64,u64,u32,bln,hsn'];done)|(simp[i64,u64,u32,bln,hsn']<;> omega)))
 ·repeat' (first|exact ap_|refine al_ rfl rfl rfl rfl ?_ ?_)
  all_goals (first|exact au_e|(refine aD_ hs ?_ (bN_ _);first|(simp[hF_,fa_,dt_,hsn'];done)|(simp[iE,i64,ofV,hsn'];done))|(refine ae_ ?_;repeat' (first|exact ao_|refine af_ ?_ ?_)))
  all_goals (first|exact au_c|(refine Cv.loE hs ?_ (ad_ _);first|(simp[i64,u64,u32,bln,hsn'];done)|(simp[i64,u64,u32,bln,hsn']<;> omega)))
 have hge:i=l.length:=by simp at h;omega
 refine av_ ⟨i,hge,?_⟩
 exact s_e []
 rintro i rfl
 rw[ql_.eq_1,List.take_length]
 refine r_z 2 ?_
 refine aj_ (aR_ rfl rfl (ad_ _))
def zintS(s:Int):Int×List Nat→AState
 |(n,l)=>⟨[(0,i64 n),(2,.lptr 1 0 0),(3,i64 s),(4,.arr (iE l))],[(1,some ⟨40,2,[[i64 0,.emp]]⟩)],2,25⟩
theorem f5_(n:Int)(h: -9223372036854775808≤n∧n≤9223372036854775807):FSpec Tryz.prog 202 [i64 n] (.agg (zZ n)):=by
 obtain⟨s,hs⟩:∃s:Int,s=if n< 0 then -1 else 1:=⟨_,rfl⟩
 have hsz:n≠0→s=sgZ n:=by
  intro h0;rw[hs];unfold sgZ;rw[if_neg h0]
 refine f_n Tryz.func202 ?_ ?_
 exact aa_ (ad_ _) ab_
 refine r_z 1 ?_
 refine r_z 1 ?_
 refine aU_ (fun _:Unit=>⟨[(0,i64 n),(2,.lptr 1 0 0),(3,i64 s)],[(1,some ⟨40,2,[[i64 0,.emp]]⟩)],2,25⟩) (fun _=>True) ?_ ?_
 refine r_z 2 ?_
 refine am_ rfl (fun h1=>?_) (fun h1=>?_)
 have hn:n< 0:=by simpa using h1
 rw[hs,if_pos hn]
 refine r_m 1 ?_
 refine a_z ?_
 refine⟨(),trivial,?_⟩
 exact s_e []
 have hn:¬n< 0:=by simpa using h1
 rw[hs,if_neg hn]
 refine ah_ ⟨(),trivial,?_⟩
 exact s_e []
 rintro _ _
 refine r_z 1 ?_
 refine aU_ (fun l:List Nat=>zintS s (0,l)) (fun l=>l.length≤10∧(∀d∈l,d< UB)∧hv l=n.natAbs) ?_ ?_
 refine ag_ (ax_ (zintS s) (fun x=>x.1.natAbs) (fun x=>(-9223372036854775808≤x.1∧x.1≤9223372036854775807)∧(∀d∈x.2,d< UB)∧n.natAbs=hv x.2+UB^ x.2.length* x.1.natAbs∧x.2.length≤5) (n,[]) ⟨h,by simp,by simp[lR_],by simp⟩ ?_ ?_)
 simp only[zintS.eq_1]
 exact s_e [(1,2)]
 rintro⟨m,l⟩ ⟨hm,hd,hval,hl6⟩
 simp only at hm hd hval hl6
 rw[zintS.eq_1]
 refine ac_ (r_z 2 ?_)
 refine am_ rfl (fun h=>?_) (fun h=>?_)
 ·have hm0:m≠0:=by simpa using h
  have hl:l.length≤4:=by
   refine Nat.le_of_not_lt fun h5=>?_
   have h6:UB^ 5≤UB^ l.length:=Nat.pow_le_pow_right (by decide) h5
   have h7:UB^ l.length* 1≤UB^ l.length* m.natAbs:=Nat.mul_le_mul_left _ (by omega)
   have h8:UB^ 5=37778931862957161709568:=by decide
   omega
  obtain⟨d,hdm⟩:∃d,d=m.natAbs % 32768:=⟨_,rfl⟩
  have hd1:d< 32768:=by omega
  have hr:(m.tmod 32768).natAbs=d:=by rw[Int.natAbs_tmod,hdm];rfl
  have hq:(m.tdiv 32768).natAbs=m.natAbs/ 32768:=by rw[Int.natAbs_tdiv];rfl
  have hlq:m.natAbs/ 32768< m.natAbs:=Nat.div_lt_self (by omega) (by decide)
  have hdm2:=Nat.div_add_mod m.natAbs 32768
  refine ah_ (ag_ (s_r 3 ?_))
  refine a_1 ?_
  refine o_0 (.bin rfl rfl (sp_ (by decide))) ?_
  refine a_z ?_
  refine aU_ (fun _:Unit=>⟨[(0,i64 m),(2,.lptr 1 0 0),(3,i64 s),(4,.arr (iE l)),(5,i64 d)],[(1,some ⟨40,2,[[i64 0,.emp]]⟩)],2,25⟩) (fun _=>True) ?_ ?_
  refine r_z 2 ?_
  refine am_ rfl (fun h1=>?_) (fun h1=>?_)
  have hneg:m.tmod 32768< 0:=by simpa using h1
  refine r_m 3 ?_
  refine a_z ?_
  have e: -m.tmod 32768=d:=by omega
  refine⟨(),trivial,?_⟩
  have:=(congrArg (fun z=>AV.v (.int .i64 z)) e)
  exact s_f []
  have hneg:¬m.tmod 32768< 0:=by simpa using h1
  have e:m.tmod 32768=d:=by omega
  refine ah_ ⟨(),trivial,?_⟩
  have:=(congrArg (fun z=>AV.v (.int .i64 z)) e)
  exact s_f []
  rintro _ _
  refine s_r 5 ?_
  refine a_3 ?_
  refine o_2 (.append_l rfl rfl rfl te_38.h rfl rfl rfl rfl rfl d_o (by first|exact c3_ _|exact c2_ _|exact cO_ _|exact c5_ _|exact cS_ _|assumption|rfl|simp) (by first|rfl|exact c3_ _|exact c2_ _|exact cO_ _|exact c5_ _|exact cS_ _|simp) rfl (.arr (f3_ _)) tz_3.h rfl tb_3.h d_o (by first|(simp[maxLen];done)|(simp[maxLen];omega))) ?_
  refine a_z ?_
  refine r_m 3 ?_
  refine a_1 ?_
  refine o_0 (.bin rfl rfl (jm_ (by decide) (by omega))) ?_
  refine a_z ?_
  refine⟨(m.tdiv 32768,d::l),by simp only;omega,⟨by simp only;omega,?_,?_,by simp;omega⟩,?_⟩
  intro e he
  rcases List.mem_cons.1 he with rfl|he
  exact hd1
  exact hd e he
  simp only[iQ_,List.length_cons]
  rw[hval,hq,Nat.pow_succ,Nat.mul_assoc,Nat.add_assoc,←Nat.mul_add]
  congr 2
  show m.natAbs=d+32768* (m.natAbs/ 32768)
  omega
  simp only[zintS.eq_1]
  have e:[[i64 d]]++iE l=iE (d::l):=rfl
  refine ar_ [] rfl rfl rfl au_r (fun hs=>?_) (fun hs=>?_)
  ·repeat' (first|exact aA_|refine au_ rfl ?_ ?_)
   all_goals (first|(exact Cv.sealE hs rfl (aM_ rfl) e (by simp;omega) (bN_ _))|exact au_c)
  ·repeat' (first|exact ap_|refine al_ rfl rfl rfl rfl ?_ ?_)
   all_goals (first|exact au_e|(refine ae_ ?_;repeat' (first|exact ao_|refine af_ ?_ ?_)))
   all_goals (first|(exact Cv.sealE hs rfl (aM_ rfl) e (by simp;omega) (bN_ _))|exact au_c)
 have hm0:m=0:=by simpa using h
 subst hm0
 refine av_ ⟨l,⟨by omega,hd,by simpa using hval.symm⟩,?_⟩
 simp only[zintS.eq_1]
 exact s_e []
 rintro l ⟨hl,hd,hval⟩
 rw[zintS.eq_1]
 refine r_c 4 (fb_ s l n (by omega) hd hval hsz) ?_
 refine a_z ?_
 exact aj_ (c_e (a5_ _))
theorem qx_{o:List Nat}{j d:Nat}(h:o[j]?=some d):o.reverse[o.length- 1- j]?=some d:=by
 have hj:j< o.length:=(List.getElem?_eq_some_iff.1 h).1
 rw[List.getElem?_reverse (by omega),show o.length- 1- (o.length- 1- j)=j by omega];exact h
theorem qw_{o:List Nat}{j v:Nat}(hj:j< o.length):o.reverse.set (o.length- 1- j) v=(o.set j v).reverse:=by
 apply List.ext_getElem?
 intro i
 by_cases hi:i< o.length
 rw[List.getElem?_reverse (by simpa using hi),List.getElem?_set,List.getElem?_set,List.length_reverse,List.length_set]
 by_cases h:o.length- 1- j=i
 rw[if_pos h,if_pos (by omega),if_pos (by omega),if_pos (by omega)]
 rw[if_neg h,if_neg (by omega),List.getElem?_reverse hi]
 rw[List.getElem?_eq_none (by simpa using hi),List.getElem?_eq_none (by simpa using hi)]
def zmS(x:Int)(y:Int):List Nat×Nat→AState
 |(o,i)=>⟨[(2,.lptr 1 0 0),(3,.lptr 2 0 0),(4,.lptr 3 0 0),(5,.lsl 4 0 ((zd x.natAbs).length+(zd y.natAbs).length) (some ((zd x.natAbs).length+(zd y.natAbs).length)) 1),(6,i64 (((zd x.natAbs).length:Int)- 1- i))],
  [(1,some ⟨40,2,[zZ x]⟩),(2,some ⟨40,2,[zZ y]⟩),(3,some ⟨40,2,[[i64 0,.emp]]⟩),(4,some ⟨3,1,iE o.reverse⟩)],5,76⟩
def zmT(x:Int)(y:Int)(i:Nat):List Nat×Nat×Nat→AState
 |(o,k,c)=>⟨[(2,.lptr 1 0 0),(3,.lptr 2 0 0),(4,.lptr 3 0 0),(5,.lsl 4 0 ((zd x.natAbs).length+(zd y.natAbs).length) (some ((zd x.natAbs).length+(zd y.natAbs).length)) 1),(6,i64 (((zd x.natAbs).length:Int)- 1- i)),(7,i64 c),(8,i64 (((zd y.natAbs).length:Int)- 1- k))],
  [(1,some ⟨40,2,[zZ x]⟩),(2,some ⟨40,2,[zZ y]⟩),(3,some ⟨40,2,[[i64 0,.emp]]⟩),(4,some ⟨3,1,iE o.reverse⟩)],5,76⟩
structure ZmI (a b:Nat)(x:List Nat×Nat):Prop where
 len:x.1.length=(digs UB a).length+(digs UB b).length
 le:x.2≤(digs UB a).length
 dig:∀d∈x.1,d< UB
 val:ofD UB x.1=ofD UB ((digs UB a).take x.2) * b
 zer:∀j,x.2+(digs UB b).length≤j→j< x.1.length→x.1[j]?=some 0
structure ZmJ (a b i v:Nat)(x:List Nat×Nat×Nat):Prop where
 len:x.1.length=(digs UB a).length+(digs UB b).length
 le:x.2.1≤(digs UB b).length
 dig:∀d∈x.1,d< UB
 car:x.2.2< UB
 val:ofD UB x.1+UB^ (i+x.2.1) * x.2.2=ofD UB ((digs UB a).take i) * b+UB^ i* v* ofD UB ((digs UB b).take x.2.1)
 zer:∀j,i+(digs UB b).length≤j→j< x.1.length→x.1[j]?=some 0
theorem sgZ_mul(x y:Int):sgZ (x* y)=sgZ x* sgZ y:=by
 rcases bG_ x with⟨a,b⟩|⟨a,b⟩|⟨a,b⟩<;> rcases bG_ y with⟨c,d⟩|⟨c,d⟩|⟨c,d⟩<;> rw[a,c]<;> rcases bG_ (x* y) with⟨e,f⟩|⟨e,f⟩|⟨e,f⟩<;> rw[e]<;> first|rfl|(exfalso;subst_vars;simp at f;done)|(exfalso;have:=Int.mul_pos_of_neg_of_neg b d;omega)|(exfalso;have:=Int.mul_neg_of_neg_of_pos b d;omega)|(exfalso;have:=Int.mul_neg_of_pos_of_neg b d;omega)|(exfalso;have:=Int.mul_pos b d;omega)
theorem ef_(x y:Int)(hx:zl x)(hy:zl y):FSpec Tryz.prog 125 [.agg (zZ x),.agg (zZ y)] (.agg (zZ (x* y))):=by
 have hlx:=nJ_ hx
 have hly:=nJ_ hy
 have hzx:=bv_ x.natAbs
 have hzy:=bv_ y.natAbs
 obtain⟨a,ha⟩:∃a,a=x.natAbs:=⟨_,rfl⟩
 obtain⟨b,hb⟩:∃b,b=y.natAbs:=⟨_,rfl⟩
 have va:=a7_ (b:=UB) (by decide) a
 have vb:=a7_ (b:=UB) (by decide) b
 have hss: -9223372036854775808≤sgZ x* sgZ y∧sgZ x* sgZ y≤9223372036854775807:=by
  rcases bG_ x with⟨h,_⟩|⟨h,_⟩|⟨h,_⟩<;> rcases bG_ y with⟨h',_⟩|⟨h',_⟩|⟨h',_⟩<;> rw[h,h']<;> decide
 refine f_n Tryz.func125 ?_ ?_
 exact aa_ (a5_ x) (aa_ (a5_ y) ab_)
 subst ha hb
 refine r_z 3 ?_
 refine r_z 9 ?_
 refine ac_ (r_z 5 ?_)
 refine aB_ (zmS x y) (fun v=>ZmI x.natAbs y.natAbs v∧v.2=(digs UB x.natAbs).length) ?_ ?_
 refine ag_ (ax_ (zmS x y) (fun v=>(digs UB x.natAbs).length- v.2) (ZmI x.natAbs y.natAbs) (List.replicate ((digs UB x.natAbs).length+(digs UB y.natAbs).length) 0,0) ⟨by simp,by simp,?_,by simp[iv_,ofD],?_⟩ ?_ ?_)
 intro d hd;simp at hd;rw[hd.2];decide
 intro j _ hj;simp at hj;simp[hj]
 simp only[zmS.eq_1]
 refine ar_ [(1,2),(2,3),(3,4),(4,5)] rfl rfl rfl ?_ (fun hs=>?_) (fun hs=>?_)
 ·repeat' (first|exact ShrL.nil|refine ShrL.cons rfl rfl rfl rfl (by first|rfl|(simp;done)|(simp[hzx,hzy]<;> omega)) ?_)
 ·repeat' (first|exact aA_|refine au_ rfl ?_ ?_)
  all_goals (first|exact au_c|(refine Cv.loE hs ?_ (ad_ _);first|rfl|(simp[i64,u64,u32,bln,hzx,hzy];done)|(simp[i64,u64,u32,bln,hzx,hzy]<;> omega)))
 ·repeat' (first|exact ap_|refine al_ rfl rfl rfl rfl ?_ ?_)
  all_goals (first|exact au_e|(refine aD_ hs ?_ (bN_ _);first|(simp[hF_,fa_,dt_,hzx,hzy];done)|(simp[iE,i64,ofV,hzx,hzy];done))|(refine ae_ ?_;repeat' (first|exact ao_|refine af_ ?_ ?_)))
  all_goals (first|exact au_c|(refine Cv.loE hs ?_ (ad_ _);first|(simp[i64,u64,u32,bln,hzx,hzy];done)|(simp[i64,u64,u32,bln,hzx,hzy]<;> omega)))
 rintro⟨o,i⟩ ⟨hlen,hle,hdig,hval,hzer⟩
 simp only at hlen hle hdig hval hzer
 rw[zmS.eq_1]
 refine ac_ (r_z 2 ?_)
 refine am_ rfl (fun h=>?_) (fun h=>?_)
 have hlt:i< (digs UB x.natAbs).length:=by have:=of_decide_eq_true h;omega
 obtain⟨u,hu⟩:∃u,(digs UB x.natAbs)[i]?=some u:=⟨_,List.getElem?_eq_getElem hlt⟩
 have hu1:u< 32768:=bq_ (by decide) hu
 have hu':(iE (zd x.natAbs))[(((zd x.natAbs).length:Int)- 1- i).toNat]?=some [i64 u]:=by
  rw[show(((zd x.natAbs).length:Int)- 1- i).toNat=(digs UB x.natAbs).length- 1- i by omega];exact fS_ (nK_ hu)
 refine ah_ (ac_ (ag_ (r_z 1 ?_)))
 refine ac_ (r_z 5 ?_)
 refine aB_ (zmT x y i) (fun v=>ZmJ x.natAbs y.natAbs i u v∧v.2.1=(digs UB y.natAbs).length) ?_ ?_
 refine ag_ (ax_ (zmT x y i) (fun v=>(digs UB y.natAbs).length- v.2.1) (ZmJ x.natAbs y.natAbs i u) (o,0,0) ⟨hlen,by simp,hdig,(show 0< UB by decide),by simp[hval,ofD],hzer⟩ ?_ ?_)
 simp only[zmT.eq_1]
 exact s_e []
 rintro⟨q,k,c⟩ ⟨jlen,jle,jdig,jcar,jval,jzer⟩
 simp only at jlen jle jdig jcar jval jzer
 rw[zmT.eq_1]
 refine ac_ (r_z 2 ?_)
 refine am_ rfl (fun h=>?_) (fun h=>?_)
 have hltk:k< (digs UB y.natAbs).length:=by have:=of_decide_eq_true h;omega
 obtain⟨v,hv⟩:∃v,(digs UB y.natAbs)[k]?=some v:=⟨_,List.getElem?_eq_getElem hltk⟩
 have hv1:v< 32768:=bq_ (by decide) hv
 have hv':(iE (zd y.natAbs))[(((zd y.natAbs).length:Int)- 1- k).toNat]?=some [i64 v]:=by
  rw[show(((zd y.natAbs).length:Int)- 1- k).toNat=(digs UB y.natAbs).length- 1- k by omega];exact fS_ (nK_ hv)
 obtain⟨d,hd⟩:∃d,q[i+k]?=some d:=⟨_,List.getElem?_eq_getElem (by omega)⟩
 have hd1:d< 32768:=jdig d (List.mem_of_getElem? hd)
 have hc1:c< 32768:=jcar
 have hidx:(((zd x.natAbs).length:Int)- 1- i+(((zd y.natAbs).length:Int)- 1- k)+1).toNat=q.length- 1- (i+k):=by omega
 have hg:(iE q.reverse)[0+(((zd x.natAbs).length:Int)- 1- i+(((zd y.natAbs).length:Int)- 1- k)+1).toNat]?=some [i64 d]:=by rw[hidx,Nat.zero_add];exact fS_ (qx_ hd)
 have hset:∀w:Nat,(iE q.reverse).set (0+(((zd x.natAbs).length:Int)- 1- i+(((zd y.natAbs).length:Int)- 1- k)+1).toNat) [i64 w]=iE (q.set (i+k) w).reverse:=by intro w;rw[hidx,Nat.zero_add,hF_,qw_ (by omega)]
 have hxy0:u* v≤32767* 32767:=Nat.mul_le_mul (by omega) (by omega)
 have hxyi:(u:Int) * v=((u* v:Nat):Int):=by push_cast;rfl
 refine ah_ ?_
 have hxyn:0≤(u:Int) * v:=Int.mul_nonneg (by omega) (by omega)
 refine ac_ (ag_ (ac_ (r_d hmix 22 ?_)))
 refine a_5 ?_
 first|refine aw_ (.index_l rfl rfl (by omega) (by omega) te_38.h) rfl rfl ?_|refine aw_ (.index_a rfl rfl (by omega) hg rfl te_38.h) rfl rfl ?_
 first|refine aw_ (.load_l1 rfl rfl hg tg_3.h rfl) rfl rfl ?_|refine aw_ (.load_a1 rfl hg tg_3.h rfl) rfl rfl ?_
 refine a_3 ?_
 refine i_x hu' ?_
 refine l_1 hu' ?_
 refine a_3 ?_
 refine i_x hv' ?_
 refine l_1 hv' ?_
 refine a_5 ?_
 refine an_ (n_k ?_)
 refine s_r 9 ?_
 refine a_8 ?_
 refine o_1n (.store rfl rfl hg rfl rfl rfl ts_3.h (nle rfl)) ?_
 refine an_ ?_
 refine r_m 3 ?_
 refine a_z ?_
 refine r_m 3 ?_
 refine a_z ?_
 have hm:((d:Int)+(u:Int) * v+c) % 32768=(((d+u* v+c) % 32768:Nat):Int):=by rw[hxyi];omega
 have hq:((d:Int)+(u:Int) * v+c) / 32768=(((d+u* v+c) / 32768:Nat):Int):=by rw[hxyi];omega
 refine⟨(q.set (i+k) ((d+u* v+c) % 32768),k+1,(d+u* v+c) / 32768),by simp;omega,⟨by simp[jlen],by simp;omega,kx_ jdig (Nat.mod_lt _ (by decide)),?_,?_,?_⟩,?_⟩
 show _< 32768;simp only;omega
 simp only
 have e1:=iw_ UB ((d+u* v+c) % 32768) hd
 have e2:=Nat.mod_add_div (d+u* v+c) 32768
 have e3:UB^ (i+k) * ((d+u* v+c) % 32768)+UB^ (i+(k+1)) * ((d+u* v+c) / 32768)=UB^ (i+k) * d+UB^ (i+k) * (u* v)+UB^ (i+k) * c:=by
  rw[←Nat.add_assoc i k 1,Nat.pow_succ,Nat.mul_assoc,←Nat.mul_add,show UB* ((d+u* v+c) / 32768)=32768* ((d+u* v+c) / 32768) from rfl,e2,Nat.mul_add,Nat.mul_add]
 have e4:UB^ i* u* ofD UB ((digs UB y.natAbs).take (k+1))=UB^ i* u* ofD UB ((digs UB y.natAbs).take k)+UB^ (i+k) * (u* v):=by
  rw[bx_ _ hv,Nat.mul_add]
  congr 1
  rw[Nat.pow_add]
  simp only[Nat.mul_assoc,Nat.mul_left_comm,Nat.mul_comm]
 rw[e4]
 omega
 intro j hj hj2
 rw[List.getElem?_set_ne (by omega)]
 exact jzer j hj (by simpa using hj2)
 simp only[zmT.eq_1]
 have hset2:=hset ((d+u* v+c) % 32768)
 rw[←hm] at hset2
 refine ar_ [] rfl rfl rfl ?_ (fun hs=>?_) (fun hs=>?_)
 ·repeat' (first|exact ShrL.nil|refine ShrL.cons rfl rfl rfl rfl (by first|(exact congrArg List.length hset2)|rfl|(simp;done)|(simp <;> omega)) ?_)
 ·repeat' (first|exact aA_|refine au_ rfl ?_ ?_)
  all_goals (first|(exact Cv.loE hs (congrArg (fun z=>AV.v (.int .i64 z)) hq) (ad_ _))|exact au_c)
 ·repeat' (first|exact ap_|refine al_ rfl rfl rfl rfl ?_ ?_)
  all_goals (first|(exact aD_ hs hset2 (bN_ _))|exact au_e|(refine ae_ ?_;repeat' (first|exact ao_|refine af_ ?_ ?_)))
  all_goals (first|(exact Cv.loE hs (congrArg (fun z=>AV.v (.int .i64 z)) hq) (ad_ _))|exact au_c)
 have hk:k=(digs UB y.natAbs).length:=by have:=of_decide_eq_false h;omega
 refine av_ ⟨(q,k,c),⟨⟨jlen,jle,jdig,jcar,jval,jzer⟩,hk⟩,?_⟩
 simp only[zmT.eq_1]
 exact s_e []
 rintro⟨q,k,c⟩ ⟨⟨jlen,jle,jdig,jcar,jval,jzer⟩,hk⟩
 simp only at jlen jle jdig jcar jval jzer hk
 subst hk
 have hc1:c< 32768:=jcar
 have hz:=jzer (i+(digs UB y.natAbs).length) (Nat.le_refl _) (by omega)
 have hidx:(((zd x.natAbs).length:Int)- 1- i).toNat=q.length- 1- (i+(digs UB y.natAbs).length):=by omega
 have hg:(iE q.reverse)[0+(((zd x.natAbs).length:Int)- 1- i).toNat]?=some [i64 0]:=by rw[hidx,Nat.zero_add];exact fS_ (qx_ hz)
 have hset:(iE q.reverse).set (0+(((zd x.natAbs).length:Int)- 1- i).toNat) [i64 c]=iE (q.set (i+(digs UB y.natAbs).length) c).reverse:=by rw[hidx,Nat.zero_add,hF_,qw_ (by omega)]
 rw[List.take_length,vb] at jval
 rw[zmT.eq_1]
 refine r_m 5 ?_
 refine a_4 ?_
 refine o_1n (.store rfl rfl hg rfl rfl rfl ts_3.h (nle rfl)) ?_
 refine an_ ?_
 refine r_m 3 ?_
 refine a_z ?_
 refine⟨(q.set (i+(digs UB y.natAbs).length) c,i+1),by simp;omega,⟨by simp[jlen],by simp;omega,kx_ jdig jcar,?_,?_⟩,?_⟩
 simp only
 have e1:=iw_ UB c hz
 rw[bx_ _ hu,Nat.add_mul,←jval]
 omega
 intro j hj hj2
 rw[List.getElem?_set_ne (by simp only at hj;omega)]
 exact jzer j (by simp only at hj;omega) (by simpa using hj2)
 simp only[zmS.eq_1]
 refine ar_ [] rfl rfl rfl ?_ (fun hs=>au_f) (fun hs=>?_)
 ·repeat' (first|exact ShrL.nil|refine ShrL.cons rfl rfl rfl rfl (by first|(exact congrArg List.length hset)|rfl|(simp;done)|(simp <;> omega)) ?_)
 ·repeat' (first|exact ap_|refine al_ rfl rfl rfl rfl ?_ ?_)
  all_goals (first|(refine aD_ hs hset (bN_ _))|exact au_e)
 have hi:i=(digs UB x.natAbs).length:=by have:=of_decide_eq_false h;omega
 refine av_ ⟨(o,i),⟨⟨hlen,hle,hdig,hval,hzer⟩,hi⟩,?_⟩
 simp only[zmS.eq_1]
 exact s_e []
 rintro⟨o,i⟩ ⟨⟨hlen,hle,hdig,hval,hzer⟩,hi⟩
 simp only at hlen hle hdig hval hzer hi
 subst hi
 rw[List.take_length,va] at hval
 rw[zmS.eq_1]
 have hol:o.length=(zd x.natAbs).length+(zd y.natAbs).length:=by omega
 have hw:=fb_ (sgZ x* sgZ y) o.reverse (x* y) (by simp;omega) (fun d h=>hdig d (List.mem_reverse.1 h)) (by unfold hv;rw[List.reverse_reverse,hval,Int.natAbs_mul]) (fun _=>(sgZ_mul x y).symm)
 have hfull:((iE o.reverse).drop 0).take ((zd x.natAbs).length+(zd y.natAbs).length)=iE o.reverse:=by rw[List.drop_zero,List.take_of_length_le (by simp;omega)]
 refine s_r 8 ?_
 refine a_4 ?_
 refine o_0 (.bin rfl rfl (ia_ hss)) ?_
 refine a_1 ?_
 refine o_1 (.callS1 rfl rfl rfl (.keep (.shut rfl d_n (.nil))) rfl ((by rw[hfull];exact hw))) ?_
 refine a_z ?_
 exact aj_ (c_e (a5_ _))
theorem r6_{b:Nat}(hb:1< b):∀(j n:Nat),(digs b n)[j]?.getD 0=n/ b^ j % b:=by
 intro j
 induction j with
 |zero=>
  intro n
  rcases Nat.eq_zero_or_pos n with rfl|hn
  rw[bo_];simp
  rw[cA_ hb hn];simp
 |succ j ih=>
  intro n
  rcases Nat.eq_zero_or_pos n with rfl|hn
  rw[bo_];simp
  rw[cA_ hb hn,List.getElem?_cons_succ,ih,Nat.div_div_eq_div_mul,Nat.pow_succ,Nat.mul_comm b]
def rR_(n:Nat)(long:Nat)(k:Nat):Nat→AState
 |i=>⟨[(0,.arr (iE (zd n))),(1,i64 long),(2,i64 k),(7,i64 (n/ UB^ (long- i):Nat)),(8,i64 i)],[],1,24⟩
theorem h2_(n long k:Nat)(hk:k≤4)(hkl:k≤long)(hn:n< UB^ long)(hl:(zd n).length≤281474976710656)(hlo:long≤281474976710656):FSpec Tryz.prog 319 [.arr (iE (zd n)),i64 long,i64 k] (i64 (n/ UB^ (long- k):Nat)):=by
 have bound:∀i,i≤k→n/ UB^ (long- i)< 1152921504606846976:=by
  intro i hi
  have h1:n/ UB^ (long- i)< UB^ i:=by
   rw[Nat.div_lt_iff_lt_mul (Nat.pow_pos (by decide)),←Nat.pow_add,show i+(long- i)=long by omega];exact hn
  exact Nat.lt_of_lt_of_le h1 (Nat.pow_le_pow_right (n:=32768) (j:=4) (by decide) (by omega))
 refine f_n Tryz.func319 ?_ ?_
 exact aa_ (bi_ _) (aa_ (ad_ _) (aa_ (ad_ _) ab_))
 refine r_z 1 ?_
 refine r_z 1 ?_
 refine ac_ (r_z 1 ?_)
 refine aB_ (rR_ n long k) (fun i=>i=k) ?_ ?_
 refine ag_ (ax_ (rR_ n long k) (fun i=>k- i) (fun i=>i≤k) 0 (Nat.zero_le _) ?_ ?_)
 simp only[rR_.eq_1]
 have e:AV.v (.int .i64 0)=i64 (n/ UB^ (long- 0):Nat):=by rw[Nat.sub_zero,Nat.div_eq_of_lt hn];rfl
 exact s_f []
 intro i hi
 rw[rR_.eq_1]
 refine ac_ (r_z 3 ?_)
 refine am_ rfl (fun h=>?_) (fun h=>?_)
 have hlt:i< k:=by simpa using h
 have hd:=kN_ (zd n) (long- 1- i) hl
 unfold zd at hd
 rw[List.reverse_reverse,r6_ (by decide),show((long- 1- i:Nat):Int)=(long:Int)- 1- i by omega] at hd
 have e1:=Nat.div_add_mod (n/ UB^ (long- 1- i)) UB
 rw[Nat.div_div_eq_div_mul,←Nat.pow_succ,show(long- 1- i).succ=long- i by omega] at e1
 have hb:=bound (i+1) hlt
 rw[show long- (i+1)=long- 1- i by omega] at hb
 have hlt2:n/ UB^ (long- 1- i) % UB< 32768:=Nat.mod_lt _ (by decide)
 obtain⟨V,hV⟩:∃V,V=n/ UB^ (long- i):=⟨_,rfl⟩
 obtain⟨D,hD⟩:∃D,D=n/ UB^ (long- 1- i) % UB:=⟨_,rfl⟩
 have hVb:V< 1152921504606846976:=by rw[hV];exact bound i hi
 rw[←hV,←hD] at e1
 rw[←hD] at hd hlt2
 rw[←hV]
 have e3:32768* V+D=n/ UB^ (long- 1- i):=e1
 have e2:(V:Int) * 32768+D=((n/ UB^ (long- (i+1)):Nat):Int):=by
  rw[show long- (i+1)=long- 1- i by omega,←e3];omega
 have hbb:V* 32768+D< 1152921504606846976:=by omega
 refine ah_ (ac_ (ag_ (r_m 10 ?_)))
 refine c_s (hd) ?_
 refine a_z ?_
 refine r_m 3 ?_
 refine a_z ?_
 refine⟨i+1,by omega,hlt,?_⟩
 simp only[rR_.eq_1]
 have:=(congrArg (fun z=>AV.v (.int .i64 z)) e2)
 exact s_f []
 have hge:i=k:=by simp at h;omega
 refine av_ ⟨i,hge,?_⟩
 simp only[rR_.eq_1]
 exact s_e []
 rintro i rfl
 rw[rR_.eq_1]
 refine r_z 2 ?_
 refine aj_ (aR_ rfl rfl (ad_ _))
def lo_(D:Nat):Nat×Nat→AState
 |(R,k)=>⟨[(0,.arr (iE (zd R))),(1,.arr (iE (zd D))),(6,i64 k)],[],1,57⟩
theorem est_le{R D e:Nat}(he:0< e):R/ e/ (D/ e+1) * D≤R:=by
 have h1:R/ e/ (D/ e+1) * (D/ e+1)≤R/ e:=Nat.div_mul_le_self _ _
 have h2:R/ e* e≤R:=Nat.div_mul_le_self _ _
 have h3:D< (D/ e+1) * e:=by
  have:=Nat.lt_mul_div_succ D he
  rw[Nat.mul_comm];exact this
 have h4:R/ e/ (D/ e+1) * D≤R/ e/ (D/ e+1) * ((D/ e+1) * e):=Nat.mul_le_mul_left _ (Nat.le_of_lt h3)
 have h5:R/ e/ (D/ e+1) * ((D/ e+1) * e)≤R/ e* e:=by
  rw[←Nat.mul_assoc];exact Nat.mul_le_mul_right _ h1
 omega
theorem zZ_pos{D:Nat}(h:0< D):zZ (D:Int)=[i64 1,.arr (iE (zd D))]:=by
 unfold zZ sgZ
 rw[if_neg (by omega),if_neg (by omega),Int.natAbs_natCast]
theorem fs_share(R D:Nat)(hD:0< D)(hR:R< UB* D)(hb:bl D≤4398046511104):FSpec Tryz.prog 290 [.arr (iE (zd R)),.arr (iE (zd D))] (.tup [i64 (R/ D:Nat),.arr (iE (zd (R % D)))]):=by
 have hzR:=bv_ R
 have hzD:=bv_ D
 have hlD:=a6_ (b:=UB) (by decide) D
 have hlR:=a6_ (b:=UB) (by decide) R
 have hbR:bl R≤bl D+16:=by
  have h1:=bR_ (Nat.le_of_lt hR)
  have h2:=fp_ UB D
  have h3:bl UB=16:=by decide
  omega
 obtain⟨n,hn⟩:∃n,n=(zd D).length:=⟨_,rfl⟩
 have hn1:1≤n:=by
  have:zd D≠[]:=fun h=>by have:=zd_eq_nil.1 h;omega
  have:=List.length_pos_iff.2 this;omega
 have hDn:D< UB^ n:=by
  have:=hv_lt (zd_lt D)
  rwa[hv_zd,←hn] at this
 have hRn:R< UB^ (n+1):=by
  rw[Nat.pow_succ,Nat.mul_comm]
  exact Nat.lt_of_lt_of_le hR (Nat.mul_le_mul_left _ (Nat.le_of_lt hDn))
 have hRk:∀k,k* D≤R→k< UB:=by
  intro k hk
  refine Nat.lt_of_not_le fun h=>?_
  have:=Nat.mul_le_mul_right D h
  omega
 refine f_n Tryz.func290 ?_ ?_
 exact aa_ (bi_ _) (aa_ (bi_ _) ab_)
 refine r_z 2 ?_
 refine r_z 1 ?_
 refine r_z 3 ?_
 refine aU_ (fun k:Nat=>lo_ D (R,k)) (fun k=>k* D≤R) ?_ ?_
 refine r_z 4 ?_
 refine am_ rfl (fun h=>?_) (fun h=>?_)
 have hge:(zd D).length≤(zd R).length:=by simpa using h
 refine r_z 2 ?_
 refine am_ rfl (fun h1=>?_) (fun h1=>?_)
 have h3:n≤3:=by rw[hn];have:=of_decide_eq_true h1;omega
 have f1:=h2_ R (n+1) (n+1) (by omega) (Nat.le_refl _) hRn (by omega) (by omega)
 have f2:=h2_ D n n (by omega) (Nat.le_refl _) hDn (by omega) (by omega)
 rw[Nat.sub_self,Nat.pow_zero,Nat.div_one] at f1 f2
 rw[hn] at f1 f2
 have hq:(R:Int) / D=(R/ D:Nat):=(Int.natCast_ediv _ _).symm
 have hR60:R< 1152921504606846976:=Nat.lt_of_lt_of_le hRn (Nat.pow_le_pow_right (n:=32768) (j:=4) (by decide) (by omega))
 refine r_m 12 ?_
 refine c_s (f1) ?_
 refine c_s (f2) ?_
 refine a_z ?_
 refine⟨R/ D,Nat.div_mul_le_self _ _,?_⟩
 simp only[lo_.eq_1]
 have:=(congrArg (fun z=>AV.v (.int .i64 z)) hq)
 exact s_f []
 have h3:3< n:=by rw[hn];have:=of_decide_eq_false h1;omega
 have f1:=h2_ R (n+1) 4 (by omega) (by omega) hRn (by omega) (by omega)
 have f2:=h2_ D n 3 (by omega) (by omega) hDn (by omega) (by omega)
 rw[show n+1- 4=n- 3 by omega] at f1
 obtain⟨e,he⟩:∃e,e=UB^ (n- 3):=⟨_,rfl⟩
 have hep:0< e:=by rw[he];exact Nat.pow_pos (by decide)
 rw[←he] at f1 f2
 have hR4:R/ e< 1152921504606846976:=by
  rw[Nat.div_lt_iff_lt_mul hep,he]
  have h4:UB^ 4=1152921504606846976:=by decide
  have:UB^ (n+1)=1152921504606846976* UB^ (n- 3):=by
   rw[show n+1=4+(n- 3) by omega,Nat.pow_add,h4]
  omega
 have hD3:D/ e< 35184372088832:=by
  rw[Nat.div_lt_iff_lt_mul hep,he]
  have h4:UB^ 3=35184372088832:=by decide
  have:UB^ n=35184372088832* UB^ (n- 3):=by
   rw[←h4,←Nat.pow_add];congr 1;omega
  omega
 rw[hn] at f1 f2
 have hq:((R/ e:Nat):Int) / (((D/ e:Nat):Int)+1)=(R/ e/ (D/ e+1):Nat):=by
  rw[show(((D/ e:Nat):Int)+1)=((D/ e+1:Nat):Int) by omega];exact(Int.natCast_ediv _ _).symm
 have hle:=est_le (R:=R) (D:=D) hep
 obtain⟨A,hA⟩:∃A,A=R/ e:=⟨_,rfl⟩
 obtain⟨B,hB⟩:∃B,B=D/ e:=⟨_,rfl⟩
 rw[←hA] at f1 hR4 hq hle
 rw[←hB] at f2 hD3 hq hle
 refine r_m 10 ?_
 refine c_s (f1) ?_
 refine c_s (f2) ?_
 refine a_z ?_
 refine⟨A/ (B+1),hle,?_⟩
 simp only[lo_.eq_1]
 have:=(congrArg (fun z=>AV.v (.int .i64 z)) hq)
 exact s_f []
 refine ah_ ⟨0,by simp,?_⟩
 simp only[lo_.eq_1]
 exact s_e []
 rintro k hk
 have hkU:=hRk k hk
 have hkU':k< 32768:=hkU
 rw[lo_.eq_1]
 refine aU_ (fun _:Unit=>lo_ D (R- k* D,k)) (fun _=>True) ?_ ?_
 refine r_z 2 ?_
 refine am_ rfl (fun h1=>?_) (fun h1=>?_)
 have hzk:zl (k:Int):=by
  unfold zl;rw[Int.natAbs_natCast]
  have:=bl_le (n:=k) (k:=15) (by omega);omega
 have hzD:zl (D:Int):=by unfold zl;rw[Int.natAbs_natCast];omega
 have hm:=ef_ (k:Int) (D:Int) hzk hzD
 rw[zZ_pos hD] at hm
 have hkD:((k:Int) * (D:Int)).natAbs=k* D:=by rw[←Int.natCast_mul,Int.natAbs_natCast]
 have hbk:bl (k* D)≤bl D+16:=by
  have:=bR_ hk;omega
 have hlk:=a6_ (b:=UB) (by decide) (k* D)
 have hbo:=iZ_ R (k* D) (-1) (R- k* D) (.inr rfl) (by omega) (by omega) (by rw[bv_];omega)
 rw[←hkD] at hbo
 rw[hkD] at hbo
 refine r_m 9 ?_
 refine c_s (f5_ k (by omega)) ?_
 refine c_s (hm) ?_
 first|refine aw_ (.field rfl tf_40_1.h tga_40_1.h (nle rfl)) rfl rfl ?_|refine aw_ (.field1 rfl tf_40_1.h tga_40_1.h rfl) rfl rfl ?_
 refine o_0 (.call rfl rfl rfl ((by rw[hkD];exact hbo))) ?_
 refine o_0 (.assign rfl) ?_
 refine an_ ?_
 refine⟨(),trivial,?_⟩
 simp only[lo_.eq_1]
 exact s_e []
 have hk0:k=0:=by simp at h1;omega
 subst hk0
 refine ah_ ⟨(),trivial,?_⟩
 simp only[lo_.eq_1,Nat.zero_mul,Nat.sub_zero]
 exact s_e []
 rintro _ _
 rw[lo_.eq_1]
 refine aU_ (lo_ D) (fun v=>v.1=R % D∧v.2=R/ D) ?_ ?_
 refine ag_ (ax_ (lo_ D) (fun v=>v.1) (fun v=>v.1+v.2* D=R∧v.1≤R) (R- k* D,k) ⟨by simp only;omega,by simp only;omega⟩ ?_ ?_)
 simp only[lo_.eq_1]
 exact s_e []
 rintro⟨R',k'⟩ ⟨hv,hle⟩
 simp only at hv hle
 have hbR':bl R'≤bl D+16:=by have:=bR_ hle;omega
 have hlR':=a6_ (b:=UB) (by decide) R'
 have hzR':=bv_ R'
 have hk':=hRk k' (by omega)
 have hk'':k'< 32768:=hk'
 rw[lo_.eq_1]
 refine ac_ (r_c 4 (ox_ R' D (by omega) (by omega)) ?_)
 refine a_z ?_
 refine am_ rfl (fun h=>?_) (fun h=>?_)
 have hge:D≤R':=by
  have:=of_decide_eq_true h
  unfold cmpZ at this;split at this <;> omega
 refine ah_ (ag_ (r_c 4 (iZ_ R' D (-1) (R'- D) (.inr rfl) (by omega) (by omega) (by omega)) ?_))
 refine a_z ?_
 refine r_m 3 ?_
 refine a_z ?_
 refine⟨(R'- D,k'+1),by simp only;omega,⟨by simp only;rw[Nat.add_mul];omega,by simp only;omega⟩,?_⟩
 simp only[lo_.eq_1]
 exact s_e []
 have hlt:R'< D:=by
  have:=of_decide_eq_false h
  unfold cmpZ at this;split at this
  omega
  split at this <;> omega
 refine av_ ⟨(R',k'),⟨?_,?_⟩,?_⟩
 simp only;rw[←hv,Nat.add_mul_mod_self_right,Nat.mod_eq_of_lt hlt]
 simp only;rw[←hv,Nat.add_mul_div_right _ _ hD,Nat.div_eq_of_lt hlt,Nat.zero_add]
 simp only[lo_.eq_1]
 exact s_e []
 rintro⟨R',k'⟩ ⟨h1,h2⟩
 simp only at h1 h2
 subst h1 h2
 rw[lo_.eq_1]
 refine r_z 4 ?_
 refine aj_ (Fin.many ⟨_,_,rfl,rfl,⟨_,_,rfl,rfl,rfl⟩⟩ (nle rfl) ?_)
 exact af_ (ak_ as_ (ad_ _)) (af_ (ak_ as_ (bi_ _)) ao_)
end Go.Proofs.YtdjfjpeoddmamaaGreatDoor
