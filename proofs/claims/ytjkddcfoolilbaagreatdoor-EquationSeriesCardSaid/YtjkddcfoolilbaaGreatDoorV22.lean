/- Part V22 of the proof. -/
import Derived.Test.YtjkddcfoolilbaaGreatDoorV21
set_option linter.all false
namespace Go.Proofs.YtjkddcfoolilbaaGreatDoor
open Go.Abs
set_option maxRecDepth 20000
set_option maxHeartbeats 2000000
def hpS(p:List Rat)(g:Nat)(cap:List AV)(w:Nat→List Rat):Nat→AState
 |k=>⟨[(4,.lptr 1 0 0),(5,.aptr [[.clos g [] cap]] 0 0),(10,.clos 213 [] [bP p])],[(1,some ⟨33,1,[[.arr (pE (w k))]]⟩)],2,18⟩
theorem pP_(p:List Rat)(g:Nat)(cap:List AV)(w:Nat→List Rat)(hl:p.length≤281474976710656)(hcap:∀c∈cap,Closed c)(hg:∀k,k< p.length→FS g ((.arr (pE (w k)):: .agg (qC (coP p (p.length- 1- k)))::cap).map coe) (.arr (pE (w (k+1))))):FS 209 [.arr (pE p),.arr (pE (w 0)),.clos g [] cap] (.arr (pE (w p.length))):=by
 have hb:=eL_ p;have hgs:=eH_ p hl;have hcc:Closed (.clos g [] cap):=aG_ ac_ hcap;have hcc2:Closed (.aptr [[.clos g [] cap]] 0 0):=aL_ (aa_ hcc ac_);have hcl2:Closed (.clos 213 [] [bP p]):=aG_ ac_ (aa_ (bu_ p) ac_);refine f_c Tryz.func209 ?_;refine r_z 3 ?_;refine AWp.ent (st':=⟨[(0,.arr (pE p)),(4,.lptr 1 0 0),(5,.aptr [[.clos g [] cap]] 0 0)],[(1,some ⟨33,1,[[.arr (pE (w 0))]]⟩)],2,18⟩) ?_ ?_;have:=aa_ hcc ac_;exact s_f [(1,4)];refine ab_ (r_c 2 (hb) ?_);refine al_ ?_;refine aw_ (fun _:Unit=>⟨[(4,.lptr 1 0 0)],[(1,some ⟨33,1,[[.arr (pE (w p.length))]]⟩)],2,18⟩) (fun _=>True) ?_ ?_;refine ae_ (AWp.rangeFunc (α:=Nat) (γ:=Empty) p.length (hpS p g cap w) (fun k=>k) (fun k=>k≤p.length) (fun e=>nomatch e) (fun _ e=>nomatch e) 0 rfl hgs rfl rfl ?_ (fun _=>⟨rfl,rfl⟩) (fun e=>nomatch e) (Nat.zero_le _) rfl (fun _ h=>h) ?_ ?_ ?_ ?_ (fun _ e=>nomatch e));intro k xs hT;unfold backP at hT;split at hT;cases hT;rfl;cases hT;rw[hpS.eq_1];exact s_y [] (fun hs=>au_f) (fun hs=>au_h);exact aa_ (bu_ p) ac_
 ·intro l k xs hk hT
  unfold backP at hT;split at hT;rotate_left;cases hT;rename_i hlt;cases hT;show AWp _ _ _ _ ⟨[(12,.agg (qC (coP p (p.length- 1- k)))),(11,i64 (p.length- 1- k:Nat)),(4,.lptr 1 0 0),(5,.aptr [[.clos g [] cap]] 0 0),(10,.clos 213 [] [bP p]),(1004,.lptr 1 0 0),(1005,.aptr [[.clos g [] cap]] 0 0),(1010,.clos 213 [] [bP p])],[(1,some ⟨33,1,[[.arr (pE (w k))]]⟩)],2,18⟩;refine r_m 2 ?_;refine a_z ?_;refine ae_ (r_m 5 ?_);refine c_s (hg k hlt) ?_;refine a_z ?_;refine⟨k+1,⟨hlt,rfl⟩,?_⟩;show SEntT _ ⟨[(1004,.lptr 1 0 0),(1005,.aptr [[.clos g [] cap]] 0 0),(1010,.clos 213 [] [bP p])],[(1,some ⟨33,1,[[.arr (pE (w (k+1)))]]⟩)],2,18⟩;exact s_y [] (fun hs=>au_f) (fun hs=>au_h)
 intro k hk hT;unfold backP at hT;split at hT;cases hT;refine⟨(),trivial,?_⟩;rw[hpS.eq_1];have h1:k=p.length:=by omega
 subst h1;exact s_e [];rintro _ _;refine r_z 2 ?_;exact af_ (t_e (ar_ _))
theorem ng_(v q:List Rat)(c:Rat)(h:okMul v q)(hc:sm c)(hl:(mulP v q).length≤274877906944):FS 210 [.arr (pE v),.agg (qC c),bP q] (.arr (pE (addP (mulP v q) (bo_ c)))):=by
 have hcl:=dS_ c;refine f_c Tryz.func210 ?_;refine r_z 2 ?_;refine ab_ (r_d hmix 7 ?_);refine c_s (fs_Mul v q (mxL v) (mxL q) (c3_ v) (c3_ q) (cW_ v) (cW_ q) h.1 h.2.1 h.2.2.1 h.2.2.2) ?_;refine c_s (i0_ c) ?_;refine c_s (i6_ (mulP v q) (bo_ c) (kv_ h) (kg_ fun x hx=>by rw[List.mem_singleton.1 hx];exact hc) (by omega) (by omega)) ?_;refine a_1 ?_;refine al_ (n_k ?_);exact af_ (t_e (ar_ _))
theorem pR_(p q:List Rat)(h:d2_ q p)(hp:p.length≤274877906944):FS 168 [.arr (pE p),.arr (pE q)] (.arr (pE (compP q p))):=by
 have hw:∀k,k< p.length→FS 210 [.arr (pE (compP q (p.drop (p.length- k)))),.agg (qC (coP p (p.length- 1- k))),bP q] (.arr (pE (compP q (p.drop (p.length- (k+1)))))):=fun k hk=>by
  have h1:=iA_ (p.length- (k+1)) h;rw[jf_ hk] at h1⊢;exact ng_ _ q _ h1.2.1 h1.2.2.1 h1.2.2.2
 have hh:=pP_ p 210 [bP q] (fun k=>compP q (p.drop (p.length- k))) (by omega) (aa_ (bu_ q) ac_) hw;simp only[Nat.sub_zero,Nat.sub_self,List.drop_zero,List.drop_length] at hh;refine f_c Tryz.func168 ?_;refine r_z 2 ?_;refine AWp.ent (st':=⟨[(0,.arr (pE p)),(3,bP q)],[],1,8⟩) ?_ ?_;exact s_e [];refine r_c 4 (hh) ?_;refine a_z ?_;exact af_ (t_e (ar_ _))
theorem kP_(p:List Rat)(c:Rat)(h:d2_ [c,1] p)(hp:p.length≤274877906944):FS 116 [.arr (pE p),.agg (qC c)] (.arr (pE (compP [c,1] p))):=by
 refine f_c Tryz.func116 ?_;refine r_z 2 ?_;refine r_c 5 (fs_line c) ?_;refine c_s (pR_ p [c,1] h hp) ?_;refine a_z ?_;exact af_ (t_e (ar_ _))
def coS:Nat×Nat→AState
 |(a,b)=>⟨[(2,.lptr 1 0 0),(3,.lptr 2 0 0),(4,.lptr 3 0 0)],[(1,some ⟨46,3,[qC (nQ a)]⟩),(2,some ⟨46,3,[qC (nQ b)]⟩),(3,some ⟨46,3,[zC]⟩)],4,18⟩
theorem mq_(a:Nat)(b:Nat):coS (a,b)=⟨[(2,.lptr 1 0 0),(3,.lptr 2 0 0),(4,.lptr 3 0 0)],[(1,some ⟨46,3,[qC (nQ a)]⟩),(2,some ⟨46,3,[qC (nQ b)]⟩),(3,some ⟨46,3,[zC]⟩)],4,18⟩:=rfl
theorem jZ_(a b:Nat)(ha:bl a≤68719476736)(hb:bl b≤68719476736):FS 286 [.agg (qC (nQ a)),.agg (qC (nQ b))] (.agg (qC (nQ (Nat.gcd a b)))):=by
 refine f_c Tryz.func286 ?_;refine r_z 3 ?_;refine aP_ (fun _:Unit=>coS (Nat.gcd a b,0)) (fun _=>True) ?_ ?_;refine ae_ (aq_ coS (fun x=>x.2) (fun x=>Nat.gcd x.1 x.2=Nat.gcd a b∧bl x.1≤68719476736∧bl x.2≤68719476736) (a,b) ⟨rfl,ha,hb⟩ ?_ ?_);simp only[mq_];exact s_e [];rintro⟨u,v⟩ ⟨hg,hu,hv⟩;simp only at hg hu hv;rw[mq_];refine ab_ (r_c 3 (br_ (nQ v)) ?_);refine a_z ?_;refine aj_ rfl (fun h=>?_) (fun h=>?_)
 have hv0:v≠0:=by
  intro e;subst e;exact absurd h (by decide)
 refine ah_ ?_;have h1:=qs_nQ (n:=u) hu (by decide);have h2:=qs_nQ (n:=v) hv (by decide);have hq:=e1_ (nQ u) (nQ v);have hov:=dJ_ (nQ u) (nQ v) (fun e=>hv0 (nQ_zero.1 e)) (by omega);have hfl:=ib_ (nQ u/ nQ v) (by omega);rw[rk_ u v hv0,m7_ u v hv0] at hfl;rw[rk_ u v hv0] at hov;have h3:=qs_nQ (n:=u/ v) (k:=68719476736) (Nat.le_trans (cM_ u v) hu) (by decide);have hmu:=bK_ (nQ v) (nQ (u/ v)) (by omega);rw[nQ_mul] at hmu;have hle:v* (u/ v)≤u:=Nat.mul_div_le u v;have h4:=qs_nQ (n:=v* (u/ v)) (k:=68719476736) (Nat.le_trans (b0_ hle) hu) (by decide);have hsu:=gz_ (nQ u) (nQ (v* (u/ v))) (by omega);rw[nQ_sub hle,show u- v* (u/ v)=u % v by have:=Nat.div_add_mod u v;omega] at hsu;refine ae_ (r_d hmix 11 ?_);refine c_s (hov) ?_;refine c_s (hfl) ?_;refine c_s (hmu) ?_;refine c_s (hsu) ?_;refine a_2 ?_;refine al_ (n_k ?_);refine⟨(v,u % v),Nat.mod_lt _ (by omega),⟨?_,hv,Nat.le_trans (b0_ (Nat.mod_le u v)) hu⟩,?_⟩;rw[←hg];show Nat.gcd v (u % v)=Nat.gcd u v;rw[Nat.gcd_comm v,Nat.gcd_comm u v,←Nat.gcd_rec];simp only[mq_];exact s_e []
 have hv0:v=0:=by
  have h1:sgZ (nQ v).num=0:=by simpa using h
  exact nQ_zero.1 (sgZ_num_eq.1 h1)
 subst hv0;rw[Nat.gcd_zero_right] at hg;refine ao_ ⟨(),trivial,?_⟩;rw[←hg];simp only[mq_];exact s_e [];rintro _ _;simp only[mq_];refine r_z 2 ?_;exact af_ (c_e (aC_ _))
def prS(t:List Rat):Nat×Nat→AState
 |(i,d)=>⟨[(0,.arr (pE t)),(3,.lptr 1 0 0),(4,.lptr 2 0 0),(13,.arr (pE t)),(14,i64 t.length),(15,i64 i)],[(1,some ⟨46,3,[qC (nQ d)]⟩),(2,some ⟨46,3,[qC 0]⟩)],3,47⟩
def prT(t:List Rat)(D:Nat):Nat×Nat→AState
 |(i,n)=>⟨[(0,.arr (pE t)),(3,.lptr 1 0 0),(4,.lptr 2 0 0),(29,.arr (pE t)),(30,i64 t.length),(31,i64 i)],[(1,some ⟨46,3,[qC (nQ D)]⟩),(2,some ⟨46,3,[qC (nQ n)]⟩)],3,47⟩
theorem no_{l:List Rat}{i:Nat}(h:i< l.length):l.drop i=coP l i::l.drop (i+1):=by
 rw[List.drop_eq_getElem_cons h];congr 1;have:=bw_ h;rw[List.getElem?_eq_getElem h] at this;exact Option.some.inj this
theorem bl_gcd(a b:Nat):bl (Nat.gcd a b)≤max (bl a) (bl b):=by
 rcases Nat.eq_zero_or_pos a with h|h
 subst h;rw[Nat.gcd_zero_left];exact Nat.le_max_right _ _;exact Nat.le_trans (b0_ (Nat.gcd_le_left b h)) (Nat.le_max_left _ _)
theorem hD_(p:List Rat)(h:ol_ p)(h0:trimQ p≠[]):FS 263 [.arr (pE p)] (.arr (pE (primP p))):=by
 obtain⟨t,ht⟩:∃t,t=trimQ p:=⟨_,rfl⟩;obtain⟨s,hs⟩:∃s,s=mxL p:=⟨_,rfl⟩;have hs1:1≤s:=by rw[hs];exact cW_ p
 have hbt:bdL t s:=fun q hq=>by rw[hs];exact c3_ p q (bp_ (by rw[←ht];exact hq))
 have htl:t.length≤p.length:=by rw[ht];exact a8_ p
 obtain⟨hsz,hpl⟩:=h;rw[←hs] at hsz;have hts:t.length* s≤p.length* s:=Nat.mul_le_mul_right _ htl;rw[Nat.add_mul] at hsz;obtain⟨D,hD⟩:∃D,D=denL t 1:=⟨_,rfl⟩;have hD0:D≠0:=by rw[hD];exact sC_ t (by decide)
 have hDb:bl D≤1+t.length* s:=by rw[hD];exact sD_ t 1 hbt
 have hDd:∀c∈t,c.den∣D:=by rw[hD];exact(k3_ t 1).2
 obtain⟨N,hN⟩:∃N,N=numL D t 0:=⟨_,rfl⟩
 have hlast:leadP p∈t:=by
  rw[ht];obtain⟨n,hn⟩:∃n,(trimQ p).length=n+1:=⟨(trimQ p).length- 1,by have:=List.length_pos_iff.2 h0;omega⟩;exact List.mem_of_getElem? (cG_ hn)
 have hNd:=(oo_ D t 0).2 (leadP p) hlast;rw[←hN] at hNd;have hi0:=intC_ne (hDd _ hlast) hD0 (fu_ h0);have hN0:N≠0:=fun e=>hi0 (by rw[e] at hNd;exact Nat.zero_dvd.1 hNd);have hNb:bl N≤s+bl D:=Nat.le_trans (b0_ (Nat.le_of_dvd (by omega) hNd)) (Nat.le_trans (rH_ _ _) (by have:=hbt _ hlast;omega));have hpr:primP p=aN_ t (nQ D/ nQ N):=by unfold primP;rw[←ht,←hD,←hN]
 rw[hpr];have hgt:∀i,i< t.length→(pE t)[((i:Nat):Int).toNat]?=some (qC (coP t i)):=fun i hi=>cS_ (bw_ hi);have hmem:∀i,i< t.length→coP t i∈t:=fun i hi=>List.mem_of_getElem? (bw_ hi);have htr:=ce_ p (by omega);rw[←ht] at htr;refine f_c Tryz.func263 ?_;refine r_z 1 ?_;refine r_c 3 (htr) ?_;refine a_z ?_;refine r_c 6 (c2_ 1 (by decide)) ?_;refine a_z ?_;refine ab_ (r_z 3 ?_);refine aw_ (fun _:Unit=>⟨[(0,.arr (pE t)),(3,.lptr 1 0 0),(4,.lptr 2 0 0)],[(1,some ⟨46,3,[qC (nQ D)]⟩),(2,some ⟨46,3,[qC 0]⟩)],3,47⟩) (fun _=>True) ?_ ?_;refine ae_ (aq_ (prS t) (fun x=>t.length- x.1) (fun x=>x.1≤t.length∧x.2≠0∧denL (t.drop x.1) x.2=D) (0,1) ⟨Nat.zero_le _,by decide,by rw[hD];rfl⟩ ?_ ?_);simp only[prS.eq_1];rw[qC0];exact s_e [(1,3),(2,4)];rintro⟨i,d⟩ ⟨hi,hd0,hd⟩;simp only at hi hd0 hd;rw[prS.eq_1];refine r_z 1 ?_;refine ab_ (aj_ rfl (fun h=>?_) (fun h=>?_));refine ah_ ?_;have hlt:i< t.length:=by simpa using h
 have hc:=hbt _ (hmem i hlt);have hcd:=bR_ (coP t i);have hcn:=(coP t i).den_nz;rw[no_ hlt] at hd;have hdD:d∣D:=by rw[←hd];exact(k3_ _ d).1
 have hdb:=b0_ (Nat.le_of_dvd (by omega) hdD);have hq1:=qs_nQ (n:=d) (k:=34359738368) (by omega) (by decide);have hq2:=qs_nQ (n:=(coP t i).den) (k:=34359738368) (by omega) (by decide);have hmu:=bK_ (nQ d) (nQ (coP t i).den) (by omega);have hco:=jZ_ d (coP t i).den (by omega) (by omega);have hg0:Nat.gcd d (coP t i).den≠0:=by have:=Nat.gcd_pos_of_pos_left (coP t i).den (Nat.pos_of_ne_zero hd0);omega
 have hgb:=bl_gcd d (coP t i).den;have hq3:=qs_nQ (n:=Nat.gcd d (coP t i).den) (k:=34359738368) (by omega) (by decide);have hq4:=cE_ (nQ d) (nQ (coP t i).den);rw[nQ_mul] at hq4 hmu;have hov:=dJ_ (nQ (d* (coP t i).den)) (nQ (Nat.gcd d (coP t i).den)) (fun e=>hg0 (nQ_zero.1 e)) (by omega);rw[rk_ _ _ hg0,rq_ _ _ hg0 (Nat.dvd_mul_right_of_dvd (Nat.gcd_dvd_left _ _) _)] at hov;refine ab_ (ae_ (s_r 4 ?_))
 first|refine aA_ (.index_l rfl rfl (by omega) (by omega) te_33.h) rfl rfl ?_|refine aA_ (.index_a rfl rfl (by omega) (hgt i hlt) rfl te_33.h) rfl rfl ?_
 first|refine aA_ (.load_l rfl rfl (hgt i hlt) TG.h TS.h (nle rfl)) rfl rfl ?_|refine aA_ (.load_a rfl (hgt i hlt) TG.h TS.h (nle rfl)) rfl rfl ?_
 refine a_z ?_;refine r_d hmix 10 ?_;refine c_s (fs_den (coP t i) (by unfold sm;omega)) ?_;refine c_s (hmu) ?_;refine c_s (fs_den (coP t i) (by unfold sm;omega)) ?_;refine c_s (hco) ?_;refine c_s (hov) ?_;refine a_1 ?_;refine al_ (n_k ?_);refine r_m 2 ?_;refine a_z ?_;refine⟨(i+1,Nat.lcm d (coP t i).den),by simp only;omega,⟨hlt,rA_ hd0 hcn,hd⟩,?_⟩;simp only[prS.eq_1];exact s_e []
 have hge:i=t.length:=by
  have:¬i< t.length:=by simpa using h
  omega
 subst hge;rw[List.drop_length] at hd;refine ao_ ⟨(),trivial,?_⟩;rw[←hd];exact s_e [];rintro _ _;refine ab_ (r_z 3 ?_);refine aw_ (fun _:Unit=>⟨[(0,.arr (pE t)),(3,.lptr 1 0 0),(4,.lptr 2 0 0)],[(1,some ⟨46,3,[qC (nQ D)]⟩),(2,some ⟨46,3,[qC (nQ N)]⟩)],3,47⟩) (fun _=>True) ?_ ?_;refine ae_ (aq_ (prT t D) (fun x=>t.length- x.1) (fun x=>x.1≤t.length∧bl x.2≤s+bl D∧numL D (t.drop x.1) x.2=N) (0,0) ⟨Nat.zero_le _,by rw[bl_zero];exact Nat.zero_le _,by rw[hN];rfl⟩ ?_ ?_);simp only[prT.eq_1];exact s_e [];rintro⟨i,n⟩ ⟨hi,hnb,hn⟩;simp only at hi hnb hn;rw[prT.eq_1];refine r_z 1 ?_;refine ab_ (aj_ rfl (fun h=>?_) (fun h=>?_));refine ah_ ?_;have hlt:i< t.length:=by simpa using h
 have hc:=hbt _ (hmem i hlt);rw[no_ hlt] at hn;have hib:=rH_ (coP t i) D;have hgb:=bl_gcd n (intC (coP t i) D);have hq1:=qs_nQ (n:=D) (k:=34359738368) (by omega) (by decide);have hmu:=bK_ (coP t i) (nQ D) (by omega);have hab:=j1_ (coP t i* nQ D);rw[mul_intC _ _ (hDd _ (hmem i hlt))] at hab;have hco:=jZ_ n (intC (coP t i) D) (by omega) (by omega);refine ab_ (ae_ (s_r 4 ?_))
 first|refine aA_ (.index_l rfl rfl (by omega) (by omega) te_33.h) rfl rfl ?_|refine aA_ (.index_a rfl rfl (by omega) (hgt i hlt) rfl te_33.h) rfl rfl ?_
 first|refine aA_ (.load_l rfl rfl (hgt i hlt) TG.h TS.h (nle rfl)) rfl rfl ?_|refine aA_ (.load_a rfl (hgt i hlt) TG.h TS.h (nle rfl)) rfl rfl ?_
 refine a_z ?_;refine r_d hmix 7 ?_;refine c_s (hmu) ?_;refine c_s (hab) ?_;refine c_s (hco) ?_;refine a_1 ?_;refine al_ (n_k ?_);refine r_m 2 ?_;refine a_z ?_;refine⟨(i+1,Nat.gcd n (intC (coP t i) D)),by simp only;omega,⟨hlt,by simp only;omega,hn⟩,?_⟩;simp only[prT.eq_1];exact s_e []
 have hge:i=t.length:=by
  have:¬i< t.length:=by simpa using h
  omega
 subst hge;rw[List.drop_length] at hn;refine ao_ ⟨(),trivial,?_⟩;rw[←hn];exact s_e [];rintro _ _;have hq1:=qs_nQ (n:=D) (k:=34359738368) (by omega) (by decide);have hq2:=qs_nQ (n:=N) (k:=34359738368) (by omega) (by decide);have hq3:=e1_ (nQ D) (nQ N);refine r_c 6 (dJ_ (nQ D) (nQ N) (fun e=>hN0 (nQ_zero.1 e)) (by omega)) ?_;refine c_s (ee_ t (nQ D/ nQ N) (fS_ hbt (by omega)) (by unfold sm;omega) (by omega)) ?_;refine a_z ?_;exact af_ (t_e (ar_ _))
theorem kE_(f:Nat)(p r:List Rat)(h:sqfM f p=some r):FS 225 [.arr (pE p)] (.arr (pE r)):=by
 unfold sqfM at h;split at h
 case isFalse=>cases h
 case isTrue hs=>
 obtain⟨g,hg,hr⟩:=Option.bind_eq_some_iff.1 h;split at hr
 case isFalse=>cases hr
 case isTrue hg2=>
 cases hr;have hdl:=ga_ p;have hdv:=k1_ (p:=p) (q:=g);refine f_c Tryz.func225 ?_;refine r_z 1 ?_;refine r_c 11 (i5_ p hs.1 (by omega)) ?_;refine c_s (fs_Gcd f p (bz_ p) g hg hs.2 (by omega)) ?_;refine c_s (iY_ p g (mxL p) (mxL g) (c3_ p) (c3_ g) (cW_ p) (cW_ g) hg2.2.1 hg2.1 hs.2 hg2.2.2.2) ?_;refine a_z ?_;refine r_c 3 (kJ_ (divP p g).1 (ns_ hg2.2 hg2.1).1 (by omega)) ?_;refine a_z ?_;exact af_ (t_e (ar_ _))
def boS(t:List Rat)(l:List Rat):Nat×Rat→AState
 |(i,m)=>⟨[(0,.arr (pE t)),(2,.lptr 1 0 0),(3,.lptr 2 0 0),(13,.arr (pE l)),(14,i64 l.length),(15,i64 i)],[(1,some ⟨46,3,[zC]⟩),(2,some ⟨46,3,[qC m]⟩)],3,31⟩
theorem fs_bound(p:List Rat)(h:iB_ p)(h0:trimQ p≠[]):FS 295 [.arr (pE p)] (.agg (qC (d8_ p))):=by
 obtain⟨hsz,hpl⟩:=h;obtain⟨t,ht⟩:∃t,t=trimQ p:=⟨_,rfl⟩;have htr:=ce_ p (by omega);have htl:=a8_ p;rw[←ht] at htr htl;obtain⟨l,hl⟩:∃l,l=t.take (t.length- 1):=⟨_,rfl⟩;have hll:l.length=t.length- 1:=by rw[hl];simp
 have hbl:bdL l (mxL p):=fun q hq=>c3_ p q (bp_ (by rw[←ht];exact List.mem_of_mem_take (by rw[←hl];exact hq)));have hpos:0< t.length:=by rw[ht];exact List.length_pos_iff.2 h0
 have hlead:leadP t=leadP p:=by rw[ht,pz_]
 have hlb:qs (leadP p)≤mxL p:=by
  obtain⟨n,hn⟩:∃n,(trimQ p).length=n+1:=⟨(trimQ p).length- 1,by rw[←ht];omega⟩;exact c3_ p _ (bp_ (List.mem_of_getElem? (cG_ hn)))
 have hb:d8_ p=boL (leadP p) l 0+1:=by unfold d8_;rw[←ht,←hl]
 rw[hb];obtain⟨B,hB⟩:∃B,B=boL (leadP p) l 0:=⟨_,rfl⟩;rw[←hB];refine f_c Tryz.func295 ?_;refine r_z 1 ?_;refine r_c 3 (htr) ?_;refine a_z ?_;refine r_z 3 ?_;refine ab_ (s_r 7 ?_);refine a_4 ?_;refine o_0 (.sa_h rfl rfl (h:=t.length- 1) (by omega) (by simp) te_33.h (f1_ _)) ?_;refine a_z ?_;refine aw_ (fun _:Unit=>⟨[(2,.lptr 1 0 0),(3,.lptr 2 0 0)],[(1,some ⟨46,3,[zC]⟩),(2,some ⟨46,3,[qC B]⟩)],3,31⟩) (fun _=>qs B≤2* mxL p+1) ?_ ?_;refine ae_ (aq_ (boS t l) (fun x=>l.length- x.1) (fun x=>x.1≤l.length∧qs x.2≤2* mxL p+1∧boL (leadP p) (l.drop x.1) x.2=B) (0,0) ⟨Nat.zero_le _,Nat.le_trans (by decide:qs 0≤1) (Nat.le_add_left 1 _),by rw[hB];rfl⟩ ?_ ?_);simp only[boS.eq_1];rw[qC0];have e13:AV.arr (List.take (t.length- 1) (pE t))=AV.arr (pE l):=by rw[hl,kt_]
 refine s_x [(1,2),(2,3)] (fun hs=>?_) (fun hs=>?_) ?_
 ·repeat' (first|exact aH_|refine ap_ rfl ?_ ?_|exact Cv.loE hs e13 (e13▸ar_ l)|exact au_c|(refine Cv.loE hs ?_ (ad_ _);first|rfl|(simp[i64,u64,u32,bln,hll];done)|(simp[i64,u64,u32,bln,hll]<;> omega)))
 ·repeat' (first|exact az_|refine h_c ?_ ?_|exact au_e|(refine aF_ hs ?_ (aI_ _);first|(simp[gm_,e2_,hll];done)|(simp[pE,ofV,hll];done))|refine av_ ?_|exact an_|refine ai_ ?_ ?_|exact Cv.loE hs e13 (e13▸ar_ l)|exact au_c|(refine Cv.loE hs ?_ (ad_ _);first|(simp[i64,u64,u32,bln,hll];done)|(simp[i64,u64,u32,bln,hll]<;> omega)))
 ·repeat' (first|exact ShrL.nil|refine ShrL.cons rfl rfl rfl rfl (by first|rfl|(simp;done)|(simp[hll]<;> omega)) ?_)
 rintro⟨i,m⟩ ⟨hi,hm,hbo⟩;simp only at hi hm hbo;rw[boS.eq_1];refine r_z 1 ?_;refine ab_ (aj_ rfl (fun h=>?_) (fun h=>?_));refine ah_ ?_;have hlt:i< l.length:=by simpa using h
 have hgt:(pE l)[((i:Nat):Int).toNat]?=some (qC (coP l i)):=cS_ (bw_ hlt);have hc:qs (coP l i)≤mxL p:=hbl _ (List.mem_of_getElem? (bw_ hlt));rw[no_ hlt] at hbo;have hq:=e1_ (coP l i) (leadP p);have hle:=kV_ t (by omega);rw[hlead] at hle;have hqa:=qs_abs (coP l i/ leadP p)
 have hbm:bdL [m,absQ (coP l i/ leadP p)] (2* mxL p+1):=by
  intro x hx;rcases List.mem_cons.1 hx with rfl|hx
  exact hm;rw[List.mem_singleton.1 hx];omega
 have hmx:=oI_ [m,absQ (coP l i/ leadP p)] (fS_ hbm (by omega)) (by simp);refine ab_ (ae_ (s_r 4 ?_));refine i_x hgt ?_;refine l_x hgt ?_;refine a_z ?_;refine r_d hmix 9 ?_;refine c_s (hle) ?_;refine c_s (dJ_ (coP l i) (leadP p) (fu_ h0) (by omega)) ?_;refine c_s (j1_ (coP l i/ leadP p)) ?_;refine a_1 ?_;refine o_1 (.callS1 rfl rfl rfl (.shut rfl d_n (.nil)) rfl (hmx)) ?_;refine a_1 ?_;refine al_ (n_k ?_);refine r_m 2 ?_;refine a_z ?_;refine⟨(i+1,maxL [m,absQ (coP l i/ leadP p)]),by simp only;omega,⟨hlt,maxL_le hbm (Nat.le_add_left 1 _),hbo⟩,?_⟩;simp only[boS.eq_1];exact s_e []
 have hge:i=l.length:=by
  have:¬i< l.length:=by simpa using h
  omega
 subst hge;rw[List.drop_length] at hbo;have hbo':m=B:=hbo;subst hbo';refine ao_ ⟨(),hm,?_⟩;exact s_e [];rintro _ hq;have h1:qs 1=1:=by decide
 refine ab_ (r_d hmix 4 ?_);refine c_s (c2_ 1 (by decide)) ?_;refine c_s (dy_ B 1 (by omega)) ?_;refine a_1 ?_;refine al_ (n_k ?_);exact af_ (c_e (aC_ _))
def stS:List Rat×List (List Rat)→AState
 |(next,acc)=>⟨[(3,.lsl 1 0 acc.length none 1),(4,.arr (pE next))],[(1,some ⟨33,1,cE acc⟩)],2,40⟩
theorem qF_(next:List Rat)(acc:List (List Rat)):stS (next,acc)=⟨[(3,.lsl 1 0 acc.length none 1),(4,.arr (pE next))],[(1,some ⟨33,1,cE acc⟩)],2,40⟩:=rfl
theorem q7_(p:List Rat):(primP p).length≤p.length:=
 Nat.le_trans (bG_ _ _) (a8_ p)
theorem fs_sturm(f:Nat)(p:List Rat)(r:List (List Rat))(h:qD_ f p=some r)(hf:f≤1000000):FS 226 [.arr (pE p)] (.arr (cE r)):=by
 unfold qD_ at h;split at h
 case isFalse=>cases h
 case isTrue hp=>
 have hdl:=ga_ p;have hpl:=hp.2.1.2;refine f_c Tryz.func226 ?_;refine r_z 1 ?_;refine r_c 4 (hD_ p hp.2.1 hp.2.2) ?_;refine a_z ?_;refine ab_ (r_c 3 (i5_ p hp.1 (by omega)) ?_);refine a_z ?_;refine aw_ (fun _:Unit=>⟨[(3,.lsl 1 0 r.length none 1)],[(1,some ⟨33,1,cE r⟩)],2,40⟩) (fun _=>True) ?_ ?_
 ·refine ae_ (aq_ (fun x:Nat×List Rat×List Rat×List (List Rat)=>stS x.2.2) (fun x=>x.1) (fun x=>o3_ f x.1 x.2.1 x.2.2.1 x.2.2.2=some r∧x.2.2.1.length≤274877906944∧x.2.2.2.length+x.1≤1000001∧1≤x.2.2.2.length∧x.2.2.2[x.2.2.2.length- 1]?=some x.2.1) (f,primP p,bz_ p,[primP p]) ⟨h,by simp only;omega,by simp only[List.length_singleton];omega,by simp,rfl⟩ ?_ ?_)
  simp only[qF_];have:=ev_ [primP p];exact s_f [(1,3)];rintro⟨k,last,next,acc⟩ ⟨h,hn,hk,ha1,hla⟩;simp only at h hn hk ha1 hla;simp only[qF_];cases k with
  |zero=>cases h
  |succ k=>
   rw[o3_] at h;refine ab_ (r_c 3 (b5_ next (by omega)) ?_);refine a_z ?_;refine aj_ rfl (fun h1=>?_) (fun h1=>?_)
   ·have h0:trimQ next≠[]:=by
     intro e;have e2:=degP_neg.2 e;simp at h1;omega
    rw[if_neg h0] at h;split at h
    case isFalse=>cases h
    case isTrue hs=>
    have hpn:=q7_ next
    have hdv:=k1_ (p:=last) (q:=primP next);have hsl:=bG_ (divP last (primP next)).2 (-1);have hl2:=hs.2.1.2.1
    have hg1:(cE (acc++[primP next]))[0+(((acc.length+1:Nat):Int)- 2).toNat]?=some [.arr (pE last)]:=by
     rw[show 0+(((acc.length+1:Nat):Int)- 2).toNat=acc.length- 1 by omega];exact sP_ (by rw[List.getElem?_append_left (by omega)];exact hla)
    have hg2:(cE (acc++[primP next]))[0+(((acc.length+1:Nat):Int)- 1).toNat]?=some [.arr (pE (primP next))]:=by
     rw[show 0+(((acc.length+1:Nat):Int)- 1).toNat=acc.length by omega];exact sP_ (by simp)
    refine ah_ (ae_ (r_c 6 (hD_ next hs.1 h0) ?_));refine a_z ?_;refine AWp.ent (st':=⟨[(3,.lsl 1 0 (acc.length+1) none 1)],[(1,some ⟨33,1,cE (acc++[primP next])⟩)],2,40⟩) ?_ ?_
    ·have:=(cE_snoc acc (primP next)).symm
     exact s_f [(1,3)]
    refine ab_ (r_d hmix 18 ?_);refine a_5 ?_
    first|refine aA_ (.load_l1 rfl rfl hg1 TG.h rfl) rfl rfl ?_|refine aA_ (.load_a1 rfl hg1 TG.h rfl) rfl rfl ?_
    refine a_5 ?_
    first|refine aA_ (.load_l1 rfl rfl hg2 TG.h rfl) rfl rfl ?_|refine aA_ (.load_a1 rfl hg2 TG.h rfl) rfl rfl ?_
    refine c_s (iY_ last (primP next) (mxL last) (mxL (primP next)) (c3_ _) (c3_ _) (cW_ _) (cW_ _) hs.2.1.1 hs.2.2 hs.2.1.2.1 hs.2.1.2.2) ?_;refine a_5 ?_;refine al_ (n_k ?_);refine r_m 4 ?_;refine c_s (c2_ (-1) (by decide)) ?_;refine c_s (ee_ (divP last (primP next)).2 (-1) (ns_ hs.2.1 hs.2.2).2 (by decide) (by omega)) ?_;refine a_z ?_;refine⟨(k,primP next,aN_ (divP last (primP next)).2 (-1),acc++[primP next]),Nat.lt_succ_self k,⟨h,by simp only;omega,by simp only[List.length_append,List.length_singleton];omega,by simp,by simp⟩,?_⟩;have hla:(acc++[primP next]).length=acc.length+1:=by simp
    simp only[qF_,hla];exact s_f []
   ·have h0:trimQ next=[]:=by
     refine degP_neg.1 ?_;simp at h1;omega
    rw[if_pos h0] at h;cases h;refine ao_ ⟨(),trivial,?_⟩;exact s_f []
 rintro _ _;refine r_z 2 ?_;exact af_ (Fin.tmpS rfl rfl rfl (by simp) (ev_ r))
def chS(ch:List (List Rat))(g:Nat)(cap:List AV):Nat×Int×Int→AState
 |(i,n,last)=>⟨[(1,.clos g [] cap),(5,i64 n),(6,i64 last),(10,.arr (cE ch)),(11,i64 ch.length),(12,i64 i)],[],1,30⟩
theorem mz_(ch:List (List Rat))(g:Nat)(cap:List AV)(i:Nat)(n:Int)(last:Int):chS ch g cap (i,n,last)=⟨[(1,.clos g [] cap),(5,i64 n),(6,i64 last),(10,.arr (cE ch)),(11,i64 ch.length),(12,i64 i)],[],1,30⟩:=rfl
theorem j0_(ch:List (List Rat))(g:Nat)(cap:List AV)(sg:List Rat→Int)(hcap:∀c∈cap,Closed c)(hsg:∀q∈ch,-1≤sg q∧sg q≤1)(hl:ch.length≤274877906944)(hg:∀q∈ch,FS g ((.arr (pE q)::cap).map coe) (i64 (sg q))):FS 227 [.arr (cE ch),.clos g [] cap] (i64 (chL (ch.map sg) 0 0)):=by
 refine f_n Tryz.func227 ?_ ?_;exact aa_ (gK_ ch) (aa_ (aG_ ac_ hcap) ac_);refine r_z 1 ?_;refine r_z 2 ?_;refine ab_ (r_z 3 ?_);obtain⟨R,hR⟩:∃R,R=chL (ch.map sg) 0 0:=⟨_,rfl⟩;rw[←hR];refine aw_ (fun _:Unit=>⟨[(5,i64 R)],[],1,30⟩) (fun _=>True) ?_ ?_;refine ae_ (aq_ (chS ch g cap) (fun x=>ch.length- x.1) (fun x=>x.1≤ch.length∧0≤x.2.1∧x.2.1≤x.1∧ -1≤x.2.2∧x.2.2≤1∧chL ((ch.drop x.1).map sg) x.2.1 x.2.2=R) (0,0,0) ⟨Nat.zero_le _,by decide,by decide,by decide,by decide,by rw[hR];rfl⟩ ?_ ?_);simp only[mz_];exact s_x [] (fun hs=>e_4) (fun hs=>e_12);rintro⟨i,n,last⟩ ⟨hi,hn0,hn1,hl0,hl1,hc⟩;simp only at hi hn0 hn1 hl0 hl1 hc;rw[mz_];refine r_z 1 ?_;refine ab_ (aj_ rfl (fun h=>?_) (fun h=>?_));refine ah_ ?_;have hlt:i< ch.length:=by simpa using h
 obtain⟨q,hq⟩:∃q,ch[i]?=some q:=⟨_,List.getElem?_eq_getElem hlt⟩;have hqm:=List.mem_of_getElem? hq;have hgt:(cE ch)[((i:Nat):Int).toNat]?=some [.arr (pE q)]:=sP_ hq
 have hd:ch.drop i=q::ch.drop (i+1):=by
  rw[List.drop_eq_getElem_cons hlt];rw[List.getElem?_eq_getElem hlt] at hq;rw[Option.some.inj hq]
 rw[hd,List.map_cons,chL] at hc;have hs2:=hsg q hqm;refine ab_ (ae_ (s_r 3 ?_));refine i_x hgt ?_;refine l_1 hgt ?_;refine a_z ?_;refine r_c 4 (hg q hqm) ?_;refine a_z ?_;refine r_z 2 ?_;refine aj_ rfl (fun h1=>?_) (fun h1=>?_);have hne:sg q≠0:=by simpa using h1
 rw[if_pos hne] at hc;refine ab_ (r_z 4 ?_);refine aj_ rfl (fun h2=>?_) (fun h2=>?_);have he:sg q= -last:=by simpa using h2
 rw[if_pos he] at hc;refine r_m 3 ?_;refine a_z ?_;refine r_m 2 ?_;refine a_z ?_;refine r_m 2 ?_;refine a_z ?_;refine⟨(i+1,n+1,sg q),by simp only;omega,⟨hlt,by simp only;omega,by simp only;omega,hs2.1,hs2.2,hc⟩,?_⟩;simp only[mz_];exact s_x [] (fun hs=>e_4) (fun hs=>e_12);have he:¬sg q= -last:=by simpa using h2
 rw[if_neg he] at hc;refine ah_ (r_m 2 ?_);refine a_z ?_;refine r_m 2 ?_;refine a_z ?_;refine⟨(i+1,n,sg q),by simp only;omega,⟨hlt,hn0,by simp only;omega,hs2.1,hs2.2,hc⟩,?_⟩;simp only[mz_];exact s_x [] (fun hs=>e_4) (fun hs=>e_12);have hne:sg q=0:=by simpa using h1
 rw[if_neg (fun e=>e hne)] at hc;refine ah_ (r_m 2 ?_);refine a_z ?_;refine⟨(i+1,n,last),by simp only;omega,⟨hlt,hn0,by simp only;omega,hl0,hl1,hc⟩,?_⟩;simp only[mz_];exact s_x [] (fun hs=>e_4) (fun hs=>e_12)
 have hge:i=ch.length:=by
  have:¬i< ch.length:=by simpa using h
  omega
 subst hge;rw[List.drop_length] at hc;have hc':n=R:=hc;subst hc';refine ao_ ⟨(),trivial,?_⟩;exact s_e [];rintro _ _;refine r_z 2 ?_;exact af_ (t_e (ad_ _))
theorem pQ_(q:List Rat)(h0:trimQ q≠[])(hl:q.length≤274877906944):FS 228 [.arr (pE q)] (i64 (sgI q)):=by
 have hd:¬degP q< 0:=fun e=>h0 (degP_neg.1 e);have hb:=gS_ (leadP q).num;refine f_c Tryz.func228 ?_;refine r_z 1 ?_;refine ab_ (r_c 4 (b5_ q (by omega)) ?_);refine a_z ?_;refine aj_ rfl (fun h=>?_) (fun h=>?_);have h1:degP q % 2=1:=by simpa using h
 refine r_c 5 (kV_ q (by omega)) ?_;refine c_s (br_ (leadP q)) ?_;refine a_z ?_;refine af_ (aD_ rfl ?_ ?_);unfold sgI;rw[if_pos h1];rfl;exact ad_ _;have h1:¬degP q % 2=1:=by simpa using h
 refine ah_ (r_c 4 (kV_ q (by omega)) ?_);refine c_s (br_ (leadP q)) ?_;refine a_z ?_;refine af_ (aD_ rfl ?_ ?_);unfold sgI;rw[if_neg h1];exact ad_ _
theorem iZ_(f:Nat)(p:List Rat)(c:Cnt)(h:ek_ f p=some c)(hf:f≤1000000):FS 190 [.arr (pE p)] (kA c):=by
 unfold ek_ at h;obtain⟨s,hs,h2⟩:=Option.bind_eq_some_iff.1 h;obtain⟨ch,hch,h3⟩:=Option.bind_eq_some_iff.1 h2;split at h3
 case isFalse=>cases h3
 case isTrue hk=>
 cases h3;have hcs:=j0_ ch 228 [] sgI ac_ (fun q _=>sgI_abs q) hk.2.1 (fun q hq=>pQ_ q (hk.1 q hq).1 (hk.1 q hq).2);refine f_c Tryz.func190 ?_;refine r_z 1 ?_;refine r_c 5 (kE_ f p s hs) ?_;refine a_z ?_;refine r_c 9 (fs_sturm f s ch hch hf) ?_;refine a_z ?_;refine r_c 9 (hcs) ?_;refine a_z ?_;refine r_z 2 ?_;exact af_ (Fin.tmpP rfl rfl rfl (mu_ _))
theorem fs_upto1(q:List Rat)(x:Rat)(h:dv_ q x):FS 229 [.arr (pE q),bQ x] (i64 (sgE x q)):=by
 refine f_c Tryz.func229 ?_;refine r_z 1 ?_;refine r_c 5 (fa_ q x h) ?_;refine c_s (br_ (evalP q x)) ?_;refine a_z ?_;exact af_ (t_e (ad_ _))
theorem gW_(c:Cnt)(x:Rat)(h:okUp c x):FS 192 [kA c,.agg (qC x)] (i64 (uptoV c x)):=by
 have hcs:=j0_ c.ch 229 [bQ x] (sgE x) (aa_ (bj_ x) ac_) (fun q _=>gS_ _) h.1.2.1 (fun q hq=>fs_upto1 q x (h.2 q hq));have hb:=hP_ (x:=x) h.1;unfold uptoV at hb⊢;refine f_c Tryz.func192 ?_;refine r_z 2 ?_;refine AWp.ent (st':=⟨[(0,kA c),(3,bQ x)],[],1,16⟩) ?_ ?_;exact s_e [];refine ab_ (r_d hmix 12 ?_);refine c_s (hcs) ?_;refine a_2 ?_;refine al_ (n_k ?_);exact af_ (t_e (ad_ _))
theorem fx_(c:Cnt)(x:Rat)(h:okBe c x):FS 191 [kA c,.agg (qC x)] (i64 (cz_ c x)):=by
 have hb:=hP_ (x:=x) h.1.1;refine f_c Tryz.func191 ?_;refine r_z 2 ?_;refine r_c 4 (gW_ c x h.1) ?_;refine a_z ?_;refine aP_ (fun n:Int=>⟨[(5,i64 n)],[],1,20⟩) (fun n=>n=cz_ c x) ?_ ?_;refine ab_ (r_d hmix 8 ?_);refine c_s (fa_ c.p x h.2) ?_;refine c_s (br_ (evalP c.p x)) ?_;refine a_1 ?_;refine al_ (n_k ?_);refine aj_ rfl (fun h1=>?_) (fun h1=>?_)
 have h0:evalP c.p x=0:=by
  have:sgZ (evalP c.p x).num=0:=by simpa using h1
  exact sgZ_num_eq.1 this
 refine r_m 3 ?_;refine a_z ?_;refine⟨uptoV c x- 1,by unfold cz_;rw[if_pos h0],?_⟩;exact s_e []
 have h0:evalP c.p x≠0:=by
  intro e;have:¬sgZ (evalP c.p x).num=0:=by simpa using h1
  exact this (sgZ_num_eq.2 e)
 refine ah_ ⟨uptoV c x,by unfold cz_;rw[if_neg h0],?_⟩;exact s_e [];rintro n rfl;refine r_z 2 ?_;exact af_ (t_e (ad_ _))
theorem nb_(c:Cnt)(i:Int)(x:Rat)(h:okBe c x):FS 268 [plA c i,.agg (qC x)] (i64 (plC c i x)):=by
 refine f_n Tryz.func268 ?_ ?_;exact aa_ (bA_ c i) (aa_ (aC_ x) ac_);refine r_z 2 ?_;refine ab_ (ab_ (r_d hmix 7 ?_));refine c_s (fx_ c x h) ?_;refine a_1 ?_;refine al_ (n_k ?_);refine aw_ (fun _:Unit=>⟨[],[],1,36⟩) (fun _=>plC c i x=1) ?_ ?_;refine ae_ (r_z 7 ?_);refine aj_ rfl (fun h1=>?_) (fun h1=>?_);have h2:i< cz_ c x:=by simpa using h1
 refine r_z 1 ?_;refine af_ (aD_ rfl ?_ ?_);unfold plC;rw[if_pos h2];rfl;exact ad_ _;have h2:¬i< cz_ c x:=by simpa using h1
 by_cases h3:cz_ c x=i;refine ab_ (r_d hmix 17 ?_);refine a_7 ?_;refine y_g rfl (by simp[h3]) (.move rfl) ?_;refine y_g rfl (by simp[h3]) (.nilCheck rfl rfl) ?_
 first|refine y_g rfl (by simp[h3]) (.fieldAddr_l rfl TF.h (by decide)) ?_|refine y_g rfl (by simp[h3]) (.fieldAddr_a rfl TF.h (by decide)) ?_
 first|refine y_g rfl (by simp[h3]) (.load_l1 rfl rfl rfl TG.h rfl) ?_|refine y_g rfl (by simp[h3]) (.load_a1 rfl rfl TG.h rfl) ?_
 first|refine y_g rfl (by simp[h3]) (.load_l rfl rfl rfl TG.h TS.h (nle rfl)) ?_|refine y_g rfl (by simp[h3]) (.load_a rfl rfl TG.h TS.h (nle rfl)) ?_
 refine y_g rfl (by simp[h3]) (.call rfl rfl rfl (gW_ c x h.1)) ?_;refine y_g rfl (by simp[h3]) (.move rfl) ?_;refine y_g rfl (by simp[h3]) (.bin rfl rfl aU_) ?_;refine o_0 (.pickT rfl (by simp[h3]) rfl) ?_;refine a_1 ?_;refine al_ (n_k ?_);refine aj_ rfl (fun h4=>?_) (fun h4=>?_);have h5:cz_ c x< uptoV c x:=by simpa using h4
 refine r_z 1 ?_;refine af_ (aD_ rfl ?_ ?_);unfold plC;rw[if_neg h2,if_pos ⟨h3,h5⟩];rfl;exact ad_ _;have h5:¬cz_ c x< uptoV c x:=by simpa using h4
 refine ah_ ⟨(),by unfold plC;rw[if_neg h2,if_neg fun e=>h5 e.2],?_⟩;exact s_e [];refine ab_ (r_d hmix 17 ?_);refine a_7 ?_;refine n_g rfl (by simp[h3]) ?_;refine n_g rfl (by simp[h3]) ?_;refine n_g rfl (by simp[h3]) ?_;refine n_g rfl (by simp[h3]) ?_;refine n_g rfl (by simp[h3]) ?_;refine n_g rfl (by simp[h3]) ?_;refine n_g rfl (by simp[h3]) ?_;refine n_g rfl (by simp[h3]) ?_;refine o_0 (.pickF rfl (by simp[h3]) rfl) ?_;refine a_1 ?_;refine al_ (n_k ?_);refine cF ?_;refine ah_ ⟨(),by unfold plC;rw[if_neg h2,if_neg fun e=>h3 e.1],?_⟩;exact s_e [];rintro _ hr;refine r_z 1 ?_;refine af_ (aD_ rfl ?_ ?_);rw[hr];rfl;exact ad_ _
def hiV(c:Cnt)(step:Rat):Rat:=ceilQ (d8_ c.p/ step)
def okDown(c:Cnt)(step:Rat)(lo:Rat):Prop:=iB_ c.p∧trimQ c.p≠[]∧step≠0∧qs (d8_ c.p)+qs step≤549755813888∧qs lo+qs step≤549755813888∧okBe c (lo* step)
instance (c:Cnt) (step lo:Rat):Decidable (okDown c step lo):=inferInstanceAs (Decidable (_∧_∧_∧_∧_∧_))
def downM(f:Nat)(c:Cnt)(i:Int)(step:Rat):Option (Rat×Bool):=
 (biM c i step f (-hiV c step) (hiV c step)).bind fun lo=>if okDown c step lo then some (lo* step,plC c i (lo* step)==0) else none
def dnS(c:Cnt)(i:Int)(step:Rat):Rat×Rat→AState
 |(lo,hi)=>⟨[(0,plA c i),(3,.lptr 1 0 0),(4,.lptr 2 0 0),(6,.lptr 3 0 0),(7,.lptr 4 0 0),(8,.lptr 5 0 0)],[(1,some ⟨46,3,[qC step]⟩),(2,some ⟨46,3,[zC]⟩),(3,some ⟨46,3,[qC hi]⟩),(4,some ⟨46,3,[qC lo]⟩),(5,some ⟨46,3,[qC 2]⟩)],6,52⟩
theorem fs_down(f:Nat)(c:Cnt)(i:Int)(step:Rat)(r:Rat×Bool)(h:downM f c i step=some r):FS 289 [plA c i,.agg (qC step)] (.tup [.agg (qC r.1),bln r.2]):=by
 unfold downM at h;obtain⟨l,hl,h2⟩:=Option.bind_eq_some_iff.1 h;split at h2
 case isFalse=>cases h2
 case isTrue hk=>
 cases h2;obtain⟨k1,k2,k3,k4,k5,k6⟩:=hk;have hq:=e1_ (d8_ c.p) step;refine f_n Tryz.func289 ?_ ?_;exact aa_ (bA_ c i) (aa_ (aC_ step) ac_);refine r_z 3 ?_;refine ab_ (r_d hmix 13 ?_);refine c_s (fs_bound c.p k1 k2) ?_;refine c_s (dJ_ (d8_ c.p) step k3 k4) ?_;refine c_s (r5_ (d8_ c.p/ step) (by omega)) ?_;refine a_2 ?_;refine al_ (n_k ?_);refine r_c 4 (hE_ (ceilQ (d8_ c.p/ step))) ?_;refine a_z ?_;refine r_c 3 (c2_ 2 (by decide)) ?_;refine a_z ?_;refine aP_ (fun hi:Rat=>dnS c i step (l,hi)) (fun _=>True) ?_ ?_
 ·refine ae_ (aq_ (fun x:Nat×Rat×Rat=>dnS c i step x.2) (fun x=>x.1) (fun x=>biM c i step x.1 x.2.1 x.2.2=some l) (f,-hiV c step,hiV c step) hl ?_ ?_)
  simp only[dnS.eq_1,hiV];exact s_e [(2,4),(3,6),(4,7),(5,8)];rintro⟨f,lo,hi⟩ h;simp only at h;simp only[dnS.eq_1];cases f with
  |zero=>cases h
  |succ f=>
   rw[biM] at h;split at h
   case isFalse=>cases h
   case isTrue hs=>
   obtain⟨s1,s2,s3⟩:=hs;refine ab_ (r_c 6 (gz_ hi lo (sm2 s2 s1)) ?_);refine c_s (c2_ 1 (by decide)) ?_;refine c_s (l4_ (hi- lo) 1 s3 (by decide)) ?_;refine a_z ?_;refine aj_ rfl (fun h1=>?_) (fun h1=>?_)
   ·have h2:0< cmpQ (hi- lo) 1:=by simpa using h1
    rw[if_pos h2] at h;split at h
    case isFalse=>cases h
    case isTrue ht=>
    obtain⟨t1,t2⟩:=ht;have hq1:=fN_ lo hi;have hq2:qs 2=2:=by decide
    have hq3:=e1_ (lo+hi) 2;unfold sm at s1 s2;refine ah_ (ae_ (ab_ (r_d hmix 8 ?_)));refine c_s (dy_ lo hi (by omega)) ?_;refine c_s (dJ_ (lo+hi) 2 (by decide) (by omega)) ?_;refine c_s (ib_ ((lo+hi) / 2) (by omega)) ?_;refine a_2 ?_;refine al_ (n_k ?_);refine r_c 6 (bK_ (((lo+hi) / 2).floor:Rat) step t1) ?_;refine c_s (nb_ c i ((((lo+hi) / 2).floor:Rat) * step) t2) ?_;refine a_z ?_;refine aj_ rfl (fun h3=>?_) (fun h3=>?_);have h4:0≤plC c i ((((lo+hi) / 2).floor:Rat) * step):=by simpa using h3
    rw[if_pos h4] at h;refine r_m 2 ?_;refine a_z ?_;refine⟨(f,(((lo+hi) / 2).floor:Rat),hi),Nat.lt_succ_self f,h,?_⟩;simp only[dnS.eq_1];exact s_e [];have h4:¬0≤plC c i ((((lo+hi) / 2).floor:Rat) * step):=by simpa using h3
    rw[if_neg h4] at h;refine r_m 2 ?_;refine a_z ?_;refine⟨(f,lo,(((lo+hi) / 2).floor:Rat)),Nat.lt_succ_self f,h,?_⟩;simp only[dnS.eq_1];exact s_e []
   have h2:¬0< cmpQ (hi- lo) 1:=by simpa using h1
   rw[if_neg h2] at h;cases h;refine ao_ ⟨hi,trivial,?_⟩;simp only[dnS.eq_1];exact s_e []
 rintro hi _;simp only[dnS.eq_1];refine r_c 4 (bK_ l step k5) ?_;refine a_z ?_;refine ab_ (r_d hmix 7 ?_);refine c_s (nb_ c i (l* step) k6) ?_;refine a_3 ?_;refine al_ (n_k ?_);refine af_ (Fin.many ⟨_,_,rfl,⟨_,_,_,_,_,rfl,rfl,rfl,.inl ⟨TG.h,_,TS.h,nle rfl,rfl⟩⟩,⟨_,_,rfl,rfl,rfl⟩⟩ (nle rfl) ?_);exact ai_ (ak_ ax_ (aC_ _)) (ai_ (ak_ ax_ (ad_ _)) an_)
def spanM(f:Nat)(c:Cnt)(i:Int)(k:Int):Option Sp:=
 (downM f c i (fineQ (wi k 256))).bind fun r=>if r.2 then some (r.1,r.1) else if qs r.1+qs (fineQ (wi k 256))≤549755813888 then some (r.1,r.1+fineQ (wi k 256)) else none
theorem fs_span(f:Nat)(c:Cnt)(i:Int)(k:Int)(s:Sp)(h:spanM f c i k=some s):FS 266 [plA c i,i64 k] (.agg (spC s.1 s.2)):=by
 unfold spanM at h;obtain⟨⟨at',ex⟩,hd,h2⟩:=Option.bind_eq_some_iff.1 h;refine f_n Tryz.func266 ?_ ?_;exact aa_ (bA_ c i) (aa_ (ad_ _) ac_);refine r_z 1 ?_;refine r_c 4 (i4_ k) ?_;refine a_z ?_;refine r_c 9 (fs_down f c i (fineQ (wi k 256)) (at',ex) hd) ?_;refine a_z ?_;refine ab_ (r_z 1 ?_);refine aj_ rfl (fun h1=>?_) (fun h1=>?_);subst h1;rw[if_pos rfl] at h2;cases h2;refine r_c 3 (fs_At at') ?_;refine a_z ?_;exact af_ (c_e (aY_ _ _))
 ·subst h1
  rw[if_neg (show¬false=true by decide)] at h2;split at h2
  case isFalse=>cases h2
  case isTrue hs=>
  cases h2;refine ah_ (ab_ (r_d hmix 6 ?_));refine c_s (dy_ at' (fineQ (wi k 256)) hs) ?_;refine a_2 ?_;refine al_ (n_k ?_);exact af_ (c_e (aY_ _ _))
def midV(s:Sp):Rat:=(s.1+s.2) * fineQ 1
def nextS(c:Cnt)(i:Int)(s:Sp):Sp:=if plC c i (midV s)=0 then(midV s,midV s) else if plC c i (midV s)=1 then(midV s,s.2) else(s.1,midV s)
def hA_(c:Cnt)(s:Sp):Prop:=smS s∧okBe c (midV s)
instance (c:Cnt) (s:Sp):Decidable (hA_ c s):=inferInstanceAs (Decidable (_∧_))
def closV(c:Cnt)(i:Int)(s0:Sp):Nat→Sp
 |0=>s0
 |k+1=>nextS c i (closV c i s0 k)
def closT(c:Cnt)(i:Int)(s0:Sp)(k:Nat):Option (List AV):=some [.agg (spC (closV c i s0 k).1 (closV c i s0 k).2)]
abbrev bPl(c:Cnt)(i:Int):AV:= .aptr [[plA c i]] 0 0
theorem bI_(c:Cnt)(i:Int):Closed (bPl c i):=aL_ (aa_ (bA_ c i) ac_)
theorem iS_(f:Nat)(c:Cnt)(i:Int)(s0:Sp)(K:Nat)(h:spanM f c i 0=some s0)(hok:∀k,k< K→hA_ c (closV c i s0 k)):GSpecB Tryz.prog 265 [bPl c i] (closT c i s0) K:=by
 refine GSpecB.enter Tryz.func265 rfl (by kernel_rfl) rfl rfl rfl ?_ ?_ rfl ?_;exact aa_ (bI_ c i) ac_;intro k xs h;cases h;exact aa_ (aY_ _ _) ac_;intro ll N hN E;refine GWp.seq ?_;refine GWp.lift ?_;refine r_m 4 ?_;refine c_s (fs_span f c i 0 s0 h) ?_;refine a_z ?_;refine GWp.block ?_;refine GWp.loopS (fun k:Nat=>⟨[(0,.v (.func (.yield ll) #[] #[])),(1,bPl c i),(3,.lptr 1 0 0)],[(1,some ⟨74,6,[spC (closV c i s0 k).1 (closV c i s0 k).2]⟩)],2,25⟩) (fun k=>k) (fun k=>N+1- k) (fun k=>k≤N) 0 (Nat.zero_le _) rfl ?_ ?_;have:=bI_ c i;exact s_f [(1,3)];intro k hk;refine GWp.seq ?_;refine GWp.seq ?_;refine GWp.regY (fr2:=[(0,.v (.func (.yield ll) #[] #[])),(1,bPl c i),(3,.lptr 1 0 0),(7,.v (.func (.yield ll) #[] #[])),(8,.agg (spC (closV c i s0 k).1 (closV c i s0 k).2))]) (hp2:=[(1,some ⟨74,6,[spC (closV c i s0 k).1 (closV c i s0 k).2]⟩)]) (nx2:=2) 2 rfl rfl rfl rfl rfl rfl ?_ rfl rfl rfl ?_ ?_ ?_;refine o_0 (.move rfl) ?_
 first|refine aA_ (.load_l rfl rfl rfl TG.h TS.h (nle rfl)) rfl rfl ?_|refine aA_ (.load_a rfl rfl TG.h TS.h (nle rfl)) rfl rfl ?_
 refine al_ ?_;exact s_y [] (fun hs=>au_f) (fun hs=>au_h);rotate_left 2;intro go;refine al_ ?_;rotate_left;rfl;exact aa_ (aY_ _ _) ac_;cases go with
 |false=>
  refine GWp.cond rfl (fun h=>?_) (fun h=>?_);cases h;exact GWp.exit ⟨.inl rfl,fun h=>by cases h⟩
 |true=>
  refine GWp.bound fun hk1=>?_;refine GWp.cond rfl (fun h=>?_) (fun h=>?_);rotate_left;cases h;refine GWp.skip ?_;have hn:=hok k (by omega);obtain⟨hs,hb⟩:=hn;have hnx:closV c i s0 (k+1)=nextS c i (closV c i s0 k):=rfl;obtain⟨s,hsd⟩:∃s,s=closV c i s0 k:=⟨_,rfl⟩;rw[←hsd] at hs hb hnx⊢;refine GWp.lift ?_;refine ae_ (r_c 4 (pU_ s.1 s.2 hs.1 hs.2) ?_);refine a_z ?_;refine r_c 3 (nb_ c i (midV s) hb) ?_;refine al_ ?_;refine ae_ (r_z 2 ?_);refine aj_ rfl (fun h1=>?_) (fun h1=>?_);have h2:plC c i (midV s)=0:=by simpa using h1
  have hx:closV c i s0 (k+1)=(midV s,midV s):=by rw[hnx];unfold nextS;rw[if_pos h2]
  refine r_m 3 ?_;refine c_s (fs_At (midV s)) ?_;refine a_z ?_;refine⟨rfl,k+1,by omega,hk1,rfl,?_⟩;simp only[hx];have:=bI_ c i;exact s_f [];have h2:¬plC c i (midV s)=0:=by simpa using h1
  refine r_z 2 ?_;refine aj_ rfl (fun h3=>?_) (fun h3=>?_);have h4:plC c i (midV s)=1:=by simpa using h3
  have hx:closV c i s0 (k+1)=(midV s,s.2):=by rw[hnx];unfold nextS;rw[if_neg h2,if_pos h4]
  refine r_m 3 ?_;refine a_z ?_;refine⟨rfl,k+1,by omega,hk1,rfl,?_⟩;simp only[hx];have:=bI_ c i;exact s_f [];have h4:¬plC c i (midV s)=1:=by simpa using h3
  have hx:closV c i s0 (k+1)=(s.1,midV s):=by rw[hnx];unfold nextS;rw[if_neg h2,if_neg h4]
  refine r_m 3 ?_;refine a_z ?_;refine⟨rfl,k+1,by omega,hk1,rfl,?_⟩;simp only[hx];have:=bI_ c i;exact s_f []
theorem i1_(c:Cnt)(i:Int):FS 231 [plA c i] (.clos 265 [] [bPl c i]):=by
 refine f_n Tryz.func231 ?_ ?_;exact aa_ (bA_ c i) ac_;refine r_z 2 ?_;refine r_z 2 ?_;refine af_ (⟨.inr rfl,[_],⟨_,[],rfl,rfl,rfl⟩,?_⟩);exact Cv.clos an_ (ai_ (Cv.boxp ax_ rfl (fun _ _ h=>by cases h) rfl (aa_ (bA_ c i) ac_)) an_)
def i7_(t:Nat→Option Bool):Nat→Nat→Option Nat
 |0,_=>none
 |f+1,k=>match t k with
  |some true=>some k
  |some false=>i7_ t f (k+1)
  |none=>none
theorem eM_{t:Nat→Option Bool}:∀{f k0 k:Nat},i7_ t f k0=some k→t k=some true∧k0≤k∧∀j,k0≤j→j< k→t j=some false
 |0,_,_,h=>by cases h
 |f+1,k0,k,h=>by
  rw[i7_] at h;split at h;cases h;exact⟨by assumption,Nat.le_refl _,fun j h1 h2=>by omega⟩;obtain⟨h1,h2,h3⟩:=eM_ h;refine⟨h1,by omega,fun j hj1 hj2=>?_⟩;by_cases e:j=k0;rw[e];assumption;exact h3 j (by omega) hj2;cases h
def jr_(c:Cnt)(i:Int)(s:Sp):Option Bool:=if okBe c s.1∧okUp c s.2∧hA_ c s∧ -4611686018427387904≤i∧i≤4611686018427387904 then some (decide (cz_ c s.1=i∧uptoV c s.2=i+1)) else none
def alS(c:Cnt)(i:Int):Nat→AState
 |k=>⟨[(1,bPl c i),(2,.lptr 1 0 0),(3,.lptr 2 0 0),(6,.clos 265 [] [bPl c i])],[(1,some ⟨74,6,[zC++zC]⟩),(2,some ⟨74,6,[zC++zC]⟩)],3,37⟩
def alX(s:Sp):Unit→AState
 |u=>⟨[(2,.lptr 1 0 0),(3,.lptr 2 0 0)],[(1,some ⟨74,6,[zC++zC]⟩),(2,some ⟨74,6,[spC s.1 s.2]⟩)],3,37⟩
theorem fs_alone(f g:Nat)(c:Cnt)(i:Int)(s0:Sp)(kk:Nat)(h:spanM f c i 0=some s0)(hk:i7_ (fun k=>jr_ c i (closV c i s0 k)) g 0=some kk):FS 291 [plA c i] (.agg (spC (closV c i s0 kk).1 (closV c i s0 kk).2)):=by
 obtain⟨h1,_,h2⟩:=eM_ hk
 have hok:∀k,k≤kk→okBe c (closV c i s0 k).1∧okUp c (closV c i s0 k).2∧hA_ c (closV c i s0 k)∧ -4611686018427387904≤i∧i≤4611686018427387904:=fun k hk=>by
  have:∃b,jr_ c i (closV c i s0 k)=some b:=by
   by_cases e:k=kk;rw[e];exact⟨_,h1⟩;exact⟨_,h2 k (Nat.zero_le _) (by omega)⟩
  obtain⟨b,hb⟩:=this;unfold jr_ at hb;split at hb;assumption;cases hb
 have hgs:=iS_ f c i s0 kk h (fun k hk=>(hok k (by omega)).2.2.1);refine f_n Tryz.func291 ?_ ?_;exact aa_ (bA_ c i) ac_;refine r_z 2 ?_;refine r_z 1 ?_;refine AWp.ent (st':=⟨[(1,bPl c i),(2,.lptr 1 0 0),(3,.lptr 2 0 0)],[(1,some ⟨74,6,[zC++zC]⟩),(2,some ⟨74,6,[zC++zC]⟩)],3,37⟩) ?_ ?_;have:=(aa_ (bA_ c i) ac_);exact s_f [(1,2),(2,3)];refine ab_ (r_c 2 (i1_ c i) ?_);refine al_ ?_;refine aw_ (alX (closV c i s0 kk)) (fun _=>True) ?_ ?_;refine ae_ (AWp.rangeFuncB (α:=Nat) (γ:=Unit) kk (alS c i) (fun k=>k) (fun k=>k≤kk) (alX (closV c i s0 kk)) (fun e _=>e= .exit 0) 0 rfl hgs rfl rfl ?_ (fun _=>⟨rfl,rfl⟩) (fun _=>rfl) (Nat.zero_le _) rfl (fun _ h=>h) ?_ ?_ ?_ ?_ ?_);intro k xs hT;cases hT;rfl;rw[alS.eq_1];have:=bI_ c i;exact s_t [];exact aa_ (bI_ c i) ac_;intro l k xs hk hT;cases hT;have hx:=hok k hk;obtain⟨s,hsd⟩:∃s,s=closV c i s0 k:=⟨_,rfl⟩;rw[←hsd] at hx⊢;obtain⟨x1,x2,x3,x4,x5⟩:=hx;show AWp _ _ _ _ ⟨[(7,.agg (spC s.1 s.2)),(1,bPl c i),(2,.lptr 1 0 0),(3,.lptr 2 0 0),(6,.clos 265 [] [bPl c i]),(1001,bPl c i),(1002,.lptr 1 0 0),(1003,.lptr 2 0 0),(1006,.clos 265 [] [bPl c i])],[(1,some ⟨74,6,[zC++zC]⟩),(2,some ⟨74,6,[zC++zC]⟩)],3,37⟩;refine r_m 2 ?_;refine a_z ?_;refine ae_ ?_;by_cases hb:cz_ c s.1=i;refine ab_ (r_d hmix 27 ?_);refine c_s (fx_ c s.1 x1) ?_;refine a_6 ?_
 first|refine y_g rfl (by simp[hb]) (.load_l1 rfl rfl rfl TG.h rfl) ?_|refine y_g rfl (by simp[hb]) (.load_a1 rfl rfl TG.h rfl) ?_
 refine y_g rfl (by simp[hb]) (.nilCheck rfl rfl) ?_
 first|refine y_g rfl (by simp[hb]) (.fieldAddr_l rfl TF.h (by decide)) ?_|refine y_g rfl (by simp[hb]) (.fieldAddr_a rfl TF.h (by decide)) ?_
 first|refine y_g rfl (by simp[hb]) (.load_l1 rfl rfl rfl TG.h rfl) ?_|refine y_g rfl (by simp[hb]) (.load_a1 rfl rfl TG.h rfl) ?_
 first|refine y_g rfl (by simp[hb]) (.fieldAddr_l rfl TF.h (by decide)) ?_|refine y_g rfl (by simp[hb]) (.fieldAddr_a rfl TF.h (by decide)) ?_
 first|refine y_g rfl (by simp[hb]) (.load_l rfl rfl rfl TG.h TS.h (nle rfl)) ?_|refine y_g rfl (by simp[hb]) (.load_a rfl rfl TG.h TS.h (nle rfl)) ?_
 refine y_g rfl (by simp[hb]) (.call rfl rfl rfl (gW_ c s.2 x2)) ?_
 first|refine y_g rfl (by simp[hb]) (.load_l1 rfl rfl rfl TG.h rfl) ?_|refine y_g rfl (by simp[hb]) (.load_a1 rfl rfl TG.h rfl) ?_
 refine y_g rfl (by simp[hb]) (.nilCheck rfl rfl) ?_
 first|refine y_g rfl (by simp[hb]) (.fieldAddr_l rfl TF.h (by decide)) ?_|refine y_g rfl (by simp[hb]) (.fieldAddr_a rfl TF.h (by decide)) ?_
 first|refine y_g rfl (by simp[hb]) (.load_l1 rfl rfl rfl TG.h rfl) ?_|refine y_g rfl (by simp[hb]) (.load_a1 rfl rfl TG.h rfl) ?_
 refine y_g rfl (by simp[hb]) (.bin rfl rfl (lf_ (by omega))) ?_;refine y_g rfl (by simp[hb]) (.bin rfl rfl a3_) ?_;refine o_0 (.pickT rfl (by simp[hb]) rfl) ?_;refine al_ (n_k ?_);refine aj_ rfl (fun h5=>?_) (fun h5=>?_);have h6:uptoV c s.2=i+1:=by simpa using h5
 have he:k=kk:=by
  refine Nat.le_antisymm hk (Nat.le_of_not_lt fun hlt=>?_);have h7:=h2 k (Nat.zero_le _) hlt;rw[←hsd] at h7;unfold jr_ at h7;rw[if_pos ⟨x1,x2,x3,x4,x5⟩] at h7;simp[hb,h6] at h7
 subst he;refine r_z 2 ?_;refine ao_ (⟨rfl,(),rfl,?_⟩);rw[←hsd];show SEntT _ ⟨[(1002,.lptr 1 0 0),(1003,.lptr 2 0 0)],[(1,some ⟨74,6,[zC++zC]⟩),(2,some ⟨74,6,[spC s.1 s.2]⟩)],3,37⟩;exact s_y [] (fun hs=>au_f) (fun hs=>au_h);have h6:¬uptoV c s.2=i+1:=by simpa using h5
 have he:k< kk:=by
  refine Nat.lt_of_le_of_ne hk fun e=>?_;subst e;rw[←hsd] at h1;unfold jr_ at h1;rw[if_pos ⟨x1,x2,x3,x4,x5⟩] at h1;simp[h6] at h1
 refine ah_ (⟨k+1,⟨he,rfl⟩,?_⟩);show SEntT _ ⟨[(1001,bPl c i),(1002,.lptr 1 0 0),(1003,.lptr 2 0 0),(1006,.clos 265 [] [bPl c i])],[(1,some ⟨74,6,[zC++zC]⟩),(2,some ⟨74,6,[zC++zC]⟩)],3,37⟩;exact s_y [] (fun hs=>au_f) (fun hs=>au_h);refine ab_ (r_d hmix 27 ?_);refine c_s (fx_ c s.1 x1) ?_;refine a_6 ?_;refine n_g rfl (by simp[hb]) ?_;refine n_g rfl (by simp[hb]) ?_;refine n_g rfl (by simp[hb]) ?_;refine n_g rfl (by simp[hb]) ?_;refine n_g rfl (by simp[hb]) ?_;refine n_g rfl (by simp[hb]) ?_;refine n_g rfl (by simp[hb]) ?_;refine n_g rfl (by simp[hb]) ?_;refine n_g rfl (by simp[hb]) ?_;refine n_g rfl (by simp[hb]) ?_;refine n_g rfl (by simp[hb]) ?_;refine n_g rfl (by simp[hb]) ?_;refine n_g rfl (by simp[hb]) ?_;refine o_0 (.pickF rfl (by simp[hb]) rfl) ?_;refine al_ (n_k ?_);refine cF ?_
 have he:k< kk:=by
  refine Nat.lt_of_le_of_ne hk fun e=>?_;subst e;rw[←hsd] at h1;unfold jr_ at h1;rw[if_pos ⟨x1,x2,x3,x4,x5⟩] at h1;simp[hb] at h1
 refine ah_ (⟨k+1,⟨he,rfl⟩,?_⟩);show SEntT _ ⟨[(1001,bPl c i),(1002,.lptr 1 0 0),(1003,.lptr 2 0 0),(1006,.clos 265 [] [bPl c i])],[(1,some ⟨74,6,[zC++zC]⟩),(2,some ⟨74,6,[zC++zC]⟩)],3,37⟩;exact s_y [] (fun hs=>au_f) (fun hs=>au_h);intro k hk hT;cases hT;rintro e u rfl;exact⟨u,trivial,SEnt.refl _⟩;rintro u _;rw[alX.eq_1];refine r_z 2 ?_;exact af_ (c_e (aY_ _ _))
end Go.Proofs.YtjkddcfoolilbaaGreatDoor
