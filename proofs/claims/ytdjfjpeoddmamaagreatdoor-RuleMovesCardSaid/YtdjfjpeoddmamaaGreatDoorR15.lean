/- Part R15 of the proof. -/
import Derived.Test.YtdjfjpeoddmamaaGreatDoorR14
set_option linter.all false
namespace Go.Proofs.YtdjfjpeoddmamaaGreatDoor
open Go.Abs
set_option maxRecDepth 20000
set_option maxHeartbeats 2000000
def gcS:List Rat×List Rat→AState
 |(p,q)=>⟨[(0,.arr (pE p)),(1,.arr (pE q))],[],1,21⟩
theorem oE_(p:List Rat)(q:List Rat):gcS (p,q)=⟨[(0,.arr (pE p)),(1,.arr (pE q))],[],1,21⟩:=rfl
theorem degP_neg{l:List Rat}:degP l< 0↔trimQ l=[]:=by
 unfold degP
 constructor
 intro h;exact List.length_eq_zero_iff.1 (by omega)
 intro h;rw[h];decide
theorem fs_Gcd(f:Nat)(p q g:List Rat)(h:gcdM f p q=some g)(hp1:p.length≤274877906944)(hq1:q.length≤274877906944):FSpec Tryz.prog 269 [.arr (pE p),.arr (pE q)] (.arr (pE g)):=by
 refine f_n Tryz.func269 ?_ ?_
 exact aa_ (aj_ p) (aa_ (aj_ q) ab_)
 refine r_z 1 ?_
 refine aY_ (fun p:List Rat=>⟨[(0,.arr (pE p))],[],1,21⟩) (fun p=>smL p∧p.length≤274877906944∧g=aW_ p) ?_ ?_
 refine ag_ (aw_ (fun x:Nat×List Rat×List Rat=>gcS x.2) (fun x=>x.1) (fun x=>gcdM x.1 x.2.1 x.2.2=some g∧x.2.1.length≤274877906944∧x.2.2.length≤274877906944) (f,p,q) ⟨h,hp1,hq1⟩ ?_ ?_)
 simp only[oE_]
 exact s_e []
 rintro⟨f,p,q⟩ ⟨h,hp1,hq1⟩
 simp only at h hp1 hq1
 simp only[oE_]
 cases f with
 |zero=>cases h
 |succ f=>
  rw[gcdM] at h
  refine ac_ (r_c 3 (bo_ q (by omega)) ?_)
  refine a_z ?_
  refine ah_ rfl (fun h1=>?_) (fun h1=>?_)
  ·have hq0:trimQ q≠[]:=by
    intro e
    have e2:=degP_neg.2 e
    simp at h1;omega
   rw[if_neg hq0] at h
   split at h
   case isFalse=>cases h
   case isTrue hs=>
   have hl:=eO_ (p:=p) (q:=q)
   have hm:=f6_ (divP p q).2
   refine ae_ (ag_ (r_c 8 (es_ p q (mxL p) (mxL q) (bG_ p) (bG_ q) (bs_ p) (bs_ q) hs.1 hq0 hp1 hq1) ?_))
   refine a_z ?_
   refine r_m 5 ?_
   refine c_s (i4_ (divP p q).2 (lD_ hs hq0).2 (by omega)) ?_
   refine a_z ?_
   refine⟨(f,q,aW_ (divP p q).2),Nat.lt_succ_self f,⟨h,hq1,by simp only;omega⟩,?_⟩
   simp only[oE_]
   exact s_e []
  ·have hq0:trimQ q=[]:=by
    refine degP_neg.1 ?_
    simp at h1;omega
   rw[if_pos hq0] at h
   split at h
   case isFalse=>cases h
   case isTrue hs=>
   cases h
   refine at_ ⟨p,⟨hs,hp1,rfl⟩,?_⟩
   exact s_e []
 rintro p ⟨hs,hp1,rfl⟩
 refine r_c 3 (i4_ p hs (by omega)) ?_
 refine a_z ?_
 exact af_ (t_e (aj_ _))

theorem fG_(l:List Rat)(hl:l.length≤281474976710656):GSpec Tryz.prog 268 [bP l] (backP l):=by
 refine GSpec.enter Tryz.func268 rfl (by kernel_rfl) rfl rfl rfl ?_ ?_ rfl ?_
 exact aa_ (bb_ l) ab_
 intro k xs h
 unfold backP at h
 split at h
 cases h;exact aa_ (ad_ _) (aa_ (am_ _) ab_)
 cases h
 intro ll N E
 refine GWp.seq ?_
 refine GWp.lift ?_
 refine r_m 4 ?_
 refine a_z ?_
 refine GWp.block ?_
 refine GWp.loopS (fun m:Nat=>⟨[(0,.v (.func (.yield ll) #[] #[])),(1,bP l),(3,i64 ((m:Int)- 1))],[],1,19⟩) (fun m=>l.length- m) (fun m=>m) (fun m=>m≤l.length) l.length (Nat.le_refl _) (by simp) ?_ ?_
 exact s_e []
 intro m hm
 refine GWp.seq ?_
 refine GWp.seq ?_
 refine GWp.lift ?_
 refine r_m 2 ?_
 refine a_z ?_
 refine GWp.cond rfl (fun h=>?_) (fun h=>?_)
 ·refine GWp.skip ?_
  have hm1:1≤m:=by have:=of_decide_eq_true h;omega
  have hx':(pE l)[((m:Int)- 1).toNat]?=some (qC (coP l (m- 1))):=by rw[show((m:Int)- 1).toNat=m- 1 by omega];exact bv_ (a0_ (by omega))
  refine GWp.seq ?_
  refine GWp.block ?_
  refine GWp.seq ?_
  refine GWp.regY (fr2:=[(0,.v (.func (.yield ll) #[] #[])),(1,bP l),(3,i64 ((m:Int)- 1)),(11,.v (.func (.yield ll) #[] #[])),(12,i64 ((m:Int)- 1)),(16,.agg (qC (coP l (m- 1))))]) (hp2:=[]) (nx2:=1) 6 rfl rfl rfl rfl rfl rfl ?_ rfl rfl rfl ?_ ?_ ?_
  refine o_0 (.move rfl) ?_
  refine o_0 (.move rfl) ?_
  first|refine aM_ (.load_l1 rfl rfl rfl tg_55.h rfl) rfl rfl ?_|refine aM_ (.load_a1 rfl rfl tg_55.h rfl) rfl rfl ?_
  refine o_0 (.move rfl) ?_
  refine i_x hx' ?_
  refine l_x hx' ?_
  refine ak_ ?_
  refine SEntT.to [] rfl rfl rfl au_r (fun hs=>au_f) (fun hs=>au_h)
  rotate_left 2
  intro go
  refine o_0 (.un rfl ju_) ?_
  refine ak_ ?_
  rotate_left
  unfold backP
  rw[if_pos (by omega)]
  have e1:((l.length- 1- (l.length- m):Nat):Int)=(m:Int)- 1:=by omega
  have e2:l.length- 1- (l.length- m)=m- 1:=by omega
  rw[e1,e2]
  rfl
  exact aa_ (ad_ _) (aa_ (am_ _) ab_)
  cases go with
  |false=>
   refine GWp.cond rfl (fun h=>?_) (fun h=>?_)
   exact GWp.ret ⟨.inr rfl,fun h=>by cases h⟩
   cases h
  |true=>
   refine GWp.cond rfl (fun h=>?_) (fun h=>?_)
   cases h
   refine GWp.skip ?_
   refine GWp.lift ?_
   refine r_m 3 ?_
   refine a_z ?_
   refine⟨rfl,m- 1,by omega,by omega,by omega,?_⟩
   exact s_e []
 refine GWp.exit ⟨.inl rfl,fun _=>?_⟩
 have:m=0:=by have:=of_decide_eq_false h;omega
 subst this
 unfold backP
 rw[if_neg (by omega)]
theorem fN_(l:List Rat):FSpec Tryz.prog 220 [.arr (pE l)] (.clos 268 [] [bP l]):=by
 refine f_n Tryz.func220 ?_ ?_
 exact aa_ (aj_ l) ab_
 refine r_z 2 ?_
 refine r_z 2 ?_
 refine af_ (⟨.inr rfl,[_],⟨_,[],rfl,rfl,rfl⟩,?_⟩)
 exact Cv.clos as_ (ai_ (Cv.boxp aB_ rfl (fun _ _ h=>by cases h) rfl (aa_ (aj_ l) ab_)) as_)
def hoS(p:List Rat)(g:Nat)(cap:List AV)(w:Nat→Rat):Nat→AState
 |k=>⟨[(4,.lptr 1 0 0),(5,.aptr [[.clos g [] cap]] 0 0),(6,.lptr 2 0 0),(10,.clos 268 [] [bP p])],[(1,some ⟨35,3,[qC (w k)]⟩),(2,some ⟨35,3,[zC]⟩)],3,18⟩
theorem hoS_mk(p:List Rat)(g:Nat)(cap:List AV)(w:Nat→Rat)(k:Nat):hoS p g cap w k=⟨[(4,.lptr 1 0 0),(5,.aptr [[.clos g [] cap]] 0 0),(6,.lptr 2 0 0),(10,.clos 268 [] [bP p])],[(1,some ⟨35,3,[qC (w k)]⟩),(2,some ⟨35,3,[zC]⟩)],3,18⟩:=rfl
theorem nj_(p:List Rat)(g:Nat)(cap:List AV)(w:Nat→Rat)(hl:p.length≤281474976710656)(hcap:∀c∈cap,Closed c)(hg:∀k,k< p.length→FSpec Tryz.prog g ((.agg (qC (w k)):: .agg (qC (coP p (p.length- 1- k)))::cap).map coe) (.agg (qC (w (k+1))))):FSpec Tryz.prog 145 [.arr (pE p),.agg (qC (w 0)),.clos g [] cap] (.agg (qC (w p.length))):=by
 have hb:=fN_ p
 have hgs:=fG_ p hl
 have hcc:Closed (.clos g [] cap):=aJ_ ab_ hcap
 have hcc2:Closed (.aptr [[.clos g [] cap]] 0 0):=a8_ (aa_ hcc ab_)
 have hcl2:Closed (.clos 268 [] [bP p]):=aJ_ ab_ (aa_ (bb_ p) ab_)
 refine f_n Tryz.func145 ?_ ?_
 exact aa_ (aj_ p) (aa_ (am_ _) (aa_ hcc ab_))
 refine r_z 3 ?_
 refine AWp.ent (st':=⟨[(0,.arr (pE p)),(4,.lptr 1 0 0),(5,.aptr [[.clos g [] cap]] 0 0),(6,.lptr 2 0 0)],[(1,some ⟨35,3,[qC (w 0)]⟩),(2,some ⟨35,3,[zC]⟩)],3,18⟩) ?_ ?_
 have:=aa_ hcc ab_
 exact s_f [(1,4),(2,6)]
 refine ac_ (r_c 2 (hb) ?_)
 refine ak_ ?_
 refine aF_ (fun _:Unit=>⟨[(4,.lptr 1 0 0),(6,.lptr 2 0 0)],[(1,some ⟨35,3,[qC (w p.length)]⟩),(2,some ⟨35,3,[zC]⟩)],3,18⟩) (fun _=>True) ?_ ?_
 refine ag_ (AWp.rangeFunc (α:=Nat) (γ:=Empty) p.length (hoS p g cap w) (fun k=>k) (fun k=>k≤p.length) (fun e=>nomatch e) (fun _ e=>nomatch e) 0 rfl hgs rfl rfl ?_ (fun _=>⟨rfl,rfl⟩) (fun e=>nomatch e) (Nat.zero_le _) rfl (fun _ h=>h) ?_ ?_ ?_ ?_ (fun _ e=>nomatch e))
 intro k xs hT
 unfold backP at hT
 split at hT
 cases hT;rfl
 cases hT
 rw[hoS_mk]
 refine SEntT.to [] rfl rfl rfl au_r (fun hs=>au_f) (fun hs=>au_h)
 exact aa_ (bb_ p) ab_
 ·intro l k xs hk hT
  unfold backP at hT
  split at hT
  rotate_left
  cases hT
  rename_i hlt
  cases hT
  show AWp _ _ _ _ ⟨[(12,.agg (qC (coP p (p.length- 1- k)))),(11,i64 (p.length- 1- k:Nat)),(4,.lptr 1 0 0),(5,.aptr [[.clos g [] cap]] 0 0),(6,.lptr 2 0 0),(10,.clos 268 [] [bP p]),(1004,.lptr 1 0 0),(1005,.aptr [[.clos g [] cap]] 0 0),(1006,.lptr 2 0 0),(1010,.clos 268 [] [bP p])],[(1,some ⟨35,3,[qC (w k)]⟩),(2,some ⟨35,3,[zC]⟩)],3,18⟩
  refine r_m 2 ?_
  refine a_z ?_
  refine ag_ (r_m 5 ?_)
  refine c_s (hg k hlt) ?_
  refine a_z ?_
  refine⟨k+1,⟨hlt,rfl⟩,?_⟩
  show SEntT _ ⟨[(1004,.lptr 1 0 0),(1005,.aptr [[.clos g [] cap]] 0 0),(1006,.lptr 2 0 0),(1010,.clos 268 [] [bP p])],[(1,some ⟨35,3,[qC (w (k+1))]⟩),(2,some ⟨35,3,[zC]⟩)],3,18⟩
  refine SEntT.to [] rfl rfl rfl au_r (fun hs=>au_f) (fun hs=>au_h)
 intro k hk hT
 unfold backP at hT
 split at hT
 cases hT
 refine⟨(),trivial,?_⟩
 rw[hoS_mk]
 have h1:k=p.length:=by omega
 subst h1
 exact s_e []
 rintro _ _
 refine r_z 2 ?_
 exact af_ (c_e (am_ _))
theorem fs_Eval1(v c x:Rat)(h1:qs v+qs x≤549755813888)(h2:qs (v* x)+qs c≤549755813888):FSpec Tryz.prog 146 [.agg (qC v),.agg (qC c),bQ x] (.agg (qC (v* x+c))):=by
 refine f_n Tryz.func146 ?_ ?_
 exact aa_ (am_ v) (aa_ (am_ c) (aa_ (b5_ x) ab_))
 refine r_z 3 ?_
 refine ac_ (r_d hmix 6 ?_)
 refine c_s (cX_ v x h1) ?_
 refine c_s (e7_ (v* x) c h2) ?_
 refine a_1 ?_
 refine ak_ (n_k ?_)
 exact af_ (c_e (am_ _))
theorem jb_(p:List Rat)(x:Rat)(h:dg_ p x):FSpec Tryz.prog 54 [.arr (pE p),.agg (qC x)] (.agg (qC (evalP p x))):=by
 have hw:∀k,k< p.length→FSpec Tryz.prog 146 [.agg (qC (evalP (p.drop (p.length- k)) x)),.agg (qC (coP p (p.length- 1- k))),bQ x] (.agg (qC (evalP (p.drop (p.length- (k+1))) x))):=fun k hk=>by
  have:=nq_ h k hk
  rw[kF_ hk]
  exact fs_Eval1 _ _ _ this.1 this.2
 have hh:=nj_ p 146 [bQ x] (fun k=>evalP (p.drop (p.length- k)) x) (by have:=h.2;omega) (aa_ (b5_ x) ab_) hw
 simp only[Nat.sub_zero,Nat.sub_self,List.drop_zero,List.drop_length] at hh
 rw[show evalP [] x=0 from rfl,qC0] at hh
 refine f_n Tryz.func54 ?_ ?_
 exact aa_ (aj_ p) (aa_ (am_ x) ab_)
 refine r_z 2 ?_
 refine AWp.ent (st':=⟨[(0,.arr (pE p)),(3,bQ x),(4,.lptr 1 0 0)],[(1,some ⟨35,3,[zC]⟩)],2,9⟩) ?_ ?_
 exact s_e [(1,4)]
 refine r_c 5 (hh) ?_
 refine a_z ?_
 exact af_ (c_e (am_ _))
abbrev bS(s:Sp):AV:= .aptr [spC s.1 s.2] 0 0
theorem fW_(s:Sp):Closed (bS s):=a8_ (gg_ _ _)
def hpS(p:List Rat)(g:Nat)(cap:List AV)(w:Nat→List Rat):Nat→AState
 |k=>⟨[(4,.lptr 1 0 0),(5,.aptr [[.clos g [] cap]] 0 0),(10,.clos 268 [] [bP p])],[(1,some ⟨55,1,[[.arr (pE (w k))]]⟩)],2,18⟩
theorem hpS_mk(p:List Rat)(g:Nat)(cap:List AV)(w:Nat→List Rat)(k:Nat):hpS p g cap w k=⟨[(4,.lptr 1 0 0),(5,.aptr [[.clos g [] cap]] 0 0),(10,.clos 268 [] [bP p])],[(1,some ⟨55,1,[[.arr (pE (w k))]]⟩)],2,18⟩:=rfl
theorem nk_(p:List Rat)(g:Nat)(cap:List AV)(w:Nat→List Rat)(hl:p.length≤281474976710656)(hcap:∀c∈cap,Closed c)(hg:∀k,k< p.length→FSpec Tryz.prog g ((.arr (pE (w k)):: .agg (qC (coP p (p.length- 1- k)))::cap).map coe) (.arr (pE (w (k+1))))):FSpec Tryz.prog 185 [.arr (pE p),.arr (pE (w 0)),.clos g [] cap] (.arr (pE (w p.length))):=by
 have hb:=fN_ p
 have hgs:=fG_ p hl
 have hcc:Closed (.clos g [] cap):=aJ_ ab_ hcap
 have hcc2:Closed (.aptr [[.clos g [] cap]] 0 0):=a8_ (aa_ hcc ab_)
 have hcl2:Closed (.clos 268 [] [bP p]):=aJ_ ab_ (aa_ (bb_ p) ab_)
 refine f_n Tryz.func185 ?_ ?_
 exact aa_ (aj_ p) (aa_ (aj_ _) (aa_ hcc ab_))
 refine r_z 3 ?_
 refine AWp.ent (st':=⟨[(0,.arr (pE p)),(4,.lptr 1 0 0),(5,.aptr [[.clos g [] cap]] 0 0)],[(1,some ⟨55,1,[[.arr (pE (w 0))]]⟩)],2,18⟩) ?_ ?_
 have:=aa_ hcc ab_
 exact s_f [(1,4)]
 refine ac_ (r_c 2 (hb) ?_)
 refine ak_ ?_
 refine aF_ (fun _:Unit=>⟨[(4,.lptr 1 0 0)],[(1,some ⟨55,1,[[.arr (pE (w p.length))]]⟩)],2,18⟩) (fun _=>True) ?_ ?_
 refine ag_ (AWp.rangeFunc (α:=Nat) (γ:=Empty) p.length (hpS p g cap w) (fun k=>k) (fun k=>k≤p.length) (fun e=>nomatch e) (fun _ e=>nomatch e) 0 rfl hgs rfl rfl ?_ (fun _=>⟨rfl,rfl⟩) (fun e=>nomatch e) (Nat.zero_le _) rfl (fun _ h=>h) ?_ ?_ ?_ ?_ (fun _ e=>nomatch e))
 intro k xs hT
 unfold backP at hT
 split at hT
 cases hT;rfl
 cases hT
 rw[hpS_mk]
 refine SEntT.to [] rfl rfl rfl au_r (fun hs=>au_f) (fun hs=>au_h)
 exact aa_ (bb_ p) ab_
 ·intro l k xs hk hT
  unfold backP at hT
  split at hT
  rotate_left
  cases hT
  rename_i hlt
  cases hT
  show AWp _ _ _ _ ⟨[(12,.agg (qC (coP p (p.length- 1- k)))),(11,i64 (p.length- 1- k:Nat)),(4,.lptr 1 0 0),(5,.aptr [[.clos g [] cap]] 0 0),(10,.clos 268 [] [bP p]),(1004,.lptr 1 0 0),(1005,.aptr [[.clos g [] cap]] 0 0),(1010,.clos 268 [] [bP p])],[(1,some ⟨55,1,[[.arr (pE (w k))]]⟩)],2,18⟩
  refine r_m 2 ?_
  refine a_z ?_
  refine ag_ (r_m 5 ?_)
  refine c_s (hg k hlt) ?_
  refine a_z ?_
  refine⟨k+1,⟨hlt,rfl⟩,?_⟩
  show SEntT _ ⟨[(1004,.lptr 1 0 0),(1005,.aptr [[.clos g [] cap]] 0 0),(1010,.clos 268 [] [bP p])],[(1,some ⟨55,1,[[.arr (pE (w (k+1)))]]⟩)],2,18⟩
  refine SEntT.to [] rfl rfl rfl au_r (fun hs=>au_f) (fun hs=>au_h)
 intro k hk hT
 unfold backP at hT
 split at hT
 cases hT
 refine⟨(),trivial,?_⟩
 rw[hpS_mk]
 have h1:k=p.length:=by omega
 subst h1
 exact s_e []
 rintro _ _
 refine r_z 2 ?_
 exact af_ (t_e (aj_ _))
theorem ls_(v q:List Rat)(c:Rat)(h:okMul v q)(hc:sm c)(hl:(mulP v q).length≤274877906944):FSpec Tryz.prog 186 [.arr (pE v),.agg (qC c),bP q] (.arr (pE (addP (mulP v q) (bT_ c)))):=by
 have hcl:=iy_ c
 refine f_n Tryz.func186 ?_ ?_
 exact aa_ (aj_ v) (aa_ (am_ c) (aa_ (bb_ q) ab_))
 refine r_z 2 ?_
 refine ac_ (r_d hmix 7 ?_)
 refine c_s (kq_ v q (mxL v) (mxL q) (bG_ v) (bG_ q) (bs_ v) (bs_ q) h.1 h.2.1 h.2.2.1 h.2.2.2) ?_
 refine c_s (fi_ c) ?_
 refine c_s (fs_Add (mulP v q) (bT_ c) (okMul_sm h) (gF_ fun x hx=>by rw[List.mem_singleton.1 hx];exact hc) (by omega) (by omega)) ?_
 refine a_1 ?_
 refine ak_ (n_k ?_)
 exact af_ (t_e (aj_ _))
theorem nm_(p q:List Rat)(h:fx_ q p)(hp:p.length≤274877906944):FSpec Tryz.prog 102 [.arr (pE p),.arr (pE q)] (.arr (pE (compP q p))):=by
 have hw:∀k,k< p.length→FSpec Tryz.prog 186 [.arr (pE (compP q (p.drop (p.length- k)))),.agg (qC (coP p (p.length- 1- k))),bP q] (.arr (pE (compP q (p.drop (p.length- (k+1)))))):=fun k hk=>by
  have h1:=he_ (p.length- (k+1)) h
  rw[kF_ hk] at h1⊢
  exact ls_ _ q _ h1.2.1 h1.2.2.1 h1.2.2.2
 have hh:=nk_ p 186 [bP q] (fun k=>compP q (p.drop (p.length- k))) (by omega) (aa_ (bb_ q) ab_) hw
 simp only[Nat.sub_zero,Nat.sub_self,List.drop_zero,List.drop_length] at hh
 refine f_n Tryz.func102 ?_ ?_
 exact aa_ (aj_ p) (aa_ (aj_ q) ab_)
 refine r_z 2 ?_
 refine AWp.ent (st':=⟨[(0,.arr (pE p)),(3,bP q)],[],1,8⟩) ?_ ?_
 exact s_e []
 refine r_c 4 (hh) ?_
 refine a_z ?_
 exact af_ (t_e (aj_ _))
def coS:Nat×Nat→AState
 |(a,b)=>⟨[(2,.lptr 1 0 0),(3,.lptr 2 0 0),(4,.lptr 3 0 0)],[(1,some ⟨35,3,[qC (nQ a)]⟩),(2,some ⟨35,3,[qC (nQ b)]⟩),(3,some ⟨35,3,[zC]⟩)],4,18⟩
theorem kM_(a:Nat)(b:Nat):coS (a,b)=⟨[(2,.lptr 1 0 0),(3,.lptr 2 0 0),(4,.lptr 3 0 0)],[(1,some ⟨35,3,[qC (nQ a)]⟩),(2,some ⟨35,3,[qC (nQ b)]⟩),(3,some ⟨35,3,[zC]⟩)],4,18⟩:=rfl
theorem is_(a b:Nat)(ha:bl a≤68719476736)(hb:bl b≤68719476736):FSpec Tryz.prog 297 [.agg (qC (nQ a)),.agg (qC (nQ b))] (.agg (qC (nQ (Nat.gcd a b)))):=by
 refine f_n Tryz.func297 ?_ ?_
 exact aa_ (am_ _) (aa_ (am_ _) ab_)
 refine r_z 3 ?_
 refine aY_ (fun _:Unit=>coS (Nat.gcd a b,0)) (fun _=>True) ?_ ?_
 refine ag_ (aw_ coS (fun x=>x.2) (fun x=>Nat.gcd x.1 x.2=Nat.gcd a b∧bl x.1≤68719476736∧bl x.2≤68719476736) (a,b) ⟨rfl,ha,hb⟩ ?_ ?_)
 simp only[kM_]
 exact s_e []
 rintro⟨u,v⟩ ⟨hg,hu,hv⟩
 simp only at hg hu hv
 rw[kM_]
 refine ac_ (r_c 3 (bJ_ (nQ v)) ?_)
 refine a_z ?_
 refine ah_ rfl (fun h=>?_) (fun h=>?_)
 have hv0:v≠0:=by
  intro e
  subst e
  exact absurd h (by decide)
 refine ae_ ?_
 have h1:=qs_nQ (n:=u) hu (by decide)
 have h2:=qs_nQ (n:=v) hv (by decide)
 have hq:=cI_ (nQ u) (nQ v)
 have hov:=dw_ (nQ u) (nQ v) (fun e=>hv0 (nQ_zero.1 e)) (by omega)
 have hfl:=fs_floor (nQ u/ nQ v) (by omega)
 rw[md_ u v hv0,li_ u v hv0] at hfl
 rw[md_ u v hv0] at hov
 have h3:=qs_nQ (n:=u/ v) (k:=68719476736) (Nat.le_trans (cr_ u v) hu) (by decide)
 have hmu:=cX_ (nQ v) (nQ (u/ v)) (by omega)
 rw[nQ_mul] at hmu
 have hle:v* (u/ v)≤u:=Nat.mul_div_le u v
 have h4:=qs_nQ (n:=v* (u/ v)) (k:=68719476736) (Nat.le_trans (bW_ hle) hu) (by decide)
 have hsu:=kj_ (nQ u) (nQ (v* (u/ v))) (by omega)
 rw[nQ_sub hle,show u- v* (u/ v)=u % v by have:=Nat.div_add_mod u v;omega] at hsu
 refine ag_ (r_d hmix 11 ?_)
 refine c_s (hov) ?_
 refine c_s (hfl) ?_
 refine c_s (hmu) ?_
 refine c_s (hsu) ?_
 refine a_2 ?_
 refine ak_ (n_k ?_)
 refine⟨(v,u % v),Nat.mod_lt _ (by omega),⟨?_,hv,Nat.le_trans (bW_ (Nat.mod_le u v)) hu⟩,?_⟩
 rw[←hg];show Nat.gcd v (u % v)=Nat.gcd u v
 rw[Nat.gcd_comm v,Nat.gcd_comm u v,←Nat.gcd_rec]
 simp only[kM_]
 exact s_e []
 have hv0:v=0:=by
  have h1:sgZ (nQ v).num=0:=by simpa using h
  exact nQ_zero.1 (sgZ_num_eq.1 h1)
 subst hv0
 rw[Nat.gcd_zero_right] at hg
 refine at_ ⟨(),trivial,?_⟩
 rw[←hg]
 simp only[kM_]
 exact s_e []
 rintro _ _
 simp only[kM_]
 refine r_z 2 ?_
 exact af_ (c_e (am_ _))
def prS(t:List Rat):Nat×Nat→AState
 |(i,d)=>⟨[(0,.arr (pE t)),(3,.lptr 1 0 0),(4,.lptr 2 0 0),(13,.arr (pE t)),(14,i64 t.length),(15,i64 i)],[(1,some ⟨35,3,[qC (nQ d)]⟩),(2,some ⟨35,3,[qC 0]⟩)],3,47⟩
theorem oc_(t:List Rat)(i:Nat)(d:Nat):prS t (i,d)=⟨[(0,.arr (pE t)),(3,.lptr 1 0 0),(4,.lptr 2 0 0),(13,.arr (pE t)),(14,i64 t.length),(15,i64 i)],[(1,some ⟨35,3,[qC (nQ d)]⟩),(2,some ⟨35,3,[qC 0]⟩)],3,47⟩:=rfl
def prT(t:List Rat)(D:Nat):Nat×Nat→AState
 |(i,n)=>⟨[(0,.arr (pE t)),(3,.lptr 1 0 0),(4,.lptr 2 0 0),(29,.arr (pE t)),(30,i64 t.length),(31,i64 i)],[(1,some ⟨35,3,[qC (nQ D)]⟩),(2,some ⟨35,3,[qC (nQ n)]⟩)],3,47⟩
theorem ob_(t:List Rat)(D:Nat)(i:Nat)(n:Nat):prT t D (i,n)=⟨[(0,.arr (pE t)),(3,.lptr 1 0 0),(4,.lptr 2 0 0),(29,.arr (pE t)),(30,i64 t.length),(31,i64 i)],[(1,some ⟨35,3,[qC (nQ D)]⟩),(2,some ⟨35,3,[qC (nQ n)]⟩)],3,47⟩:=rfl
theorem lB_{l:List Rat}{i:Nat}(h:i< l.length):l.drop i=coP l i::l.drop (i+1):=by
 rw[List.drop_eq_getElem_cons h]
 congr 1
 have:=a0_ h
 rw[List.getElem?_eq_getElem h] at this
 exact Option.some.inj this
theorem bl_gcd(a b:Nat):bl (Nat.gcd a b)≤max (bl a) (bl b):=by
 rcases Nat.eq_zero_or_pos a with h|h
 subst h;rw[Nat.gcd_zero_left];exact Nat.le_max_right _ _
 exact Nat.le_trans (bW_ (Nat.gcd_le_left b h)) (Nat.le_max_left _ _)
theorem gt_(p:List Rat)(h:j9_ p)(h0:trimQ p≠[]):FSpec Tryz.prog 271 [.arr (pE p)] (.arr (pE (primP p))):=by
 obtain⟨t,ht⟩:∃t,t=trimQ p:=⟨_,rfl⟩
 obtain⟨s,hs⟩:∃s,s=mxL p:=⟨_,rfl⟩
 have hs1:1≤s:=by rw[hs];exact bs_ p
 have hbt:bdL t s:=fun q hq=>by rw[hs];exact bG_ p q (a9_ (by rw[←ht];exact hq))
 have htl:t.length≤p.length:=by rw[ht];exact aD_ p
 obtain⟨hsz,hpl⟩:=h
 rw[←hs] at hsz
 have hts:t.length* s≤p.length* s:=Nat.mul_le_mul_right _ htl
 rw[Nat.add_mul] at hsz
 obtain⟨D,hD⟩:∃D,D=denL t 1:=⟨_,rfl⟩
 have hD0:D≠0:=by rw[hD];exact hL_ t (by decide)
 have hDb:bl D≤1+t.length* s:=by rw[hD];exact lE_ t 1 hbt
 have hDd:∀c∈t,c.den∣D:=by rw[hD];exact(eR_ t 1).2
 obtain⟨N,hN⟩:∃N,N=numL D t 0:=⟨_,rfl⟩
 have hlast:leadP p∈t:=by
  rw[ht]
  obtain⟨n,hn⟩:∃n,(trimQ p).length=n+1:=⟨(trimQ p).length- 1,by have:=List.length_pos_iff.2 h0;omega⟩
  exact List.mem_of_getElem? (bx_ hn)
 have hNd:=(gL_ D t 0).2 (leadP p) hlast
 rw[←hN] at hNd
 have hi0:=lk_ (hDd _ hlast) hD0 (bt_ h0)
 have hN0:N≠0:=fun e=>hi0 (by rw[e] at hNd;exact Nat.zero_dvd.1 hNd)
 have hNb:bl N≤s+bl D:=Nat.le_trans (bW_ (Nat.le_of_dvd (by omega) hNd)) (Nat.le_trans (ll_ _ _) (by have:=hbt _ hlast;omega))
 have hpr:primP p=ay_ t (nQ D/ nQ N):=by unfold primP;rw[←ht,←hD,←hN]
 rw[hpr]
 have hgt:∀i,i< t.length→(pE t)[((i:Nat):Int).toNat]?=some (qC (coP t i)):=fun i hi=>bv_ (a0_ hi)
 have hmem:∀i,i< t.length→coP t i∈t:=fun i hi=>List.mem_of_getElem? (a0_ hi)
 have htr:=b2_ p (by omega)
 rw[←ht] at htr
 refine f_n Tryz.func271 ?_ ?_
 exact aa_ (aj_ p) ab_
 refine r_z 1 ?_
 refine r_c 3 (htr) ?_
 refine a_z ?_
 refine r_c 6 (dh_ 1 (by decide)) ?_
 refine a_z ?_
 refine ac_ (r_z 3 ?_)
 refine aF_ (fun _:Unit=>⟨[(0,.arr (pE t)),(3,.lptr 1 0 0),(4,.lptr 2 0 0)],[(1,some ⟨35,3,[qC (nQ D)]⟩),(2,some ⟨35,3,[qC 0]⟩)],3,47⟩) (fun _=>True) ?_ ?_
 refine ag_ (aw_ (prS t) (fun x=>t.length- x.1) (fun x=>x.1≤t.length∧x.2≠0∧denL (t.drop x.1) x.2=D) (0,1) ⟨Nat.zero_le _,by decide,by rw[hD];rfl⟩ ?_ ?_)
 simp only[oc_]
 rw[qC0]
 exact s_e [(1,3),(2,4)]
 rintro⟨i,d⟩ ⟨hi,hd0,hd⟩
 simp only at hi hd0 hd
 rw[oc_]
 refine r_z 1 ?_
 refine ac_ (ah_ rfl (fun h=>?_) (fun h=>?_))
 refine ae_ ?_
 have hlt:i< t.length:=by simpa using h
 have hc:=hbt _ (hmem i hlt)
 have hcd:=cp_ (coP t i)
 have hcn:=(coP t i).den_nz
 rw[lB_ hlt] at hd
 have hdD:d∣D:=by rw[←hd];exact(eR_ _ d).1
 have hdb:=bW_ (Nat.le_of_dvd (by omega) hdD)
 have hq1:=qs_nQ (n:=d) (k:=34359738368) (by omega) (by decide)
 have hq2:=qs_nQ (n:=(coP t i).den) (k:=34359738368) (by omega) (by decide)
 have hmu:=cX_ (nQ d) (nQ (coP t i).den) (by omega)
 have hco:=is_ d (coP t i).den (by omega) (by omega)
 have hg0:Nat.gcd d (coP t i).den≠0:=by have:=Nat.gcd_pos_of_pos_left (coP t i).den (Nat.pos_of_ne_zero hd0);omega
 have hgb:=bl_gcd d (coP t i).den
 have hq3:=qs_nQ (n:=Nat.gcd d (coP t i).den) (k:=34359738368) (by omega) (by decide)
 have hq4:=cd_ (nQ d) (nQ (coP t i).den)
 rw[nQ_mul] at hq4 hmu
 have hov:=dw_ (nQ (d* (coP t i).den)) (nQ (Nat.gcd d (coP t i).den)) (fun e=>hg0 (nQ_zero.1 e)) (by omega)
 rw[md_ _ _ hg0,kc_ _ _ hg0 (Nat.dvd_mul_right_of_dvd (Nat.gcd_dvd_left _ _) _)] at hov
 refine ac_ (ag_ (s_r 4 ?_))
 first|refine aM_ (.index_l rfl rfl (by omega) (by omega) te_55.h) rfl rfl ?_|refine aM_ (.index_a rfl rfl (by omega) (hgt i hlt) rfl te_55.h) rfl rfl ?_
 first|refine aM_ (.load_l rfl rfl (hgt i hlt) tg_35.h ts_35.h (nle rfl)) rfl rfl ?_|refine aM_ (.load_a rfl (hgt i hlt) tg_35.h ts_35.h (nle rfl)) rfl rfl ?_
 refine a_z ?_
 refine r_d hmix 10 ?_
 refine c_s (fs_den (coP t i) (by unfold sm;omega)) ?_
 refine c_s (hmu) ?_
 refine c_s (fs_den (coP t i) (by unfold sm;omega)) ?_
 refine c_s (hco) ?_
 refine c_s (hov) ?_
 refine a_1 ?_
 refine ak_ (n_k ?_)
 refine r_m 2 ?_
 refine a_z ?_
 refine⟨(i+1,Nat.lcm d (coP t i).den),by simp only;omega,⟨hlt,ou_ hd0 hcn,hd⟩,?_⟩
 simp only[oc_]
 exact s_e []
 have hge:i=t.length:=by
  have:¬i< t.length:=by simpa using h
  omega
 subst hge
 rw[List.drop_length] at hd
 refine at_ ⟨(),trivial,?_⟩
 rw[←hd]
 exact s_e []
 rintro _ _
 refine ac_ (r_z 3 ?_)
 refine aF_ (fun _:Unit=>⟨[(0,.arr (pE t)),(3,.lptr 1 0 0),(4,.lptr 2 0 0)],[(1,some ⟨35,3,[qC (nQ D)]⟩),(2,some ⟨35,3,[qC (nQ N)]⟩)],3,47⟩) (fun _=>True) ?_ ?_
 refine ag_ (aw_ (prT t D) (fun x=>t.length- x.1) (fun x=>x.1≤t.length∧bl x.2≤s+bl D∧numL D (t.drop x.1) x.2=N) (0,0) ⟨Nat.zero_le _,by rw[bl_zero];exact Nat.zero_le _,by rw[hN];rfl⟩ ?_ ?_)
 simp only[ob_]
 exact s_e []
 rintro⟨i,n⟩ ⟨hi,hnb,hn⟩
 simp only at hi hnb hn
 rw[ob_]
 refine r_z 1 ?_
 refine ac_ (ah_ rfl (fun h=>?_) (fun h=>?_))
 refine ae_ ?_
 have hlt:i< t.length:=by simpa using h
 have hc:=hbt _ (hmem i hlt)
 rw[lB_ hlt] at hn
 have hib:=ll_ (coP t i) D
 have hgb:=bl_gcd n (intC (coP t i) D)
 have hq1:=qs_nQ (n:=D) (k:=34359738368) (by omega) (by decide)
 have hmu:=cX_ (coP t i) (nQ D) (by omega)
 have hab:=kn_ (coP t i* nQ D)
 rw[gM_ _ _ (hDd _ (hmem i hlt))] at hab
 have hco:=is_ n (intC (coP t i) D) (by omega) (by omega)
 refine ac_ (ag_ (s_r 4 ?_))
 first|refine aM_ (.index_l rfl rfl (by omega) (by omega) te_55.h) rfl rfl ?_|refine aM_ (.index_a rfl rfl (by omega) (hgt i hlt) rfl te_55.h) rfl rfl ?_
 first|refine aM_ (.load_l rfl rfl (hgt i hlt) tg_35.h ts_35.h (nle rfl)) rfl rfl ?_|refine aM_ (.load_a rfl (hgt i hlt) tg_35.h ts_35.h (nle rfl)) rfl rfl ?_
 refine a_z ?_
 refine r_d hmix 7 ?_
 refine c_s (hmu) ?_
 refine c_s (hab) ?_
 refine c_s (hco) ?_
 refine a_1 ?_
 refine ak_ (n_k ?_)
 refine r_m 2 ?_
 refine a_z ?_
 refine⟨(i+1,Nat.gcd n (intC (coP t i) D)),by simp only;omega,⟨hlt,by simp only;omega,hn⟩,?_⟩
 simp only[ob_]
 exact s_e []
 have hge:i=t.length:=by
  have:¬i< t.length:=by simpa using h
  omega
 subst hge
 rw[List.drop_length] at hn
 refine at_ ⟨(),trivial,?_⟩
 rw[←hn]
 exact s_e []
 rintro _ _
 have hq1:=qs_nQ (n:=D) (k:=34359738368) (by omega) (by decide)
 have hq2:=qs_nQ (n:=N) (k:=34359738368) (by omega) (by decide)
 have hq3:=cI_ (nQ D) (nQ N)
 refine r_c 6 (dw_ (nQ D) (nQ N) (fun e=>hN0 (nQ_zero.1 e)) (by omega)) ?_
 refine c_s (c5_ t (nQ D/ nQ N) (cJ_ hbt (by omega)) (by unfold sm;omega) (by omega)) ?_
 refine a_z ?_
 exact af_ (t_e (aj_ _))
theorem iZ_(f:Nat)(p r:List Rat)(h:sqfM f p=some r):FSpec Tryz.prog 221 [.arr (pE p)] (.arr (pE r)):=by
 unfold sqfM at h
 split at h
 case isFalse=>cases h
 case isTrue hs=>
 obtain⟨g,hg,hr⟩:=Option.bind_eq_some_iff.1 h
 split at hr
 case isFalse=>cases hr
 case isTrue hg2=>
 cases hr
 have hdl:=dk_ p
 have hdv:=eO_ (p:=p) (q:=g)
 refine f_n Tryz.func221 ?_ ?_
 exact aa_ (aj_ p) ab_
 refine r_z 1 ?_
 refine r_c 11 (fL_ p hs.1 (by omega)) ?_
 refine c_s (fs_Gcd f p (ao_ p) g hg hs.2 (by omega)) ?_
 refine c_s (es_ p g (mxL p) (mxL g) (bG_ p) (bG_ g) (bs_ p) (bs_ g) hg2.2.1 hg2.1 hs.2 hg2.2.2.2) ?_
 refine a_z ?_
 refine r_c 3 (i4_ (divP p g).1 (lD_ hg2.2 hg2.1).1 (by omega)) ?_
 refine a_z ?_
 exact af_ (t_e (aj_ _))
theorem fs_large(p:List Rat)(hp:p.length≤1099511627776):FSpec Tryz.prog 147 [.arr (pE p)] (i64 (gq_ p)):=by
 refine f_n Tryz.func147 ?_ ?_
 exact aa_ (aj_ p) ab_
 refine r_z 1 ?_
 refine ac_ (r_c 3 (bo_ p hp) ?_)
 refine a_z ?_
 refine aF_ (fun _:Unit=>⟨[],[],1,12⟩) (fun _=>gq_ p=0) ?_ ?_
 refine ag_ (r_z 3 ?_)
 refine ah_ rfl (fun h=>?_) (fun h=>?_)
 have h1:degP p< 0:=by simpa using h
 refine r_z 1 ?_
 refine af_ (aN_ rfl ?_ ?_)
 unfold gq_;rw[if_pos h1];rfl
 exact ad_ _
 have h1:¬degP p< 0:=by simpa using h
 refine r_z 3 ?_
 refine ah_ rfl (fun h2=>?_) (fun h2=>?_)
 have h3:40< degP p:=by simpa using h2
 refine r_z 1 ?_
 refine af_ (aN_ rfl ?_ ?_)
 unfold gq_;rw[if_neg h1,if_pos h3];rfl
 exact ad_ _
 have h3:¬40< degP p:=by simpa using h2
 refine ae_ ⟨(),by unfold gq_;rw[if_neg h1,if_neg h3],?_⟩
 exact s_e []
 rintro _ hl
 refine r_z 1 ?_
 refine af_ (aN_ rfl ?_ ?_)
 rw[hl];rfl
 exact ad_ _
def boS(t:List Rat)(l:List Rat):Nat×Rat→AState
 |(i,m)=>⟨[(0,.arr (pE t)),(2,.lptr 1 0 0),(3,.lptr 2 0 0),(13,.arr (pE l)),(14,i64 l.length),(15,i64 i)],[(1,some ⟨35,3,[zC]⟩),(2,some ⟨35,3,[qC m]⟩)],3,31⟩
theorem pC_(t:List Rat)(l:List Rat)(i:Nat)(m:Rat):boS t l (i,m)=⟨[(0,.arr (pE t)),(2,.lptr 1 0 0),(3,.lptr 2 0 0),(13,.arr (pE l)),(14,i64 l.length),(15,i64 i)],[(1,some ⟨35,3,[zC]⟩),(2,some ⟨35,3,[qC m]⟩)],3,31⟩:=rfl
theorem fs_bound(p:List Rat)(h:d0_ p)(h0:trimQ p≠[]):FSpec Tryz.prog 151 [.arr (pE p)] (.agg (qC (aU_ p))):=by
 obtain⟨hsz,hpl⟩:=h
 obtain⟨t,ht⟩:∃t,t=trimQ p:=⟨_,rfl⟩
 have htr:=b2_ p (by omega)
 have htl:=aD_ p
 rw[←ht] at htr htl
 obtain⟨l,hl⟩:∃l,l=t.take (t.length- 1):=⟨_,rfl⟩
 have hll:l.length=t.length- 1:=by rw[hl];simp
 have hbl:bdL l (mxL p):=fun q hq=>bG_ p q (a9_ (by rw[←ht];exact List.mem_of_mem_take (by rw[←hl];exact hq)))
 have hpos:0< t.length:=by rw[ht];exact List.length_pos_iff.2 h0
 have hlead:leadP t=leadP p:=by rw[ht,nf_]
 have hlb:qs (leadP p)≤mxL p:=by
  obtain⟨n,hn⟩:∃n,(trimQ p).length=n+1:=⟨(trimQ p).length- 1,by rw[←ht];omega⟩
  exact bG_ p _ (a9_ (List.mem_of_getElem? (bx_ hn)))
 have hb:aU_ p=boL (leadP p) l 0+1:=by unfold aU_;rw[←ht,←hl]
 rw[hb]
 obtain⟨B,hB⟩:∃B,B=boL (leadP p) l 0:=⟨_,rfl⟩
 rw[←hB]
 refine f_n Tryz.func151 ?_ ?_
 exact aa_ (aj_ p) ab_
 refine r_z 1 ?_
 refine r_c 3 (htr) ?_
 refine a_z ?_
 refine r_z 3 ?_
 refine ac_ (s_r 7 ?_)
 refine a_4 ?_
 refine o_0 (.sa_h rfl rfl (h:=t.length- 1) (by omega) (by simp) te_55.h (fe_ _)) ?_
 refine a_z ?_
 refine aF_ (fun _:Unit=>⟨[(2,.lptr 1 0 0),(3,.lptr 2 0 0)],[(1,some ⟨35,3,[zC]⟩),(2,some ⟨35,3,[qC B]⟩)],3,31⟩) (fun _=>qs B≤2* mxL p+1) ?_ ?_
 refine ag_ (aw_ (boS t l) (fun x=>l.length- x.1) (fun x=>x.1≤l.length∧qs x.2≤2* mxL p+1∧boL (leadP p) (l.drop x.1) x.2=B) (0,0) ⟨Nat.zero_le _,Nat.le_trans (by decide:qs 0≤1) (Nat.le_add_left 1 _),by rw[hB];rfl⟩ ?_ ?_)
 simp only[pC_]
 rw[qC0]
 have e13:AV.arr (List.take (t.length- 1) (pE t))=AV.arr (pE l):=by rw[hl,lg_]
 refine ax_ [(1,2),(2,3)] rfl rfl rfl ?_ (fun hs=>?_) (fun hs=>?_)
 ·repeat' (first|exact ShrL.nil|refine ShrL.cons rfl rfl rfl rfl (by first|rfl|(simp;done)|(simp[hll]<;> omega)) ?_)
 ·repeat' (first|exact aZ_|refine aR_ rfl ?_ ?_)
  all_goals (first|(exact Cv.loE hs e13 (e13▸aj_ l))|exact au_c|(refine Cv.loE hs ?_ (ad_ _);first|rfl|(simp[i64,u64,u32,bln,hll];done)|(simp[i64,u64,u32,bln,hll]<;> omega)))
 ·repeat' (first|exact av_|refine an_ rfl rfl rfl rfl ?_ ?_)
  all_goals (first|exact au_e|(refine aE_ hs ?_ (aC_ _);first|(simp[hd_,j6_,hll];done)|(simp[pE,ofV,hll];done))|(refine au_ ?_;repeat' (first|exact as_|refine ai_ ?_ ?_)))
  all_goals (first|(exact Cv.loE hs e13 (e13▸aj_ l))|exact au_c|(refine Cv.loE hs ?_ (ad_ _);first|(simp[i64,u64,u32,bln,hll];done)|(simp[i64,u64,u32,bln,hll]<;> omega)))
 rintro⟨i,m⟩ ⟨hi,hm,hbo⟩
 simp only at hi hm hbo
 rw[pC_]
 refine r_z 1 ?_
 refine ac_ (ah_ rfl (fun h=>?_) (fun h=>?_))
 refine ae_ ?_
 have hlt:i< l.length:=by simpa using h
 have hgt:(pE l)[((i:Nat):Int).toNat]?=some (qC (coP l i)):=bv_ (a0_ hlt)
 have hc:qs (coP l i)≤mxL p:=hbl _ (List.mem_of_getElem? (a0_ hlt))
 rw[lB_ hlt] at hbo
 have hq:=cI_ (coP l i) (leadP p)
 have hle:=fj_ t (by omega)
 rw[hlead] at hle
 have hqa:=l0_ (coP l i/ leadP p)
 have hbm:bdL [m,absQ (coP l i/ leadP p)] (2* mxL p+1):=by
  intro x hx
  rcases List.mem_cons.1 hx with rfl|hx
  exact hm
  rw[List.mem_singleton.1 hx];omega
 have hmx:=fs_Max [m,absQ (coP l i/ leadP p)] (cJ_ hbm (by omega)) (by simp)
 refine ac_ (ag_ (s_r 4 ?_))
 refine i_x hgt ?_
 refine l_x hgt ?_
 refine a_z ?_
 refine r_d hmix 9 ?_
 refine c_s (hle) ?_
 refine c_s (dw_ (coP l i) (leadP p) (bt_ h0) (by omega)) ?_
 refine c_s (kn_ (coP l i/ leadP p)) ?_
 refine a_1 ?_
 refine o_1 (.callS1 rfl rfl rfl (.shut rfl d_n (.nil)) rfl (hmx)) ?_
 refine a_1 ?_
 refine ak_ (n_k ?_)
 refine r_m 2 ?_
 refine a_z ?_
 refine⟨(i+1,maxL [m,absQ (coP l i/ leadP p)]),by simp only;omega,⟨hlt,on_ hbm (Nat.le_add_left 1 _),hbo⟩,?_⟩
 simp only[pC_]
 exact s_e []
 have hge:i=l.length:=by
  have:¬i< l.length:=by simpa using h
  omega
 subst hge
 rw[List.drop_length] at hbo
 have hbo':m=B:=hbo
 subst hbo'
 refine at_ ⟨(),hm,?_⟩
 exact s_e []
 rintro _ hq
 have h1:qs 1=1:=by decide
 refine ac_ (r_d hmix 4 ?_)
 refine c_s (dh_ 1 (by decide)) ?_
 refine c_s (e7_ B 1 (by omega)) ?_
 refine a_1 ?_
 refine ak_ (n_k ?_)
 exact af_ (c_e (am_ _))
def stS:List Rat×List (List Rat)→AState
 |(next,acc)=>⟨[(3,.lsl 1 0 acc.length none 1),(4,.arr (pE next))],[(1,some ⟨55,1,cE acc⟩)],2,40⟩
theorem nQ_(next:List Rat)(acc:List (List Rat)):stS (next,acc)=⟨[(3,.lsl 1 0 acc.length none 1),(4,.arr (pE next))],[(1,some ⟨55,1,cE acc⟩)],2,40⟩:=rfl
theorem oa_(p:List Rat):(primP p).length≤p.length:=
 Nat.le_trans (by_ _ _) (aD_ p)
theorem fs_sturm(f:Nat)(p:List Rat)(r:List (List Rat))(h:d6_ f p=some r)(hf:f≤1000000):FSpec Tryz.prog 222 [.arr (pE p)] (.arr (cE r)):=by
 unfold d6_ at h
 split at h
 case isFalse=>cases h
 case isTrue hp=>
 have hdl:=dk_ p
 have hpl:=hp.2.1.2
 refine f_n Tryz.func222 ?_ ?_
 exact aa_ (aj_ p) ab_
 refine r_z 1 ?_
 refine r_c 4 (gt_ p hp.2.1 hp.2.2) ?_
 refine a_z ?_
 refine ac_ (r_c 3 (fL_ p hp.1 (by omega)) ?_)
 refine a_z ?_
 refine aF_ (fun _:Unit=>⟨[(3,.lsl 1 0 r.length none 1)],[(1,some ⟨55,1,cE r⟩)],2,40⟩) (fun _=>True) ?_ ?_
 ·refine ag_ (aw_ (fun x:Nat×List Rat×List Rat×List (List Rat)=>stS x.2.2) (fun x=>x.1) (fun x=>e9_ f x.1 x.2.1 x.2.2.1 x.2.2.2=some r∧x.2.2.1.length≤274877906944∧x.2.2.2.length+x.1≤1000001∧1≤x.2.2.2.length∧x.2.2.2[x.2.2.2.length- 1]?=some x.2.1) (f,primP p,ao_ p,[primP p]) ⟨h,by simp only;omega,by simp only[List.length_singleton];omega,by simp,rfl⟩ ?_ ?_)
  simp only[nQ_]
  have:=ez_ [primP p]
  exact s_f [(1,3)]
  rintro⟨k,last,next,acc⟩ ⟨h,hn,hk,ha1,hla⟩
  simp only at h hn hk ha1 hla
  simp only[nQ_]
  cases k with
  |zero=>cases h
  |succ k=>
   rw[e9_] at h
   refine ac_ (r_c 3 (bo_ next (by omega)) ?_)
   refine a_z ?_
   refine ah_ rfl (fun h1=>?_) (fun h1=>?_)
   ·have h0:trimQ next≠[]:=by
     intro e
     have e2:=degP_neg.2 e
     simp at h1;omega
    rw[if_neg h0] at h
    split at h
    case isFalse=>cases h
    case isTrue hs=>
    have hpn:=oa_ next
    have hdv:=eO_ (p:=last) (q:=primP next)
    have hsl:=by_ (divP last (primP next)).2 (-1)
    have hl2:=hs.2.1.2.1
    have hg1:(cE (acc++[primP next]))[0+(((acc.length+1:Nat):Int)- 2).toNat]?=some [.arr (pE last)]:=by
     rw[show 0+(((acc.length+1:Nat):Int)- 2).toNat=acc.length- 1 by omega]
     exact pz_ (by rw[List.getElem?_append_left (by omega)];exact hla)
    have hg2:(cE (acc++[primP next]))[0+(((acc.length+1:Nat):Int)- 1).toNat]?=some [.arr (pE (primP next))]:=by
     rw[show 0+(((acc.length+1:Nat):Int)- 1).toNat=acc.length by omega]
     exact pz_ (by simp)
    refine ae_ (ag_ (r_c 6 (gt_ next hs.1 h0) ?_))
    refine a_z ?_
    refine AWp.ent (st':=⟨[(3,.lsl 1 0 (acc.length+1) none 1)],[(1,some ⟨55,1,cE (acc++[primP next])⟩)],2,40⟩) ?_ ?_
    ·have:=(cE_snoc acc (primP next)).symm
     exact s_f [(1,3)]
    refine ac_ (r_d hmix 18 ?_)
    refine a_5 ?_
    first|refine aM_ (.load_l1 rfl rfl hg1 tg_55.h rfl) rfl rfl ?_|refine aM_ (.load_a1 rfl hg1 tg_55.h rfl) rfl rfl ?_
    refine a_5 ?_
    first|refine aM_ (.load_l1 rfl rfl hg2 tg_55.h rfl) rfl rfl ?_|refine aM_ (.load_a1 rfl hg2 tg_55.h rfl) rfl rfl ?_
    refine c_s (es_ last (primP next) (mxL last) (mxL (primP next)) (bG_ _) (bG_ _) (bs_ _) (bs_ _) hs.2.1.1 hs.2.2 hs.2.1.2.1 hs.2.1.2.2) ?_
    refine a_5 ?_
    refine ak_ (n_k ?_)
    refine r_m 4 ?_
    refine c_s (dh_ (-1) (by decide)) ?_
    refine c_s (c5_ (divP last (primP next)).2 (-1) (lD_ hs.2.1 hs.2.2).2 (by decide) (by omega)) ?_
    refine a_z ?_
    refine⟨(k,primP next,ay_ (divP last (primP next)).2 (-1),acc++[primP next]),Nat.lt_succ_self k,⟨h,by simp only;omega,by simp only[List.length_append,List.length_singleton];omega,by simp,by simp⟩,?_⟩
    have hla:(acc++[primP next]).length=acc.length+1:=by simp
    simp only[nQ_,hla]
    exact s_f []
   ·have h0:trimQ next=[]:=by
     refine degP_neg.1 ?_
     simp at h1;omega
    rw[if_pos h0] at h
    cases h
    refine at_ ⟨(),trivial,?_⟩
    exact s_f []
 rintro _ _
 refine r_z 2 ?_
 exact af_ (Fin.tmpS rfl rfl rfl (by simp) (ez_ r))
def chS(ch:List (List Rat))(g:Nat)(cap:List AV):Nat×Int×Int→AState
 |(i,n,last)=>⟨[(1,.clos g [] cap),(5,i64 n),(6,i64 last),(10,.arr (cE ch)),(11,i64 ch.length),(12,i64 i)],[],1,30⟩
theorem kT_(ch:List (List Rat))(g:Nat)(cap:List AV)(i:Nat)(n:Int)(last:Int):chS ch g cap (i,n,last)=⟨[(1,.clos g [] cap),(5,i64 n),(6,i64 last),(10,.arr (cE ch)),(11,i64 ch.length),(12,i64 i)],[],1,30⟩:=rfl
theorem it_(ch:List (List Rat))(g:Nat)(cap:List AV)(sg:List Rat→Int)(hcap:∀c∈cap,Closed c)(hsg:∀q∈ch,-1≤sg q∧sg q≤1)(hl:ch.length≤274877906944)(hg:∀q∈ch,FSpec Tryz.prog g ((.arr (pE q)::cap).map coe) (i64 (sg q))):FSpec Tryz.prog 223 [.arr (cE ch),.clos g [] cap] (i64 (chL (ch.map sg) 0 0)):=by
 refine f_n Tryz.func223 ?_ ?_
 exact aa_ (fV_ ch) (aa_ (aJ_ ab_ hcap) ab_)
 refine r_z 1 ?_
 refine r_z 2 ?_
 refine ac_ (r_z 3 ?_)
 obtain⟨R,hR⟩:∃R,R=chL (ch.map sg) 0 0:=⟨_,rfl⟩
 rw[←hR]
 refine aF_ (fun _:Unit=>⟨[(5,i64 R)],[],1,30⟩) (fun _=>True) ?_ ?_
 refine ag_ (aw_ (chS ch g cap) (fun x=>ch.length- x.1) (fun x=>x.1≤ch.length∧0≤x.2.1∧x.2.1≤x.1∧ -1≤x.2.2∧x.2.2≤1∧chL ((ch.drop x.1).map sg) x.2.1 x.2.2=R) (0,0,0) ⟨Nat.zero_le _,by decide,by decide,by decide,by decide,by rw[hR];rfl⟩ ?_ ?_)
 simp only[kT_]
 refine ax_ [] rfl rfl rfl au_r (fun hs=>?_) (fun hs=>?_)
 ·repeat' (first|exact aZ_|refine aR_ rfl ?_ ?_)
  all_goals (first|(exact aA_ hs (aJ_ ab_ hcap))|exact au_c)
 ·repeat' (first|exact av_|refine an_ rfl rfl rfl rfl ?_ ?_)
  all_goals (first|exact au_e|(refine au_ ?_;repeat' (first|exact as_|refine ai_ ?_ ?_)))
  all_goals (first|(exact aA_ hs (aJ_ ab_ hcap))|exact au_c)
 rintro⟨i,n,last⟩ ⟨hi,hn0,hn1,hl0,hl1,hc⟩
 simp only at hi hn0 hn1 hl0 hl1 hc
 rw[kT_]
 refine r_z 1 ?_
 refine ac_ (ah_ rfl (fun h=>?_) (fun h=>?_))
 refine ae_ ?_
 have hlt:i< ch.length:=by simpa using h
 obtain⟨q,hq⟩:∃q,ch[i]?=some q:=⟨_,List.getElem?_eq_getElem hlt⟩
 have hqm:=List.mem_of_getElem? hq
 have hgt:(cE ch)[((i:Nat):Int).toNat]?=some [.arr (pE q)]:=pz_ hq
 have hd:ch.drop i=q::ch.drop (i+1):=by
  rw[List.drop_eq_getElem_cons hlt]
  rw[List.getElem?_eq_getElem hlt] at hq
  rw[Option.some.inj hq]
 rw[hd,List.map_cons,chL] at hc
 have hs2:=hsg q hqm
 refine ac_ (ag_ (s_r 3 ?_))
 refine i_x hgt ?_
 refine l_1 hgt ?_
 refine a_z ?_
 refine r_c 4 (hg q hqm) ?_
 refine a_z ?_
 refine r_z 2 ?_
 refine ah_ rfl (fun h1=>?_) (fun h1=>?_)
 have hne:sg q≠0:=by simpa using h1
 rw[if_pos hne] at hc
 refine ac_ (r_z 4 ?_)
 refine ah_ rfl (fun h2=>?_) (fun h2=>?_)
 have he:sg q= -last:=by simpa using h2
 rw[if_pos he] at hc
 refine r_m 3 ?_
 refine a_z ?_
 refine r_m 2 ?_
 refine a_z ?_
 refine r_m 2 ?_
 refine a_z ?_
 refine⟨(i+1,n+1,sg q),by simp only;omega,⟨hlt,by simp only;omega,by simp only;omega,hs2.1,hs2.2,hc⟩,?_⟩
 simp only[kT_]
 refine ax_ [] rfl rfl rfl au_r (fun hs=>?_) (fun hs=>?_)
 ·repeat' (first|exact aZ_|refine aR_ rfl ?_ ?_)
  all_goals (first|(exact aA_ hs (aJ_ ab_ hcap))|exact au_c)
 ·repeat' (first|exact av_|refine an_ rfl rfl rfl rfl ?_ ?_)
  all_goals (first|exact au_e|(refine au_ ?_;repeat' (first|exact as_|refine ai_ ?_ ?_)))
  all_goals (first|(exact aA_ hs (aJ_ ab_ hcap))|exact au_c)
 have he:¬sg q= -last:=by simpa using h2
 rw[if_neg he] at hc
 refine ae_ (r_m 2 ?_)
 refine a_z ?_
 refine r_m 2 ?_
 refine a_z ?_
 refine⟨(i+1,n,sg q),by simp only;omega,⟨hlt,hn0,by simp only;omega,hs2.1,hs2.2,hc⟩,?_⟩
 simp only[kT_]
 refine ax_ [] rfl rfl rfl au_r (fun hs=>?_) (fun hs=>?_)
 ·repeat' (first|exact aZ_|refine aR_ rfl ?_ ?_)
  all_goals (first|(exact aA_ hs (aJ_ ab_ hcap))|exact au_c)
 ·repeat' (first|exact av_|refine an_ rfl rfl rfl rfl ?_ ?_)
  all_goals (first|exact au_e|(refine au_ ?_;repeat' (first|exact as_|refine ai_ ?_ ?_)))
  all_goals (first|(exact aA_ hs (aJ_ ab_ hcap))|exact au_c)
 have hne:sg q=0:=by simpa using h1
 rw[if_neg (fun e=>e hne)] at hc
 refine ae_ (r_m 2 ?_)
 refine a_z ?_
 refine⟨(i+1,n,last),by simp only;omega,⟨hlt,hn0,by simp only;omega,hl0,hl1,hc⟩,?_⟩
 simp only[kT_]
 refine ax_ [] rfl rfl rfl au_r (fun hs=>?_) (fun hs=>?_)
 ·repeat' (first|exact aZ_|refine aR_ rfl ?_ ?_)
  all_goals (first|(exact aA_ hs (aJ_ ab_ hcap))|exact au_c)
 ·repeat' (first|exact av_|refine an_ rfl rfl rfl rfl ?_ ?_)
  all_goals (first|exact au_e|(refine au_ ?_;repeat' (first|exact as_|refine ai_ ?_ ?_)))
  all_goals (first|(exact aA_ hs (aJ_ ab_ hcap))|exact au_c)
 have hge:i=ch.length:=by
  have:¬i< ch.length:=by simpa using h
  omega
 subst hge
 rw[List.drop_length] at hc
 have hc':n=R:=hc
 subst hc'
 refine at_ ⟨(),trivial,?_⟩
 exact s_e []
 rintro _ _
 refine r_z 2 ?_
 exact af_ (t_e (ad_ _))
theorem nl_(q:List Rat)(h0:trimQ q≠[])(hl:q.length≤274877906944):FSpec Tryz.prog 224 [.arr (pE q)] (i64 (sgI q)):=by
 have hd:¬degP q< 0:=fun e=>h0 (degP_neg.1 e)
 have hb:=f3_ (leadP q).num
 refine f_n Tryz.func224 ?_ ?_
 exact aa_ (aj_ q) ab_
 refine r_z 1 ?_
 refine ac_ (r_c 4 (bo_ q (by omega)) ?_)
 refine a_z ?_
 refine ah_ rfl (fun h=>?_) (fun h=>?_)
 have h1:degP q % 2=1:=by simpa using h
 refine r_c 5 (fj_ q (by omega)) ?_
 refine c_s (bJ_ (leadP q)) ?_
 refine a_z ?_
 refine af_ (aN_ rfl ?_ ?_)
 unfold sgI;rw[if_pos h1];rfl
 exact ad_ _
 have h1:¬degP q % 2=1:=by simpa using h
 refine ae_ (r_c 4 (fj_ q (by omega)) ?_)
 refine c_s (bJ_ (leadP q)) ?_
 refine a_z ?_
 refine af_ (aN_ rfl ?_ ?_)
 unfold sgI;rw[if_neg h1]
 exact ad_ _
theorem oU_(f:Nat)(p:List Rat)(c:Cnt)(h:cn_ f p=some c)(hf:f≤1000000):FSpec Tryz.prog 148 [.arr (pE p)] (kA c):=by
 unfold cn_ at h
 obtain⟨s,hs,h2⟩:=Option.bind_eq_some_iff.1 h
 obtain⟨ch,hch,h3⟩:=Option.bind_eq_some_iff.1 h2
 split at h3
 case isFalse=>cases h3
 case isTrue hk=>
 cases h3
 have hcs:=it_ ch 224 [] sgI ab_ (fun q _=>sgI_abs q) hk.2.1 (fun q hq=>nl_ q (hk.1 q hq).1 (hk.1 q hq).2)
 refine f_n Tryz.func148 ?_ ?_
 exact aa_ (aj_ p) ab_
 refine r_z 1 ?_
 refine r_c 5 (iZ_ f p s hs) ?_
 refine a_z ?_
 refine r_c 9 (fs_sturm f s ch hch hf) ?_
 refine a_z ?_
 refine r_c 9 (hcs) ?_
 refine a_z ?_
 refine r_z 2 ?_
 exact af_ (Fin.tmpP rfl rfl rfl (kP_ _))
theorem fs_upto1(q:List Rat)(x:Rat)(h:dg_ q x):FSpec Tryz.prog 225 [.arr (pE q),bQ x] (i64 (sgE x q)):=by
 refine f_n Tryz.func225 ?_ ?_
 exact aa_ (aj_ q) (aa_ (b5_ x) ab_)
 refine r_z 1 ?_
 refine r_c 5 (jb_ q x h) ?_
 refine c_s (bJ_ (evalP q x)) ?_
 refine a_z ?_
 exact af_ (t_e (ad_ _))
theorem oK_(c:Cnt)(x:Rat)(h:okUp c x):FSpec Tryz.prog 149 [kA c,.agg (qC x)] (i64 (uptoV c x)):=by
 have hcs:=it_ c.ch 225 [bQ x] (sgE x) (aa_ (b5_ x) ab_) (fun q _=>f3_ _) h.1.2.1 (fun q hq=>fs_upto1 q x (h.2 q hq))
 have hb:=gD_ (x:=x) h.1
 unfold uptoV at hb⊢
 refine f_n Tryz.func149 ?_ ?_
 exact aa_ (ey_ c) (aa_ (am_ x) ab_)
 refine r_z 2 ?_
 refine AWp.ent (st':=⟨[(0,kA c),(3,bQ x)],[],1,16⟩) ?_ ?_
 exact s_e []
 refine ac_ (r_d hmix 12 ?_)
 refine c_s (hcs) ?_
 refine a_2 ?_
 refine ak_ (n_k ?_)
 exact af_ (t_e (ad_ _))
theorem fs_below(c:Cnt)(x:Rat)(h:okBe c x):FSpec Tryz.prog 150 [kA c,.agg (qC x)] (i64 (dy_ c x)):=by
 have hb:=gD_ (x:=x) h.1.1
 refine f_n Tryz.func150 ?_ ?_
 exact aa_ (ey_ c) (aa_ (am_ x) ab_)
 refine r_z 2 ?_
 refine r_c 4 (oK_ c x h.1) ?_
 refine a_z ?_
 refine aY_ (fun n:Int=>⟨[(5,i64 n)],[],1,20⟩) (fun n=>n=dy_ c x) ?_ ?_
 refine ac_ (r_d hmix 8 ?_)
 refine c_s (jb_ c.p x h.2) ?_
 refine c_s (bJ_ (evalP c.p x)) ?_
 refine a_1 ?_
 refine ak_ (n_k ?_)
 refine ah_ rfl (fun h1=>?_) (fun h1=>?_)
 have h0:evalP c.p x=0:=by
  have:sgZ (evalP c.p x).num=0:=by simpa using h1
  exact sgZ_num_eq.1 this
 refine r_m 3 ?_
 refine a_z ?_
 refine⟨uptoV c x- 1,by unfold dy_;rw[if_pos h0],?_⟩
 exact s_e []
 have h0:evalP c.p x≠0:=by
  intro e
  have:¬sgZ (evalP c.p x).num=0:=by simpa using h1
  exact this (sgZ_num_eq.2 e)
 refine ae_ ⟨uptoV c x,by unfold dy_;rw[if_neg h0],?_⟩
 exact s_e []
 rintro n rfl
 refine r_z 2 ?_
 exact af_ (t_e (ad_ _))

def okDown(c:Cnt)(step:Rat)(lo:Rat):Prop:=d0_ c.p∧trimQ c.p≠[]∧step≠0∧qs (aU_ c.p)+qs step≤549755813888∧qs lo+qs step≤549755813888∧okBe c (lo* step)
instance (c:Cnt) (step lo:Rat):Decidable (okDown c step lo):=inferInstanceAs (Decidable (_∧_∧_∧_∧_∧_))

def midV(s:Sp):Rat:=(s.1+s.2) * fineQ 1
def okNext(c:Cnt)(s:Sp):Prop:=smS s∧okBe c (midV s)
instance (c:Cnt) (s:Sp):Decidable (okNext c s):=inferInstanceAs (Decidable (_∧_))
abbrev bPl(c:Cnt)(i:Int):AV:= .aptr [[plA c i]] 0 0
theorem eU_(c:Cnt)(i:Int):Closed (bPl c i):=a8_ (aa_ (gh_ c i) ab_)



def qSpan(a:Rat)(k:Int):Sp:=(downQ a (wi k 256),upQ a (wi k 256))
def okRange(p:List Rat)(s:Sp)(k:Int):Prop:=smS s∧dg_ p s.1∧dg_ p s.2∧smL p∧p.length≤274877906944∧cmpQ s.1 s.2≤0∧degP p≤40∧smS (qSpan (evalP p s.1) k)∧smS (qSpan (evalP p s.2) k)
instance (p:List Rat) (s:Sp) (k:Int):Decidable (okRange p s k):=inferInstanceAs (Decidable (_∧_∧_∧_∧_∧_∧_∧_∧_))
theorem o7_(p q:List Rat)(h:okDiv p q)(h0:trimQ q≠[]):FSpec Tryz.prog 154 [.arr (pE p),.arr (pE q)] (.tup [.arr (pE (divP p q).1),.arr (pE (divP p q).2),i64 0]):=by
 have hl:=h.2.2
 refine f_n Tryz.func154 ?_ ?_
 exact aa_ (aj_ p) (aa_ (aj_ q) ab_)
 refine r_z 3 ?_
 refine ac_ (r_c 3 (bo_ q (by omega)) ?_)
 refine a_z ?_
 refine ah_ rfl (fun h1=>?_) (fun h1=>?_)
 exact absurd (degP_neg.1 (by simpa using h1)) h0
 refine ae_ (r_c 8 (es_ p q (mxL p) (mxL q) (bG_ p) (bG_ q) (bs_ p) (bs_ q) h.1 h0 h.2.1 h.2.2) ?_)
 refine a_z ?_
 refine r_z 5 ?_
 refine af_ (Fin.many ⟨_,_,rfl,rfl,⟨_,_,rfl,rfl,⟨_,_,rfl,rfl,rfl⟩⟩⟩ (nle rfl) ?_)
 exact ai_ (aA_ aB_ (aj_ _)) (ai_ (aA_ aB_ (aj_ _)) (ai_ (aA_ aB_ (ad_ _)) as_))



def nP_:List Nat→AState
 |l=>⟨[(0,.arr (iE l))],[],1,15⟩
theorem dE_(l:List Nat):nP_ l=⟨[(0,.arr (iE l))],[],1,15⟩:=rfl
theorem du_(l:List Nat)(hl:l.length≤281474976710656):FSpec Tryz.prog 258 [.arr (iE l)] (.arr (iE (c2_ l))):=by
 refine f_n Tryz.func258 ?_ ?_
 exact aa_ (a3_ l) ab_
 refine r_z 1 ?_
 refine aY_ nP_ (fun m=>m=c2_ l) ?_ ?_
 refine ag_ (aw_ nP_ (fun m=>m.length) (fun m=>m.length≤281474976710656∧c2_ m=c2_ l) l ⟨hl,rfl⟩ ?_ ?_)
 simp only[dE_]
 exact s_e []
 rintro m ⟨hm,he⟩
 rw[dE_]
 cases m with
 |nil=>
  refine ac_ (s_r 9 ?_)
  refine a_4 ?_
  refine n_g rfl d_f ?_
  refine n_g rfl d_f ?_
  refine n_g rfl d_f ?_
  refine n_g rfl d_f ?_
  refine o_0 (.pickF rfl d_f rfl) ?_
  refine ak_ ?_
  refine cF ?_
  refine at_ ⟨[],by simpa[c2_] using he,?_⟩
  simp only[dE_]
  exact s_e []
 |cons d m=>
  have hd:(iE (d::m))[(0:Int).toNat]?=some [i64 d]:=rfl
  refine ac_ (s_r 9 ?_)
  refine a_4 ?_
  refine y_g rfl (by simp) (.move rfl) ?_
  first|refine y_g rfl (by simp) (.index_l rfl rfl (by omega) (by omega) te_38.h) ?_|refine y_g rfl (by simp) (.index_a rfl rfl (by omega) hd rfl te_38.h) ?_
  first|refine y_g rfl (by simp) (.load_l1 rfl rfl hd tg_3.h rfl) ?_|refine y_g rfl (by simp) (.load_a1 rfl hd tg_3.h rfl) ?_
  refine y_g rfl (by simp) (.bin rfl rfl br_) ?_
  refine o_0 (.pickT rfl (by simp) rfl) ?_
  refine ak_ ?_
  refine ah_ rfl (fun h=>?_) (fun h=>?_)
  have h0:d=0:=by simpa using h
  refine ae_ ?_
  subst h0
  refine ag_ (r_m 3 ?_)
  refine a_1 ?_
  refine o_0 (.sa_l rfl rfl rfl (by simp) te_38.h (fg_ _)) ?_
  refine a_z ?_
  refine⟨m,by simp,⟨by simp at hm;omega,by simpa[c2_] using he⟩,?_⟩
  simp only[dE_]
  exact s_e []
  have h0:d≠0:=by simpa using h
  refine at_ ⟨d::m,by rw[←he];simp[c2_,h0],?_⟩
  simp only[dE_]
  exact s_e []
 rintro m rfl
 rw[dE_]
 refine r_z 2 ?_
 exact af_ (t_e (a3_ _))
theorem hw_(s:Int)(l:List Nat)(z:Int)(hl:l.length≤281474976710656)(hd:∀d∈l,d< UB)(hz:hv l=z.natAbs)(hs:z≠0→s=sgZ z):FSpec Tryz.prog 207 [i64 s,.arr (iE l)] (.agg (zZ z)):=by
 refine f_n Tryz.func207 ?_ ?_
 exact aa_ (ad_ _) (aa_ (a3_ l) ab_)
 refine r_z 1 ?_
 refine r_c 3 (du_ l hl) ?_
 refine a_z ?_
 refine ac_ (r_z 3 ?_)
 refine ah_ rfl (fun h=>?_) (fun h=>?_)
 have h0:c2_ l=[]:=by
  have:(c2_ l).length=0:=by simpa using h
  exact List.length_eq_zero_iff.1 this
 have hz0:z=0:=by have:=(h8_ hd).1 h0;omega
 subst hz0
 refine r_z 2 ?_
 refine af_ (Fin.cell rfl rfl rfl tg_40.h ts_40.h (nle rfl) ?_)
 rw[zZ_zero]
 exact Cv.agg (ai_ (aA_ aB_ (ad_ _)) (ai_ (Cv.emp _) as_))
 have h0:c2_ l≠[]:=fun e=>by rw[e] at h;simp at h
 have hz0:z≠0:=by
  intro e
  subst e
  exact h0 ((h8_ hd).2 hz)
 refine ae_ (r_z 4 ?_)
 refine af_ (b0_ rfl rfl rfl tg_40.h ts_40.h (nle rfl) ?_ ?_)
 show AV.agg [i64 s,.arr (iE (c2_ l))]=_
 unfold zZ
 rw[hs hz0,cA_ hd,hz]
 exact bm_ _
theorem zZ_neg(z:Int):zZ (-z)=[i64 (-sgZ z),.arr (iE (zd z.natAbs))]:=by
 unfold zZ
 rw[Int.natAbs_neg]
 congr 2
 unfold sgZ
 split <;> split <;>(try split)<;>(try split)<;> omega
theorem cB_(z:Int):sgZ z= -1∧z< 0∨sgZ z=0∧z=0∨sgZ z=1∧0< z:=by
 unfold sgZ;split
 right;left;exact⟨rfl,by assumption⟩
 split
 left;exact⟨rfl,by assumption⟩
 right;right;exact⟨rfl,by omega⟩
theorem oY_(z:Int):FSpec Tryz.prog 208 [.agg (zZ z)] (.agg (zZ (-z))):=by
 have hs:=cB_ z
 have hc:=bm_ (-z)
 rw[zZ_neg] at hc⊢
 refine f_n Tryz.func208 ?_ ?_
 exact aa_ (bm_ z) ab_
 refine r_z 2 ?_
 refine r_z 7 ?_
 exact af_ (c_e (hc))
theorem i7_(l:List Nat)(i:Nat)(hl:l.length≤281474976710656):FSpec Tryz.prog 292 [.arr (iE l),i64 i] (i64 (l.reverse[i]?.getD 0:Nat)):=by
 refine f_n Tryz.func292 ?_ ?_
 exact aa_ (a3_ l) (aa_ (ad_ _) ab_)
 refine r_z 1 ?_
 refine ac_ (r_z 4 ?_)
 refine ah_ rfl (fun h=>?_) (fun h=>?_)
 have hi:l.length≤i:=by simpa using h
 refine r_z 1 ?_
 refine af_ (aN_ rfl ?_ (ad_ _))
 rw[List.getElem?_eq_none (by simpa using hi)]
 rfl
 have hi:i< l.length:=by simp at h;omega
 refine ae_ ?_
 obtain⟨d,hd⟩:∃d,l[l.length- 1- i]?=some d:=⟨_,List.getElem?_eq_getElem (by omega)⟩
 have hd':(iE l)[((l.length:Int)- 1- i).toNat]?=some [i64 d]:=by rw[show((l.length:Int)- 1- i).toNat=l.length- 1- i by omega];exact e6_ hd
 refine s_r 9 ?_
 refine a_6 ?_
 refine i_x hd' ?_
 refine l_1 hd' ?_
 refine a_z ?_
 refine af_ (aN_ rfl ?_ (ad_ _))
 rw[List.getElem?_reverse hi,hd]
 rfl
theorem ni_(a b:List Nat):FSpec Tryz.prog 291 [.arr (iE a),.arr (iE b)] (i64 (max a.length b.length:Nat)):=by
 refine f_n Tryz.func291 ?_ ?_
 exact aa_ (a3_ a) (aa_ (a3_ b) ab_)
 refine r_z 1 ?_
 refine ac_ (r_z 5 ?_)
 refine ah_ rfl (fun h=>?_) (fun h=>?_)
 refine r_z 3 ?_
 refine af_ (aN_ rfl ?_ (ad_ _))
 have:b.length< a.length:=by simpa using h
 simp[i64];omega
 refine ae_ (r_z 3 ?_)
 refine af_ (aN_ rfl ?_ (ad_ _))
 have:¬b.length< a.length:=by simpa using h
 simp[i64];omega
def pJ_(a:Nat)(b:Nat):Nat→AState
 |i=>⟨[(0,.arr (iE (zd a))),(1,.arr (iE (zd b))),(5,i64 i)],[],1,40⟩
theorem eC_(a:Nat)(b:Nat)(i:Nat):pJ_ a b i=⟨[(0,.arr (iE (zd a))),(1,.arr (iE (zd b))),(5,i64 i)],[],1,40⟩:=rfl
theorem lN_{n i d:Nat}(h:(digs UB n)[i]?=some d):(zd n)[(digs UB n).length- 1- i]?=some d:=by
 have hi:i< (digs UB n).length:=(List.getElem?_eq_some_iff.1 h).1
 unfold zd
 rw[List.getElem?_reverse (by omega),show(digs UB n).length- 1- ((digs UB n).length- 1- i)=i by omega];exact h
theorem fs_ahead(a b:Nat)(ha:(zd a).length≤281474976710656)(hb:(zd b).length≤281474976710656):FSpec Tryz.prog 257 [.arr (iE (zd a)),.arr (iE (zd b))] (i64 (cmpZ a b)):=by
 have hza:=bu_ a
 have hzb:=bu_ b
 refine f_n Tryz.func257 ?_ ?_
 exact aa_ (a3_ _) (aa_ (a3_ _) ab_)
 refine r_z 1 ?_
 refine ac_ (r_z 5 ?_)
 refine ah_ rfl (fun h=>?_) (fun h=>?_)
 have hne:(zd a).length≠(zd b).length:=by simp at h;omega
 refine ac_ (r_z 5 ?_)
 refine ah_ rfl (fun h1=>?_) (fun h1=>?_)
 refine r_z 1 ?_
 refine af_ (aN_ rfl ?_ (ad_ _))
 have hl:(zd a).length< (zd b).length:=by simpa using h1
 rw[fm_]
 rfl
 have:=dK_ (b:=UB) (by decide) (show(digs UB a).length< (digs UB b).length by omega);omega
 refine ae_ (r_z 1 ?_)
 refine af_ (aN_ rfl ?_ (ad_ _))
 have hl:(zd b).length< (zd a).length:=by simp at h1;omega
 rw[gf_]
 rfl
 have:=dK_ (b:=UB) (by decide) (show(digs UB b).length< (digs UB a).length by omega);omega
 have heq:(digs UB a).length=(digs UB b).length:=by simp at h;omega
 refine ae_ (ac_ (r_z 1 ?_))
 refine aF_ (pJ_ a b) (fun _=>a=b) ?_ ?_
 refine ag_ (aw_ (pJ_ a b) (fun i=>(digs UB a).length- i) (fun i=>i≤(digs UB a).length∧(digs UB a).drop ((digs UB a).length- i)=(digs UB b).drop ((digs UB a).length- i)) 0 ⟨Nat.zero_le _,by rw[Nat.sub_zero,List.drop_length,heq,List.drop_length]⟩ ?_ ?_)
 simp only[eC_]
 exact s_e []
 rintro i ⟨hi,hd⟩
 rw[eC_]
 refine ac_ (r_z 4 ?_)
 refine ah_ rfl (fun h=>?_) (fun h=>?_)
 have hlt:i< (digs UB a).length:=by simp at h;omega
 obtain⟨k,hk⟩:∃k,k=(digs UB a).length- 1- i:=⟨_,rfl⟩
 have hk1:(digs UB a).length- i=k+1:=by omega
 rw[hk1] at hd
 obtain⟨x,hx⟩:∃x,(digs UB a)[k]?=some x:=⟨_,List.getElem?_eq_getElem (by omega)⟩
 obtain⟨y,hy⟩:∃y,(digs UB b)[k]?=some y:=⟨_,List.getElem?_eq_getElem (by omega)⟩
 have hx':(iE (zd a))[((i:Nat):Int).toNat]?=some [i64 x]:=by
  have:=lN_ hx
  rw[show(digs UB a).length- 1- k=i by omega] at this
  exact e6_ this
 have hy':(iE (zd b))[((i:Nat):Int).toNat]?=some [i64 y]:=by
  have:=lN_ hy
  rw[show(digs UB b).length- 1- k=i by omega] at this
  exact e6_ this
 refine ae_ (ac_ (ag_ (ac_ (ac_ (r_d hmix 9 ?_)))))
 refine a_2 ?_
 refine i_x hx' ?_
 refine l_1 hx' ?_
 refine a_2 ?_
 refine i_x hy' ?_
 refine l_1 hy' ?_
 refine a_1 ?_
 refine ak_ (n_k ?_)
 refine ah_ rfl (fun h1=>?_) (fun h1=>?_)
 refine r_z 1 ?_
 refine af_ (aN_ rfl ?_ (ad_ _))
 have hxy:x< y:=by simpa using h1
 have:=fA_ (fun d hd=>bY_ (by decide) a d hd) hx hy hd hxy
 rw[aT_ (by decide),aT_ (by decide)] at this
 rw[fm_ (by omega)];rfl
 refine ae_ (ac_ (r_d hmix 9 ?_))
 refine a_2 ?_
 refine i_x hx' ?_
 refine l_1 hx' ?_
 refine a_2 ?_
 refine i_x hy' ?_
 refine l_1 hy' ?_
 refine a_1 ?_
 refine ak_ (n_k ?_)
 refine ah_ rfl (fun h2=>?_) (fun h2=>?_)
 refine r_z 1 ?_
 refine af_ (aN_ rfl ?_ (ad_ _))
 have hxy:y< x:=by simpa using h2
 have:=fA_ (fun d hd=>bY_ (by decide) b d hd) hy hx hd.symm hxy
 rw[aT_ (by decide),aT_ (by decide)] at this
 rw[gf_ (by omega)];rfl
 have hxy:x=y:=by simp at h1 h2;omega
 subst hxy
 refine ae_ (r_m 3 ?_)
 refine a_z ?_
 refine⟨i+1,by omega,⟨by omega,?_⟩,?_⟩
 rw[show(digs UB a).length- (i+1)=k by omega,cF_ hx,cF_ hy,hd]
 simp only[eC_]
 exact s_e []
 have hge:i=(digs UB a).length:=by simp at h;omega
 refine at_ ⟨i,?_,?_⟩
 subst hge
 rw[Nat.sub_self,List.drop_zero,List.drop_zero] at hd
 rw[←aT_ (b:=UB) (by decide) a,←aT_ (b:=UB) (by decide) b,hd]
 simp only[eC_]
 exact s_e []
 rintro i rfl
 rw[eC_]
 refine r_z 1 ?_
 refine af_ (aN_ rfl ?_ (ad_ _))
 rw[pw_ rfl];rfl
def bothS(a:Nat)(b:Nat)(k:Int)(N:Nat):List Nat×Int→AState
 |(s,c)=>⟨[(0,.arr (iE (zd a))),(1,.arr (iE (zd b))),(2,i64 k),(7,i64 N),(8,.lsl 1 0 N (some N) 1),(9,i64 c),(10,i64 s.length)],[(1,some ⟨3,1,iE (List.replicate (N- s.length) 0++s.reverse)⟩)],2,51⟩
theorem jl_(a:Nat)(b:Nat)(k:Int)(N:Nat)(s:List Nat)(c:Int):bothS a b k N (s,c)=⟨[(0,.arr (iE (zd a))),(1,.arr (iE (zd b))),(2,i64 k),(7,i64 N),(8,.lsl 1 0 N (some N) 1),(9,i64 c),(10,i64 s.length)],[(1,some ⟨3,1,iE (List.replicate (N- s.length) 0++s.reverse)⟩)],2,51⟩:=rfl
def bothT(a:Nat)(b:Nat)(k:Int)(N:Nat)(s:List Nat):Int×Int→AState
 |(x,c)=>⟨[(0,.arr (iE (zd a))),(1,.arr (iE (zd b))),(2,i64 k),(7,i64 N),(8,.lsl 1 0 N (some N) 1),(9,i64 c),(10,i64 s.length),(11,i64 x)],[(1,some ⟨3,1,iE (List.replicate (N- s.length) 0++s.reverse)⟩)],2,51⟩
theorem eV_(a:Nat)(b:Nat)(k:Int)(N:Nat)(s:List Nat)(x:Int)(c:Int):bothT a b k N s (x,c)=⟨[(0,.arr (iE (zd a))),(1,.arr (iE (zd b))),(2,i64 k),(7,i64 N),(8,.lsl 1 0 N (some N) 1),(9,i64 c),(10,i64 s.length),(11,i64 x)],[(1,some ⟨3,1,iE (List.replicate (N- s.length) 0++s.reverse)⟩)],2,51⟩:=rfl
theorem oX_(a b:Nat)(k:Int)(r:Nat)(hk:k=1∨k= -1)(hr:(r:Int)=a+k* b)(ha:(zd a).length≤17592186044416)(hb:(zd b).length≤17592186044416):FSpec Tryz.prog 256 [.arr (iE (zd a)),.arr (iE (zd b)),i64 k] (.arr (iE (zd r))):=by
 have hza:=bu_ a
 have hzb:=bu_ b
 obtain⟨N,hN⟩:∃N,N=max (zd a).length (zd b).length+1:=⟨_,rfl⟩
 refine f_n Tryz.func256 ?_ ?_
 exact aa_ (a3_ _) (aa_ (a3_ _) (aa_ (ad_ _) ab_))
 refine r_z 1 ?_
 refine r_c 5 (ni_ (zd a) (zd b)) ?_
 refine a_z ?_
 have hNI:((max (zd a).length (zd b).length:Nat):Int)+1=(N:Int):=by omega
 refine s_r 3 ?_
 refine a_1 ?_
 refine o_1 (.makeSlice (congrArg (fun z=>some (AV.v (.int .i64 z))) hNI) (congrArg (fun z=>some (AV.v (.int .i64 z))) hNI) te_38.h tz_3.h rfl tb_3.h (by first|omega|(simp;done)|(simp;omega)) (by first|omega|(simp;done)|(simp;omega)) (by unfold maxLen;first|omega|(simp;done)|(simp;omega))) ?_
 refine a_z ?_
 refine r_z 1 ?_
 refine ac_ (r_z 1 ?_)
 have hdl:=cq_ (b:=UB) (by decide) (n:=r) (k:=N) (by
  have h1:=cV_ (b:=UB) (bY_ (by decide) a)
  have h2:=cV_ (b:=UB) (bY_ (by decide) b)
  rw[aT_ (by decide)] at h1 h2
  have h3:UB^ (digs UB a).length≤UB^ (N- 1):=Nat.pow_le_pow_right (by decide) (by omega)
  have h4:UB^ (digs UB b).length≤UB^ (N- 1):=Nat.pow_le_pow_right (by decide) (by omega)
  have h5:UB^ N=UB^ (N- 1) * UB:=by rw[←Nat.pow_succ];congr 1;omega
  rw[h5]
  show r< UB^ (N- 1) * 32768
  rcases hk with rfl|rfl <;> omega)
 have hrN:r< UB^ N:=by
  have h1:=cV_ (b:=UB) (bY_ (by decide) r)
  rw[aT_ (by decide)] at h1
  exact Nat.lt_of_lt_of_le h1 (Nat.pow_le_pow_right (by decide) hdl)
 refine aF_ (fun s:List Nat=>⟨[(8,.lsl 1 0 N (some N) 1)],[(1,some ⟨3,1,iE s.reverse⟩)],2,51⟩) (fun s=>s.length=N∧(∀d∈s,d< UB)∧ofD UB s=r) ?_ ?_
 refine ag_ (aw_ (bothS a b k N) (fun x=>N- x.1.length) (fun x=>x.1.length≤N∧(∀d∈x.1,d< UB)∧(x.2= -1∨x.2=0∨x.2=1)∧((ofD UB x.1:Nat):Int)+((UB^ x.1.length:Nat):Int) * x.2=(ofD UB ((digs UB a).take x.1.length):Nat)+k* (ofD UB ((digs UB b).take x.1.length):Nat)) ([],0) ⟨by simp,by simp,by simp,by simp[ofD]⟩ ?_ ?_)
 simp only[jl_]
 exact s_e [(1,8)]
 rintro⟨s,c⟩ ⟨hs,hd,hc,hval⟩
 simp only at hs hd hc hval
 simp only[jl_]
 refine ac_ (r_z 3 ?_)
 refine ah_ rfl (fun h=>?_) (fun h=>?_)
 have hlt:s.length< N:=by simpa using h
 refine ae_ ?_
 obtain⟨x,hx⟩:∃x,x=(digs UB a)[s.length]?.getD 0:=⟨_,rfl⟩
 obtain⟨y,hy⟩:∃y,y=(digs UB b)[s.length]?.getD 0:=⟨_,rfl⟩
 have hx1:x< 32768:=by
  rw[hx];cases hh:(digs UB a)[s.length]? with
  |none=>decide
  |some d=>exact bd_ (by decide) hh
 have hy1:y< 32768:=by
  rw[hy];cases hh:(digs UB b)[s.length]? with
  |none=>decide
  |some d=>exact bd_ (by decide) hh
 have hda:=i7_ (zd a) s.length (by omega)
 have hdb:=i7_ (zd b) s.length (by omega)
 unfold zd at hda hdb
 rw[List.reverse_reverse,←hx] at hda
 rw[List.reverse_reverse,←hy] at hdb
 have hky: -32768< k* y∧k* y< 32768:=by rcases hk with rfl|rfl <;> omega
 obtain⟨X,hX⟩:∃X:Int,X=x+k* y+c:=⟨_,rfl⟩
 have hXr: -32768≤X∧X≤65536:=by omega
 refine ac_ (ag_ (r_c 12 (hda) ?_))
 refine c_s (hdb) ?_
 refine a_z ?_
 refine r_z 1 ?_
 refine aY_ (bothT a b k N s) (fun v=>v.1=(if X< 0 then X+32768 else X)∧v.2=(if X< 0 then -1 else 0)) ?_ ?_
 refine r_z 2 ?_
 refine ah_ rfl (fun h1=>?_) (fun h1=>?_)
 have hX0:X< 0:=by rw[hX];simpa using h1
 refine r_z 3 ?_
 refine r_m 1 ?_
 refine a_z ?_
 refine⟨(X+32768,-1),⟨by rw[if_pos hX0],by rw[if_pos hX0]⟩,?_⟩
 simp only[eV_]
 refine ax_ [] rfl rfl rfl ?_ (fun hs=>?_) (fun hs=>?_)
 ·repeat' (first|exact ShrL.nil|refine ShrL.cons rfl rfl rfl rfl (by first|rfl|(simp;done)|(simp[hX]<;> omega)) ?_)
 ·repeat' (first|exact aZ_|refine aR_ rfl ?_ ?_)
  all_goals (first|exact au_c|(refine Cv.loE hs ?_ (ad_ _);first|rfl|(simp[i64,u64,u32,bln,hX];done)|(simp[i64,u64,u32,bln,hX]<;> omega)))
 ·repeat' (first|exact av_|refine an_ rfl rfl rfl rfl ?_ ?_)
  all_goals (first|exact au_e|(refine aE_ hs ?_ (bA_ _);first|(simp[gs_,eq_,cW_,hX];done)|(simp[iE,i64,ofV,hX];done))|(refine au_ ?_;repeat' (first|exact as_|refine ai_ ?_ ?_)))
  all_goals (first|exact au_c|(refine Cv.loE hs ?_ (ad_ _);first|(simp[i64,u64,u32,bln,hX];done)|(simp[i64,u64,u32,bln,hX]<;> omega)))
 have hX0:¬X< 0:=by rw[hX];simpa using h1
 refine ae_ ⟨(X,0),⟨by rw[if_neg hX0],by rw[if_neg hX0]⟩,?_⟩
 simp only[eV_]
 refine ax_ [] rfl rfl rfl ?_ (fun hs=>?_) (fun hs=>?_)
 ·repeat' (first|exact ShrL.nil|refine ShrL.cons rfl rfl rfl rfl (by first|rfl|(simp;done)|(simp[hX]<;> omega)) ?_)
 ·repeat' (first|exact aZ_|refine aR_ rfl ?_ ?_)
  all_goals (first|exact au_c|(refine Cv.loE hs ?_ (ad_ _);first|rfl|(simp[i64,u64,u32,bln,hX];done)|(simp[i64,u64,u32,bln,hX]<;> omega)))
 ·repeat' (first|exact av_|refine an_ rfl rfl rfl rfl ?_ ?_)
  all_goals (first|exact au_e|(refine aE_ hs ?_ (bA_ _);first|(simp[gs_,eq_,cW_,hX];done)|(simp[iE,i64,ofV,hX];done))|(refine au_ ?_;repeat' (first|exact as_|refine ai_ ?_ ?_)))
  all_goals (first|exact au_c|(refine Cv.loE hs ?_ (ad_ _);first|(simp[i64,u64,u32,bln,hX];done)|(simp[i64,u64,u32,bln,hX]<;> omega)))
 rintro⟨X1,c1⟩ ⟨hX1,hc1⟩
 simp only at hX1 hc1
 rw[eV_]
 refine aY_ (bothT a b k N s) (fun v=>v.1=X % 32768∧v.2=X/ 32768) ?_ ?_
 refine r_z 2 ?_
 refine ah_ rfl (fun h1=>?_) (fun h1=>?_)
 have h2:32768≤X1:=by simpa using h1
 have hX1r:X1≤65536:=by rw[hX1];split <;> omega
 refine r_z 3 ?_
 refine r_m 1 ?_
 refine a_z ?_
 have hX0:¬X< 0:=by intro h0;rw[if_pos h0] at hX1;omega
 rw[if_neg hX0] at hX1
 refine⟨(X1- 32768,1),⟨by simp only;omega,by simp only;omega⟩,?_⟩
 simp only[eV_]
 exact s_e []
 ·have h2:X1< 32768:=by simp at h1;omega
  refine ae_ ⟨(X1,c1),⟨by rw[hX1] at h2⊢;simp only;split <;> rename_i h3 <;> simp only[h3,if_true,if_false] at h2 <;> omega,by rw[hX1] at h2;rw[hc1];simp only;split <;> rename_i h3 <;> simp only[h3,if_true,if_false] at h2 <;> omega⟩,?_⟩
  simp only[eV_]
  exact s_e []
 rintro⟨X2,c2⟩ ⟨hX2,hc2⟩
 simp only at hX2 hc2
 rw[eV_]
 obtain⟨d,hdX⟩:∃d:Nat,X2=d:=⟨X2.toNat,by omega⟩
 have hd1:d< 32768:=by omega
 subst hdX
 have hlen:(List.replicate (N- s.length) 0++s.reverse).length=N:=by simp;omega
 have hrep:List.replicate (N- s.length) 0=List.replicate (N- (s.length+1)) 0++[0]:=by
  rw[show N- s.length=(N- (s.length+1))+1 by omega,List.replicate_succ']
 have hget:(iE (List.replicate (N- s.length) 0++s.reverse))[0+((N:Int)- 1- s.length).toNat]?=some [i64 0]:=by
  rw[show 0+((N:Int)- 1- s.length).toNat=N- (s.length+1) by omega]
  refine e6_ ?_
  rw[hrep,List.append_assoc]
  exact hv_ _ _ _ _ (by simp)
 have hset:(iE (List.replicate (N- s.length) 0++s.reverse)).set (0+((N:Int)- 1- s.length).toNat) [i64 d]=iE (List.replicate (N- (s++[d]).length) 0++(s++[d]).reverse):=by
  rw[show 0+((N:Int)- 1- s.length).toNat=N- (s.length+1) by omega,gs_,hrep,List.append_assoc]
  simp only[List.singleton_append,List.length_append,List.length_cons,List.length_nil,List.reverse_append,List.reverse_cons,List.reverse_nil,List.nil_append]
  rw[g4_ _ _ _ _ _ (by simp)]
  simp
 refine r_m 8 ?_
 refine a_7 ?_
 refine o_1n (.store rfl rfl hget rfl rfl rfl ts_3.h (nle rfl)) ?_
 refine ak_ ?_
 refine r_m 3 ?_
 refine a_z ?_
 refine⟨(s++[d],c2),by simp;omega,⟨by simp;omega,?_,by simp only;omega,?_⟩,?_⟩
 intro e he
 rcases List.mem_append.1 he with he|he
 exact hd e he
 simp at he;subst he;exact hd1
 simp only[List.length_append,List.length_cons,List.length_nil,Nat.zero_add]
 rw[c4_,b7_,b7_,←hx,←hy,Nat.pow_succ]
 obtain⟨B,hB⟩:∃B,B=UB^ s.length:=⟨_,rfl⟩
 rw[←hB] at hval⊢
 have hXX:X=32768* c2+d:=by omega
 have hBX:(B:Int) * X=B* x+k* (B* y)+B* c:=by
  rw[hX,Int.mul_add,Int.mul_add,Int.mul_left_comm]
 rw[hXX,Int.mul_add] at hBX
 have e1:((B* 32768:Nat):Int) * c2=B* (32768* c2):=by rw[Int.natCast_mul,Int.mul_assoc];rfl
 have e2:k* ((ofD UB ((digs UB b).take s.length)+B* y:Nat):Int)=k* (ofD UB ((digs UB b).take s.length):Nat)+k* (B* y):=by
  rw[Int.natCast_add,Int.mul_add,Int.natCast_mul]
 show((ofD UB s+B* d:Nat):Int)+((B* 32768:Nat):Int) * c2=_
 rw[e1,e2,Int.natCast_add,Int.natCast_add,Int.natCast_mul,Int.natCast_mul]
 omega
 simp only[jl_]
 refine ax_ [] rfl rfl rfl ?_ (fun hs=>au_f) (fun hs=>?_)
 ·repeat' (first|exact ShrL.nil|refine ShrL.cons rfl rfl rfl rfl (by first|(exact congrArg List.length hset)|rfl|(simp;done)|(simp <;> omega)) ?_)
 ·repeat' (first|exact av_|refine an_ rfl rfl rfl rfl ?_ ?_)
  all_goals (first|(exact aE_ hs hset (bA_ _))|exact au_e)
 have hge:s.length=N:=by simp at h;omega
 refine at_ ⟨s,⟨hge,hd,?_⟩,?_⟩
 rw[hge,List.take_of_length_le (by omega),List.take_of_length_le (by omega),aT_ (by decide),aT_ (by decide),←hr] at hval
 have hsl:=cV_ hd
 rw[hge] at hsl
 obtain⟨B,hB⟩:∃B,B=UB^ N:=⟨_,rfl⟩
 rw[←hB] at hval hsl hrN
 rcases hc with rfl|rfl|rfl <;> omega
 have e:iE (List.replicate (N- s.length) 0++s.reverse)=iE s.reverse:=by rw[hge];simp
 refine ax_ [] rfl rfl rfl ?_ (fun hs=>au_f) (fun hs=>?_)
 ·repeat' (first|exact ShrL.nil|refine ShrL.cons rfl rfl rfl rfl (by first|(exact congrArg List.length e)|rfl|(simp;done)|(simp <;> omega)) ?_)
 ·repeat' (first|exact av_|refine an_ rfl rfl rfl rfl ?_ ?_)
  all_goals (first|(exact aE_ hs e (bA_ _))|exact au_e)
 rintro s ⟨hs,hd,hval⟩
 have hd':∀d∈s.reverse,d< UB:=fun d h=>hd d (List.mem_reverse.1 h)
 have hst:=du_ s.reverse (by simp;omega)
 rw[cA_ hd',show hv s.reverse=r by unfold hv;rw[List.reverse_reverse];assumption] at hst
 have hfull:((iE s.reverse).drop 0).take N=iE s.reverse:=by rw[List.drop_zero,List.take_of_length_le (by simp;omega)]
 refine s_r 3 ?_
 refine a_1 ?_
 refine o_1 (.callS1 rfl rfl rfl (.shut rfl d_n (.nil)) rfl ((by rw[hfull];exact hst))) ?_
 refine a_z ?_
 exact af_ (t_e (a3_ _))
end Go.Proofs.YtdjfjpeoddmamaaGreatDoor
