/- Part Z19 of the proof. -/
import Derived.Test.YtdjfjpeoddmamaaGreatDoorZ18
import Derived.Shelf.Strconv.Itoa3
import Derived.Shelf.Strings.Repeat
set_option linter.all false
namespace Go.Proofs.YtdjfjpeoddmamaaGreatDoor
open Go.Abs
set_option maxRecDepth 20000
theorem iq_(l:List Rat)(q:Rat):pE (l++[q])=pE l++[qC q]:=by simp[pE]
def tk0(g:Nat)(cap:List AV)(n:Int):Unit→AState
 |u=>⟨[(3,.lptr 1 0 0),(5,.lptr 2 0 0),(7,.clos g [] cap)],[(1,some ⟨3,1,[[i64 n]]⟩),(2,some ⟨49,1,[[.emp]]⟩)],4,18⟩
theorem tk0_mk(g:Nat)(cap:List AV)(n:Int)(u:Unit):tk0 g cap n u=⟨[(3,.lptr 1 0 0),(5,.lptr 2 0 0),(7,.clos g [] cap)],[(1,some ⟨3,1,[[i64 n]]⟩),(2,some ⟨49,1,[[.emp]]⟩)],4,18⟩:=rfl
def tk1(g:Nat)(cap:List AV)(n:Int)(sq:Nat→Rat):Nat→AState
 |k=>⟨[(3,.lptr 1 0 0),(5,.lptr 2 0 0),(7,.clos g [] cap)],[(1,some ⟨3,1,[[i64 n]]⟩),(2,some ⟨49,1,[[.lsl 3 0 (k+1) none 3]]⟩),(3,some ⟨35,3,pE (sqL sq (k+1))⟩)],4,18⟩
def tkX(z:Nat)(sq:Nat→Rat):Unit→AState
 |u=>⟨[(5,.lptr 1 0 0)],[(1,some ⟨49,1,[[.lsl 2 0 (z+1) none 3]]⟩),(2,some ⟨35,3,pE (sqL sq (z+1))⟩)],4,18⟩
theorem tkX_mk(z:Nat)(sq:Nat→Rat)(u:Unit):tkX z sq u=⟨[(5,.lptr 1 0 0)],[(1,some ⟨49,1,[[.lsl 2 0 (z+1) none 3]]⟩),(2,some ⟨35,3,pE (sqL sq (z+1))⟩)],4,18⟩:=rfl
def tkS(g:Nat)(cap:List AV)(n:Int)(sq:Nat→Rat):Nat→AState
 |0=>tk0 g cap n ()
 |k+1=>tk1 g cap n sq k
theorem hZ_(g:Nat)(cap:List AV)(hcap:∀c∈cap,Closed c)(sq:Nat→Rat)(n:Nat)(hn:n≤1000)(hcm:cap.map coe=cap)(hgs:GSpecB Tryz.prog g (cap.map coe) (fun k=>some [.agg (qC (sq k))]) n):FSpec Tryz.prog 83 [.clos g [] cap,i64 n] (.arr (pE (sqL sq (n+1)))):=by
 have hcF:Closed (.clos g [] cap):=aW_ ab_ hcap
 refine f_n Tryz.func83 ?_ ?_
 exact aa_ hcF (aa_ (ad_ _) ab_)
 refine r_z 2 ?_
 refine r_z 1 ?_
 refine ac_ (r_z 1 ?_)
 refine aD_ (tkX n sq) (fun _=>True) ?_ ?_
 refine ah_ (AWp.rangeFuncB (α:=Nat) (γ:=Unit) n (tkS g cap n sq) (fun k=>k) (fun k=>k≤n) (tkX n sq) (fun e _=>e= .exit 0) 0 rfl hgs rfl rfl ?_ (fun k=>by cases k <;> exact⟨rfl,rfl⟩) (fun _=>rfl) (Nat.zero_le _) rfl (fun _ h=>h) ?_ ?_ ?_ ?_ ?_)
 intro k xs hT;cases hT;rfl
 show SEntT _ (tk0 g cap n ())
 rw[tk0_mk]
 exact s_t [(1,3),(2,5)]
 rw[hcm];exact hcap
 ·intro l k xs hk hT
  cases hT
  cases k with
  |zero=>
   show AWp _ _ _ _ ⟨setPs (tk0 g cap n ()).fr _ _++cQ_ (tk0 g cap n ()).fr,_,_,_⟩
   show AWp _ _ _ _ ⟨[(8,.agg (qC (sq 0))),(3,.lptr 1 0 0),(5,.lptr 2 0 0),(7,.clos g [] cap),(1003,.lptr 1 0 0),(1005,.lptr 2 0 0),(1007,.clos g [] cap)],[(1,some ⟨3,1,[[i64 n]]⟩),(2,some ⟨49,1,[[.emp]]⟩)],4,18⟩
   refine r_m 2 ?_
   refine a_z ?_
   refine ah_ (s_r 5 ?_)
   refine a_3 ?_
   refine o_1 (.append_e rfl rfl rfl te_49.h rfl rfl rfl (.lsl rfl (nle rfl)) (by first|assumption|(simp;done)) tz_35.h rfl tb_35.h d_o (by first|(simp[maxLen];done)|(simp[maxLen];omega))) ?_
   refine a_z ?_
   refine r_z 4 ?_
   refine aj_ rfl (fun h1=>?_) (fun h1=>?_)
   have h2:n=0:=by
    simp at h1;omega
   subst h2
   refine av_ (⟨rfl,(),rfl,?_⟩)
   show SEntT _ ⟨[(1005,.lptr 1 0 0)],[(1,some ⟨49,1,[[.lsl 2 0 (0+1) none 3]]⟩),(2,some ⟨35,3,pE (sqL sq (0+1))⟩)],4,18⟩
   have:=aJ_ [sq 0]
   exact s_t [(1,1005),(2,12)]
   have h2:¬n=0:=by
    simp at h1;omega
   refine ai_ (⟨0+1,⟨by omega,rfl⟩,?_⟩)
   show SEntT _ ⟨[(1003,.lptr 1 0 0),(1005,.lptr 2 0 0),(1007,.clos g [] cap)],[(1,some ⟨3,1,[[i64 n]]⟩),(2,some ⟨49,1,[[.lsl 3 0 (0+1) none 3]]⟩),(3,some ⟨35,3,pE (sqL sq (0+1))⟩)],4,18⟩
   have:=aJ_ [sq 0]
   exact s_t [(3,12)]
  |succ k=>
   show AWp _ _ _ _ ⟨setPs (tk1 g cap n sq k).fr _ _++cQ_ (tk1 g cap n sq k).fr,_,_,_⟩
   have e:pE (sqL sq (k+1))++[qC (sq (k+1))]=pE (sqL sq (k+1+1)):=by rw[eP_ sq (k+1),iq_]
   show AWp _ _ _ _ ⟨[(8,.agg (qC (sq (k+1)))),(3,.lptr 1 0 0),(5,.lptr 2 0 0),(7,.clos g [] cap),(1003,.lptr 1 0 0),(1005,.lptr 2 0 0),(1007,.clos g [] cap)],[(1,some ⟨3,1,[[i64 n]]⟩),(2,some ⟨49,1,[[.lsl 3 0 (k+1) none 3]]⟩),(3,some ⟨35,3,pE (sqL sq (k+1))⟩)],4,18⟩
   refine r_m 2 ?_
   refine a_z ?_
   refine ah_ (r_z 5 ?_)
   refine r_z 4 ?_
   refine aj_ rfl (fun h1=>?_) (fun h1=>?_)
   have h2:n=k+1:=by
    simp at h1;omega
   subst h2
   refine av_ (⟨rfl,(),rfl,?_⟩)
   show SEntT _ ⟨[(1005,.lptr 1 0 0)],[(1,some ⟨49,1,[[.lsl 2 0 ((k+1)+1) none 3]]⟩),(2,some ⟨35,3,pE (sqL sq ((k+1)+1))⟩)],4,18⟩
   exact s_t [(1,1005),(2,12)]
   have h2:¬n=k+1:=by
    simp at h1;omega
   refine ai_ (⟨k+1+1,⟨by omega,rfl⟩,?_⟩)
   show SEntT _ ⟨[(1003,.lptr 1 0 0),(1005,.lptr 2 0 0),(1007,.clos g [] cap)],[(1,some ⟨3,1,[[i64 n]]⟩),(2,some ⟨49,1,[[.lsl 3 0 ((k+1)+1) none 3]]⟩),(3,some ⟨35,3,pE (sqL sq ((k+1)+1))⟩)],4,18⟩
   exact s_t [(3,12)]
 intro k hk hT;cases hT
 rintro e u rfl
 exact⟨u,trivial,SEnt.refl _⟩
 rintro u _
 rw[tkX_mk]
 refine r_z 2 ?_
 exact ag_ (Fin.tmpS rfl rfl rfl (by simp) (aJ_ _))
def w0C:List AV:=[.emp,bln false,bln false]++zC++zC
theorem aX_:∀c∈w0C,Closed c:=fun c hc=>by
 unfold w0C at hc
 rcases List.mem_append.1 hc with hc|hc
 rcases List.mem_append.1 hc with hc|hc
 exact aa_ bQ_ (aa_ (ad_ _) (aa_ (ad_ _) ab_)) c hc
 exact ee_ c hc
 exact ee_ c hc
theorem nV_(a b:Rat)(n:Nat)(hn:n≤63)(hab:a< b)(ha:qs a≤256)(hb:qs b≤256)(hok:∀k,k≤n→okMo [1] (a,b) k):
    FSpec Tryz.prog 15 [.agg (spC a b),i64 0,i64 0,i64 n] (.tup [.agg (wC (sqL (moQ [1] (a,b)) (n+1)) true true (qC a) (qC b)),i64 0]):=by
 have sa:sm a:=Nat.le_trans ha (by decide)
 have sb:sm b:=Nat.le_trans hb (by decide)
 have hva:=fp_ a b sa sb
 rw[decide_eq_true (show cmpQ a b≤0 by unfold cmpQ;rw[if_pos hab];decide)] at hva
 have hsi:=bU_ (b- a)
 have hne:¬sgZ (b- a).num=0:=fun e=>by have:=sgZ_num_eq.1 e;grind
 have ho0:=bE_ 0 0 8
 rw[decide_eq_false (by decide)] at ho0
 have hon:=bE_ (n:Nat) 0 63
 rw[decide_eq_false (by omega)] at hon
 have hp1:FSpec Tryz.prog 79 [.arr [qC (-a),qC ((1:Int):Rat)],i64 0] (.arr (pE [1])):=jS_ [-a,1] 0 (fun q hq=>by
  rcases List.mem_cons.1 hq with rfl|hq
  rw[dK_];exact ha
  rw[List.mem_singleton.1 hq];decide) (by simp) (by decide) (fun k hk=>by
  have:k=0:=by omega
  subst this;show pB 2 0≤_;decide)
 have hp2:FSpec Tryz.prog 79 [.arr [qC b,qC ((-1:Int):Rat)],i64 0] (.arr (pE [1])):=jS_ [b,-1] 0 (fun q hq=>by
  rcases List.mem_cons.1 hq with rfl|hq
  exact hb
  rw[List.mem_singleton.1 hq];decide) (by simp) (by decide) (fun k hk=>by
  have:k=0:=by omega
  subst this;show pB 2 0≤_;decide)
 have hmu:=j3_ [1] [1] 1 1 (by decide) (by decide) (by decide) (by decide) (by decide) (by decide) (by decide) (by decide)
 rw[show mulP [1] [1]=[1] by decide+kernel] at hmu
 have htk:=hZ_ 81 [bP [1],bS (a,b)] (aa_ (bz_ _) (aa_ (fy_ _) ab_)) (moQ [1] (a,b)) n (by omega) rfl (mo_ [1] (a,b) n (by omega) hok)
 refine f_n Tryz.func15 ?_ ?_
 exact aa_ (ca_ _ _) (aa_ (ad_ _) (aa_ (ad_ _) (aa_ (ad_ _) ab_)))
 refine r_z 3 ?_
 refine a2_ (fun _:Unit=>⟨[(1,i64 0),(2,i64 0),(3,i64 n),(4,.lptr 1 0 0),(8,.lptr 2 0 0)],[(1,some ⟨37,6,[spC a b]⟩),(2,some ⟨51,9,[w0C]⟩)],3,58⟩) (fun _=>True) ?_ ?_
 refine ah_ (r_c 10 (hva) ?_)
 refine c_s (gN_ a b sa sb) ?_
 refine c_s (hsi) ?_
 refine d_z ?_
 refine cF (r_c 11 (ho0) ?_)
 refine c_s (ho0) ?_
 refine c_s (hon) ?_
 refine a_z ?_
 refine cF (ai_ ⟨(),trivial,?_⟩)
 refine at_ [(1,4),(2,8)] rfl rfl rfl au_r (fun hs=>au_f) (fun hs=>?_)
 ·repeat' (first|exact aq_|refine al_ rfl rfl rfl rfl ?_ ?_)
  all_goals (first|((try exact ae_ (CvL.clo hs (fun c hc=>(List.mem_append.1 hc).elim (a1_ _ c) (a1_ _ c))));(try exact ae_ (CvL.clo hs aX_)))|exact au_e)
 rintro _ _
 refine ac_ (r_d hmix 16 ?_)
 refine c_s (hG_ a) ?_
 refine c_s (a7_ 1 (by decide)) ?_
 refine a_2 ?_
 refine o_1 (.callS1 rfl rfl rfl (.shut rfl d_n (.keep (.nil))) rfl (hp1)) ?_
 refine c_s (a7_ (-1) (by decide)) ?_
 refine a_2 ?_
 refine o_1 (.callS1 rfl rfl rfl (.shut rfl d_n (.keep (.nil))) rfl (hp2)) ?_
 refine c_s (hmu) ?_
 refine a_2 ?_
 refine ak_ (n_k ?_)
 refine AWp.ent (st':=⟨[(3,i64 n),(4,bS (a,b)),(8,.lptr 1 0 0),(10,bP [1])],[(1,some ⟨51,9,[w0C]⟩)],2,58⟩) ?_ ?_
 exact s_f [(1,8)]
 refine r_z 2 ?_
 refine ac_ (r_d hmix 10 ?_)
 refine c_s (htk) ?_
 refine a_7 ?_
 refine ak_ (n_k ?_)
 refine ag_ (Fin.many ⟨_,_,rfl,⟨_,_,_,_,_,rfl,rfl,rfl,.inl ⟨tg_51.h,_,ts_51.h,nle rfl,rfl⟩⟩,⟨_,_,rfl,rfl,rfl⟩⟩ (nle rfl) ?_)
 exact af_ (an_ au_ (ao_ (aR_ (.inr ⟨a,rfl⟩) (.inr ⟨b,rfl⟩)))) (af_ (an_ au_ (ad_ _)) ap_)
theorem iJ_(L:List Rat):∀n,LeLL (List.replicate n zC++pE L) (pE (List.replicate n 0++L))
 |0=>LeLL.refl _
 |n+1=> .cons le_zC (iJ_ L n)
theorem lv_(n:Nat)(L:List Rat):Closed (.arr (List.replicate n zC++pE L)):=aU_ fun c hc=>(List.mem_append.1 hc).elim (fun h=>by rw[List.eq_of_mem_replicate h];exact ee_) (aJ_ L c)
theorem FSpec.zerosQ{P:Program}{f n:Nat}{L:List Rat}{a r:AV}(h:FSpec P f [a,.arr (pE (List.replicate n 0++L))] r)(ha:Closed a):FSpec P f [a,.arr (List.replicate n zC++pE L)] r:=
 h.weak (.cons (Le.refl _) (.cons (Le.arr (iJ_ L n)) .nil)) (aa_ ha (aa_ (lv_ n L) ab_))
theorem lJ_(n:Nat):(List.replicate n zC).all (·.all AV.one)=true:=by
 simp only[List.all_replicate]
 cases n <;> rfl
def tmS(f:Nat→Rat)(t1:AV)(W:List AV):Nat→AState
 |0=>⟨[(6,i64 ((0:Nat):Int)),(5,.emp),(1,t1),(2,.lptr 1 0 0),(4,.lptr 2 0 0)],[(1,some ⟨51,9,[W]⟩),(2,some ⟨51,9,[w0C]⟩)],3,29⟩
 |k+1=>⟨[(6,i64 ((k+1:Nat):Int)),(5,.lsl 3 0 (k+1) none 3),(1,t1),(2,.lptr 1 0 0),(4,.lptr 2 0 0)],[(1,some ⟨51,9,[W]⟩),(2,some ⟨51,9,[w0C]⟩),(3,some ⟨35,3,pE (sqL f (k+1))⟩)],4,29⟩
theorem tmS_0(f:Nat→Rat)(t1:AV)(W:List AV):tmS f t1 W 0=⟨[(6,i64 ((0:Nat):Int)),(5,.emp),(1,t1),(2,.lptr 1 0 0),(4,.lptr 2 0 0)],[(1,some ⟨51,9,[W]⟩),(2,some ⟨51,9,[w0C]⟩)],3,29⟩:=rfl
theorem tmS_s(f:Nat→Rat)(t1:AV)(W:List AV)(k:Nat):tmS f t1 W (k+1)=⟨[(6,i64 ((k+1:Nat):Int)),(5,.lsl 3 0 (k+1) none 3),(1,t1),(2,.lptr 1 0 0),(4,.lptr 2 0 0)],[(1,some ⟨51,9,[W]⟩),(2,some ⟨51,9,[w0C]⟩),(3,some ⟨35,3,pE (sqL f (k+1))⟩)],4,29⟩:=rfl
theorem jU_(p m:List Rat)(l r:Bool)(a b:Rat)(s t:Nat)(hp:bdL p s)(hm:bdL m t)(hs:1≤s)(ht:1≤t)(hpl:p.length≤1000)(hml:m.length≤1000)(hlim:(p.length+m.length+3) * (s+t+1)≤137438953472):
    FSpec Tryz.prog 121 [.agg (wC m l r (qC a) (qC b)),.arr (pE p)] (.agg (wC (sqL (tmQ p m) (m.length+1- (trimQ p).length)) l r (qC a) (qC b))):=by
 obtain⟨K,hK⟩:∃K,K=m.length+1- (trimQ p).length:=⟨_,rfl⟩
 rw[←hK]
 have htl:=aI_ p
 have hdg:=bI_ p (by omega)
 have hd:degP p=((trimQ p).length:Int)- 1:=rfl
 have hWc:∀c∈wC m l r (qC a) (qC b),Closed c:=aR_ (.inr ⟨a,rfl⟩) (.inr ⟨b,rfl⟩)
 have hof:∀k,k< K→FSpec Tryz.prog 114 [.agg (wC m l r (qC a) (qC b)),.arr (List.replicate k zC++pE p)] (.agg (qC (tmQ p m k))):=fun k hlt=>by
  have hle:k+(trimQ p).length≤m.length:=by omega
  exact FSpec.zerosQ (fs_of (List.replicate k 0++p) m l r a b s t (nj_ hp hs k) hm hs ht (by simp;omega) (ic_ p k _ hle) (Nat.le_trans (Nat.mul_le_mul_right _ (by simp;omega)) hlim)) (ao_ hWc)
 have e:∀k,pE (sqL (tmQ p m) k)++[qC (tmQ p m k)]=pE (sqL (tmQ p m) (k+1)):=fun k=>by rw[eP_,iq_]
 generalize tmQ p m=f at hof e⊢
 refine f_n Tryz.func121 ?_ ?_
 exact aa_ (ao_ hWc) (aa_ (as_ p) ab_)
 refine r_z 2 ?_
 refine r_z 1 ?_
 refine ac_ (r_z 1 ?_)
 refine aD_ (fun _:Unit=>⟨[(2,.lptr 1 0 0),(4,.lptr 2 0 0),(5,.arr (pE (sqL f K)))],[(1,some ⟨51,9,[wC m l r (qC a) (qC b)]⟩),(2,some ⟨51,9,[w0C]⟩)],3,29⟩) (fun _=>True) ?_ ?_
 refine ah_ (aw_ (fun k:Nat=>tmS f (.arr (pE p)) (wC m l r (qC a) (qC b)) k) (fun k=>K- k) (fun k=>k≤K) 0 (Nat.zero_le _) ?_ ?_)
 rw[tmS_0]
 refine at_ [(1,2),(2,4)] rfl rfl rfl au_r (fun hs=>au_f) (fun hs=>?_)
 ·repeat' (first|exact aq_|refine al_ rfl rfl rfl rfl ?_ ?_)
  all_goals (first|((try exact ae_ (CvL.clo hs hWc));(try exact ae_ (CvL.clo hs aX_)))|exact au_e)
 rintro k hk
 by_cases hlt:k< K
 ·have hle:k+(trimQ p).length≤m.length:=by omega
  have hof:=hof k hlt
  have e:=e k
  cases k with
  |zero=>
   rw[tmS_0]
   refine ac_ (ac_ (r_d hmix 8 ?_))
   refine c_s (hdg) ?_
   refine d_5 ?_
   refine ak_ (n_k ?_)
   refine cT (ai_ (ac_ (ah_ (r_d hmix 10 ?_))))
   refine a_5 ?_
   refine o_2 (.append_l rfl rfl rfl te_55.h rfl rfl rfl rfl rfl d_o (lJ_ _) (c2_ _) rfl (.arr (gc_ _)) tz_35.h rfl tb_35.h d_o (by first|(simp[maxLen];done)|(simp[maxLen];omega))) ?_
   refine o_1 (.callS1 rfl rfl rfl (.keep (.shut rfl d_n (.nil))) rfl ((FSpec.argE2 hof (by rw[List.drop_zero];exact List.take_of_length_le (by simp))))) ?_
   refine a_3 ?_
   refine ak_ (n_k ?_)
   refine r_m 3 ?_
   refine a_z ?_
   refine⟨0+1,by omega,hlt,?_⟩
   rw[tmS_s]
   refine at_ [(3,5)] rfl rfl rfl au_r (fun hs=>au_f) (fun hs=>?_)
   ·repeat' (first|exact aq_|refine al_ rfl rfl rfl rfl ?_ ?_)
    all_goals (first|((try exact ae_ (CvL.clo hs hWc));(try exact ae_ (CvL.clo hs aX_));(try exact aO_ hs (aJ_ [f 0])))|exact au_e)
  |succ k=>
   rw[tmS_s]
   refine ac_ (ac_ (r_d hmix 8 ?_))
   refine c_s (hdg) ?_
   refine d_5 ?_
   refine ak_ (n_k ?_)
   refine cT (ai_ (ac_ (ah_ (r_d hmix 10 ?_))))
   refine a_5 ?_
   refine o_2 (.append_l rfl rfl rfl te_55.h rfl rfl rfl rfl rfl d_o (lJ_ _) (c2_ _) rfl (.arr (gc_ _)) tz_35.h rfl tb_35.h d_o (by first|(simp[maxLen];done)|(simp[maxLen];omega))) ?_
   refine o_1 (.callS1 rfl rfl rfl (.keep (.shut rfl d_n (.nil))) rfl ((FSpec.argE2 hof (by rw[List.drop_zero];exact List.take_of_length_le (by simp))))) ?_
   refine a_3 ?_
   refine ak_ (n_k ?_)
   refine r_m 3 ?_
   refine a_z ?_
   refine⟨k+1+1,by omega,hlt,?_⟩
   rw[tmS_s]
   refine at_ [(3,5)] rfl rfl rfl ?_ (fun hs=>au_f) (fun hs=>?_)
   ·repeat' (first|exact ShrL.nil|refine ShrL.cons rfl rfl rfl rfl (by first|(simp)|rfl|(simp;done)|(simp <;> omega)) ?_)
   ·repeat' (first|exact aq_|refine al_ rfl rfl rfl rfl ?_ ?_)
    all_goals (first|((try exact ae_ (CvL.clo hs hWc));(try exact ae_ (CvL.clo hs aX_));(try exact aH_ hs e (aJ_ _)))|exact au_e)
 have hge:k=K:=by omega
 subst hge
 cases k with
 |zero=>
  rw[tmS_0]
  refine ac_ (ac_ (r_d hmix 8 ?_))
  refine c_s (hdg) ?_
  refine d_5 ?_
  refine ak_ (n_k ?_)
  refine cF (av_ ⟨(),trivial,?_⟩)
  exact s_e []
 |succ k=>
  rw[tmS_s]
  refine ac_ (ac_ (r_d hmix 8 ?_))
  refine c_s (hdg) ?_
  refine d_5 ?_
  refine ak_ (n_k ?_)
  refine cF (av_ ⟨(),trivial,?_⟩)
  refine at_ [] rfl rfl rfl au_r (fun hs=>?_) (fun hs=>?_)
  ·repeat' (first|exact aK_|refine aE_ rfl ?_ ?_)
   all_goals (first|(exact Cv.shut hs rfl (aQ_ rfl) (by simp) (aH_ hs (by rw[List.drop_zero];exact List.take_of_length_le (by simp)) (aJ_ _)))|exact au_c)
  ·repeat' (first|exact aq_|refine al_ rfl rfl rfl rfl ?_ ?_)
   all_goals (first|exact au_e|(refine ae_ ?_;repeat' (first|exact ap_|refine af_ ?_ ?_)))
   all_goals (first|(exact Cv.shut hs rfl (aQ_ rfl) (by simp) (aH_ hs (by rw[List.drop_zero];exact List.take_of_length_le (by simp)) (aJ_ _)))|exact au_c)
 rintro _ _
 refine r_z 3 ?_
 refine r_z 2 ?_
 exact ag_ (c_e (ao_ (aR_ (.inr ⟨a,rfl⟩) (.inr ⟨b,rfl⟩))))
theorem mx_(m p:List Rat)(l r:Bool)(a b:Rat)(h:okOf m p):FSpec Tryz.prog 114 [.agg (wC m l r (qC a) (qC b)),.arr (pE p)] (.agg (qC (ofP m p))):=
 fs_of p m l r a b (mxL p) (mxL m) (cl_ p) (cl_ m) (b0_ p) (b0_ m) h.1 h.2.1 h.2.2
theorem d9_(p q:List Rat)(o:okMul p q):FSpec Tryz.prog 52 [.arr (pE p),.arr (pE q)] (.arr (pE (mulP p q))):=
 j3_ p q (mxL p) (mxL q) (cl_ p) (cl_ q) (b0_ p) (b0_ q) o.1 o.2.1 o.2.2.1 o.2.2.2
def ldC(W:List AV)(p q:AV)(nm:List AV)(a b:AV):List AV:=W++[p,q]++nm++[a,b]
def ldF(m:List Rat)(l r:Bool)(a b:Rat)(k:Nat):List AV:=ldC (wC m l r (qC a) (qC b)) (.arr (pE (ldr m k).1)) (.arr (pE (ldr m k).2.1)) (qC (ldr m k).2.2) (.arr (pE (sqL (ldAk m) k))) (.arr (pE (sqL (ldB m) k)))
theorem eK_(m:List Rat)(l r:Bool)(a b:Rat)(k:Nat):∀c∈ldF m l r a b k,Closed c:=fun c hc=>by
 unfold ldF ldC at hc
 rcases List.mem_append.1 hc with hc|hc
 rcases List.mem_append.1 hc with hc|hc
 rcases List.mem_append.1 hc with hc|hc
 exact aR_ (.inr ⟨a,rfl⟩) (.inr ⟨b,rfl⟩) c hc
 exact aa_ (as_ _) (aa_ (as_ _) ab_) c hc
 exact a1_ _ c hc
 exact aa_ (as_ _) (aa_ (as_ _) ab_) c hc
theorem cD_{r:Ren}{hp hp':Nat→Option ABlk}:∀{a b c d:List AV},CvL r hp hp' a b→CvL r hp hp' c d→CvL r hp hp' (a++c) (b++d)
 |[],_,_,_,h,h2=>by cases h;exact h2
 |x::xs,_,_,_,⟨y,ys,e,h1,h3⟩,h2=>by subst e;exact⟨y,_,rfl,h1,cD_ h3 h2⟩
theorem jo_{r:Ren}{hp hp':Nat→Option ABlk}(W:List AV){p q a b p' q' a' b':AV}{nm nm':List AV}(h:Shr r hp hp')(hW:∀c∈W,Closed c)(h1:Cv r hp hp' p p')(hq:Cv r hp hp' q q')(hn:CvL r hp hp' nm nm')(ha:Cv r hp hp' a a')(hb:Cv r hp hp' b b'):CvL r hp hp' (ldC W p q nm a b) (ldC W p' q' nm' a' b'):=
 cD_ (cD_ (cD_ (CvL.clo h hW) (af_ h1 (af_ hq ap_))) hn) (af_ ha (af_ hb ap_))
theorem dR_{r:Ren}{hp hp':Nat→Option ABlk}{id n:Nat}{cap:Option Nat}{B:ABlk}{L:List Rat}(h:Shr r hp hp')(hi:cellF hp id=some B)(hi':Dead r hp' id)(he:B.es=pE L)(hn:n=L.length):Cv r hp hp' (.lsl id 0 n cap 3) (.arr (pE L)):=
 Cv.shut h hi hi' (by rw[he,hn];simp) (aH_ h (by rw[he,List.drop_zero];exact List.take_of_length_le (by simp[hn])) (aJ_ _))
theorem fD_{r:Ren}{hp hp':Nat→Option ABlk}(h:Shr r hp hp'):CvL r hp hp' zC (qC 0):=by
 rw[qC0]
 exact af_ (Cv.emp _) (af_ (an_ h (ad_ _)) (af_ (Cv.emp _) ap_))
def clS(m:List Rat)(l r:Bool)(a b:Rat)(n:Nat):Nat→AState
 |0=>⟨[(17,i64 n),(18,i64 ((0:Nat):Int)),(6,.lptr 1 0 0)],[(1,some ⟨150,16,[ldC (wC m l r (qC a) (qC b)) (.arr (pE [1])) .emp zC .emp .emp]⟩)],2,113⟩
 |k+1=>⟨[(17,i64 n),(18,i64 ((k+1:Nat):Int)),(6,.lptr 1 0 0)],[(1,some ⟨150,16,[ldC (wC m l r (qC a) (qC b)) (.arr (pE (ldr m (k+1)).1)) (.arr (pE (ldr m (k+1)).2.1)) (qC (ldr m (k+1)).2.2) (.lsl 2 0 (k+1) none 3) (.lsl 3 0 (k+1) none 3)]⟩),(2,some ⟨35,3,pE (sqL (ldAk m) (k+1))⟩),(3,some ⟨35,3,pE (sqL (ldB m) (k+1))⟩)],4,113⟩
theorem clS_0(m:List Rat)(l r:Bool)(a b:Rat)(n:Nat):clS m l r a b n 0=⟨[(17,i64 n),(18,i64 ((0:Nat):Int)),(6,.lptr 1 0 0)],[(1,some ⟨150,16,[ldC (wC m l r (qC a) (qC b)) (.arr (pE [1])) .emp zC .emp .emp]⟩)],2,113⟩:=rfl
theorem clS_s(m:List Rat)(l r:Bool)(a b:Rat)(n k:Nat):clS m l r a b n (k+1)=⟨[(17,i64 n),(18,i64 ((k+1:Nat):Int)),(6,.lptr 1 0 0)],[(1,some ⟨150,16,[ldC (wC m l r (qC a) (qC b)) (.arr (pE (ldr m (k+1)).1)) (.arr (pE (ldr m (k+1)).2.1)) (qC (ldr m (k+1)).2.2) (.lsl 2 0 (k+1) none 3) (.lsl 3 0 (k+1) none 3)]⟩),(2,some ⟨35,3,pE (sqL (ldAk m) (k+1))⟩),(3,some ⟨35,3,pE (sqL (ldB m) (k+1))⟩)],4,113⟩:=rfl
def clX(m:List Rat)(l r:Bool)(a b:Rat)(n k:Nat):AState:=⟨[(17,i64 n),(18,i64 k),(6,.lptr 1 0 0)],[(1,some ⟨150,16,[ldF m l r a b k]⟩)],2,113⟩
set_option maxHeartbeats 2000000 in
theorem my_(m:List Rat)(l r:Bool)(a b:Rat)(n d:Nat)(hn:n≤1000)(hd:d≤n)(hok:∀k,k< d→okLd m k)(hbad:d< n→okMul (ldr m d).1 (ldr m d).1∧okOf m (mulP (ldr m d).1 (ldr m d).1)∧¬0< ldN m (ldr m d).1):
    FSpec Tryz.prog 87 [.agg (wC m l r (qC a) (qC b)),i64 n] (.tup [.aptr [ldF m l r a b d] 0 0,bln (decide (d=n))]):=by
 have hWc:∀c∈wC m l r (qC a) (qC b),Closed c:=aR_ (.inr ⟨a,rfl⟩) (.inr ⟨b,rfl⟩)
 refine f_n Tryz.func87 ?_ ?_
 exact aa_ (ao_ hWc) (aa_ (ad_ _) ab_)
 refine r_z 3 ?_
 refine ac_ (r_d hmix 6 ?_)
 refine c_s (a7_ 1 (by decide)) ?_
 refine a_4 ?_
 refine ak_ (n_k ?_)
 refine ac_ (r_z 2 ?_)
 refine aD_ (fun _:Unit=>⟨[(6,.aptr [ldF m l r a b d] 0 0)],[],1,113⟩) (fun _=>d=n) ?_ ?_
 refine ah_ (aw_ (fun k:Nat=>clS m l r a b n k) (fun k=>n- k) (fun k=>k≤d) 0 (Nat.zero_le _) ?_ ?_)
 rw[clS_0]
 refine at_ [(1,6)] rfl rfl rfl au_r (fun hs=>au_f) (fun hs=>?_)
 ·repeat' (first|exact aq_|refine al_ rfl rfl rfl rfl ?_ ?_)
  all_goals (first|(exact ae_ (jo_ _ hs hWc (dR_ (L:=[1]) hs rfl (aQ_ rfl) rfl rfl) (an_ hs bQ_) (CvL.clo hs ee_) (an_ hs bQ_) (an_ hs bQ_)))|exact au_e)
 rintro k hk
 by_cases hlt:k< d
 obtain⟨o1,o2,o3,o4,o5,o6,o7,o8,o9,o10,o11,o12,o13,o14,o15⟩:=hok k hlt
 have hmm:=d9_ _ _ o1
 have ho1:=mx_ m _ l r a b o2
 have hsg:=bU_ (ldN m (ldr m k).1)
 have hsp:=sgZ_num_gt.2 o3
 have hmx:=rY_ _ o4
 have ho2:=mx_ m _ l r a b o5
 have hov:=d7_ _ (ldN m (ldr m k).1) (by grind) o6
 have hng:=hG_ (ldAk m k)
 have hmp:=d9_ (ldr m k).1 [-ldAk m k,1] o8
 have hsc:=er_ (ldr m k).2.1 (ldB m k) o9 o10 o13
 have hsu:=rT_ _ _ o11 o12 o14 o15
 cases k with
 |zero=>
  have hsc0:FSpec Tryz.prog 50 [.arr [],.agg [.arr [],bln false,.arr []]] (.arr (pE (az_ (ldr m 0).2.1 (ldB m 0)))):=by
   rw[show qC (ldB m 0)=[.arr [],bln false,.arr []] by rw[show ldB m 0=0 from rfl];exact qC0] at hsc
   exact hsc
  rw[clS_0]
  refine q_z 1 ?_
  refine ac_ (cT (ai_ (ac_ (ah_ (r_z 2 ?_)))))
  refine ac_ (r_d hmix 10 ?_)
  refine c_s (hmm) ?_
  refine a_1 ?_
  refine ak_ (n_k ?_)
  refine r_c 8 (ho1) ?_
  refine a_z ?_
  refine ac_ (r_c 3 (hsg) ?_)
  refine d_z ?_
  refine cF (ai_ (ac_ (r_d hmix 17 ?_)))
  refine c_s (a7_ 1 (by decide)) ?_
  refine a_1 ?_
  refine o_1 (.callS1 rfl rfl rfl (.keep (.shut rfl d_n (.nil))) rfl (hmx)) ?_
  refine c_s (ho2) ?_
  refine c_s (hov) ?_
  refine a_5 ?_
  refine ak_ (n_k ?_)
  refine ac_ (q_z 2 ?_)
  refine cF (ai_ (r_z 5 ?_))
  refine ac_ (r_d hmix 22 ?_)
  refine a_8 ?_
  refine a_8 ?_
  refine a_6 ?_
  refine ak_ (n_k ?_)
  refine r_d hmix 28 ?_
  refine c_s (hng) ?_
  refine c_s (a7_ 1 (by decide)) ?_
  refine a_1 ?_
  refine o_1 (.callS1 rfl rfl rfl (.keep (.shut rfl d_n (.nil))) rfl (hmp)) ?_
  refine c_s (hsc0) ?_
  refine c_s (hsu) ?_
  refine a_8 ?_
  refine a_2 ?_
  refine ak_ (n_k ?_)
  refine r_m 2 ?_
  refine a_z ?_
  refine⟨0+1,by omega,hlt,?_⟩
  rw[clS_s]
  refine at_ [(1,6),(2,73),(3,80)] rfl rfl rfl au_r (fun hs=>au_f) (fun hs=>?_)
  ·repeat' (first|exact aq_|refine al_ rfl rfl rfl rfl ?_ ?_)
   all_goals (first|((try exact aO_ hs (aJ_ [ldAk m 0]));(try exact ae_ (fD_ hs));(try exact ae_ (jo_ _ hs hWc (an_ hs (as_ _)) (an_ hs (as_ _)) (CvL.clo hs (a1_ _)) (Cv.sl rfl rfl rfl) (Cv.sl rfl rfl rfl))))|exact au_e)
 |succ k=>
  rw[clS_s]
  have hB:ldB m (k+1)=ldN m (ldr m (k+1)).1/ (ldr m (k+1)).2.2:=if_neg (Nat.succ_ne_zero k)
  have hpv:0< (ldr m (k+1)).2.2:=(hok k (by omega)).2.2.1
  have hov2:=d7_ (ldN m (ldr m (k+1)).1) (ldr m (k+1)).2.2 (by grind) o7
  rw[←hB] at hov2
  have eA:pE (sqL (ldAk m) (k+1))++[qC (ldAk m (k+1))]=pE (sqL (ldAk m) (k+1+1)):=by rw[eP_ _ (k+1),iq_]
  have eB:pE (sqL (ldB m) (k+1))++[qC (ldB m (k+1))]=pE (sqL (ldB m) (k+1+1)):=by rw[eP_ _ (k+1),iq_]
  refine q_z 1 ?_
  refine ac_ (cT (ai_ (ac_ (ah_ (r_z 2 ?_)))))
  refine ac_ (r_d hmix 10 ?_)
  refine c_s (hmm) ?_
  refine a_1 ?_
  refine ak_ (n_k ?_)
  refine r_c 8 (ho1) ?_
  refine a_z ?_
  refine ac_ (r_c 3 (hsg) ?_)
  refine d_z ?_
  refine cF (ai_ (ac_ (r_d hmix 17 ?_)))
  refine c_s (a7_ 1 (by decide)) ?_
  refine a_1 ?_
  refine o_1 (.callS1 rfl rfl rfl (.keep (.shut rfl d_n (.nil))) rfl (hmx)) ?_
  refine c_s (ho2) ?_
  refine c_s (hov) ?_
  refine a_5 ?_
  refine ak_ (n_k ?_)
  refine ac_ (q_z 2 ?_)
  refine cT (r_d hmix 7 ?_)
  refine c_s (hov2) ?_
  refine a_1 ?_
  refine ak_ (n_k ?_)
  refine r_z 5 ?_
  refine ac_ (r_d hmix 22 ?_)
  refine a_8 ?_
  refine a_8 ?_
  refine a_6 ?_
  refine ak_ (n_k ?_)
  refine r_d hmix 28 ?_
  refine c_s (hng) ?_
  refine c_s (a7_ 1 (by decide)) ?_
  refine a_1 ?_
  refine o_1 (.callS1 rfl rfl rfl (.keep (.shut rfl d_n (.nil))) rfl (hmp)) ?_
  refine c_s (hsc) ?_
  refine c_s (hsu) ?_
  refine a_8 ?_
  refine a_2 ?_
  refine ak_ (n_k ?_)
  refine r_m 2 ?_
  refine a_z ?_
  refine⟨k+1+1,by omega,hlt,?_⟩
  rw[clS_s]
  refine at_ [(1,6),(2,73),(3,80)] rfl rfl rfl ?_ (fun hs=>au_f) (fun hs=>?_)
  ·repeat' (first|exact ShrL.nil|refine ShrL.cons rfl rfl rfl rfl (by first|(simp)|rfl|(simp;done)|(simp <;> omega)) ?_)
  ·repeat' (first|exact aq_|refine al_ rfl rfl rfl rfl ?_ ?_)
   all_goals (first|((try exact aH_ hs eA (aJ_ _));(try exact aH_ hs eB (aJ_ _));(try exact ae_ (jo_ _ hs hWc (an_ hs (as_ _)) (an_ hs (as_ _)) (CvL.clo hs (a1_ _)) (Cv.sl rfl rfl rfl) (Cv.sl rfl rfl rfl))))|exact au_e)
 obtain rfl:k=d:=by omega
 refine AWp.ent (st':=clX m l r a b n k) ?_ ?_
 cases k with
 |zero=>
  rw[clS_0]
  unfold clX
  refine at_ [(1,6)] rfl rfl rfl au_r (fun hs=>au_f) (fun hs=>?_)
  ·repeat' (first|exact aq_|refine al_ rfl rfl rfl rfl ?_ ?_)
   all_goals (first|(exact ae_ (jo_ _ hs hWc (an_ hs (as_ _)) (Cv.emp _) (fD_ hs) (Cv.emp _) (Cv.emp _)))|exact au_e)
 |succ k=>
  rw[clS_s]
  unfold clX
  refine at_ [(1,6)] rfl rfl rfl au_r (fun hs=>au_f) (fun hs=>?_)
  ·repeat' (first|exact aq_|refine al_ rfl rfl rfl rfl ?_ ?_)
   all_goals (first|(exact ae_ (jo_ _ hs hWc (an_ hs (as_ _)) (an_ hs (as_ _)) (CvL.clo hs (a1_ _)) (dR_ hs rfl (aQ_ rfl) rfl (by simp)) (dR_ hs rfl (aQ_ rfl) rfl (by simp))))|exact au_e)
 unfold clX
 by_cases hdn:k< n
 ·obtain⟨o1,o2,o3⟩:=hbad hdn
  have hmm:=d9_ _ _ o1
  have ho1:=mx_ m _ l r a b o2
  have hsg:=bU_ (ldN m (ldr m k).1)
  have hsp:sgZ (ldN m (ldr m k).1).num≤0:=by
   have h1:=sgZ_num_gt (q:=ldN m (ldr m k).1)
   by_cases e:0< sgZ (ldN m (ldr m k).1).num
   exact absurd (h1.1 e) o3
   omega
  rw[decide_eq_false (show¬k=n by omega)]
  refine q_z 1 ?_
  refine ac_ (cT (ai_ (ac_ (ah_ (r_z 2 ?_)))))
  refine ac_ (r_d hmix 10 ?_)
  refine c_s (hmm) ?_
  refine a_1 ?_
  refine ak_ (n_k ?_)
  refine r_c 8 (ho1) ?_
  refine a_z ?_
  refine ac_ (r_c 3 (hsg) ?_)
  refine d_z ?_
  refine aj_ rfl (fun h=>?_) (fun h=>?_)
  rotate_left
  cases h
  refine r_z 3 ?_
  refine ag_ (Fin.many ⟨_,_,rfl,rfl,⟨_,_,rfl,rfl,rfl⟩⟩ (nle rfl) ?_)
  exact af_ (Cv.boxp au_ rfl (fun _ _ h=>by cases h) rfl (eK_ m l r a b _)) (af_ (an_ au_ (ad_ _)) ap_)
 obtain rfl:k=n:=by omega
 refine q_z 1 ?_
 refine ac_ (cF (av_ ⟨(),rfl,?_⟩))
 refine at_ [] rfl rfl rfl au_r (fun hs=>?_) (fun hs=>?_)
 ·repeat' (first|exact aK_|refine aE_ rfl ?_ ?_)
  all_goals (first|(exact Cv.boxp hs rfl (aQ_ rfl) rfl (eK_ m l r a b _))|exact au_c)
 ·repeat' (first|exact aq_|refine al_ rfl rfl rfl rfl ?_ ?_)
  all_goals (first|exact au_e|(refine ae_ ?_;repeat' (first|exact ap_|refine af_ ?_ ?_)))
  all_goals (first|(exact Cv.boxp hs rfl (aQ_ rfl) rfl (eK_ m l r a b _))|exact au_c)
 rintro _ hdn
 rw[decide_eq_true hdn]
 refine r_z 3 ?_
 refine ag_ (Fin.many ⟨_,_,rfl,rfl,⟨_,_,rfl,rfl,rfl⟩⟩ (nle rfl) ?_)
 exact CvL.clo au_ (aa_ (dt_ fun e he=>by rw[List.mem_singleton.1 he];exact eK_ m l r a b d) (aa_ (ad_ _) ab_))
theorem lf_(m:List Rat)(l r:Bool)(a b:Rat)(n:Nat)(hn:n≤1000)(hok:∀k,k< n→okLd m k):
    FSpec Tryz.prog 87 [.agg (wC m l r (qC a) (qC b)),i64 n] (.tup [.aptr [ldF m l r a b n] 0 0,bln true]):=by
 have h:=my_ m l r a b n n hn (Nat.le_refl n) hok fun h=>absurd h (Nat.lt_irrefl n)
 rw[decide_eq_true rfl] at h
 exact h
theorem iR_(u v:Rat)(n:Nat)(hu:qs u≤256)(hv:qs v≤256)(hn:n≤8):FSpec Tryz.prog 79 [.arr (pE [u,v]),i64 n] (.arr (pE (powP [u,v] n))):=by
 refine f_n Tryz.func79 ?_ ?_
 exact aa_ (as_ _) (aa_ (ad_ _) ab_)
 refine r_z 1 ?_
 refine r_c 8 (rW_ u v n hu hv hn) ?_
 refine a_z ?_
 refine r_z 2 ?_
 exact ag_ (t_e (as_ _))
abbrev wZ:List AV:=wC [] false false (qC 0) (qC 0)
theorem Cv_wZ{r:Ren}{hp hp':Nat→Option ABlk}(h:Shr r hp hp'):Cv r hp hp' (.agg w0C) (.agg wZ):=
 Cv.agg (cD_ (cD_ (af_ (Cv.emp _) (af_ (an_ h (ad_ _)) (af_ (an_ h (ad_ _)) ap_))) (fD_ h)) (fD_ h))
theorem r0_(a b:Rat)(p q n:Nat)(hp:p≤8)(hq:q≤8)(hn:n≤63)(hab:a< b)(ha:qs a≤256)(hb:qs b≤256):
    FSpec Tryz.prog 15 [.agg (spC a b),i64 p,i64 q,i64 n] (.tup [.agg (wC (sqL (moQ (jcF a b p q) (a,b)) (n+1)) true true (qC a) (qC b)),i64 0]):=by
 have sa:sm a:=Nat.le_trans ha (by decide)
 have sb:sm b:=Nat.le_trans hb (by decide)
 have hva:=fp_ a b sa sb
 rw[decide_eq_true (show cmpQ a b≤0 by unfold cmpQ;rw[if_pos hab];decide)] at hva
 have hsi:=bU_ (b- a)
 have hne:¬sgZ (b- a).num=0:=fun e=>by have:=sgZ_num_eq.1 e;grind
 have hop:=bE_ (p:Nat) 0 8
 rw[decide_eq_false (by omega)] at hop
 have hoq:=bE_ (q:Nat) 0 8
 rw[decide_eq_false (by omega)] at hoq
 have hon:=bE_ (n:Nat) 0 63
 rw[decide_eq_false (by omega)] at hon
 have hp1:FSpec Tryz.prog 79 [.arr [qC (-a),qC ((1:Int):Rat)],i64 p] (.arr (pE (powP [-a,1] p))):=iR_ (-a) 1 p (by rw[dK_];exact ha) (by decide) hp
 have hp2:FSpec Tryz.prog 79 [.arr [qC b,qC ((-1:Int):Rat)],i64 q] (.arr (pE (powP [b,-1] q))):=iR_ b (-1) q hb (by decide) hq
 have l1:=dL_ (-a) 1 hp
 have l2:=dL_ b (-1) hq
 have m1:=lB_le hp
 have m2:=lB_le hq
 have hmu:FSpec Tryz.prog 52 [.arr (pE (powP [-a,1] p)),.arr (pE (powP [b,-1] q))] (.arr (pE (jcF a b p q))):=j3_ _ _ (lB p) (lB q) (jc_p ha) (jc_q hb) (fk_ p) (fk_ q) (by
  have h4:=Nat.mul_le_mul l1 (show lB p+lB q+1≤320001 by omega)
  omega) (by omega) (by omega) (by omega)
 have htk:=hZ_ 81 [bP (jcF a b p q),bS (a,b)] (aa_ (bz_ _) (aa_ (fy_ _) ab_)) (moQ (jcF a b p q) (a,b)) n (by omega) rfl (mo_ (jcF a b p q) (a,b) n (by omega) fun k hk=>(jc_mom ha hb hp hq k (by omega)).1)
 generalize moQ (jcF a b p q) (a,b)=sq at htk⊢
 refine f_n Tryz.func15 ?_ ?_
 exact aa_ (ca_ _ _) (aa_ (ad_ _) (aa_ (ad_ _) (aa_ (ad_ _) ab_)))
 refine r_z 3 ?_
 refine a2_ (fun _:Unit=>⟨[(1,i64 p),(2,i64 q),(3,i64 n),(4,.lptr 1 0 0),(8,.lptr 2 0 0)],[(1,some ⟨37,6,[spC a b]⟩),(2,some ⟨51,9,[w0C]⟩)],3,58⟩) (fun _=>True) ?_ ?_
 refine ah_ (r_c 10 (hva) ?_)
 refine c_s (gN_ a b sa sb) ?_
 refine c_s (hsi) ?_
 refine d_z ?_
 refine cF (r_c 11 (hop) ?_)
 refine c_s (hoq) ?_
 refine c_s (hon) ?_
 refine a_z ?_
 refine cF (ai_ ⟨(),trivial,?_⟩)
 refine at_ [(1,4),(2,8)] rfl rfl rfl au_r (fun hs=>au_f) (fun hs=>?_)
 ·repeat' (first|exact aq_|refine al_ rfl rfl rfl rfl ?_ ?_)
  all_goals (first|((try exact ae_ (CvL.clo hs (fun c hc=>(List.mem_append.1 hc).elim (a1_ _ c) (a1_ _ c))));(try exact ae_ (CvL.clo hs aX_)))|exact au_e)
 rintro _ _
 refine ac_ (r_d hmix 16 ?_)
 refine c_s (hG_ a) ?_
 refine c_s (a7_ 1 (by decide)) ?_
 refine a_2 ?_
 refine o_1 (.callS1 rfl rfl rfl (.shut rfl d_n (.keep (.nil))) rfl (hp1)) ?_
 refine c_s (a7_ (-1) (by decide)) ?_
 refine a_2 ?_
 refine o_1 (.callS1 rfl rfl rfl (.shut rfl d_n (.keep (.nil))) rfl (hp2)) ?_
 refine c_s (hmu) ?_
 refine a_2 ?_
 refine ak_ (n_k ?_)
 refine AWp.ent (st':=⟨[(3,i64 n),(4,bS (a,b)),(8,.lptr 1 0 0),(10,bP (jcF a b p q))],[(1,some ⟨51,9,[w0C]⟩)],2,58⟩) ?_ ?_
 exact s_f [(1,8)]
 refine r_z 2 ?_
 refine ac_ (r_d hmix 10 ?_)
 refine c_s (htk) ?_
 refine a_7 ?_
 refine ak_ (n_k ?_)
 refine ag_ (Fin.many ⟨_,_,rfl,⟨_,_,_,_,_,rfl,rfl,rfl,.inl ⟨tg_51.h,_,ts_51.h,nle rfl,rfl⟩⟩,⟨_,_,rfl,rfl,rfl⟩⟩ (nle rfl) ?_)
 exact af_ (an_ au_ (ao_ (aR_ (.inr ⟨a,rfl⟩) (.inr ⟨b,rfl⟩)))) (af_ (an_ au_ (ad_ _)) ap_)
theorem p8_(a b:Rat)(p q n:Int)(hab:¬a< b)(ha:qs a≤256)(hb:qs b≤256):FSpec Tryz.prog 15 [.agg (spC a b),i64 p,i64 q,i64 n] (.tup [.agg wZ,i64 2]):=by
 have sa:sm a:=Nat.le_trans ha (by decide)
 have sb:sm b:=Nat.le_trans hb (by decide)
 have hva:=fp_ a b sa sb
 refine f_n Tryz.func15 ?_ ?_
 exact aa_ (ca_ _ _) (aa_ (ad_ _) (aa_ (ad_ _) (aa_ (ad_ _) ab_)))
 refine r_z 3 ?_
 refine ac_ (ah_ ?_)
 by_cases e:a=b
 have hsi:=bU_ (b- a)
 rw[decide_eq_true (show cmpQ a b≤0 by unfold cmpQ;rw[if_neg hab,if_pos e];decide)] at hva
 refine r_c 10 (hva) ?_
 refine c_s (gN_ a b sa sb) ?_
 refine c_s (hsi) ?_
 refine bl_ rfl rfl rfl (.bin rfl rfl (vT bq_ (decide_eq_true (sgZ_num_eq.2 (by grind))))) rfl rfl ?_
 refine a_z ?_
 refine cT (r_z 3 ?_)
 refine ag_ (Fin.many ⟨_,_,rfl,⟨_,_,_,_,_,rfl,rfl,rfl,.inl ⟨tg_51.h,_,ts_51.h,nle rfl,rfl⟩⟩,⟨_,_,rfl,rfl,rfl⟩⟩ (nle rfl) ?_)
 exact af_ (Cv_wZ au_) (af_ (an_ au_ (ad_ _)) ap_)
 rw[decide_eq_false (show¬cmpQ a b≤0 by unfold cmpQ;rw[if_neg hab,if_neg e];decide)] at hva
 refine r_c 10 (hva) ?_
 refine a_z ?_
 refine cT (r_z 3 ?_)
 refine ag_ (Fin.many ⟨_,_,rfl,⟨_,_,_,_,_,rfl,rfl,rfl,.inl ⟨tg_51.h,_,ts_51.h,nle rfl,rfl⟩⟩,⟨_,_,rfl,rfl,rfl⟩⟩ (nle rfl) ?_)
 exact af_ (Cv_wZ au_) (af_ (an_ au_ (ad_ _)) ap_)
theorem p7_(a b:Rat)(p q n:Int)(hab:a< b)(ha:qs a≤256)(hb:qs b≤256)(h:p< 0∨8< p∨q< 0∨8< q∨n< 0∨63< n):FSpec Tryz.prog 15 [.agg (spC a b),i64 p,i64 q,i64 n] (.tup [.agg wZ,i64 3]):=by
 have sa:sm a:=Nat.le_trans ha (by decide)
 have sb:sm b:=Nat.le_trans hb (by decide)
 have hva:=fp_ a b sa sb
 rw[decide_eq_true (show cmpQ a b≤0 by unfold cmpQ;rw[if_pos hab];decide)] at hva
 have hsi:=bU_ (b- a)
 have hne:¬sgZ (b- a).num=0:=fun e=>by have:=sgZ_num_eq.1 e;grind
 have hop:=bE_ p 0 8
 have hoq:=bE_ q 0 8
 have hon:=bE_ n 0 63
 refine f_n Tryz.func15 ?_ ?_
 exact aa_ (ca_ _ _) (aa_ (ad_ _) (aa_ (ad_ _) (aa_ (ad_ _) ab_)))
 refine r_z 3 ?_
 refine ac_ (ah_ (r_c 10 (hva) ?_))
 refine c_s (gN_ a b sa sb) ?_
 refine c_s (hsi) ?_
 refine d_z ?_
 refine cF ?_
 by_cases h1:p< 0∨8< p
 rw[decide_eq_true h1] at hop
 refine r_c 11 (hop) ?_
 refine a_z ?_
 refine cT (r_z 3 ?_)
 refine ag_ (Fin.many ⟨_,_,rfl,⟨_,_,_,_,_,rfl,rfl,rfl,.inl ⟨tg_51.h,_,ts_51.h,nle rfl,rfl⟩⟩,⟨_,_,rfl,rfl,rfl⟩⟩ (nle rfl) ?_)
 exact af_ (Cv_wZ au_) (af_ (an_ au_ (ad_ _)) ap_)
 rw[decide_eq_false h1] at hop
 by_cases h2:q< 0∨8< q
 rw[decide_eq_true h2] at hoq
 refine r_c 11 (hop) ?_
 refine c_s (hoq) ?_
 refine a_z ?_
 refine cT (r_z 3 ?_)
 refine ag_ (Fin.many ⟨_,_,rfl,⟨_,_,_,_,_,rfl,rfl,rfl,.inl ⟨tg_51.h,_,ts_51.h,nle rfl,rfl⟩⟩,⟨_,_,rfl,rfl,rfl⟩⟩ (nle rfl) ?_)
 exact af_ (Cv_wZ au_) (af_ (an_ au_ (ad_ _)) ap_)
 rw[decide_eq_false h2] at hoq
 rw[decide_eq_true (show n< 0∨63< n by omega)] at hon
 refine r_c 11 (hop) ?_
 refine c_s (hoq) ?_
 refine c_s (hon) ?_
 refine a_z ?_
 refine cT (r_z 3 ?_)
 refine ag_ (Fin.many ⟨_,_,rfl,⟨_,_,_,_,_,rfl,rfl,rfl,.inl ⟨tg_51.h,_,ts_51.h,nle rfl,rfl⟩⟩,⟨_,_,rfl,rfl,rfl⟩⟩ (nle rfl) ?_)
 exact af_ (Cv_wZ au_) (af_ (an_ au_ (ad_ _)) ap_)
theorem iT_(n lo hi:Int)(h:lo≤n∧n≤hi):FSpec Tryz.prog 85 [i64 n,i64 lo,i64 hi] (i64 0):=by
 have ho:=bE_ n lo hi
 rw[decide_eq_false (by omega)] at ho
 refine f_n Tryz.func85 ?_ ?_
 exact aa_ (ad_ _) (aa_ (ad_ _) (aa_ (ad_ _) ab_))
 refine r_z 1 ?_
 refine ac_ (r_c 4 (ho) ?_)
 refine ak_ ?_
 refine cF (ai_ (r_z 1 ?_))
 exact ag_ (t_e (ad_ _))
theorem k9_ (m:List Rat) (l r:Bool) (a b:Rat) (mo:Nat) (g:Nat) (cap:List AV) (p wt:List Rat) (hcap:∀c∈cap,Closed c) (hm:1≤m.length∧m.length≤64) (hab:l=true→r=true→a< b) (ha:sm a) (hb:sm b)
    (hmo:mo≤m.length) (hg:FSpec Tryz.prog g (cap.map coe) (.tup [.arr (pE p),bln true])) (hr:FSpec Tryz.prog 160 [.arr (pE p)] (bln true)) (hpb:bdL p 68719476736) (hp0:trimQ p≠[]) (hpl:p.length≤1099511627776)
    (hon:FSpec Tryz.prog 161 [.agg (wC m l r (qC a) (qC b)),.arr (pE (a6_ p))] (.agg (ruC (a6_ p) wt))):
    FSpec Tryz.prog 84 [.agg (wC m l r (qC a) (qC b)),i64 0,i64 mo,.clos g [] cap] (.tup [.agg (ruC (a6_ p) wt),i64 0]):=by
 have hWc:∀c∈wC m l r (qC a) (qC b),Closed c:=aR_ (.inr ⟨a,rfl⟩) (.inr ⟨b,rfl⟩)
 have hcw:=cA_ m l r a b hm hab ha hb
 have hmn:=jT_ p hpb hp0 hpl
 refine f_n Tryz.func84 ?_ ?_
 exact aa_ (ao_ hWc) (aa_ (ad_ _) (aa_ (ad_ _) (aa_ (aW_ ab_ hcap) ab_)))
 refine r_z 3 ?_
 refine ac_ (r_c 3 (hcw) ?_)
 refine a_z ?_
 refine s_r 2 ?_
 refine a_1 ?_
 refine o_0 (.bin rfl rfl (vF bu_ (rfl))) ?_
 refine ak_ ?_
 refine cF (ai_ (ac_ (ah_ (s_r 3 ?_))))
 refine a_1 ?_
 refine o_0 (.bin rfl rfl (vF bu_ (rfl))) ?_
 refine a_z ?_
 refine cF (q_z 6 ?_)
 refine cF (ai_ (r_c 7 (hg) ?_))
 refine a_z ?_
 refine ac_ (r_c 7 (hr) ?_)
 refine a_z ?_
 refine cF (ai_ (ac_ (r_d hmix 6 ?_)))
 refine c_s (hmn) ?_
 refine c_s (hon) ?_
 refine a_2 ?_
 refine ak_ (n_k ?_)
 refine ag_ (Fin.many ⟨_,_,rfl,⟨_,_,_,_,_,rfl,rfl,rfl,.inl ⟨tg_57.h,_,ts_57.h,nle rfl,rfl⟩⟩,⟨_,_,rfl,rfl,rfl⟩⟩ (nle rfl) ?_)
 exact af_ (an_ au_ (ao_ (bw_ _ _))) (af_ (an_ au_ (ad_ _)) ap_)
def bW(m:List Rat)(l r:Bool)(a b:Rat):AV:= .aptr [wC m l r (qC a) (qC b)] 0 0
theorem eL_(m:List Rat)(l r:Bool)(a b:Rat):Closed (bW m l r a b):=am_ (aR_ (.inr ⟨a,rfl⟩) (.inr ⟨b,rfl⟩))
def bIn(n:Int):AV:= .aptr [[i64 n]] 0 0
theorem ds_(n:Int):Closed (bIn n):=am_ (aa_ (ad_ _) ab_)
theorem r2_(m:List Rat)(l r:Bool)(a b:Rat)(n:Nat)(hn:n≤1000)(hok:∀k,k< n→okLd m k):FSpec Tryz.prog 86 [bW m l r a b,bIn n] (.tup [.arr (pE (ldr m n).1),bln true]):=by
 have hcl:=lf_ m l r a b n hn hok
 refine f_n Tryz.func86 ?_ ?_
 exact aa_ (eL_ m l r a b) (aa_ (ds_ n) ab_)
 refine r_z 2 ?_
 refine r_c 8 (hcl) ?_
 refine a_z ?_
 refine r_z 7 ?_
 refine ag_ (Fin.many ⟨_,_,rfl,rfl,⟨_,_,rfl,rfl,rfl⟩⟩ (nle rfl) ?_)
 exact af_ (an_ au_ (as_ _)) (af_ (an_ au_ (ad_ _)) ap_)
theorem pc_ (m:List Rat) (l r:Bool) (a b:Rat) (n:Nat) (wt:List Rat) (hn:1≤n∧n≤25) (hok:∀k,k< n→okLd m k) (hm:2* n≤m.length∧m.length≤64) (hab:l=true→r=true→a< b) (ha:sm a) (hb:sm b)
    (hr:FSpec Tryz.prog 160 [.arr (pE (ldr m n).1)] (bln true)) (hpb:bdL (ldr m n).1 68719476736) (hp0:trimQ (ldr m n).1≠[]) (hpl:(ldr m n).1.length≤1099511627776)
    (hon:FSpec Tryz.prog 161 [.agg (wC m l r (qC a) (qC b)),.arr (pE (a6_ (ldr m n).1))] (.agg (ruC (a6_ (ldr m n).1) wt))):
    FSpec Tryz.prog 16 [.agg (wC m l r (qC a) (qC b)),i64 n] (.tup [.agg (ruC (a6_ (ldr m n).1) wt),i64 0]):=by
 have hWc:∀c∈wC m l r (qC a) (qC b),Closed c:=aR_ (.inr ⟨a,rfl⟩) (.inr ⟨b,rfl⟩)
 have hra:=iT_ (n:Nat) 1 25 (by omega)
 have hcc:∀c∈[bW m l r a b,bIn n],Closed c:=aa_ (eL_ m l r a b) (aa_ (ds_ n) ab_)
 have hna:=k9_ m l r a b (2* n) 86 [bW m l r a b,bIn n] (ldr m n).1 wt hcc (by omega) hab ha hb hm.1 (r2_ m l r a b n (by omega) hok) hr hpb hp0 hpl hon
 refine f_n Tryz.func16 ?_ ?_
 exact aa_ (ao_ hWc) (aa_ (ad_ _) ab_)
 refine r_z 4 ?_
 refine AWp.ent (st':=⟨[(2,bW m l r a b),(3,bIn n),(4,.lptr 1 0 0)],[(1,some ⟨57,2,[[.emp,.emp]]⟩)],2,15⟩) ?_ ?_
 refine at_ [(1,4)] rfl rfl rfl au_r (fun hs=>?_) (fun hs=>?_)
 ·repeat' (first|exact aK_|refine aE_ rfl ?_ ?_)
  all_goals (first|((try exact Cv.boxp hs rfl (aQ_ rfl) rfl hWc);(try exact Cv.boxp hs rfl (aQ_ rfl) rfl (aa_ (ad_ _) ab_));done)|exact au_c)
 ·repeat' (first|exact aq_|refine al_ rfl rfl rfl rfl ?_ ?_)
  all_goals (first|exact au_e|(refine ae_ ?_;repeat' (first|exact ap_|refine af_ ?_ ?_)))
  all_goals (first|((try exact Cv.boxp hs rfl (aQ_ rfl) rfl hWc);(try exact Cv.boxp hs rfl (aQ_ rfl) rfl (aa_ (ad_ _) ab_));done)|exact au_c)
 refine ac_ (r_d hmix 11 ?_)
 refine c_s (hra) ?_
 refine c_s (hna) ?_
 refine a_4 ?_
 refine ak_ (n_k ?_)
 refine ag_ (Fin.many ⟨_,_,rfl,⟨_,_,_,_,_,rfl,rfl,rfl,.inl ⟨tg_57.h,_,ts_57.h,nle rfl,rfl⟩⟩,⟨_,_,rfl,rfl,rfl⟩⟩ (nle rfl) ?_)
 exact af_ (an_ au_ (ao_ (bw_ _ _))) (af_ (an_ au_ (ad_ _)) ap_)
theorem fcR(n:Nat):(((fcN n:Nat):Int):Rat) * (((n+1:Nat):Int):Rat)=((fcN (n+1):Nat):Int):=by
 rw[fcN,Int.natCast_mul,Rat.intCast_mul]
def lgT(p k:Nat):Option (List AV):=some [.agg (qC (lgQ p k))]
theorem nK_(p K:Nat)(hp:p≤8)(hK:K≤63):GSpecB Tryz.prog 194 [bIn p] (lgT p) K:=by
 have hcb:Closed (bIn p):=am_ (aa_ (ad_ _) ab_)
 have h1:=a7_ 1 (by decide)
 refine GSpecB.enter Tryz.func194 rfl (by kernel_rfl) rfl rfl rfl ?_ ?_ rfl ?_
 exact aa_ hcb ab_
 intro k xs h
 cases h
 exact aa_ (ay_ _) ab_
 intro ll N hN E
 refine GWp.seq ?_
 refine GWp.lift ?_
 refine r_m 3 ?_
 refine c_s (h1) ?_
 refine a_z ?_
 refine GWp.seq ?_
 refine GWp.seq ?_
 refine GWp.lift ?_
 refine r_m 1 ?_
 refine a_z ?_
 refine GWp.cutT (fun _:Unit=>⟨[(0,.v (.func (.yield ll) #[] #[])),(1,bIn p),(3,.lptr 1 0 0)],[(1,some ⟨35,3,[qC (((fcN p:Nat):Int):Rat)]⟩)],2,27⟩) (fun _=>True) ?_ ?_
 refine ah_ (aw_ (fun k:Nat=>⟨[(0,.v (.func (.yield ll) #[] #[])),(1,bIn p),(3,.lptr 1 0 0),(4,i64 ((k+1:Nat):Int))],[(1,some ⟨35,3,[qC (((fcN k:Nat):Int):Rat)]⟩)],2,27⟩) (fun k=>p- k) (fun k=>k≤p) 0 (Nat.zero_le _) ?_ ?_)
 exact s_e [(1,3)]
 intro k hk
 by_cases hlt:k< p
 have hw:=a7_ ((k+1:Nat):Int) (by omega)
 have hm:=de_ (((fcN k:Nat):Int):Rat) (((k+1:Nat):Int):Rat) (by
  have:=gS_ (n:=k) (by omega)
  have:=qi21 (n:=((k+1:Nat):Int)) (by omega)
  omega)
 rw[fcR] at hm
 refine ac_ (q_z 3 ?_)
 refine cT (ai_ (ac_ (ah_ (r_d hmix 5 ?_))))
 refine c_s (hw) ?_
 refine c_s (hm) ?_
 refine a_1 ?_
 refine ak_ (n_k ?_)
 refine r_m 3 ?_
 refine a_z ?_
 refine⟨k+1,by omega,hlt,?_⟩
 exact s_e [(1,3)]
 have hge:k=p:=by omega
 subst hge
 refine ac_ (q_z 3 ?_)
 refine cF (av_ ⟨(),trivial,?_⟩)
 exact s_e [(1,3)]
 rintro _ _
 refine GWp.seq ?_
 refine GWp.lift ?_
 refine r_m 3 ?_
 refine a_z ?_
 refine GWp.block ?_
 refine GWp.loopS (fun k:Nat=>⟨[(0,.v (.func (.yield ll) #[] #[])),(1,bIn p),(3,.lptr 1 0 0),(5,i64 ((p+k+1:Nat):Int))],[(1,some ⟨35,3,[qC (lgQ p k)]⟩)],2,27⟩) (fun k=>k) (fun k=>N+1- k) (fun k=>k≤N) 0 (Nat.zero_le _) rfl ?_ ?_
 exact s_e [(1,3)]
 intro k hk
 refine GWp.seq ?_
 refine GWp.seq ?_
 refine GWp.regY (fr2:=[(0,.v (.func (.yield ll) #[] #[])),(1,bIn p),(3,.lptr 1 0 0),(5,i64 ((p+k+1:Nat):Int)),(18,.v (.func (.yield ll) #[] #[])),(19,.agg (qC (lgQ p k)))]) (hp2:=[(1,some ⟨35,3,[qC (lgQ p k)]⟩)]) (nx2:=2) 2 rfl rfl rfl rfl rfl rfl ?_ rfl rfl rfl ?_ ?_ ?_
 refine o_0 (.move rfl) ?_
 first|refine aM_ (.load_l rfl rfl rfl tg_35.h ts_35.h (nle rfl)) rfl rfl ?_|refine aM_ (.load_a rfl rfl tg_35.h ts_35.h (nle rfl)) rfl rfl ?_
 refine ak_ ?_
 refine SEntT.to [(1,3)] rfl rfl rfl au_r (fun hs=>au_f) (fun hs=>au_h)
 rotate_left 2
 intro go
 refine ak_ ?_
 rotate_left
 rfl
 exact aa_ (ay_ _) ab_
 cases go with
 |false=>
  refine GWp.cond rfl (fun h=>?_) (fun h=>?_)
  cases h
  exact GWp.exit ⟨.inl rfl,fun h=>by cases h⟩
 |true=>
  refine GWp.bound fun hk1=>?_
  refine GWp.cond rfl (fun h=>?_) (fun h=>?_)
  rotate_left
  cases h
  refine GWp.skip ?_
  have hw:=a7_ ((p+k+1:Nat):Int) (by omega)
  have hm:=de_ (lgQ p k) (((p+k+1:Nat):Int):Rat) (by
   have h1:=gS_ (n:=p+k) (by omega)
   have h2:=qi21 (n:=((p+k+1:Nat):Int)) (by omega)
   show qs (((fcN (p+k):Nat):Int):Rat)+_≤_
   omega)
  have e:lgQ p k* (((p+k+1:Nat):Int):Rat)=lgQ p (k+1):=fcR (p+k)
  rw[e] at hm
  refine GWp.seq ?_
  refine GWp.lift ?_
  refine ah_ (r_d hmix 5 ?_)
  refine c_s (hw) ?_
  refine c_s (hm) ?_
  refine a_1 ?_
  refine ak_ (n_k ?_)
  refine GWp.lift ?_
  refine r_m 3 ?_
  refine a_z ?_
  refine⟨rfl,k+1,by omega,hk1,rfl,?_⟩
  exact s_e [(1,3)]
theorem Cv_wz{r:Ren}{hp hp':Nat→Option ABlk}(h:Shr r hp hp')(m:List Rat)(l b:Bool):Cv r hp hp' (.agg ([.arr (pE m),bln l,bln b]++zC++zC)) (.agg (wC m l b (qC 0) (qC 0))):=
 Cv.agg (cD_ (cD_ (af_ (an_ h (as_ m)) (af_ (an_ h (ad_ _)) (af_ (an_ h (ad_ _)) ap_))) (fD_ h)) (fD_ h))
theorem nT_(p n:Nat)(hp:p≤8)(hn:n≤63):FSpec Tryz.prog 106 [i64 p,i64 n] (.tup [.agg (wC (sqL (lgQ p) (n+1)) true false (qC 0) (qC 0)),i64 0]):=by
 have hop:=bE_ (p:Nat) 0 8
 rw[decide_eq_false (by omega)] at hop
 have hon:=bE_ (n:Nat) 0 63
 rw[decide_eq_false (by omega)] at hon
 have htk:=hZ_ 194 [bIn p] (aa_ (am_ (aa_ (ad_ _) ab_)) ab_) (lgQ p) n (by omega) rfl (nK_ p n hp hn)
 refine f_n Tryz.func106 ?_ ?_
 exact aa_ (ad_ _) (aa_ (ad_ _) ab_)
 refine r_z 3 ?_
 refine ac_ (r_c 6 (hop) ?_)
 refine c_s (hon) ?_
 refine a_z ?_
 refine cF (ai_ (AWp.ent (st':=⟨[(1,i64 n),(2,bIn p),(4,.lptr 1 0 0)],[(1,some ⟨51,9,[w0C]⟩)],2,19⟩) ?_ ?_))
 exact s_f [(1,4)]
 refine r_z 2 ?_
 refine r_c 6 (htk) ?_
 refine a_z ?_
 refine ag_ (Fin.many ⟨_,_,rfl,⟨_,_,_,_,_,rfl,rfl,rfl,.inl ⟨tg_51.h,_,ts_51.h,nle rfl,rfl⟩⟩,⟨_,_,rfl,rfl,rfl⟩⟩ (nle rfl) ?_)
 exact af_ (Cv_wz au_ _ _ _) (af_ (an_ au_ (ad_ _)) ap_)
theorem mE_(p n:Int)(h:p< 0∨8< p∨n< 0∨63< n):FSpec Tryz.prog 106 [i64 p,i64 n] (.tup [.agg wZ,i64 3]):=by
 have hop:=bE_ p 0 8
 have hon:=bE_ n 0 63
 refine f_n Tryz.func106 ?_ ?_
 exact aa_ (ad_ _) (aa_ (ad_ _) ab_)
 refine r_z 3 ?_
 by_cases h1:p< 0∨8< p
 rw[decide_eq_true h1] at hop
 refine ac_ (r_c 6 (hop) ?_)
 refine a_z ?_
 refine cT (r_z 3 ?_)
 refine ag_ (Fin.many ⟨_,_,rfl,⟨_,_,_,_,_,rfl,rfl,rfl,.inl ⟨tg_51.h,_,ts_51.h,nle rfl,rfl⟩⟩,⟨_,_,rfl,rfl,rfl⟩⟩ (nle rfl) ?_)
 exact af_ (Cv_wZ au_) (af_ (an_ au_ (ad_ _)) ap_)
 rw[decide_eq_false h1] at hop
 rw[decide_eq_true (show n< 0∨63< n by omega)] at hon
 refine ac_ (r_c 6 (hop) ?_)
 refine c_s (hon) ?_
 refine a_z ?_
 refine cT (r_z 3 ?_)
 refine ag_ (Fin.many ⟨_,_,rfl,⟨_,_,_,_,_,rfl,rfl,rfl,.inl ⟨tg_51.h,_,ts_51.h,nle rfl,rfl⟩⟩,⟨_,_,rfl,rfl,rfl⟩⟩ (nle rfl) ?_)
 exact af_ (Cv_wZ au_) (af_ (an_ au_ (ad_ _)) ap_)
def bFn(g:Nat):AV:= .aptr [[.clos g [] []]] 0 0
theorem kb_(g:Nat):Closed (bFn g):=am_ (aa_ (aW_ ab_ ab_) ab_)
def evT(f:Nat→Rat)(k:Nat):Option (List AV):=some [.agg (qC (evW f k))]
theorem gs_even(g:Nat)(f:Nat→Rat)(K:Nat)(hK:K≤63)(hg:∀j,j≤40→FSpec Tryz.prog g [i64 ((2* (j+1):Nat):Int)] (.agg (qC (f (2* (j+1))))))(hf:∀k,k≤200→qs (f k)≤42):GSpecB Tryz.prog 252 [bFn g] (evT f) K:=by
 have hcb:=kb_ g
 have h1:=a7_ 1 (by decide)
 refine GSpecB.enter Tryz.func252 rfl (by kernel_rfl) rfl rfl rfl ?_ ?_ rfl ?_
 exact aa_ hcb ab_
 intro k xs h
 cases h
 exact aa_ (ay_ _) ab_
 intro ll N hN E
 refine GWp.seq ?_
 refine GWp.lift ?_
 refine r_m 3 ?_
 refine c_s (h1) ?_
 refine a_z ?_
 refine GWp.seq ?_
 refine GWp.lift ?_
 refine r_m 1 ?_
 refine a_z ?_
 refine GWp.block ?_
 refine GWp.loopS (fun j:Nat=>⟨[(0,.v (.func (.yield ll) #[] #[])),(1,bFn g),(3,.lptr 1 0 0),(4,i64 ((2* (j+1):Nat):Int))],[(1,some ⟨35,3,[qC (evM f j)]⟩)],2,21⟩) (fun j=>2* j) (fun j=>N+2- 2* j) (fun j=>2* j≤N) 0 (Nat.zero_le _) rfl ?_ ?_
 exact s_e [(1,3)]
 intro j hj
 have e0:evW f (2* j)=evM f j:=by
  unfold evW
  rw[if_pos (by omega),show 2* j/ 2=j by omega]
 have e1:evW f (2* j+1)=0:=by
  unfold evW
  rw[if_neg (by omega)]
 refine GWp.seq ?_
 refine GWp.seq ?_
 refine GWp.regL ?_
 refine GLs.yield (fr2:=[(0,.v (.func (.yield ll) #[] #[])),(1,bFn g),(3,.lptr 1 0 0),(4,i64 ((2* (j+1):Nat):Int)),(6,.v (.func (.yield ll) #[] #[])),(7,.agg (qC (evM f j)))]) (hp2:=[(1,some ⟨35,3,[qC (evM f j)]⟩)]) (nx2:=2) 2 rfl rfl rfl rfl (.inl rfl) ?_ rfl rfl rfl ?_ ?_ ?_
 refine o_0 (.move rfl) ?_
 first|refine aM_ (.load_l rfl rfl rfl tg_35.h ts_35.h (nle rfl)) rfl rfl ?_|refine aM_ (.load_a rfl rfl tg_35.h ts_35.h (nle rfl)) rfl rfl ?_
 refine ak_ ?_
 refine SEntT.to [(1,3)] rfl rfl rfl au_r (fun hs=>au_f) (fun hs=>au_h)
 show evT f (2* j)=_
 unfold evT
 rw[e0]
 rfl
 exact aa_ (ay_ _) ab_
 intro go
 cases go with
 |false=>
  refine GLs.fin rfl ?_
  refine o_0 (.move rfl) ?_
  first|refine bl_ rfl rfl rfl (.move rfl) rfl rfl ?_|refine f7_ rfl rfl (by first|(simp[cV_];done)|exact nofun) rfl rfl ?_
  first|refine bl_ rfl rfl rfl (.build tz_35.h tp_35.h rfl rfl) rfl rfl ?_|refine f7_ rfl rfl (by first|(simp[cV_];done)|exact nofun) rfl rfl ?_
  first|refine f7_ rfl rfl (by first|(simp[cV_];done)|exact nofun) rfl rfl ?_
  first|refine aM_ (.pick rfl (fun _=>rfl) (fun _=>rfl)) rfl rfl ?_|refine aM_ (.pick rfl (fun _=>rfl) (fun h=>absurd h (by decide))) rfl rfl ?_|refine aM_ (.pick rfl (fun h=>absurd h (by decide)) (fun _=>rfl)) rfl rfl ?_
  refine ak_ ?_
  refine GWp.cond rfl (fun h=>?_) (fun h=>?_)
  cases h
  exact GWp.exit ⟨.inl rfl,fun h=>by cases h⟩
 |true=>
  refine GLs.yield (fr2:=[(0,.v (.func (.yield ll) #[] #[])),(1,bFn g),(3,.lptr 1 0 0),(4,i64 ((2* (j+1):Nat):Int)),(9,bln true),(10,.v (.func (.yield ll) #[] #[])),(11,.agg (qC 0))]) (hp2:=[(1,some ⟨35,3,[qC (evM f j)]⟩)]) (nx2:=2) 3 rfl rfl rfl rfl (.inr ⟨3,9,rfl,rfl,rfl⟩) ?_ rfl rfl rfl ?_ ?_ ?_
  ·refine o_0 (.move rfl) ?_
   first|refine bl_ rfl rfl rfl (.move rfl) rfl rfl ?_|refine f7_ rfl rfl (by first|(simp[cV_];done)|exact nofun) rfl rfl ?_
   first|refine bl_ rfl rfl rfl (.build tz_35.h tp_35.h rfl rfl) rfl rfl ?_|refine f7_ rfl rfl (by first|(simp[cV_];done)|exact nofun) rfl rfl ?_
   refine ak_ ?_
   refine SEntT.to [(1,3)] rfl rfl rfl au_r (fun hs=>?_) (fun hs=>?_)
   ·repeat' (first|exact aK_|refine aE_ rfl ?_ ?_)
    all_goals (first|(exact Cv.agg (fD_ hs))|exact au_c)
   ·repeat' (first|exact aq_|refine al_ rfl rfl rfl rfl ?_ ?_)
    all_goals (first|exact au_e|(refine ae_ ?_;repeat' (first|exact ap_|refine af_ ?_ ?_)))
    all_goals (first|(exact Cv.agg (fD_ hs))|exact au_c)
  show evT f (2* j+1)=_
  unfold evT
  rw[e1]
  rfl
  exact aa_ (ay_ _) ab_
  intro go
  refine GLs.fin rfl ?_
  first|refine aM_ (.pick rfl (fun _=>rfl) (fun _=>rfl)) rfl rfl ?_|refine aM_ (.pick rfl (fun _=>rfl) (fun h=>absurd h (by decide))) rfl rfl ?_|refine aM_ (.pick rfl (fun h=>absurd h (by decide)) (fun _=>rfl)) rfl rfl ?_
  refine ak_ ?_
  cases go with
  |false=>
   refine GWp.cond rfl (fun h=>?_) (fun h=>?_)
   cases h
   exact GWp.exit ⟨.inl rfl,fun h=>by cases h⟩
  |true=>
   refine GWp.bound fun hk1=>?_
   refine GWp.cond rfl (fun h=>?_) (fun h=>?_)
   rotate_left
   cases h
   refine GWp.skip ?_
   have hfk:=hg j (by omega)
   have hm:=de_ (evM f j) (f (2* (j+1))) (by
    have h1:=pk_ (f:=f) (s:=42) j fun i hi=>hf _ (by omega)
    have h2:=hf (2* (j+1)) (by omega)
    omega)
   refine GWp.seq ?_
   refine GWp.lift ?_
   refine ah_ (r_d hmix 6 ?_)
   refine c_s (hfk) ?_
   refine c_s (hm) ?_
   refine a_1 ?_
   refine ak_ (n_k ?_)
   refine GWp.lift ?_
   refine r_m 3 ?_
   refine a_z ?_
   refine⟨rfl,j+1,by omega,by omega,by omega,?_⟩
   exact s_e [(1,3)]
theorem nS_(g:Nat)(f:Nat→Rat)(n:Nat)(hn:n≤63)(hg:∀j,j≤40→FSpec Tryz.prog g [i64 ((2* (j+1):Nat):Int)] (.agg (qC (f (2* (j+1))))))(hf:∀k,k≤200→qs (f k)≤42):FSpec Tryz.prog 196 [i64 n,.clos g [] []] (.tup [.arr (pE (sqL (evW f) (n+1))),i64 0]):=by
 have hon:=bE_ (n:Nat) 0 63
 rw[decide_eq_false (by omega)] at hon
 have hcg:Closed (.clos g [] []):=aW_ ab_ ab_
 have htk:=hZ_ 252 [bFn g] (aa_ (kb_ g) ab_) (evW f) n (by omega) rfl (gs_even g f n hn hg hf)
 refine f_n Tryz.func196 ?_ ?_
 exact aa_ (ad_ _) (aa_ hcg ab_)
 refine r_z 3 ?_
 refine ac_ (r_c 2 (hon) ?_)
 refine ak_ ?_
 refine cF (ai_ (AWp.ent (st':=⟨[(0,i64 n),(3,bFn g)],[],1,13⟩) ?_ ?_))
 have:=aa_ hcg ab_
 exact s_f []
 refine r_z 2 ?_
 refine r_c 5 (htk) ?_
 refine a_z ?_
 refine ag_ (Fin.many ⟨_,_,rfl,rfl,⟨_,_,rfl,rfl,rfl⟩⟩ (nle rfl) ?_)
 exact af_ (an_ au_ (as_ _)) (af_ (an_ au_ (ad_ _)) ap_)
theorem lc_(g:Nat)(n:Int)(h:n< 0∨63< n):FSpec Tryz.prog 196 [i64 n,.clos g [] []] (.tup [.arr (pE []),i64 3]):=by
 have hon:=bE_ n 0 63
 rw[decide_eq_true h] at hon
 refine f_n Tryz.func196 ?_ ?_
 exact aa_ (ad_ _) (aa_ (aW_ ab_ ab_) ab_)
 refine r_z 3 ?_
 refine ac_ (r_c 2 (hon) ?_)
 refine ak_ ?_
 refine cT (r_z 2 ?_)
 refine ag_ (Fin.many ⟨_,_,rfl,rfl,⟨_,_,rfl,rfl,rfl⟩⟩ (nle rfl) ?_)
 exact af_ (Cv.emp _) (af_ (an_ au_ (ad_ _)) ap_)
theorem fs_Herm1(j:Nat)(hj:j≤40):FSpec Tryz.prog 197 [i64 ((2* (j+1):Nat):Int)] (.agg (qC (evK 1 (2* (j+1))))):=by
 have h1:=a7_ (((2* (j+1):Nat):Int)- 1) (by omega)
 have h2:=a7_ 2 (by decide)
 have q1:=qi21 (n:=((2* (j+1):Nat):Int)- 1) (by omega)
 have q2:=qi21 (n:=2) (by decide)
 have h3:=d7_ ((((2* (j+1):Nat):Int)- 1:Int):Rat) ((2:Int):Rat) (by decide) (by omega)
 refine f_n Tryz.func197 ?_ ?_
 exact aa_ (ad_ _) ab_
 refine r_z 1 ?_
 refine r_c 6 (h1) ?_
 refine c_s (h2) ?_
 refine c_s (h3) ?_
 refine a_z ?_
 exact ag_ (c_e (ay_ _))
theorem oN_{n:Int}(h:n≠0):(n:Rat)≠0:=fun e=>h (by have:=congrArg Rat.num e;exact this)
theorem fs_Firs1(j:Nat)(hj:j≤40):FSpec Tryz.prog 199 [i64 ((2* (j+1):Nat):Int)] (.agg (qC (evK 2 (2* (j+1))))):=by
 have h1:=a7_ (((2* (j+1):Nat):Int)- 1) (by omega)
 have h2:=a7_ ((2* (j+1):Nat):Int) (by omega)
 have q1:=qi21 (n:=((2* (j+1):Nat):Int)- 1) (by omega)
 have q2:=qi21 (n:=((2* (j+1):Nat):Int)) (by omega)
 have h3:=d7_ ((((2* (j+1):Nat):Int)- 1:Int):Rat) (((2* (j+1):Nat):Int):Rat) (oN_ (by omega)) (by omega)
 refine f_n Tryz.func199 ?_ ?_
 exact aa_ (ad_ _) ab_
 refine r_z 1 ?_
 refine r_c 7 (h1) ?_
 refine c_s (h2) ?_
 refine c_s (h3) ?_
 refine a_z ?_
 exact ag_ (c_e (ay_ _))
theorem fs_Seco1(j:Nat)(hj:j≤40):FSpec Tryz.prog 200 [i64 ((2* (j+1):Nat):Int)] (.agg (qC (evK 3 (2* (j+1))))):=by
 have h1:=a7_ (((2* (j+1):Nat):Int)- 1) (by omega)
 have h2:=a7_ (((2* (j+1):Nat):Int)+2) (by omega)
 have q1:=qi21 (n:=((2* (j+1):Nat):Int)- 1) (by omega)
 have q2:=qi21 (n:=((2* (j+1):Nat):Int)+2) (by omega)
 have h3:=d7_ ((((2* (j+1):Nat):Int)- 1:Int):Rat) ((((2* (j+1):Nat):Int)+2:Int):Rat) (oN_ (by omega)) (by omega)
 refine f_n Tryz.func200 ?_ ?_
 exact aa_ (ad_ _) ab_
 refine r_z 1 ?_
 refine r_c 8 (h1) ?_
 refine c_s (h2) ?_
 refine c_s (h3) ?_
 refine a_z ?_
 exact ag_ (c_e (ay_ _))
theorem mB_(m:List Rat):FSpec Tryz.prog 198 [.arr (pE m),i64 0] (.tup [.agg (wC m true true (qC ((-1:Int):Rat)) (qC ((1:Int):Rat))),i64 0]):=by
 have h1:=a7_ 1 (by decide)
 have h2:=a7_ (-1) (by decide)
 refine f_n Tryz.func198 ?_ ?_
 exact aa_ (as_ m) (aa_ (ad_ _) ab_)
 refine r_z 2 ?_
 refine ac_ (s_r 2 ?_)
 refine a_1 ?_
 refine o_0 (.bin rfl rfl (vF bu_ (rfl))) ?_
 refine ak_ ?_
 refine cF (ai_ (r_c 6 (h2) ?_))
 refine c_s (h1) ?_
 refine a_z ?_
 refine ag_ (Fin.many ⟨_,_,rfl,⟨_,_,_,_,_,rfl,rfl,rfl,.inl ⟨tg_51.h,_,ts_51.h,nle rfl,rfl⟩⟩,⟨_,_,rfl,rfl,rfl⟩⟩ (nle rfl) ?_)
 exact af_ (an_ au_ (ao_ (aR_ (.inr ⟨_,rfl⟩) (.inr ⟨_,rfl⟩)))) (af_ (an_ au_ (ad_ _)) ap_)
theorem mA_(m:List Rat):FSpec Tryz.prog 198 [.arr (pE m),i64 3] (.tup [.agg wZ,i64 3]):=by
 refine f_n Tryz.func198 ?_ ?_
 exact aa_ (as_ m) (aa_ (ad_ _) ab_)
 refine r_z 2 ?_
 refine ac_ (s_r 2 ?_)
 refine a_1 ?_
 refine o_0 (.bin rfl rfl (vT bu_ (rfl))) ?_
 refine ak_ ?_
 refine cT (r_z 4 ?_)
 refine ag_ (Fin.many ⟨_,_,rfl,⟨_,_,_,_,_,rfl,rfl,rfl,.inl ⟨tg_51.h,_,ts_51.h,nle rfl,rfl⟩⟩,⟨_,_,rfl,rfl,rfl⟩⟩ (nle rfl) ?_)
 exact af_ (Cv_wZ au_) (af_ (an_ au_ (ad_ _)) ap_)
theorem j4_(m:List Rat)(n e:Int)(h:FSpec Tryz.prog 196 [i64 n,.clos 197 [] []] (.tup [.arr (pE m),i64 e])):FSpec Tryz.prog 108 [i64 n] (.tup [.agg (wC m false false (qC 0) (qC 0)),i64 e]):=by
 refine f_n Tryz.func108 ?_ ?_
 exact aa_ (ad_ _) ab_
 refine r_z 2 ?_
 refine r_c 7 (h) ?_
 refine a_z ?_
 refine r_z 5 ?_
 refine ag_ (Fin.many ⟨_,_,rfl,⟨_,_,_,_,_,rfl,rfl,rfl,.inl ⟨tg_51.h,_,ts_51.h,nle rfl,rfl⟩⟩,⟨_,_,rfl,rfl,rfl⟩⟩ (nle rfl) ?_)
 exact af_ (Cv_wz au_ _ _ _) (af_ (an_ au_ (ad_ _)) ap_)
theorem pd_(m:List Rat)(n e:Int)(m':List Rat)(l r:Bool)(a b:Rat)(h:FSpec Tryz.prog 196 [i64 n,.clos 199 [] []] (.tup [.arr (pE m),i64 e]))(ha:FSpec Tryz.prog 198 [.arr (pE m),i64 e] (.tup [.agg (wC m' l r (qC a) (qC b)),i64 e])):
    FSpec Tryz.prog 109 [i64 n] (.tup [.agg (wC m' l r (qC a) (qC b)),i64 e]):=by
 refine f_n Tryz.func109 ?_ ?_
 exact aa_ (ad_ _) ab_
 refine r_z 2 ?_
 refine r_c 9 (h) ?_
 refine c_s (ha) ?_
 refine a_z ?_
 refine ag_ (Fin.many ⟨_,_,rfl,⟨_,_,_,_,_,rfl,rfl,rfl,.inl ⟨tg_51.h,_,ts_51.h,nle rfl,rfl⟩⟩,⟨_,_,rfl,rfl,rfl⟩⟩ (nle rfl) ?_)
 exact af_ (an_ au_ (ao_ (aR_ (.inr ⟨_,rfl⟩) (.inr ⟨_,rfl⟩)))) (af_ (an_ au_ (ad_ _)) ap_)
theorem mC_(m:List Rat)(n e:Int)(m':List Rat)(l r:Bool)(a b:Rat)(h:FSpec Tryz.prog 196 [i64 n,.clos 200 [] []] (.tup [.arr (pE m),i64 e]))(ha:FSpec Tryz.prog 198 [.arr (pE m),i64 e] (.tup [.agg (wC m' l r (qC a) (qC b)),i64 e])):
    FSpec Tryz.prog 110 [i64 n] (.tup [.agg (wC m' l r (qC a) (qC b)),i64 e]):=by
 refine f_n Tryz.func110 ?_ ?_
 exact aa_ (ad_ _) ab_
 refine r_z 2 ?_
 refine r_c 9 (h) ?_
 refine c_s (ha) ?_
 refine a_z ?_
 refine ag_ (Fin.many ⟨_,_,rfl,⟨_,_,_,_,_,rfl,rfl,rfl,.inl ⟨tg_51.h,_,ts_51.h,nle rfl,rfl⟩⟩,⟨_,_,rfl,rfl,rfl⟩⟩ (nle rfl) ?_)
 exact af_ (an_ au_ (ao_ (aR_ (.inr ⟨_,rfl⟩) (.inr ⟨_,rfl⟩)))) (af_ (an_ au_ (ad_ _)) ap_)
end Go.Proofs.YtdjfjpeoddmamaaGreatDoor
namespace Go.Proofs.YtdjfjpeoddmamaaGreatDoor
open Go.Shelf


end Go.Proofs.YtdjfjpeoddmamaaGreatDoor
namespace Go.Proofs.YtdjfjpeoddmamaaGreatDoor
open Go.Abs Go.RowKit

end Go.Proofs.YtdjfjpeoddmamaaGreatDoor
namespace Go.Proofs.YtdjfjpeoddmamaaGreatDoor
open Go.Abs
set_option maxRecDepth 20000



theorem first_text{c:UInt8}{l:List UInt8}:∀w,(Instr.index 9 (.string ⟨(c::l).toArray⟩) (.int .i64 0)).run Tryz.prog w= .ok (.int .u8 c.toNat) w:=fun w=>by
 simp[Instr.index,asIntOf,run_underlying e9_,go_sem]
 rfl
abbrev NRow:=Int×Int×Nat
def nV(r:NRow):Rat:=numV r.1 r.2.1 r.2.2
def nR(l:List NRow):List (List AV):=l.map fun r=>nuC r.1 r.2.1 r.2.2
def nL(l:List NRow):List Rat:=l.map nV
abbrev rL(l:List Rat):List (List AV):=rE (l.map rq)
def okR(l:List NRow):Prop:=∀r∈l,i64r r.1∧i64r r.2.1∧r.2.2≤255
theorem bX_(l:List NRow):∀e∈nR l,∀c∈e,Closed c:=by
 intro e he c hc
 obtain⟨r,_,rfl⟩:=List.mem_map.1 he
 exact cC_ _ _ _ c hc
theorem fu_(l:List Rat):∀e∈rL l,∀c∈e,Closed c:=a3_ _
theorem gd_{N D:Int}{p:Nat}(hN:i64r N)(hD:i64r D):qs (numV N D p)≤256:=by
 obtain⟨d,hd⟩:∃d,d=dNum D:=⟨_,rfl⟩
 have hd0:d≠0:=by rw[hd];unfold dNum;split <;> omega
 have hdr:i64r d:=by
  rw[hd];unfold dNum i64r;unfold i64r at hD;split <;> omega
 unfold i64r at hN hdr
 obtain⟨q,hq⟩:∃q,q=Rat.divInt N d:=⟨_,rfl⟩
 have hnv:numV N D p=powQ q (p % 4):=by unfold numV;rw[←hd,←hq]
 have hqs:qs q≤64:=by
  have hb:∀z:Int,-9223372036854775808≤z∧z≤9223372036854775808→bl z.natAbs≤64:=fun z h=>bl_le (k:=64) (by omega)
  rw[hq]
  by_cases hn:d< 0
  rw[fQ_ N d hn]
  exact cX_ (by omega) (hb (-N) (by omega)) (hb d (by omega))
  rw[fP_ N d (by omega)]
  exact cX_ (by omega) (hb N (by omega)) (hb d (by omega))
 have h1:=ny_ q (p % 4)
 have h2:(p % 4+1) * qs q≤4* 64:=Nat.mul_le_mul (by omega) hqs
 rw[hnv];omega
theorem nL_qs{l:List NRow}(h:okR l):∀q∈nL l,qs q≤256:=by
 intro q hq
 obtain⟨r,hr,rfl⟩:=List.mem_map.1 hq
 exact gd_ (h r hr).1 (h r hr).2.1
def liS(l:List NRow):List Rat→Nat→AState
 |[],i=>⟨[(0,.arr (nR l)),(4,.emp),(5,.emp),(6,i64 i)],[],1,33⟩
 |q::Q,i=>⟨[(0,.arr (nR l)),(4,.lsl 1 0 (Q.length+1) none 3),(5,.lsl 2 0 (Q.length+1) none 4),(6,i64 i)],[(1,some ⟨35,3,pE (q::Q)⟩),(2,some ⟨42,4,rL (q::Q)⟩)],3,33⟩
theorem iH_(l:List NRow)(i:Nat):liS l [] i=⟨[(0,.arr (nR l)),(4,.emp),(5,.emp),(6,i64 i)],[],1,33⟩:=rfl
theorem fM_(l:List NRow)(q:Rat)(Q:List Rat)(i:Nat):liS l (q::Q) i=⟨[(0,.arr (nR l)),(4,.lsl 1 0 (Q.length+1) none 3),(5,.lsl 2 0 (Q.length+1) none 4),(6,i64 i)],[(1,some ⟨35,3,pE (q::Q)⟩),(2,some ⟨42,4,rL (q::Q)⟩)],3,33⟩:=rfl
theorem rZ_(l:List NRow)(hl:l.length≤1099511627776)(hb:okR l):FSpec Tryz.prog 101 [.arr (nR l)] (.tup [.arr (pE (nL l)),.arr (rL (nL l))]):=by
 have hcr:∀q:Rat,∀e∈[rC (rq q)],∀c∈e,Closed c:=fun q=>fu_ [q]
 refine f_n Tryz.func101 ?_ ?_
 exact aa_ (aU_ (bX_ l)) ab_
 refine r_z 2 ?_
 refine r_z 1 ?_
 refine r_z 1 ?_
 refine ac_ (r_z 1 ?_)
 refine aD_ (fun _:Unit=>liS l (nL l) l.length) (fun _=>True) ?_ ?_
 refine ah_ (aw_ (fun i:Nat=>liS l (nL (l.take i)) i) (fun i=>l.length- i) (fun i=>i≤l.length) 0 (Nat.zero_le _) ?_ ?_)
 show SEnt _ (liS l [] 0)
 rw[iH_]
 have:=(aU_ (bX_ l))
 exact s_f []
 rintro i hi
 have hlen:(nR l).length=l.length:=by simp[nR]
 by_cases hlt:i< l.length
 ·obtain⟨n,hn⟩:∃n,l[i]?=some n:=⟨_,List.getElem?_eq_getElem hlt⟩
  have hgt:(nR l)[((i:Nat):Int).toNat]?=some (nuC n.1 n.2.1 n.2.2):=by
   show(nR l)[i]?=_
   simp[nR,hn]
  obtain⟨hn1,hn2,hn3⟩:=hb n (List.mem_of_getElem? hn)
  have hbo:=gQ_ n.1 n.2.1 n.2.2 hn1 hn2 hn3
  obtain⟨v,hv⟩:∃v,v=numV n.1 n.2.1 n.2.2:=⟨_,rfl⟩
  rw[←hv] at hbo
  have htk:nL (l.take (i+1))=nL (l.take i)++[v]:=by rw[cc_ hn];simp[nL,nV,hv]
  have hQl:(nL (l.take i)).length=i:=by simp[nL];omega
  cases hQ:nL (l.take i) with
  |nil=>
   simp only[iH_]
   refine ac_ (r_z 4 ?_)
   refine aj_ rfl (fun h=>?_) (fun h=>?_)
   rotate_left
   exact absurd h (by simp[nR];omega)
   refine ai_ (ac_ (ah_ (s_r 12 ?_)))
   refine a_2 ?_
   refine i_x hgt ?_
   refine l_x hgt ?_
   refine c_s (hbo) ?_
   refine a_z ?_
   refine r_d hmix 10 ?_
   refine a_8 ?_
   refine a_2 ?_
   refine ak_ (n_k ?_)
   refine r_m 3 ?_
   refine a_z ?_
   refine⟨i+1,by omega,hlt,?_⟩
   simp only[htk,hQ,List.nil_append,fM_]
   refine at_ [(1,4),(2,5)] rfl rfl rfl au_r (fun hs=>?_) (fun hs=>?_)
   ·repeat' (first|exact aK_|refine aE_ rfl ?_ ?_)
    all_goals (first|(exact an_ hs (aU_ (bX_ l)))|exact au_c)
   ·repeat' (first|exact aq_|refine al_ rfl rfl rfl rfl ?_ ?_)
    all_goals (first|((try exact aO_ hs (aJ_ [v]));(try exact aO_ hs (fu_ [v])))|exact au_e|(refine ae_ ?_;repeat' (first|exact ap_|refine af_ ?_ ?_)))
    all_goals (first|(exact an_ hs (aU_ (bX_ l)))|exact au_c)
  |cons q Q=>
   rw[hQ] at hQl
   simp at hQl
   simp only[fM_]
   refine ac_ (r_z 4 ?_)
   refine aj_ rfl (fun h=>?_) (fun h=>?_)
   rotate_left
   exact absurd h (by simp[nR];omega)
   refine ai_ (ac_ (ah_ (s_r 12 ?_)))
   refine a_2 ?_
   refine i_x hgt ?_
   refine l_x hgt ?_
   refine c_s (hbo) ?_
   refine a_z ?_
   refine r_d hmix 10 ?_
   refine a_8 ?_
   refine a_2 ?_
   refine ak_ (n_k ?_)
   refine r_m 3 ?_
   refine a_z ?_
   refine⟨i+1,by omega,hlt,?_⟩
   simp only[htk,hQ,List.cons_append,fM_]
   have e:pE (q::Q)++[qC v]=pE (q::(Q++[v])):=by simp[pE]
   have e2:rL (q::Q)++[rC (rq v)]=rL (q::(Q++[v])):=by simp[rE]
   refine at_ [(1,4),(2,5)] rfl rfl rfl ?_ (fun hs=>?_) (fun hs=>?_)
   ·repeat' (first|exact ShrL.nil|refine ShrL.cons rfl rfl rfl rfl (by first|(simp)|rfl|(simp;done)|(simp <;> omega)) ?_)
   ·repeat' (first|exact aK_|refine aE_ rfl ?_ ?_)
    all_goals (first|(exact an_ hs (aU_ (bX_ l)))|exact au_c)
   ·repeat' (first|exact aq_|refine al_ rfl rfl rfl rfl ?_ ?_)
    all_goals (first|((try exact aH_ hs e (aJ_ _));(try exact aH_ hs e2 (fu_ _)))|exact au_e|(refine ae_ ?_;repeat' (first|exact ap_|refine af_ ?_ ?_)))
    all_goals (first|(exact an_ hs (aU_ (bX_ l)))|exact au_c)
 have hge:i=l.length:=by omega
 subst hge
 simp only[List.take_length]
 cases hQ:nL l with
 |nil=>
  simp only[iH_]
  refine ac_ (r_z 4 ?_)
  refine aj_ rfl (fun h=>?_) (fun h=>?_)
  exact absurd h (by simp[nR])
  refine av_ ⟨(),trivial,?_⟩
  simp only[hQ,iH_]
  have:=(aU_ (bX_ l))
  exact s_f []
 |cons q Q=>
  simp only[fM_]
  refine ac_ (r_z 4 ?_)
  refine aj_ rfl (fun h=>?_) (fun h=>?_)
  exact absurd h (by simp[nR])
  refine av_ ⟨(),trivial,?_⟩
  simp only[hQ,fM_]
  have:=(aU_ (bX_ l))
  exact s_f []
 rintro _ _
 cases hQ:nL l with
 |nil=>
  simp only[iH_]
  refine r_z 4 ?_
  refine ag_ (Fin.many ⟨_,_,rfl,rfl,⟨_,_,rfl,rfl,rfl⟩⟩ (nle rfl) ?_)
  exact af_ (Cv.emp _) (af_ (Cv.emp _) ap_)
 |cons q Q=>
  simp only[fM_]
  refine r_z 4 ?_
  refine ag_ (Fin.many ⟨_,_,rfl,rfl,⟨_,_,rfl,rfl,rfl⟩⟩ (nle rfl) ?_)
  exact af_ (Cv.sealE au_ rfl (fun _ _ h=>by cases h) rfl (by simp) (aJ_ _)) (af_ (Cv.sealE au_ rfl (fun _ _ h=>by cases h) rfl (by simp) (fu_ _)) ap_)
theorem pf_(l:List NRow)(hl:l.length≤1099511627776)(hb:okR l):FSpec Tryz.prog 22 [.arr (nR l)] (.tup [.arr (pE (nL l)),.arr (rL (nL l))]):=by
 refine f_n Tryz.func22 ?_ ?_
 exact aa_ (aU_ (bX_ l)) ab_
 refine r_z 2 ?_
 refine r_c 7 (rZ_ l hl hb) ?_
 refine a_z ?_
 refine r_z 4 ?_
 refine ag_ (Fin.many ⟨_,_,rfl,rfl,⟨_,_,rfl,rfl,rfl⟩⟩ (nle rfl) ?_)
 exact af_ (an_ au_ (aU_ (aJ_ _))) (af_ (an_ au_ (aU_ (fu_ _))) ap_)
end Go.Proofs.YtdjfjpeoddmamaaGreatDoor
