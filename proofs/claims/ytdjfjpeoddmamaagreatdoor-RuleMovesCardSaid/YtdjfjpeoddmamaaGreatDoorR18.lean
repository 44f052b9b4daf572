/- Part R18 of the proof. -/
import Derived.Test.YtdjfjpeoddmamaaGreatDoorR17
set_option linter.all false
namespace Go.Proofs.YtdjfjpeoddmamaaGreatDoor
open Go.Abs
set_option maxRecDepth 20000
def w0C:List AV:=[.emp,bln false,bln false]++zC++zC
theorem eT_:∀c∈w0C,Closed c:=fun c hc=>by
 unfold w0C at hc
 rcases List.mem_append.1 hc with hc|hc
 rcases List.mem_append.1 hc with hc|hc
 exact aa_ bH_ (aa_ (ad_ _) (aa_ (ad_ _) ab_)) c hc
 exact dn_ c hc
 exact dn_ c hc
theorem hB_(a b:Rat)(n:Nat)(hn:n≤63)(hab:a< b)(ha:qs a≤256)(hb:qs b≤256)(hok:∀k,k≤n→okMo [1] (a,b) k):
    FSpec Tryz.prog 15 [.agg (spC a b),i64 0,i64 0,i64 n] (.tup [.agg (wC (sqL (moQ [1] (a,b)) (n+1)) true true (qC a) (qC b)),i64 0]):=by
 have sa:sm a:=Nat.le_trans ha (by decide)
 have sb:sm b:=Nat.le_trans hb (by decide)
 have hva:=ko_ a b sa sb
 rw[decide_eq_true (show cmpQ a b≤0 by unfold cmpQ;rw[if_pos hab];decide)] at hva
 have hsi:=bJ_ (b- a)
 have hne:¬sgZ (b- a).num=0:=fun e=>by have:=sgZ_num_eq.1 e;grind
 have ho0:=dM_ 0 0 8
 rw[decide_eq_false (by decide)] at ho0
 have hon:=dM_ (n:Nat) 0 63
 rw[decide_eq_false (by omega)] at hon
 have hp1:FSpec Tryz.prog 79 [.arr [qC (-a),qC ((1:Int):Rat)],i64 0] (.arr (pE [1])):=in_ [-a,1] 0 (fun q hq=>by
  rcases List.mem_cons.1 hq with rfl|hq
  rw[d9_];exact ha
  rw[List.mem_singleton.1 hq];decide) (by simp) (by decide) (fun k hk=>by
  have:k=0:=by omega
  subst this;show pB 2 0≤_;decide)
 have hp2:FSpec Tryz.prog 79 [.arr [qC b,qC ((-1:Int):Rat)],i64 0] (.arr (pE [1])):=in_ [b,-1] 0 (fun q hq=>by
  rcases List.mem_cons.1 hq with rfl|hq
  exact hb
  rw[List.mem_singleton.1 hq];decide) (by simp) (by decide) (fun k hk=>by
  have:k=0:=by omega
  subst this;show pB 2 0≤_;decide)
 have hmu:=kq_ [1] [1] 1 1 (by decide) (by decide) (by decide) (by decide) (by decide) (by decide) (by decide) (by decide)
 rw[show mulP [1] [1]=[1] by decide+kernel] at hmu
 have htk:=fs_taken 81 [bP [1],bS (a,b)] (aa_ (bb_ _) (aa_ (fW_ _) ab_)) (moQ [1] (a,b)) n (by omega) rfl (oC_ [1] (a,b) n (by omega) hok)
 refine f_n Tryz.func15 ?_ ?_
 exact aa_ (cl_ _ _) (aa_ (ad_ _) (aa_ (ad_ _) (aa_ (ad_ _) ab_)))
 refine r_z 3 ?_
 refine aY_ (fun _:Unit=>⟨[(1,i64 0),(2,i64 0),(3,i64 n),(4,.lptr 1 0 0),(8,.lptr 2 0 0)],[(1,some ⟨37,6,[spC a b]⟩),(2,some ⟨51,9,[w0C]⟩)],3,58⟩) (fun _=>True) ?_ ?_
 refine ag_ (r_c 10 (hva) ?_)
 refine c_s (hA_ a b sa sb) ?_
 refine c_s (hsi) ?_
 refine d_z ?_
 refine cF (r_c 11 (ho0) ?_)
 refine c_s (ho0) ?_
 refine c_s (hon) ?_
 refine a_z ?_
 refine cF (ae_ ⟨(),trivial,?_⟩)
 refine ax_ [(1,4),(2,8)] rfl rfl rfl au_r (fun hs=>au_f) (fun hs=>?_)
 ·repeat' (first|exact av_|refine an_ rfl rfl rfl rfl ?_ ?_)
  all_goals (first|((try exact au_ (CvL.clo hs (fun c hc=>(List.mem_append.1 hc).elim (aP_ _ c) (aP_ _ c))));(try exact au_ (CvL.clo hs eT_)))|exact au_e)
 rintro _ _
 refine ac_ (r_d hmix 16 ?_)
 refine c_s (gu_ a) ?_
 refine c_s (bk_ 1 (by decide)) ?_
 refine a_2 ?_
 refine o_1 (.callS1 rfl rfl rfl (.shut rfl d_n (.keep (.nil))) rfl (hp1)) ?_
 refine c_s (bk_ (-1) (by decide)) ?_
 refine a_2 ?_
 refine o_1 (.callS1 rfl rfl rfl (.shut rfl d_n (.keep (.nil))) rfl (hp2)) ?_
 refine c_s (hmu) ?_
 refine a_2 ?_
 refine ak_ (n_k ?_)
 refine AWp.ent (st':=⟨[(3,i64 n),(4,bS (a,b)),(8,.lptr 1 0 0),(10,bP [1])],[(1,some ⟨51,9,[w0C]⟩)],2,58⟩) ?_ ?_
 exact s_f [(1,8)]
 refine r_z 2 ?_
 refine ac_ (r_d hmix 10 ?_)
 refine c_s (htk) ?_
 refine a_7 ?_
 refine ak_ (n_k ?_)
 refine af_ (Fin.many ⟨_,_,rfl,⟨_,_,_,_,_,rfl,rfl,rfl,.inl ⟨tg_51.h,_,ts_51.h,nle rfl,rfl⟩⟩,⟨_,_,rfl,rfl,rfl⟩⟩ (nle rfl) ?_)
 exact ai_ (aA_ aB_ (al_ (bL_ (.inr ⟨a,rfl⟩) (.inr ⟨b,rfl⟩)))) (ai_ (aA_ aB_ (ad_ _)) as_)
theorem hr_(L:List Rat):∀n,LeLL (List.replicate n zC++pE L) (pE (List.replicate n 0++L))
 |0=>LeLL.refl _
 |n+1=> .cons le_zC (hr_ L n)
theorem jk_(n:Nat)(L:List Rat):Closed (.arr (List.replicate n zC++pE L)):=aL_ fun c hc=>(List.mem_append.1 hc).elim (fun h=>by rw[List.eq_of_mem_replicate h];exact dn_) (aC_ L c)
theorem FSpec.zerosQ{P:Program}{f n:Nat}{L:List Rat}{a r:AV}(h:FSpec P f [a,.arr (pE (List.replicate n 0++L))] r)(ha:Closed a):FSpec P f [a,.arr (List.replicate n zC++pE L)] r:=
 h.weak (.cons (Le.refl _) (.cons (Le.arr (hr_ L n)) .nil)) (aa_ ha (aa_ (jk_ n L) ab_))
theorem jt_(n:Nat):(List.replicate n zC).all (·.all AV.one)=true:=by
 simp only[List.all_replicate]
 cases n <;> rfl
def tmS(f:Nat→Rat)(t1:AV)(W:List AV):Nat→AState
 |0=>⟨[(6,i64 ((0:Nat):Int)),(5,.emp),(1,t1),(2,.lptr 1 0 0),(4,.lptr 2 0 0)],[(1,some ⟨51,9,[W]⟩),(2,some ⟨51,9,[w0C]⟩)],3,29⟩
 |k+1=>⟨[(6,i64 ((k+1:Nat):Int)),(5,.lsl 3 0 (k+1) none 3),(1,t1),(2,.lptr 1 0 0),(4,.lptr 2 0 0)],[(1,some ⟨51,9,[W]⟩),(2,some ⟨51,9,[w0C]⟩),(3,some ⟨35,3,pE (sqL f (k+1))⟩)],4,29⟩
theorem tmS_0(f:Nat→Rat)(t1:AV)(W:List AV):tmS f t1 W 0=⟨[(6,i64 ((0:Nat):Int)),(5,.emp),(1,t1),(2,.lptr 1 0 0),(4,.lptr 2 0 0)],[(1,some ⟨51,9,[W]⟩),(2,some ⟨51,9,[w0C]⟩)],3,29⟩:=rfl
theorem tmS_s(f:Nat→Rat)(t1:AV)(W:List AV)(k:Nat):tmS f t1 W (k+1)=⟨[(6,i64 ((k+1:Nat):Int)),(5,.lsl 3 0 (k+1) none 3),(1,t1),(2,.lptr 1 0 0),(4,.lptr 2 0 0)],[(1,some ⟨51,9,[W]⟩),(2,some ⟨51,9,[w0C]⟩),(3,some ⟨35,3,pE (sqL f (k+1))⟩)],4,29⟩:=rfl
theorem ip_(p m:List Rat)(l r:Bool)(a b:Rat)(s t:Nat)(hp:bdL p s)(hm:bdL m t)(hs:1≤s)(ht:1≤t)(hpl:p.length≤1000)(hml:m.length≤1000)(hlim:(p.length+m.length+3) * (s+t+1)≤137438953472):
    FSpec Tryz.prog 121 [.agg (wC m l r (qC a) (qC b)),.arr (pE p)] (.agg (wC (sqL (tmQ p m) (m.length+1- (trimQ p).length)) l r (qC a) (qC b))):=by
 obtain⟨K,hK⟩:∃K,K=m.length+1- (trimQ p).length:=⟨_,rfl⟩
 rw[←hK]
 have htl:=aD_ p
 have hdg:=bo_ p (by omega)
 have hd:degP p=((trimQ p).length:Int)- 1:=rfl
 have hWc:∀c∈wC m l r (qC a) (qC b),Closed c:=bL_ (.inr ⟨a,rfl⟩) (.inr ⟨b,rfl⟩)
 have hof:∀k,k< K→FSpec Tryz.prog 114 [.agg (wC m l r (qC a) (qC b)),.arr (List.replicate k zC++pE p)] (.agg (qC (tmQ p m k))):=fun k hlt=>by
  have hle:k+(trimQ p).length≤m.length:=by omega
  exact FSpec.zerosQ (fs_of (List.replicate k 0++p) m l r a b s t (pG_ hp hs k) hm hs ht (by simp;omega) (gZ_ p k _ hle) (Nat.le_trans (Nat.mul_le_mul_right _ (by simp;omega)) hlim)) (al_ hWc)
 have e:∀k,pE (sqL (tmQ p m) k)++[qC (tmQ p m k)]=pE (sqL (tmQ p m) (k+1)):=fun k=>by rw[gE_,hc_]
 generalize tmQ p m=f at hof e⊢
 refine f_n Tryz.func121 ?_ ?_
 exact aa_ (al_ hWc) (aa_ (aj_ p) ab_)
 refine r_z 2 ?_
 refine r_z 1 ?_
 refine ac_ (r_z 1 ?_)
 refine aF_ (fun _:Unit=>⟨[(2,.lptr 1 0 0),(4,.lptr 2 0 0),(5,.arr (pE (sqL f K)))],[(1,some ⟨51,9,[wC m l r (qC a) (qC b)]⟩),(2,some ⟨51,9,[w0C]⟩)],3,29⟩) (fun _=>True) ?_ ?_
 refine ag_ (aw_ (fun k:Nat=>tmS f (.arr (pE p)) (wC m l r (qC a) (qC b)) k) (fun k=>K- k) (fun k=>k≤K) 0 (Nat.zero_le _) ?_ ?_)
 rw[tmS_0]
 refine ax_ [(1,2),(2,4)] rfl rfl rfl au_r (fun hs=>au_f) (fun hs=>?_)
 ·repeat' (first|exact av_|refine an_ rfl rfl rfl rfl ?_ ?_)
  all_goals (first|((try exact au_ (CvL.clo hs hWc));(try exact au_ (CvL.clo hs eT_)))|exact au_e)
 rintro k hk
 by_cases hlt:k< K
 ·have hle:k+(trimQ p).length≤m.length:=by omega
  have hof:=hof k hlt
  have e:=e k
  cases k with
  |zero=>
   rw[tmS_0]
   refine ac_ (ac_ (r_d hmix 8 ?_))
   refine c_s (hdg) ?_
   refine d_5 ?_
   refine ak_ (n_k ?_)
   refine cT (ae_ (ac_ (ag_ (r_d hmix 10 ?_))))
   refine a_5 ?_
   refine o_2 (.append_l rfl rfl rfl te_55.h rfl rfl rfl rfl rfl d_o (jt_ _) (dr_ _) rfl (.arr (fe_ _)) tz_35.h rfl tb_35.h d_o (by first|(simp[maxLen];done)|(simp[maxLen];omega))) ?_
   refine o_1 (.callS1 rfl rfl rfl (.keep (.shut rfl d_n (.nil))) rfl ((FSpec.argE2 hof (by rw[List.drop_zero];exact List.take_of_length_le (by simp))))) ?_
   refine a_3 ?_
   refine ak_ (n_k ?_)
   refine r_m 3 ?_
   refine a_z ?_
   refine⟨0+1,by omega,hlt,?_⟩
   rw[tmS_s]
   refine ax_ [(3,5)] rfl rfl rfl au_r (fun hs=>au_f) (fun hs=>?_)
   ·repeat' (first|exact av_|refine an_ rfl rfl rfl rfl ?_ ?_)
    all_goals (first|((try exact au_ (CvL.clo hs hWc));(try exact au_ (CvL.clo hs eT_));(try exact a6_ hs (aC_ [f 0])))|exact au_e)
  |succ k=>
   rw[tmS_s]
   refine ac_ (ac_ (r_d hmix 8 ?_))
   refine c_s (hdg) ?_
   refine d_5 ?_
   refine ak_ (n_k ?_)
   refine cT (ae_ (ac_ (ag_ (r_d hmix 10 ?_))))
   refine a_5 ?_
   refine o_2 (.append_l rfl rfl rfl te_55.h rfl rfl rfl rfl rfl d_o (jt_ _) (dr_ _) rfl (.arr (fe_ _)) tz_35.h rfl tb_35.h d_o (by first|(simp[maxLen];done)|(simp[maxLen];omega))) ?_
   refine o_1 (.callS1 rfl rfl rfl (.keep (.shut rfl d_n (.nil))) rfl ((FSpec.argE2 hof (by rw[List.drop_zero];exact List.take_of_length_le (by simp))))) ?_
   refine a_3 ?_
   refine ak_ (n_k ?_)
   refine r_m 3 ?_
   refine a_z ?_
   refine⟨k+1+1,by omega,hlt,?_⟩
   rw[tmS_s]
   refine ax_ [(3,5)] rfl rfl rfl ?_ (fun hs=>au_f) (fun hs=>?_)
   ·repeat' (first|exact ShrL.nil|refine ShrL.cons rfl rfl rfl rfl (by first|(simp)|rfl|(simp;done)|(simp <;> omega)) ?_)
   ·repeat' (first|exact av_|refine an_ rfl rfl rfl rfl ?_ ?_)
    all_goals (first|((try exact au_ (CvL.clo hs hWc));(try exact au_ (CvL.clo hs eT_));(try exact aE_ hs e (aC_ _)))|exact au_e)
 have hge:k=K:=by omega
 subst hge
 cases k with
 |zero=>
  rw[tmS_0]
  refine ac_ (ac_ (r_d hmix 8 ?_))
  refine c_s (hdg) ?_
  refine d_5 ?_
  refine ak_ (n_k ?_)
  refine cF (at_ ⟨(),trivial,?_⟩)
  exact s_e []
 |succ k=>
  rw[tmS_s]
  refine ac_ (ac_ (r_d hmix 8 ?_))
  refine c_s (hdg) ?_
  refine d_5 ?_
  refine ak_ (n_k ?_)
  refine cF (at_ ⟨(),trivial,?_⟩)
  refine ax_ [] rfl rfl rfl au_r (fun hs=>?_) (fun hs=>?_)
  ·repeat' (first|exact aZ_|refine aR_ rfl ?_ ?_)
   all_goals (first|(exact Cv.shut hs rfl (a2_ rfl) (by simp) (aE_ hs (by rw[List.drop_zero];exact List.take_of_length_le (by simp)) (aC_ _)))|exact au_c)
  ·repeat' (first|exact av_|refine an_ rfl rfl rfl rfl ?_ ?_)
   all_goals (first|exact au_e|(refine au_ ?_;repeat' (first|exact as_|refine ai_ ?_ ?_)))
   all_goals (first|(exact Cv.shut hs rfl (a2_ rfl) (by simp) (aE_ hs (by rw[List.drop_zero];exact List.take_of_length_le (by simp)) (aC_ _)))|exact au_c)
 rintro _ _
 refine r_z 3 ?_
 refine r_z 2 ?_
 exact af_ (c_e (al_ (bL_ (.inr ⟨a,rfl⟩) (.inr ⟨b,rfl⟩))))
theorem oR_(m p:List Rat)(l r:Bool)(a b:Rat)(h:okOf m p):FSpec Tryz.prog 114 [.agg (wC m l r (qC a) (qC b)),.arr (pE p)] (.agg (qC (ofP m p))):=
 fs_of p m l r a b (mxL p) (mxL m) (bG_ p) (bG_ m) (bs_ p) (bs_ m) h.1 h.2.1 h.2.2
theorem d3_(p q:List Rat)(o:okMul p q):FSpec Tryz.prog 52 [.arr (pE p),.arr (pE q)] (.arr (pE (mulP p q))):=
 kq_ p q (mxL p) (mxL q) (bG_ p) (bG_ q) (bs_ p) (bs_ q) o.1 o.2.1 o.2.2.1 o.2.2.2
def ldC(W:List AV)(p q:AV)(nm:List AV)(a b:AV):List AV:=W++[p,q]++nm++[a,b]
def ldF(m:List Rat)(l r:Bool)(a b:Rat)(k:Nat):List AV:=ldC (wC m l r (qC a) (qC b)) (.arr (pE (ldr m k).1)) (.arr (pE (ldr m k).2.1)) (qC (ldr m k).2.2) (.arr (pE (sqL (ldAk m) k))) (.arr (pE (sqL (ldB m) k)))
theorem c9_(m:List Rat)(l r:Bool)(a b:Rat)(k:Nat):∀c∈ldF m l r a b k,Closed c:=fun c hc=>by
 unfold ldF ldC at hc
 rcases List.mem_append.1 hc with hc|hc
 rcases List.mem_append.1 hc with hc|hc
 rcases List.mem_append.1 hc with hc|hc
 exact bL_ (.inr ⟨a,rfl⟩) (.inr ⟨b,rfl⟩) c hc
 exact aa_ (aj_ _) (aa_ (aj_ _) ab_) c hc
 exact aP_ _ c hc
 exact aa_ (aj_ _) (aa_ (aj_ _) ab_) c hc
theorem e2_{r:Ren}{hp hp':Nat→Option ABlk}:∀{a b c d:List AV},CvL r hp hp' a b→CvL r hp hp' c d→CvL r hp hp' (a++c) (b++d)
 |[],_,_,_,h,h2=>by cases h;exact h2
 |x::xs,_,_,_,⟨y,ys,e,h1,h3⟩,h2=>by subst e;exact⟨y,_,rfl,h1,e2_ h3 h2⟩
theorem h0_{r:Ren}{hp hp':Nat→Option ABlk}(W:List AV){p q a b p' q' a' b':AV}{nm nm':List AV}(h:Shr r hp hp')(hW:∀c∈W,Closed c)(h1:Cv r hp hp' p p')(hq:Cv r hp hp' q q')(hn:CvL r hp hp' nm nm')(ha:Cv r hp hp' a a')(hb:Cv r hp hp' b b'):CvL r hp hp' (ldC W p q nm a b) (ldC W p' q' nm' a' b'):=
 e2_ (e2_ (e2_ (CvL.clo h hW) (ai_ h1 (ai_ hq as_))) hn) (ai_ ha (ai_ hb as_))
theorem cH_{r:Ren}{hp hp':Nat→Option ABlk}{id n:Nat}{cap:Option Nat}{B:ABlk}{L:List Rat}(h:Shr r hp hp')(hi:cellF hp id=some B)(hi':Dead r hp' id)(he:B.es=pE L)(hn:n=L.length):Cv r hp hp' (.lsl id 0 n cap 3) (.arr (pE L)):=
 Cv.shut h hi hi' (by rw[he,hn];simp) (aE_ h (by rw[he,List.drop_zero];exact List.take_of_length_le (by simp[hn])) (aC_ _))
theorem k8_{r:Ren}{hp hp':Nat→Option ABlk}(h:Shr r hp hp'):CvL r hp hp' zC (qC 0):=by
 rw[qC0]
 exact ai_ (Cv.emp _) (ai_ (aA_ h (ad_ _)) (ai_ (Cv.emp _) as_))
def clS(m:List Rat)(l r:Bool)(a b:Rat)(n:Nat):Nat→AState
 |0=>⟨[(17,i64 n),(18,i64 ((0:Nat):Int)),(6,.lptr 1 0 0)],[(1,some ⟨150,16,[ldC (wC m l r (qC a) (qC b)) (.arr (pE [1])) .emp zC .emp .emp]⟩)],2,113⟩
 |k+1=>⟨[(17,i64 n),(18,i64 ((k+1:Nat):Int)),(6,.lptr 1 0 0)],[(1,some ⟨150,16,[ldC (wC m l r (qC a) (qC b)) (.arr (pE (ldr m (k+1)).1)) (.arr (pE (ldr m (k+1)).2.1)) (qC (ldr m (k+1)).2.2) (.lsl 2 0 (k+1) none 3) (.lsl 3 0 (k+1) none 3)]⟩),(2,some ⟨35,3,pE (sqL (ldAk m) (k+1))⟩),(3,some ⟨35,3,pE (sqL (ldB m) (k+1))⟩)],4,113⟩
theorem clS_0(m:List Rat)(l r:Bool)(a b:Rat)(n:Nat):clS m l r a b n 0=⟨[(17,i64 n),(18,i64 ((0:Nat):Int)),(6,.lptr 1 0 0)],[(1,some ⟨150,16,[ldC (wC m l r (qC a) (qC b)) (.arr (pE [1])) .emp zC .emp .emp]⟩)],2,113⟩:=rfl
theorem clS_s(m:List Rat)(l r:Bool)(a b:Rat)(n k:Nat):clS m l r a b n (k+1)=⟨[(17,i64 n),(18,i64 ((k+1:Nat):Int)),(6,.lptr 1 0 0)],[(1,some ⟨150,16,[ldC (wC m l r (qC a) (qC b)) (.arr (pE (ldr m (k+1)).1)) (.arr (pE (ldr m (k+1)).2.1)) (qC (ldr m (k+1)).2.2) (.lsl 2 0 (k+1) none 3) (.lsl 3 0 (k+1) none 3)]⟩),(2,some ⟨35,3,pE (sqL (ldAk m) (k+1))⟩),(3,some ⟨35,3,pE (sqL (ldB m) (k+1))⟩)],4,113⟩:=rfl
def clX(m:List Rat)(l r:Bool)(a b:Rat)(k:Nat):AState:=⟨[(17,i64 k),(18,i64 k),(6,.lptr 1 0 0)],[(1,some ⟨150,16,[ldF m l r a b k]⟩)],2,113⟩
set_option maxHeartbeats 2000000 in
theorem i8_(m:List Rat)(l r:Bool)(a b:Rat)(n:Nat)(hn:n≤1000)(hok:∀k,k< n→okLd m k):
    FSpec Tryz.prog 87 [.agg (wC m l r (qC a) (qC b)),i64 n] (.tup [.aptr [ldF m l r a b n] 0 0,bln true]):=by
 have hWc:∀c∈wC m l r (qC a) (qC b),Closed c:=bL_ (.inr ⟨a,rfl⟩) (.inr ⟨b,rfl⟩)
 refine f_n Tryz.func87 ?_ ?_
 exact aa_ (al_ hWc) (aa_ (ad_ _) ab_)
 refine r_z 3 ?_
 refine ac_ (r_d hmix 6 ?_)
 refine c_s (bk_ 1 (by decide)) ?_
 refine a_4 ?_
 refine ak_ (n_k ?_)
 refine ac_ (r_z 2 ?_)
 refine aF_ (fun _:Unit=>⟨[(6,.aptr [ldF m l r a b n] 0 0)],[],1,113⟩) (fun _=>True) ?_ ?_
 refine ag_ (aw_ (fun k:Nat=>clS m l r a b n k) (fun k=>n- k) (fun k=>k≤n) 0 (Nat.zero_le _) ?_ ?_)
 rw[clS_0]
 refine ax_ [(1,6)] rfl rfl rfl au_r (fun hs=>au_f) (fun hs=>?_)
 ·repeat' (first|exact av_|refine an_ rfl rfl rfl rfl ?_ ?_)
  all_goals (first|(exact au_ (h0_ _ hs hWc (cH_ (L:=[1]) hs rfl (a2_ rfl) rfl rfl) (aA_ hs bH_) (CvL.clo hs dn_) (aA_ hs bH_) (aA_ hs bH_)))|exact au_e)
 rintro k hk
 by_cases hlt:k< n
 obtain⟨o1,o2,o3,o4,o5,o6,o7,o8,o9,o10,o11,o12,o13,o14,o15⟩:=hok k hlt
 have hmm:=d3_ _ _ o1
 have ho1:=oR_ m _ l r a b o2
 have hsg:=bJ_ (ldN m (ldr m k).1)
 have hsp:=sgZ_num_gt.2 o3
 have hmx:=o4_ _ o4
 have ho2:=oR_ m _ l r a b o5
 have hov:=dL_ _ (ldN m (ldr m k).1) (by grind) o6
 have hng:=gu_ (ldAk m k)
 have hmp:=d3_ (ldr m k).1 [-ldAk m k,1] o8
 have hsc:=c5_ (ldr m k).2.1 (ldB m k) o9 o10 o13
 have hsu:=oZ_ _ _ o11 o12 o14 o15
 cases k with
 |zero=>
  have hsc0:FSpec Tryz.prog 50 [.arr [],.agg [.arr [],bln false,.arr []]] (.arr (pE (ay_ (ldr m 0).2.1 (ldB m 0)))):=by
   rw[show qC (ldB m 0)=[.arr [],bln false,.arr []] by rw[show ldB m 0=0 from rfl];exact qC0] at hsc
   exact hsc
  rw[clS_0]
  refine q_z 1 ?_
  refine ac_ (cT (ae_ (ac_ (ag_ (r_z 2 ?_)))))
  refine ac_ (r_d hmix 10 ?_)
  refine c_s (hmm) ?_
  refine a_1 ?_
  refine ak_ (n_k ?_)
  refine r_c 8 (ho1) ?_
  refine a_z ?_
  refine ac_ (r_c 3 (hsg) ?_)
  refine d_z ?_
  refine cF (ae_ (ac_ (r_d hmix 17 ?_)))
  refine c_s (bk_ 1 (by decide)) ?_
  refine a_1 ?_
  refine o_1 (.callS1 rfl rfl rfl (.keep (.shut rfl d_n (.nil))) rfl (hmx)) ?_
  refine c_s (ho2) ?_
  refine c_s (hov) ?_
  refine a_5 ?_
  refine ak_ (n_k ?_)
  refine ac_ (q_z 2 ?_)
  refine cF (ae_ (r_z 5 ?_))
  refine ac_ (r_d hmix 22 ?_)
  refine a_8 ?_
  refine a_8 ?_
  refine a_6 ?_
  refine ak_ (n_k ?_)
  refine r_d hmix 28 ?_
  refine c_s (hng) ?_
  refine c_s (bk_ 1 (by decide)) ?_
  refine a_1 ?_
  refine o_1 (.callS1 rfl rfl rfl (.keep (.shut rfl d_n (.nil))) rfl (hmp)) ?_
  refine c_s (hsc0) ?_
  refine c_s (hsu) ?_
  refine a_8 ?_
  refine a_2 ?_
  refine ak_ (n_k ?_)
  refine r_m 2 ?_
  refine a_z ?_
  refine⟨0+1,by omega,hlt,?_⟩
  rw[clS_s]
  refine ax_ [(1,6),(2,73),(3,80)] rfl rfl rfl au_r (fun hs=>au_f) (fun hs=>?_)
  ·repeat' (first|exact av_|refine an_ rfl rfl rfl rfl ?_ ?_)
   all_goals (first|((try exact a6_ hs (aC_ [ldAk m 0]));(try exact au_ (k8_ hs));(try exact au_ (h0_ _ hs hWc (aA_ hs (aj_ _)) (aA_ hs (aj_ _)) (CvL.clo hs (aP_ _)) (Cv.sl rfl rfl rfl) (Cv.sl rfl rfl rfl))))|exact au_e)
 |succ k=>
  rw[clS_s]
  have hB:ldB m (k+1)=ldN m (ldr m (k+1)).1/ (ldr m (k+1)).2.2:=if_neg (Nat.succ_ne_zero k)
  have hpv:0< (ldr m (k+1)).2.2:=(hok k (by omega)).2.2.1
  have hov2:=dL_ (ldN m (ldr m (k+1)).1) (ldr m (k+1)).2.2 (by grind) o7
  rw[←hB] at hov2
  have eA:pE (sqL (ldAk m) (k+1))++[qC (ldAk m (k+1))]=pE (sqL (ldAk m) (k+1+1)):=by rw[gE_ _ (k+1),hc_]
  have eB:pE (sqL (ldB m) (k+1))++[qC (ldB m (k+1))]=pE (sqL (ldB m) (k+1+1)):=by rw[gE_ _ (k+1),hc_]
  refine q_z 1 ?_
  refine ac_ (cT (ae_ (ac_ (ag_ (r_z 2 ?_)))))
  refine ac_ (r_d hmix 10 ?_)
  refine c_s (hmm) ?_
  refine a_1 ?_
  refine ak_ (n_k ?_)
  refine r_c 8 (ho1) ?_
  refine a_z ?_
  refine ac_ (r_c 3 (hsg) ?_)
  refine d_z ?_
  refine cF (ae_ (ac_ (r_d hmix 17 ?_)))
  refine c_s (bk_ 1 (by decide)) ?_
  refine a_1 ?_
  refine o_1 (.callS1 rfl rfl rfl (.keep (.shut rfl d_n (.nil))) rfl (hmx)) ?_
  refine c_s (ho2) ?_
  refine c_s (hov) ?_
  refine a_5 ?_
  refine ak_ (n_k ?_)
  refine ac_ (q_z 2 ?_)
  refine cT (r_d hmix 7 ?_)
  refine c_s (hov2) ?_
  refine a_1 ?_
  refine ak_ (n_k ?_)
  refine r_z 5 ?_
  refine ac_ (r_d hmix 22 ?_)
  refine a_8 ?_
  refine a_8 ?_
  refine a_6 ?_
  refine ak_ (n_k ?_)
  refine r_d hmix 28 ?_
  refine c_s (hng) ?_
  refine c_s (bk_ 1 (by decide)) ?_
  refine a_1 ?_
  refine o_1 (.callS1 rfl rfl rfl (.keep (.shut rfl d_n (.nil))) rfl (hmp)) ?_
  refine c_s (hsc) ?_
  refine c_s (hsu) ?_
  refine a_8 ?_
  refine a_2 ?_
  refine ak_ (n_k ?_)
  refine r_m 2 ?_
  refine a_z ?_
  refine⟨k+1+1,by omega,hlt,?_⟩
  rw[clS_s]
  refine ax_ [(1,6),(2,73),(3,80)] rfl rfl rfl ?_ (fun hs=>au_f) (fun hs=>?_)
  ·repeat' (first|exact ShrL.nil|refine ShrL.cons rfl rfl rfl rfl (by first|(simp)|rfl|(simp;done)|(simp <;> omega)) ?_)
  ·repeat' (first|exact av_|refine an_ rfl rfl rfl rfl ?_ ?_)
   all_goals (first|((try exact aE_ hs eA (aC_ _));(try exact aE_ hs eB (aC_ _));(try exact au_ (h0_ _ hs hWc (aA_ hs (aj_ _)) (aA_ hs (aj_ _)) (CvL.clo hs (aP_ _)) (Cv.sl rfl rfl rfl) (Cv.sl rfl rfl rfl))))|exact au_e)
 have hge:k=n:=by omega
 subst hge
 cases k with
 |zero=>
  rw[clS_0]
  refine AWp.ent (st':=clX m l r a b 0) ?_ ?_
  unfold clX
  refine ax_ [(1,6)] rfl rfl rfl au_r (fun hs=>au_f) (fun hs=>?_)
  ·repeat' (first|exact av_|refine an_ rfl rfl rfl rfl ?_ ?_)
   all_goals (first|(exact au_ (h0_ _ hs hWc (aA_ hs (aj_ _)) (Cv.emp _) (k8_ hs) (Cv.emp _) (Cv.emp _)))|exact au_e)
  unfold clX
  refine q_z 1 ?_
  refine ac_ (cF (at_ ⟨(),trivial,?_⟩))
  refine ax_ [] rfl rfl rfl au_r (fun hs=>?_) (fun hs=>?_)
  ·repeat' (first|exact aZ_|refine aR_ rfl ?_ ?_)
   all_goals (first|(exact Cv.boxp hs rfl (a2_ rfl) rfl (c9_ m l r a b _))|exact au_c)
  ·repeat' (first|exact av_|refine an_ rfl rfl rfl rfl ?_ ?_)
   all_goals (first|exact au_e|(refine au_ ?_;repeat' (first|exact as_|refine ai_ ?_ ?_)))
   all_goals (first|(exact Cv.boxp hs rfl (a2_ rfl) rfl (c9_ m l r a b _))|exact au_c)
 |succ k=>
  rw[clS_s]
  refine AWp.ent (st':=clX m l r a b (k+1)) ?_ ?_
  unfold clX
  refine ax_ [(1,6)] rfl rfl rfl au_r (fun hs=>au_f) (fun hs=>?_)
  ·repeat' (first|exact av_|refine an_ rfl rfl rfl rfl ?_ ?_)
   all_goals (first|(exact au_ (h0_ _ hs hWc (aA_ hs (aj_ _)) (aA_ hs (aj_ _)) (CvL.clo hs (aP_ _)) (cH_ hs rfl (a2_ rfl) rfl (by simp)) (cH_ hs rfl (a2_ rfl) rfl (by simp))))|exact au_e)
  unfold clX
  refine q_z 1 ?_
  refine ac_ (cF (at_ ⟨(),trivial,?_⟩))
  refine ax_ [] rfl rfl rfl au_r (fun hs=>?_) (fun hs=>?_)
  ·repeat' (first|exact aZ_|refine aR_ rfl ?_ ?_)
   all_goals (first|(exact Cv.boxp hs rfl (a2_ rfl) rfl (c9_ m l r a b _))|exact au_c)
  ·repeat' (first|exact av_|refine an_ rfl rfl rfl rfl ?_ ?_)
   all_goals (first|exact au_e|(refine au_ ?_;repeat' (first|exact as_|refine ai_ ?_ ?_)))
   all_goals (first|(exact Cv.boxp hs rfl (a2_ rfl) rfl (c9_ m l r a b _))|exact au_c)
 rintro _ _
 refine r_z 3 ?_
 refine af_ (Fin.many ⟨_,_,rfl,rfl,⟨_,_,rfl,rfl,rfl⟩⟩ (nle rfl) ?_)
 exact CvL.clo aB_ (aa_ (cQ_ fun e he=>by rw[List.mem_singleton.1 he];exact c9_ m l r a b n) (aa_ (ad_ _) ab_))
theorem hx_(n lo hi:Int)(h:lo≤n∧n≤hi):FSpec Tryz.prog 85 [i64 n,i64 lo,i64 hi] (i64 0):=by
 have ho:=dM_ n lo hi
 rw[decide_eq_false (by omega)] at ho
 refine f_n Tryz.func85 ?_ ?_
 exact aa_ (ad_ _) (aa_ (ad_ _) (aa_ (ad_ _) ab_))
 refine r_z 1 ?_
 refine ac_ (r_c 4 (ho) ?_)
 refine ak_ ?_
 refine cF (ae_ (r_z 1 ?_))
 exact af_ (t_e (ad_ _))
theorem i3_ (m:List Rat) (l r:Bool) (a b:Rat) (mo:Nat) (g:Nat) (cap:List AV) (p wt:List Rat) (hcap:∀c∈cap,Closed c) (hm:1≤m.length∧m.length≤64) (hab:l=true→r=true→a< b) (ha:sm a) (hb:sm b)
    (hmo:mo≤m.length) (hg:FSpec Tryz.prog g (cap.map coe) (.tup [.arr (pE p),bln true])) (hr:FSpec Tryz.prog 160 [.arr (pE p)] (bln true)) (hpb:bdL p 68719476736) (hp0:trimQ p≠[]) (hpl:p.length≤1099511627776)
    (hon:FSpec Tryz.prog 161 [.agg (wC m l r (qC a) (qC b)),.arr (pE (aW_ p))] (.agg (ruC (aW_ p) wt))):
    FSpec Tryz.prog 84 [.agg (wC m l r (qC a) (qC b)),i64 0,i64 mo,.clos g [] cap] (.tup [.agg (ruC (aW_ p) wt),i64 0]):=by
 have hWc:∀c∈wC m l r (qC a) (qC b),Closed c:=bL_ (.inr ⟨a,rfl⟩) (.inr ⟨b,rfl⟩)
 have hcw:=e8_ m l r a b hm hab ha hb
 have hmn:=io_ p hpb hp0 hpl
 refine f_n Tryz.func84 ?_ ?_
 exact aa_ (al_ hWc) (aa_ (ad_ _) (aa_ (ad_ _) (aa_ (aJ_ ab_ hcap) ab_)))
 refine r_z 3 ?_
 refine ac_ (r_c 3 (hcw) ?_)
 refine a_z ?_
 refine s_r 2 ?_
 refine a_1 ?_
 refine o_0 (.bin rfl rfl (vF bw_ (rfl))) ?_
 refine ak_ ?_
 refine cF (ae_ (ac_ (ag_ (s_r 3 ?_))))
 refine a_1 ?_
 refine o_0 (.bin rfl rfl (vF bw_ (rfl))) ?_
 refine a_z ?_
 refine cF (q_z 6 ?_)
 refine cF (ae_ (r_c 7 (hg) ?_))
 refine a_z ?_
 refine ac_ (r_c 7 (hr) ?_)
 refine a_z ?_
 refine cF (ae_ (ac_ (r_d hmix 6 ?_)))
 refine c_s (hmn) ?_
 refine c_s (hon) ?_
 refine a_2 ?_
 refine ak_ (n_k ?_)
 refine af_ (Fin.many ⟨_,_,rfl,⟨_,_,_,_,_,rfl,rfl,rfl,.inl ⟨tg_57.h,_,ts_57.h,nle rfl,rfl⟩⟩,⟨_,_,rfl,rfl,rfl⟩⟩ (nle rfl) ?_)
 exact ai_ (aA_ aB_ (al_ (bn_ _ _))) (ai_ (aA_ aB_ (ad_ _)) as_)
def bW(m:List Rat)(l r:Bool)(a b:Rat):AV:= .aptr [wC m l r (qC a) (qC b)] 0 0
theorem dT_(m:List Rat)(l r:Bool)(a b:Rat):Closed (bW m l r a b):=a8_ (bL_ (.inr ⟨a,rfl⟩) (.inr ⟨b,rfl⟩))
def bIn(n:Int):AV:= .aptr [[i64 n]] 0 0
theorem cP_(n:Int):Closed (bIn n):=a8_ (aa_ (ad_ _) ab_)
theorem o6_(m:List Rat)(l r:Bool)(a b:Rat)(n:Nat)(hn:n≤1000)(hok:∀k,k< n→okLd m k):FSpec Tryz.prog 86 [bW m l r a b,bIn n] (.tup [.arr (pE (ldr m n).1),bln true]):=by
 have hcl:=i8_ m l r a b n hn hok
 refine f_n Tryz.func86 ?_ ?_
 exact aa_ (dT_ m l r a b) (aa_ (cP_ n) ab_)
 refine r_z 2 ?_
 refine r_c 8 (hcl) ?_
 refine a_z ?_
 refine r_z 7 ?_
 refine af_ (Fin.many ⟨_,_,rfl,rfl,⟨_,_,rfl,rfl,rfl⟩⟩ (nle rfl) ?_)
 exact ai_ (aA_ aB_ (aj_ _)) (ai_ (aA_ aB_ (ad_ _)) as_)
theorem mu_ (m:List Rat) (l r:Bool) (a b:Rat) (n:Nat) (wt:List Rat) (hn:1≤n∧n≤25) (hok:∀k,k< n→okLd m k) (hm:2* n≤m.length∧m.length≤64) (hab:l=true→r=true→a< b) (ha:sm a) (hb:sm b)
    (hr:FSpec Tryz.prog 160 [.arr (pE (ldr m n).1)] (bln true)) (hpb:bdL (ldr m n).1 68719476736) (hp0:trimQ (ldr m n).1≠[]) (hpl:(ldr m n).1.length≤1099511627776)
    (hon:FSpec Tryz.prog 161 [.agg (wC m l r (qC a) (qC b)),.arr (pE (aW_ (ldr m n).1))] (.agg (ruC (aW_ (ldr m n).1) wt))):
    FSpec Tryz.prog 16 [.agg (wC m l r (qC a) (qC b)),i64 n] (.tup [.agg (ruC (aW_ (ldr m n).1) wt),i64 0]):=by
 have hWc:∀c∈wC m l r (qC a) (qC b),Closed c:=bL_ (.inr ⟨a,rfl⟩) (.inr ⟨b,rfl⟩)
 have hra:=hx_ (n:Nat) 1 25 (by omega)
 have hcc:∀c∈[bW m l r a b,bIn n],Closed c:=aa_ (dT_ m l r a b) (aa_ (cP_ n) ab_)
 have hna:=i3_ m l r a b (2* n) 86 [bW m l r a b,bIn n] (ldr m n).1 wt hcc (by omega) hab ha hb hm.1 (o6_ m l r a b n (by omega) hok) hr hpb hp0 hpl hon
 refine f_n Tryz.func16 ?_ ?_
 exact aa_ (al_ hWc) (aa_ (ad_ _) ab_)
 refine r_z 4 ?_
 refine AWp.ent (st':=⟨[(2,bW m l r a b),(3,bIn n),(4,.lptr 1 0 0)],[(1,some ⟨57,2,[[.emp,.emp]]⟩)],2,15⟩) ?_ ?_
 refine ax_ [(1,4)] rfl rfl rfl au_r (fun hs=>?_) (fun hs=>?_)
 ·repeat' (first|exact aZ_|refine aR_ rfl ?_ ?_)
  all_goals (first|((try exact Cv.boxp hs rfl (a2_ rfl) rfl hWc);(try exact Cv.boxp hs rfl (a2_ rfl) rfl (aa_ (ad_ _) ab_));done)|exact au_c)
 ·repeat' (first|exact av_|refine an_ rfl rfl rfl rfl ?_ ?_)
  all_goals (first|exact au_e|(refine au_ ?_;repeat' (first|exact as_|refine ai_ ?_ ?_)))
  all_goals (first|((try exact Cv.boxp hs rfl (a2_ rfl) rfl hWc);(try exact Cv.boxp hs rfl (a2_ rfl) rfl (aa_ (ad_ _) ab_));done)|exact au_c)
 refine ac_ (r_d hmix 11 ?_)
 refine c_s (hra) ?_
 refine c_s (hna) ?_
 refine a_4 ?_
 refine ak_ (n_k ?_)
 refine af_ (Fin.many ⟨_,_,rfl,⟨_,_,_,_,_,rfl,rfl,rfl,.inl ⟨tg_57.h,_,ts_57.h,nle rfl,rfl⟩⟩,⟨_,_,rfl,rfl,rfl⟩⟩ (nle rfl) ?_)
 exact ai_ (aA_ aB_ (al_ (bn_ _ _))) (ai_ (aA_ aB_ (ad_ _)) as_)
theorem eL_(p q:List Rat)(o:okDiv p q)(h0:trimQ q≠[]):FSpec Tryz.prog 227 [.arr (pE p),.arr (pE q)] (.tup [.arr (pE (divP p q).1),.arr (pE (divP p q).2)]):=
 es_ p q (mxL p) (mxL q) (bG_ p) (bG_ q) (bs_ p) (bs_ q) o.1 h0 o.2.1 o.2.2
def bzS(p:List Rat)(q:List Rat):List Rat×List Rat×List Rat×List Rat→AState
 |(g,nx,a,c)=>⟨[(0,.arr (pE p)),(1,.arr (pE q)),(4,.arr (pE g)),(5,.arr (pE a)),(7,.arr (pE nx)),(8,.arr (pE c))],[],1,83⟩
theorem pA_(p:List Rat)(q:List Rat)(g:List Rat)(nx:List Rat)(a:List Rat)(c:List Rat):bzS p q (g,nx,a,c)=⟨[(0,.arr (pE p)),(1,.arr (pE q)),(4,.arr (pE g)),(5,.arr (pE a)),(7,.arr (pE nx)),(8,.arr (pE c))],[],1,83⟩:=rfl
theorem kw_(f:Nat)(p q g a:List Rat)(hq:trimQ q≠[])(hql:q.length≤1099511627776)(hz:bzL f p q (bT_ ((1:Int):Rat)) []=some (g,a))(ho:okBz p q g a):
    FSpec Tryz.prog 236 [.arr (pE p),.arr (pE q)] (.tup [.arr (pE (bzG g)),.arr (pE (bzA q g a)),.arr (pE (bzB p q g a))]):=by
 obtain⟨c1,c2,c3,c4,c5,c6,c7,c8,c9,c10,c11,c12,c13,c14,c15,c16⟩:=ho
 have hd:¬degP q< 0:=fun e=>hq (degP_neg.1 e)
 have q1:qs ((1:Int):Rat)=1:=by decide
 have hqd:=cI_ ((1:Int):Rat) (leadP g)
 have hsl:sm (((1:Int):Rat) / leadP g):=by unfold sm;omega
 refine f_n Tryz.func236 ?_ ?_
 exact aa_ (aj_ p) (aa_ (aj_ q) ab_)
 refine r_z 3 ?_
 refine ac_ (r_c 3 (bo_ q hql) ?_)
 refine d_z ?_
 refine cF (ae_ (r_z 4 ?_))
 refine r_c 4 (dh_ 1 (by decide)) ?_
 refine c_s (fi_ ((1:Int):Rat)) ?_
 refine a_z ?_
 refine ac_ (aF_ (fun _:Unit=>⟨[(0,.arr (pE p)),(1,.arr (pE q)),(4,.arr (pE g)),(5,.arr (pE a))],[],1,83⟩) (fun _=>True) ?_ ?_)
 refine ag_ (aw_ (fun x:Nat×List Rat×List Rat×List Rat×List Rat=>bzS p q x.2) (fun x=>x.1) (fun x=>bzL x.1 x.2.1 x.2.2.1 x.2.2.2.1 x.2.2.2.2=some (g,a)∧x.2.2.1.length≤1099511627776) (f,p,q,bT_ ((1:Int):Rat),[]) ⟨hz,hql⟩ ?_ ?_)
 simp only[pA_]
 exact s_e []
 rintro⟨f,g',nx,a',c⟩ ⟨hz,hnl⟩
 simp only at hz hnl
 simp only[pA_]
 cases f with
 |zero=>cases hz
 |succ f=>
  rw[bzL] at hz
  by_cases hn0:trimQ nx=[]
  rw[if_pos hn0] at hz
  cases hz
  refine ac_ (r_c 3 (bo_ nx hnl) ?_)
  refine o_0 (.bin rfl rfl (vF f0_ (decide_eq_false (by have:=degP_neg.2 hn0;omega)))) ?_
  refine ak_ ?_
  refine cF (at_ ⟨(),trivial,?_⟩)
  exact s_e []
  ·rw[if_neg hn0] at hz
   split at hz
   case isFalse=>cases hz
   case isTrue hs=>
   obtain⟨⟨o1,o2,o3,o4,o5,o6⟩,o7⟩:=hs
   have hrl:=(eO_ (p:=g') (q:=nx))
   have hgl:=o1.2.1
   have hdn:¬degP nx< 0:=fun e=>hn0 (degP_neg.1 e)
   refine ac_ (r_c 3 (bo_ nx hnl) ?_)
   refine d_z ?_
   refine cT (ae_ (ag_ (r_c 8 (eL_ g' nx o1 hn0) ?_)))
   refine a_z ?_
   refine r_z 4 ?_
   refine r_m 8 ?_
   refine c_s (d3_ _ c o2) ?_
   refine c_s (oZ_ a' _ o3 o4 o5 o6) ?_
   refine a_z ?_
   refine⟨(f,nx,(divP g' nx).2,c,subP a' (mulP (divP g' nx).1 c)),Nat.lt_succ_self f,⟨hz,by simp only;omega⟩,?_⟩
   simp only[pA_]
   exact s_e []
 rintro _ _
 refine r_c 6 (dh_ 1 (by decide)) ?_
 refine c_s (fj_ g c2) ?_
 refine o_0 (.call rfl rfl rfl (dw_ _ (leadP g) (bt_ c1) (by omega))) ?_
 refine o_1 (.alloc tz_35.h) ?_
 refine o_1n (.store rfl rfl rfl rfl rfl rfl ts_35.h (nle rfl)) ?_
 refine ak_ ?_
 refine ac_ (r_d hmix 8 ?_)
 refine c_s (c5_ g _ c4 hsl c2) ?_
 refine c_s (c5_ a _ c5 hsl c3) ?_
 refine a_2 ?_
 refine ak_ (n_k ?_)
 refine r_c 8 (eL_ q (bzG g) c7 c8) ?_
 refine a_z ?_
 refine r_c 7 (eL_ _ _ c9 c10) ?_
 refine a_z ?_
 refine r_c 11 (d3_ (bzA q g a) p c11) ?_
 refine c_s (oZ_ (bzG g) _ c12 c13 c14 c15) ?_
 refine c_s (eL_ _ q c16 hq) ?_
 refine a_z ?_
 refine r_z 6 ?_
 refine af_ (Fin.many ⟨_,_,rfl,rfl,⟨_,_,rfl,rfl,⟨_,_,rfl,rfl,rfl⟩⟩⟩ (nle rfl) ?_)
 exact CvL.clo aB_ (aa_ (aj_ _) (aa_ (aj_ _) (aa_ (aj_ _) ab_)))
theorem setT{p m:List Rat}{d j i e:Nat}(hi:i< j)(hj:j≤d)(he:e=i):(pE (tabP d (tpI p m j i))).set e (qC (tpI p m j i i+coP p j* coP m (j- 1- i)))=pE (tabP d (tpI p m j (i+1))):=by
 subst he
 rw[hd_,←tpI_set p m d j e hi hj]
 congr 3
 unfold tpI;rw[if_neg (by omega)]
theorem h2_{r:Ren}{hp hp':Nat→Option ABlk}(h:Shr r hp hp'):∀n,CvLL r hp hp' (List.replicate n zC) (pE (List.replicate n 0))
 |0=>a6_ h (aC_ [])
 |n+1=>CvLL.cons (ys:=pE (List.replicate n 0)) (k8_ h) (h2_ h n)
theorem getT{d i e:Nat}{f:Nat→Rat}(h:i< d)(he:e=i):(pE (tabP d f))[e]?=some (qC (f i)):=by
 subst he
 exact bv_ (iC_ f h)
def onS(p:List Rat)(m:List Rat)(W:List AV)(d:Nat):Nat→AState
 |j=>⟨[(1,.arr (pE p)),(2,.lptr 1 0 0),(4,.lptr 2 0 0),(5,.lsl 3 0 d (some d) 3),(15,.arr (pE p)),(16,i64 ((d+1:Nat):Int)),(17,i64 j)],[(1,some ⟨51,9,[W]⟩),(2,some ⟨57,2,[[.emp,.emp]]⟩),(3,some ⟨35,3,pE (tabP d fun i=>tpV p m i j)⟩)],4,61⟩
theorem oe_(p:List Rat)(m:List Rat)(W:List AV)(d:Nat)(j:Nat):onS p m W d j=⟨[(1,.arr (pE p)),(2,.lptr 1 0 0),(4,.lptr 2 0 0),(5,.lsl 3 0 d (some d) 3),(15,.arr (pE p)),(16,i64 ((d+1:Nat):Int)),(17,i64 j)],[(1,some ⟨51,9,[W]⟩),(2,some ⟨57,2,[[.emp,.emp]]⟩),(3,some ⟨35,3,pE (tabP d fun i=>tpV p m i j)⟩)],4,61⟩:=rfl
def onI(p:List Rat)(m:List Rat)(W:List AV)(d:Nat)(j:Nat):Nat→AState
 |i=>⟨[(1,.arr (pE p)),(2,.lptr 1 0 0),(4,.lptr 2 0 0),(5,.lsl 3 0 d (some d) 3),(15,.arr (pE p)),(16,i64 ((d+1:Nat):Int)),(17,i64 j),(6,i64 j),(7,.lptr 4 0 0),(22,i64 j),(23,i64 i)],[(1,some ⟨51,9,[W]⟩),(2,some ⟨57,2,[[.emp,.emp]]⟩),(3,some ⟨35,3,pE (tabP d (tpI p m j i))⟩),(4,some ⟨35,3,[qC (coP p j)]⟩)],5,61⟩
theorem j8_(p:List Rat)(m:List Rat)(W:List AV)(d:Nat)(j:Nat)(i:Nat):onI p m W d j i=⟨[(1,.arr (pE p)),(2,.lptr 1 0 0),(4,.lptr 2 0 0),(5,.lsl 3 0 d (some d) 3),(15,.arr (pE p)),(16,i64 ((d+1:Nat):Int)),(17,i64 j),(6,i64 j),(7,.lptr 4 0 0),(22,i64 j),(23,i64 i)],[(1,some ⟨51,9,[W]⟩),(2,some ⟨57,2,[[.emp,.emp]]⟩),(3,some ⟨35,3,pE (tabP d (tpI p m j i))⟩),(4,some ⟨35,3,[qC (coP p j)]⟩)],5,61⟩:=rfl
theorem fs_on (p m:List Rat) (l r:Bool) (a b:Rat) (d s t:Nat) (g iv bz:List Rat) (hl:p.length=d+1) (htr:trimQ p=p) (hd:d≤1000) (hp:bdL p s) (hm:bdL m t) (hs:1≤s) (ht:1≤t) (hml:d≤m.length) (hlim:(d+2) * (s+t+1)≤137438953472)
    (hde:FSpec Tryz.prog 49 [.arr (pE p)] (.arr (pE (ao_ p)))) (hbz:FSpec Tryz.prog 236 [.arr (pE (ao_ p)),.arr (pE p)] (.tup [.arr (pE g),.arr (pE iv),.arr (pE bz)]))
    (hmu:okMul (tpQ p m) iv) (hdi:okDiv (mulP (tpQ p m) iv) p):
    FSpec Tryz.prog 161 [.agg (wC m l r (qC a) (qC b)),.arr (pE p)] (.agg (ruC p (divP (mulP (tpQ p m) iv) p).2)):=by
 have hWc:∀c∈wC m l r (qC a) (qC b),Closed c:=bL_ (.inr ⟨a,rfl⟩) (.inr ⟨b,rfl⟩)
 have hp0:trimQ p≠[]:=by rw[htr];intro e;rw[e] at hl;simp at hl
 have hdg:=bo_ p (by omega)
 rw[show degP p=(d:Int) by unfold degP;rw[htr,hl];omega] at hdg
 have etp:tabP d (fun i=>tpV p m i (d+1))=tpQ p m:=by unfold tpQ;rw[hl];rfl
 refine f_n Tryz.func161 ?_ ?_
 exact aa_ (al_ hWc) (aa_ (aj_ p) ab_)
 refine r_z 2 ?_
 refine r_c 4 (hdg) ?_
 refine a_z ?_
 refine ac_ (r_z 3 ?_)
 refine aF_ (fun _:Unit=>⟨[(1,.arr (pE p)),(4,.lptr 1 0 0),(5,.arr (pE (tpQ p m)))],[(1,some ⟨57,2,[[.emp,.emp]]⟩)],2,61⟩) (fun _=>True) ?_ ?_
 refine ag_ (aw_ (onS p m (wC m l r (qC a) (qC b)) d) (fun j=>d+1- j) (fun j=>j≤d+1) 0 (Nat.zero_le _) ?_ ?_)
 rw[oe_,nN_]
 refine ax_ [(1,2),(2,4),(3,5)] rfl rfl rfl au_r (fun hs=>au_f) (fun hs=>?_)
 ·repeat' (first|exact av_|refine an_ rfl rfl rfl rfl ?_ ?_)
  all_goals (first|((try exact au_ (CvL.clo hs hWc));(try exact h2_ hs d);done)|exact au_e)
 intro j hj
 rw[oe_]
 by_cases hlt:j< d+1
 have hgt:(pE p)[((j:Nat):Int).toNat]?=some (qC (coP p j)):=bv_ (a0_ (by omega))
 refine q_z 1 ?_
 refine ac_ (cT (ae_ (ac_ (ag_ (s_r 6 ?_)))))
 refine a_1 ?_
 refine i_x hgt ?_
 refine l_x hgt ?_
 refine a_z ?_
 refine r_z 2 ?_
 refine AWp.cutB (fun _:Unit=>onI p m (wC m l r (qC a) (qC b)) d j j) (fun _=>True) ?_ ?_
 refine ag_ (aw_ (onI p m (wC m l r (qC a) (qC b)) d j) (fun i=>j- i) (fun i=>i≤j) 0 (Nat.zero_le _) ?_ ?_)
 rw[j8_,tpI_0]
 refine ax_ [(4,7)] rfl rfl rfl au_r (fun hs=>au_f) (fun hs=>?_)
 ·repeat' (first|exact av_|refine an_ rfl rfl rfl rfl ?_ ?_)
  all_goals (first|((try exact au_ (CvL.clo hs hWc));(try exact a6_ hs (aC_ _));done)|exact au_e)
 intro i hi
 rw[j8_]
 by_cases hlt2:i< j
 have hv:tpI p m j i i=tpV p m i j:=by unfold tpI;rw[if_neg (by omega)]
 have hq:=nJ_ hp hm hs ht i j
 have hc:=bz_ hp hs j
 have hc2:=bz_ hm ht (j- 1- i)
 have hqm:=cd_ (coP p j) (coP m (j- 1- i))
 have e1:j* (s+t+1)≤(d+1) * (s+t+1):=Nat.mul_le_mul_right _ (by omega)
 have e2:(d+2) * (s+t+1)=(d+1) * (s+t+1)+(s+t+1):=Nat.succ_mul _ _
 have hmul:=cX_ (coP p j) (coP m (j- 1- i)) (by omega)
 have hadd:=e7_ (tpI p m j i i) (coP p j* coP m (j- 1- i)) (by rw[hv];omega)
 have hgm:(pE m)[((j- 1- i:Int)).toNat]?=some (qC (coP m (j- 1- i))):=by
  rw[show((j:Int)- 1- i).toNat=j- 1- i by omega]
  exact bv_ (a0_ (by omega))
 refine q_z 1 ?_
 refine ac_ (cT (ae_ (ac_ (ag_ (r_z 2 ?_)))))
 refine r_d hmix 19 ?_
 refine a_5 ?_
 first|refine aM_ (.load_l rfl rfl (getT (i:=i) (d:=d) (f:=tpI p m j i) (by omega) (by omega)) tg_35.h ts_35.h (nle rfl)) rfl rfl ?_|refine aM_ (.load_a rfl (getT (i:=i) (d:=d) (f:=tpI p m j i) (by omega) (by omega)) tg_35.h ts_35.h (nle rfl)) rfl rfl ?_
 refine a_7 ?_
 refine i_x hgm ?_
 refine l_x hgm ?_
 refine c_s (hmul) ?_
 refine c_s (hadd) ?_
 refine a_1 ?_
 refine o_1n (.store rfl rfl (getT (i:=i) (d:=d) (f:=tpI p m j i) (by omega) (by omega)) rfl rfl rfl ts_35.h (nle rfl)) ?_
 refine ak_ (n_k ?_)
 refine r_m 2 ?_
 refine a_z ?_
 refine⟨i+1,by omega,hlt2,?_⟩
 rw[j8_]
 refine ax_ [] rfl rfl rfl au_r (fun hs=>au_f) (fun hs=>?_)
 ·repeat' (first|exact av_|refine an_ rfl rfl rfl rfl ?_ ?_)
  all_goals (first|((try exact au_ (CvL.clo hs hWc));(try exact a6_ hs (aC_ [coP p j]));(try exact aE_ hs (setT hlt2 (by omega) (Nat.zero_add i)) (aC_ _));done)|exact au_e)
 have hge:i=j:=by omega
 subst hge
 refine q_z 1 ?_
 refine ac_ (cF (at_ ⟨(),trivial,?_⟩))
 try simp only[j8_]
 refine ax_ [] rfl rfl rfl au_r (fun hs=>au_f) (fun hs=>?_)
 ·repeat' (first|exact av_|refine an_ rfl rfl rfl rfl ?_ ?_)
  all_goals (first|((try exact au_ (CvL.clo hs hWc));(try exact a6_ hs (aC_ _));done)|exact au_e)
 rintro _ _
 rw[j8_,tpI_e]
 refine r_m 2 ?_
 refine a_z ?_
 refine⟨j+1,by omega,hlt,?_⟩
 rw[oe_]
 refine ax_ [] rfl rfl rfl au_r (fun hs=>au_f) (fun hs=>?_)
 ·repeat' (first|exact av_|refine an_ rfl rfl rfl rfl ?_ ?_)
  all_goals (first|((try exact au_ (CvL.clo hs hWc));(try exact a6_ hs (aC_ _));done)|exact au_e)
 have hge:j=d+1:=by omega
 subst hge
 refine q_z 1 ?_
 refine ac_ (cF (at_ ⟨(),trivial,?_⟩))
 rw[etp]
 refine ax_ [(1,4)] rfl rfl rfl au_r (fun hs=>?_) (fun hs=>?_)
 ·repeat' (first|exact aZ_|refine aR_ rfl ?_ ?_)
  all_goals (first|(exact cH_ hs rfl (a2_ rfl) rfl (by rw[←etp];simp))|exact au_c)
 ·repeat' (first|exact av_|refine an_ rfl rfl rfl rfl ?_ ?_)
  all_goals (first|exact au_e|(refine au_ ?_;repeat' (first|exact as_|refine ai_ ?_ ?_)))
  all_goals (first|(exact cH_ hs rfl (a2_ rfl) rfl (by rw[←etp];simp))|exact au_c)
 rintro _ _
 refine r_c 11 (hde) ?_
 refine c_s (hbz) ?_
 refine a_z ?_
 refine r_c 8 (d3_ _ iv hmu) ?_
 refine c_s (ln_ _ p hdi hp0) ?_
 refine a_z ?_
 exact af_ (c_e (al_ (bn_ _ _)))
theorem fs_Move (p w:List Rat) (sc sh:Rat) (np nw:List Rat) (h0:sc≠0) (hsc:qs sc≤68719476736) (hsh:qs sh≤68719476736) (hck:FSpec Tryz.prog 94 [.agg (ruC p w)] (i64 0))
    (h1:FSpec Tryz.prog 23 [.arr (pE p),.arr (pE (bkM sc sh))] (.tup [.arr (pE np),i64 0])) (h2:FSpec Tryz.prog 23 [.arr (pE w),.arr (pE (bkM sc sh))] (.tup [.arr (pE nw),i64 0]))
    (hb:bdL np 68719476736) (hn0:trimQ np≠[]) (hnl:np.length≤1099511627776) (hw:∀q∈nw,sm q) (hwl:nw.length≤1099511627776):
    FSpec Tryz.prog 20 [.agg (ruC p w),.agg (qC sc),.agg (qC sh)] (.tup [.agg (ruC (aW_ np) (ay_ nw (absQ sc))),i64 0]):=by
 have hne:¬sgZ sc.num=0:=fun e=>h0 (sgZ_num_eq.1 e)
 have q1:qs ((1:Int):Rat)=1:=by decide
 have habs:sm (absQ sc):=by unfold sm;rw[l0_];omega
 refine f_n Tryz.func20 ?_ ?_
 exact aa_ (al_ (bn_ p w)) (aa_ (am_ _) (aa_ (am_ _) ab_))
 refine r_z 5 ?_
 refine ac_ (r_c 3 (hck) ?_)
 refine a_z ?_
 refine s_r 2 ?_
 refine a_1 ?_
 refine o_0 (.bin rfl rfl (vF bw_ (rfl))) ?_
 refine ak_ ?_
 refine cF (ae_ (ac_ (r_c 3 (bJ_ sc) ?_)))
 refine d_z ?_
 refine cF (ae_ (ac_ (r_d hmix 9 ?_)))
 refine c_s (dL_ sh sc h0 (by omega)) ?_
 refine c_s (gu_ _) ?_
 refine c_s (bk_ 1 (by decide)) ?_
 first|refine aM_ (.load_l rfl rfl rfl tg_35.h ts_35.h (nle rfl)) rfl rfl ?_|refine aM_ (.load_a rfl rfl tg_35.h ts_35.h (nle rfl)) rfl rfl ?_
 refine o_0 (.call rfl rfl rfl (dL_ _ sc h0 (by omega))) ?_
 refine o_1 (.buildSlice te_55.h tz_35.h rfl (by decide) rfl rfl rfl (by first|(simp;done)|(simp[bE_,ofV];done)|rfl)) ?_
 refine o_0 (.assign rfl) ?_
 refine ak_ (n_k ?_)
 refine AWp.ent (st':=⟨[(3,.lptr 1 0 0),(4,.lptr 2 0 0),(6,.lptr 3 0 0),(7,i64 0),(9,.arr (pE (bkM sc sh)))],[(1,some ⟨57,2,[ruC p w]⟩),(2,some ⟨35,3,[qC sc]⟩),(3,some ⟨57,2,[[.emp,.emp]]⟩)],4,53⟩) ?_ ?_
 refine ax_ [(1,3),(2,4),(3,6)] rfl rfl rfl au_r (fun hs=>?_) (fun hs=>?_)
 ·repeat' (first|exact aZ_|refine aR_ rfl ?_ ?_)
  all_goals (first|(exact cH_ hs rfl (a2_ rfl) rfl rfl)|exact au_c)
 ·repeat' (first|exact av_|refine an_ rfl rfl rfl rfl ?_ ?_)
  all_goals (first|((try exact au_ (CvL.clo hs (bn_ p w)));(try exact au_ (CvL.clo hs (aP_ _)));(try exact au_ (CvL.clo hs (aa_ bH_ (aa_ bH_ ab_))));done)|exact au_e|(refine au_ ?_;repeat' (first|exact as_|refine ai_ ?_ ?_)))
  all_goals (first|(exact cH_ hs rfl (a2_ rfl) rfl rfl)|exact au_c)
 refine r_c 9 (h1) ?_
 refine a_z ?_
 refine r_c 9 (h2) ?_
 refine a_z ?_
 refine ac_ (r_d hmix 9 ?_)
 refine c_s (io_ np hb hn0 hnl) ?_
 refine c_s (kn_ sc) ?_
 refine c_s (c5_ nw _ hw habs hwl) ?_
 refine a_3 ?_
 refine ak_ (n_k ?_)
 refine af_ (Fin.many ⟨_,_,rfl,⟨_,_,_,_,_,rfl,rfl,rfl,.inl ⟨tg_57.h,_,ts_57.h,nle rfl,rfl⟩⟩,⟨_,_,rfl,rfl,rfl⟩⟩ (nle rfl) ?_)
 exact ai_ (aA_ aB_ (al_ (bn_ _ _))) (ai_ (aA_ aB_ (ad_ _)) as_)
def apS(t:List Rat)(s:List Rat)(W:List AV):Nat×Rat→AState
 |(i,o)=>⟨[(2,.lptr 1 0 0),(4,.lptr 2 0 0),(5,.lptr 3 0 0),(6,.arr (pE s)),(20,.arr (pE t)),(21,i64 t.length),(22,i64 i)],[(1,some ⟨57,2,[W]⟩),(2,some ⟨35,3,[zC]⟩),(3,some ⟨35,3,[qC o]⟩)],4,37⟩
theorem pI_(t:List Rat)(s:List Rat)(W:List AV)(i:Nat)(o:Rat):apS t s W (i,o)=⟨[(2,.lptr 1 0 0),(4,.lptr 2 0 0),(5,.lptr 3 0 0),(6,.arr (pE s)),(20,.arr (pE t)),(21,i64 t.length),(22,i64 i)],[(1,some ⟨57,2,[W]⟩),(2,some ⟨35,3,[zC]⟩),(3,some ⟨35,3,[qC o]⟩)],4,37⟩:=rfl
theorem mr_ (p w f m:List Rat) (s t:Nat) (hsu:FSpec Tryz.prog 188 [.agg (ruC p w)] (.arr (pE m))) (h0:trimQ p≠[]) (o1:okDiv f p) (o2:okMul w (divP f p).2) (o3:okDiv (mulP w (divP f p).2) p)
    (hp:bdL (apR p w f) s) (hm:bdL m t) (hs:1≤s) (ht:1≤t) (hpl:(apR p w f).length≤1000000) (hlen:(apR p w f).length≤m.length) (hlim:((apR p w f).length+2) * (s+t+1)≤137438953472):
    FSpec Tryz.prog 103 [.agg (ruC p w),.arr (pE f)] (.agg (qC (ofQ (apR p w f) m (apR p w f).length))):=by
 have hre1:=ln_ f p o1 h0
 have hmu:=d3_ w _ o2
 have hre2:=ln_ _ p o3 h0
 obtain⟨T,hT⟩:∃T,T=apR p w f:=⟨_,rfl⟩
 rw[show(divP (mulP w (divP f p).2) p).2=T from hT.symm] at hre2
 rw[←hT] at hp hpl hlen hlim⊢
 have hWc:=bn_ p w
 refine f_n Tryz.func103 ?_ ?_
 exact aa_ (al_ hWc) (aa_ (aj_ f) ab_)
 refine r_z 2 ?_
 refine r_z 1 ?_
 refine r_c 3 (hsu) ?_
 refine a_z ?_
 refine ac_ (ac_ (r_d hmix 12 ?_))
 refine c_s (hre1) ?_
 refine c_s (hmu) ?_
 refine c_s (hre2) ?_
 refine a_2 ?_
 refine ak_ (n_k ?_)
 refine aF_ (fun _:Unit=>⟨[(4,.lptr 1 0 0),(5,.lptr 2 0 0)],[(1,some ⟨35,3,[zC]⟩),(2,some ⟨35,3,[qC (ofQ T m T.length)]⟩)],3,37⟩) (fun _=>True) ?_ ?_
 refine ag_ (aw_ (apS T m (ruC p w)) (fun x=>T.length- x.1) (fun x=>x.1≤T.length∧x.2=ofQ T m x.1) (0,0) ⟨Nat.zero_le _,rfl⟩ ?_ ?_)
 simp only[pI_]
 rw[qC0]
 exact s_f [(1,2),(2,4),(3,5)]
 rintro⟨i,o⟩ ⟨hi,ho⟩
 simp only at hi ho
 rw[pI_]
 by_cases hlt:i< T.length
 refine q_z 1 ?_
 refine ac_ (cT (ae_ ?_))
 have hgt:(pE T)[((i:Nat):Int).toNat]?=some (qC (coP T i)):=bv_ (a0_ hlt)
 have hgm:(pE m)[((i:Nat):Int).toNat]?=some (qC (coP m i)):=bv_ (a0_ (by omega))
 have hc:=bz_ hp hs i
 have hd:=bz_ hm ht i
 have hq:=hf_ hp hm hs ht i
 rw[←ho] at hq
 have e1:i* (s+t+1)≤(T.length+1) * (s+t+1):=Nat.mul_le_mul_right _ (by omega)
 have e2:(T.length+2) * (s+t+1)=(T.length+1) * (s+t+1)+(s+t+1):=Nat.succ_mul _ _
 have hmu:=cX_ (coP T i) (coP m i) (by omega)
 have hqm:=cd_ (coP T i) (coP m i)
 have had:=e7_ o (coP T i* coP m i) (by omega)
 refine ac_ (ag_ (s_r 6 ?_))
 refine a_1 ?_
 refine i_x hgt ?_
 refine l_x hgt ?_
 refine a_z ?_
 refine r_d hmix 9 ?_
 refine a_4 ?_
 refine i_x hgm ?_
 refine l_x hgm ?_
 refine c_s (hmu) ?_
 refine c_s (had) ?_
 refine a_1 ?_
 refine ak_ (n_k ?_)
 refine r_m 2 ?_
 refine a_z ?_
 refine⟨(i+1,o+coP T i* coP m i),by simp only;omega,⟨hlt,by simp only;rw[ofQ,←ho]⟩,?_⟩
 simp only[pI_]
 exact s_f []
 have hge:i=T.length:=by omega
 subst hge
 refine q_z 1 ?_
 refine ac_ (cF (at_ ⟨(),trivial,?_⟩))
 rw[ho]
 exact s_e [(1,4),(2,5)]
 rintro _ _
 refine r_z 2 ?_
 exact af_ (c_e (am_ _))
theorem fs_Apply(p w f:List Rat)(v:Rat)(hck:FSpec Tryz.prog 94 [.agg (ruC p w)] (i64 0))(hap:FSpec Tryz.prog 103 [.agg (ruC p w),.arr (pE f)] (.agg (qC v))):
    FSpec Tryz.prog 24 [.agg (ruC p w),.arr (pE f)] (.tup [.agg (qC v),i64 0]):=by
 have hWc:=bn_ p w
 refine f_n Tryz.func24 ?_ ?_
 exact aa_ (al_ hWc) (aa_ (aj_ f) ab_)
 refine r_z 3 ?_
 refine ac_ (r_c 3 (hck) ?_)
 refine a_z ?_
 refine s_r 2 ?_
 refine a_1 ?_
 refine o_0 (.bin rfl rfl (vF bw_ (rfl))) ?_
 refine ak_ ?_
 refine cF (ae_ (r_c 5 (hap) ?_))
 refine a_z ?_
 refine af_ (Fin.many ⟨_,_,rfl,⟨_,_,_,_,_,rfl,rfl,rfl,.inl ⟨tg_35.h,_,ts_35.h,nle rfl,rfl⟩⟩,⟨_,_,rfl,rfl,rfl⟩⟩ (nle rfl) ?_)
 exact ai_ (aA_ aB_ (am_ _)) (ai_ (aA_ aB_ (ad_ _)) as_)
def smsS(T:List Rat)(n:Nat):Nat→AState
 |k=>⟨[(3,.arr (pE T)),(4,i64 n),(5,.lsl 1 0 (k+1) none 3),(6,i64 ((k+1:Nat):Int))],[(1,some ⟨35,3,pE (suL T n k)⟩)],2,57⟩
theorem g2_(T:List Rat)(n:Nat)(k:Nat):smsS T n k=⟨[(3,.arr (pE T)),(4,i64 n),(5,.lsl 1 0 (k+1) none 3),(6,i64 ((k+1:Nat):Int))],[(1,some ⟨35,3,pE (suL T n k)⟩)],2,57⟩:=rfl
def smsI(T:List Rat)(n:Nat)(k:Nat):Nat→AState
 |i=>⟨[(3,.arr (pE T)),(4,i64 n),(5,.lsl 1 0 (k+1) none 3),(6,i64 ((k+1:Nat):Int)),(7,.lptr 2 0 0),(8,i64 ((i+1:Nat):Int))],[(1,some ⟨35,3,pE (suL T n k)⟩),(2,some ⟨35,3,[qC (nwA T n (suL T n k) (k+1) i)]⟩)],3,57⟩
theorem g3_(T:List Rat)(n:Nat)(k:Nat)(i:Nat):smsI T n k i=⟨[(3,.arr (pE T)),(4,i64 n),(5,.lsl 1 0 (k+1) none 3),(6,i64 ((k+1:Nat):Int)),(7,.lptr 2 0 0),(8,i64 ((i+1:Nat):Int))],[(1,some ⟨35,3,pE (suL T n k)⟩),(2,some ⟨35,3,[qC (nwA T n (suL T n k) (k+1) i)]⟩)],3,57⟩:=rfl
theorem oL_(p w:List Rat)(n:Nat)(hl:(trimQ p).length=n+1)(hn:1≤n)(hn2:n≤1000)(hpl:p.length≤1099511627776)(hok:∀k,k< n- 1→okSu (trimQ p) n k):
    FSpec Tryz.prog 188 [.agg (ruC p w)] (.arr (pE (suL (trimQ p) n (n- 1)))):=by
 have htr:=b2_ p (by omega)
 have hdg:=bo_ (trimQ p) (by omega)
 rw[show degP (trimQ p)=(n:Int) by rw[pr_];unfold degP;rw[hl];omega] at hdg
 have hW:=bn_ p w
 have hw0:=bk_ (n:Int) (by omega)
 generalize trimQ p=T at *
 refine f_n Tryz.func188 ?_ ?_
 exact aa_ (al_ hW) ab_
 refine r_z 2 ?_
 refine r_c 4 (htr) ?_
 refine a_z ?_
 refine r_c 3 (hdg) ?_
 refine a_z ?_
 refine r_c 4 (hw0) ?_
 refine a_z ?_
 refine ac_ (r_z 1 ?_)
 refine aF_ (smsS T n) (fun k=>k=n- 1) ?_ ?_
 refine ag_ (aw_ (smsS T n) (fun k=>n- k) (fun k=>k≤n- 1) 0 (Nat.zero_le _) ?_ ?_)
 rw[g2_]
 have:=(aC_ [((n:Int):Rat)])
 exact s_f [(1,5)]
 intro k hk
 rw[g2_]
 have hsl:=cK_ T n k
 by_cases hlt:k< n- 1
 obtain⟨o1,o2⟩:=hok k hlt
 have hgt:(pE T)[((n:Int)- ((k+1:Nat):Int)).toNat]?=some (qC (coP T (n- (k+1)))):=by
  rw[show((n:Int)- ((k+1:Nat):Int)).toNat=n- (k+1) by omega]
  exact bv_ (a0_ (by omega))
 have hm1:=cX_ (coP T (n- (k+1))) (((k+1:Nat):Int):Rat) o1
 refine ac_ (q_z 3 ?_)
 refine cT (ae_ (ac_ (ag_ (ac_ (r_d hmix 11 ?_)))))
 refine a_4 ?_
 refine i_x hgt ?_
 refine l_x hgt ?_
 refine c_s (bk_ ((k+1:Nat):Int) (by omega)) ?_
 refine c_s (hm1) ?_
 refine a_2 ?_
 refine ak_ (n_k ?_)
 refine ac_ (r_z 1 ?_)
 refine aF_ (fun _:Unit=>smsI T n k k) (fun _=>True) ?_ ?_
 refine ag_ (aw_ (smsI T n k) (fun i=>k- i) (fun i=>i≤k) 0 (Nat.zero_le _) ?_ ?_)
 rw[g3_]
 refine ax_ [(2,7)] rfl rfl rfl au_r (fun hs=>au_f) (fun hs=>?_)
 ·repeat' (first|exact av_|refine an_ rfl rfl rfl rfl ?_ ?_)
  all_goals (first|((try exact a6_ hs (aC_ _));(try exact au_ (CvL.clo hs (aP_ _)));done)|exact au_e)
 intro i hi
 rw[g3_]
 by_cases hlt2:i< k
 obtain⟨o3,o4⟩:=o2 i hlt2
 have hg1:(pE T)[((n:Int)- ((i+1:Nat):Int)).toNat]?=some (qC (coP T (n- (i+1)))):=by
  rw[show((n:Int)- ((i+1:Nat):Int)).toNat=n- (i+1) by omega]
  exact bv_ (a0_ (by omega))
 have hg2:∀e,e=k+1- (i+1)→(pE (suL T n k))[e]?=some (qC (coP (suL T n k) (k+1- (i+1)))):=fun e he=>by
  rw[he];exact bv_ (a0_ (by omega))
 refine ac_ (q_z 3 ?_)
 refine cT (ae_ (ac_ (ag_ (r_d hmix 16 ?_))))
 refine a_5 ?_
 refine i_x hg1 ?_
 refine l_x hg1 ?_
 refine a_5 ?_
 first|refine aM_ (.load_l rfl rfl (hg2 _ (by omega)) tg_35.h ts_35.h (nle rfl)) rfl rfl ?_|refine aM_ (.load_a rfl (hg2 _ (by omega)) tg_35.h ts_35.h (nle rfl)) rfl rfl ?_
 refine c_s (cX_ _ _ o3) ?_
 refine c_s (e7_ _ _ o4) ?_
 refine a_1 ?_
 refine ak_ (n_k ?_)
 refine r_m 3 ?_
 refine a_z ?_
 refine⟨i+1,by omega,hlt2,?_⟩
 rw[g3_]
 refine ax_ [] rfl rfl rfl au_r (fun hs=>au_f) (fun hs=>?_)
 ·repeat' (first|exact av_|refine an_ rfl rfl rfl rfl ?_ ?_)
  all_goals (first|((try exact a6_ hs (aC_ _));(try exact au_ (CvL.clo hs (aP_ _)));done)|exact au_e)
 have hge:i=k:=by omega
 subst hge
 refine ac_ (q_z 3 ?_)
 refine cF (at_ ⟨(),trivial,?_⟩)
 try simp only[g3_]
 refine ax_ [] rfl rfl rfl au_r (fun hs=>au_f) (fun hs=>?_)
 ·repeat' (first|exact av_|refine an_ rfl rfl rfl rfl ?_ ?_)
  all_goals (first|((try exact a6_ hs (aC_ _));(try exact au_ (CvL.clo hs (aP_ _)));done)|exact au_e)
 rintro _ _
 try simp only[g3_]
 refine r_m 6 ?_
 refine c_s (gu_ _) ?_
 refine a_z ?_
 refine r_m 3 ?_
 refine a_z ?_
 refine⟨k+1,by omega,by omega,?_⟩
 rw[g2_]
 have e:pE (suL T n k)++[qC (-(nwA T n (suL T n k) (k+1) k))]=pE (suL T n (k+1)):=by rw[suL,hc_]
 refine ax_ [(1,5)] rfl rfl rfl ?_ (fun hs=>au_f) (fun hs=>?_)
 ·repeat' (first|exact ShrL.nil|refine ShrL.cons rfl rfl rfl rfl (by first|(simp[cK_])|rfl|(simp;done)|(simp <;> omega)) ?_)
 ·repeat' (first|exact av_|refine an_ rfl rfl rfl rfl ?_ ?_)
  all_goals (first|(exact aE_ hs e (aC_ _))|exact au_e)
 have hge:k=n- 1:=by omega
 refine ac_ (q_z 3 ?_)
 refine cF (at_ ⟨k,hge,?_⟩)
 try simp only[g2_]
 exact s_f []
 rintro k hk
 subst hk
 have hsl:=cK_ T n (n- 1)
 rw[g2_]
 refine r_z 2 ?_
 exact af_ (Fin.tmpS rfl rfl rfl (by rw[j5_,hsl]) (aC_ _))
theorem oO_(p w m:List Rat)(l r:Bool)(a b:Rat)(hcw:FSpec Tryz.prog 31 [.agg (wC m l r (qC a) (qC b))] (i64 0))(hck:FSpec Tryz.prog 94 [.agg (ruC p w)] (i64 0)):
    FSpec Tryz.prog 162 [.agg (wC m l r (qC a) (qC b)),.agg (ruC p w)] (i64 0):=by
 have hWc:∀c∈wC m l r (qC a) (qC b),Closed c:=bL_ (.inr ⟨a,rfl⟩) (.inr ⟨b,rfl⟩)
 refine f_n Tryz.func162 ?_ ?_
 exact aa_ (al_ hWc) (aa_ (al_ (bn_ p w)) ab_)
 refine r_z 3 ?_
 refine ac_ (r_c 3 (hcw) ?_)
 refine a_z ?_
 refine s_r 2 ?_
 refine a_1 ?_
 refine o_0 (.bin rfl rfl (vF bw_ (rfl))) ?_
 refine ak_ ?_
 refine cF (ae_ (r_c 3 (hck) ?_))
 refine a_z ?_
 exact af_ (t_e (ad_ _))
theorem nh_ (p w m:List Rat) (l r:Bool) (a b:Rat) (d:Nat) (v:Nat→Rat) (hbo:FSpec Tryz.prog 162 [.agg (wC m l r (qC a) (qC b)),.agg (ruC p w)] (i64 0))
    (hap:∀k,k≤d→FSpec Tryz.prog 103 [.agg (ruC p w),.arr (pE (List.replicate k 0++[((1:Int):Rat)]))] (.agg (qC (v k)))) (hd:d< m.length) (hml:m.length≤1000) (hm:∀q∈m,sm q) (hv:∀k,k≤d→sm (v k))
    (heq:∀k,k< d→v k=coP m k) (hne:v d≠coP m d):
    FSpec Tryz.prog 61 [.agg (wC m l r (qC a) (qC b)),.agg (ruC p w)] (.tup [i64 ((d:Int)- 1),bln true,i64 0]):=by
 have hWc:∀c∈wC m l r (qC a) (qC b),Closed c:=bL_ (.inr ⟨a,rfl⟩) (.inr ⟨b,rfl⟩)
 refine f_n Tryz.func61 ?_ ?_
 exact aa_ (al_ hWc) (aa_ (al_ (bn_ p w)) ab_)
 refine r_z 5 ?_
 refine ac_ (r_c 4 (hbo) ?_)
 refine a_z ?_
 refine s_r 2 ?_
 refine a_1 ?_
 refine o_0 (.bin rfl rfl (vF bw_ (rfl))) ?_
 refine ak_ ?_
 refine cF (ae_ (ac_ (r_z 4 ?_)))
 refine aF_ (fun _:Unit=>⟨[],[],1,41⟩) (fun _=>False) ?_ ?_
 refine ag_ (aw_ (fun k:Nat=>⟨[(3,.lptr 1 0 0),(17,.arr (pE m)),(18,i64 m.length),(19,i64 k)],[(1,some ⟨57,2,[ruC p w]⟩)],2,41⟩) (fun k=>d+1- k) (fun k=>k≤d) 0 (Nat.zero_le _) ?_ ?_)
 have:=bn_ p w
 exact s_f [(1,3)]
 intro k hk
 have hgm:(pE m)[((k:Nat):Int).toNat]?=some (qC (coP m k)):=bv_ (a0_ (by omega))
 have hap2:=FSpec.zerosQ (L:=[((1:Int):Rat)]) (hap k hk) (al_ (bn_ p w))
 have hcm:=hy_ (v k) (coP m k) (hv k hk) (fT_ hm k)
 refine q_z 1 ?_
 refine ac_ (cT (ae_ (ac_ (ag_ (s_r 6 ?_)))))
 refine a_1 ?_
 refine i_x hgm ?_
 refine l_x hgm ?_
 refine a_z ?_
 by_cases hkd:k< d
 ·rw[show cmpQ (v k) (coP m k)=0 by unfold cmpQ;rw[heq k hkd,if_neg (by grind),if_pos rfl]] at hcm
  refine ac_ (r_d hmix 10 ?_)
  refine c_s (bk_ 1 (by decide)) ?_
  refine a_1 ?_
  refine o_2 (.append_l rfl rfl rfl te_55.h rfl rfl rfl rfl rfl d_o (jt_ _) rfl rfl (.lsl rfl (nle rfl)) tz_35.h rfl tb_35.h d_o (by first|(simp[maxLen];done)|(simp[maxLen];omega))) ?_
  refine o_1 (.callS1 rfl rfl rfl (.keep (.shut rfl d_n (.nil))) rfl ((FSpec.argE2 hap2 (by rw[List.drop_zero];exact List.take_of_length_le (by simp))))) ?_
  refine c_s (hcm) ?_
  refine o_0 (.bin rfl rfl (vF bw_ (rfl))) ?_
  refine ak_ (n_k ?_)
  refine cF (ae_ (r_m 2 ?_))
  refine a_z ?_
  refine⟨k+1,by omega,hkd,?_⟩
  have:=bn_ p w
  exact s_f []
 ·have hge:k=d:=by omega
  subst hge
  have hcn:¬cmpQ (v k) (coP m k)=0:=by
   unfold cmpQ
   split
   decide
   first|decide|(rw[if_neg hne];decide)
  refine ac_ (r_d hmix 10 ?_)
  refine c_s (bk_ 1 (by decide)) ?_
  refine a_1 ?_
  refine o_2 (.append_l rfl rfl rfl te_55.h rfl rfl rfl rfl rfl d_o (jt_ _) rfl rfl (.lsl rfl (nle rfl)) tz_35.h rfl tb_35.h d_o (by first|(simp[maxLen];done)|(simp[maxLen];omega))) ?_
  refine o_1 (.callS1 rfl rfl rfl (.keep (.shut rfl d_n (.nil))) rfl ((FSpec.argE2 hap2 (by rw[List.drop_zero];exact List.take_of_length_le (by simp))))) ?_
  refine c_s (hcm) ?_
  refine o_0 (.bin rfl rfl (vT bw_ (bne_iff_ne.2 hcn))) ?_
  refine ak_ (n_k ?_)
  refine cT (r_z 5 ?_)
  refine af_ (Fin.many ⟨_,_,rfl,rfl,⟨_,_,rfl,rfl,⟨_,_,rfl,rfl,rfl⟩⟩⟩ (nle rfl) ?_)
  exact CvL.clo aB_ (aa_ (ad_ _) (aa_ (ad_ _) (aa_ (ad_ _) ab_)))
 rintro _ h
 exact h.elim
theorem o2_ (m m2:List Rat) (l r:Bool) (a b e:Rat) (n:Nat) (hn:1≤n) (hn2:n≤1000) (hti:FSpec Tryz.prog 121 [.agg (wC m l r (qC a) (qC b)),.arr (pE (enM e))] (.agg (wC m2 l r (qC a) (qC b))))
    (hok:∀k,k< n- 1→okLd m2 k) (hmu:okMul (enM e) (ldr m2 (n- 1)).1):
    FSpec Tryz.prog 120 [bQ e,bW m l r a b,bIn n] (.tup [.arr (pE (mulP (enM e) (ldr m2 (n- 1)).1)),bln true]):=by
 have hcl:=i8_ m2 l r a b (n- 1) (by omega) hok
 rw[show((n- 1:Nat):Int)=(n:Int)- 1 by omega] at hcl
 have hbw:=dT_ m l r a b
 have hbi:=cP_ n
 refine f_n Tryz.func120 ?_ ?_
 exact aa_ (b5_ e) (aa_ hbw (aa_ (cP_ n) ab_))
 refine r_z 2 ?_
 refine r_c 5 (gu_ e) ?_
 refine c_s (bk_ 1 (by decide)) ?_
 refine a_z ?_
 refine AWp.ent (st':=⟨[(1,bW m l r a b),(2,bIn n),(5,.arr (pE (enM e)))],[],1,41⟩) ?_ ?_
 refine ax_ [] rfl rfl rfl au_r (fun hs=>?_) (fun hs=>?_)
 ·repeat' (first|exact aZ_|refine aR_ rfl ?_ ?_)
  all_goals (first|(exact cH_ hs rfl (fun _ _ h=>by cases h) rfl rfl)|exact au_c)
 ·repeat' (first|exact av_|refine an_ rfl rfl rfl rfl ?_ ?_)
  all_goals (first|exact au_e|(refine au_ ?_;repeat' (first|exact as_|refine ai_ ?_ ?_)))
  all_goals (first|(exact cH_ hs rfl (fun _ _ h=>by cases h) rfl rfl)|exact au_c)
 refine ac_ (r_d hmix 11 ?_)
 refine c_s (hti) ?_
 refine c_s (hcl) ?_
 refine a_5 ?_
 refine ak_ (n_k ?_)
 refine ac_ (r_z 2 ?_)
 refine cF (ae_ (r_c 9 (d3_ (enM e) _ hmu) ?_))
 refine a_z ?_
 refine af_ (Fin.many ⟨_,_,rfl,rfl,⟨_,_,rfl,rfl,rfl⟩⟩ (nle rfl) ?_)
 exact ai_ (aA_ aB_ (aj_ _)) (ai_ (aA_ aB_ (ad_ _)) as_)
theorem fs_Radau (m:List Rat) (l r:Bool) (a b e:Rat) (n:Nat) (p wt:List Rat) (hn:1≤n∧n≤25) (h1:FSpec Tryz.prog 120 [bQ e,bW m l r a b,bIn n] (.tup [.arr (pE p),bln true])) (hm:2* n- 1≤m.length∧m.length≤64) (hab:l=true→r=true→a< b) (ha:sm a) (hb:sm b)
    (hr:FSpec Tryz.prog 160 [.arr (pE p)] (bln true)) (hpb:bdL p 68719476736) (hp0:trimQ p≠[]) (hpl:p.length≤1099511627776)
    (hon:FSpec Tryz.prog 161 [.agg (wC m l r (qC a) (qC b)),.arr (pE (aW_ p))] (.agg (ruC (aW_ p) wt))):
    FSpec Tryz.prog 36 [.agg (wC m l r (qC a) (qC b)),i64 n,.agg (qC e)] (.tup [.agg (ruC (aW_ p) wt),i64 0]):=by
 have hWc:∀c∈wC m l r (qC a) (qC b),Closed c:=bL_ (.inr ⟨a,rfl⟩) (.inr ⟨b,rfl⟩)
 have hra:=hx_ (n:Nat) 1 25 (by omega)
 have hcc:∀c∈[bQ e,bW m l r a b,bIn n],Closed c:=aa_ (b5_ e) (aa_ (dT_ m l r a b) (aa_ (cP_ n) ab_))
 have hna:=i3_ m l r a b (2* n- 1) 120 [bQ e,bW m l r a b,bIn n] p wt hcc (by omega) hab ha hb hm.1 h1 hr hpb hp0 hpl hon
 rw[show((2* n- 1:Nat):Int)=2* (n:Int)- 1 by omega] at hna
 refine f_n Tryz.func36 ?_ ?_
 exact aa_ (al_ hWc) (aa_ (ad_ _) (aa_ (am_ e) ab_))
 refine r_z 5 ?_
 refine AWp.ent (st':=⟨[(3,bW m l r a b),(4,bIn n),(5,bQ e),(6,.lptr 1 0 0)],[(1,some ⟨57,2,[[.emp,.emp]]⟩)],2,18⟩) ?_ ?_
 refine ax_ [(1,6)] rfl rfl rfl au_r (fun hs=>?_) (fun hs=>?_)
 ·repeat' (first|exact aZ_|refine aR_ rfl ?_ ?_)
  all_goals (first|((try exact Cv.boxp hs rfl (a2_ rfl) rfl hWc);(try exact Cv.boxp hs rfl (a2_ rfl) rfl (aP_ e));(try exact Cv.boxp hs rfl (a2_ rfl) rfl (aa_ (ad_ _) ab_));done)|exact au_c)
 ·repeat' (first|exact av_|refine an_ rfl rfl rfl rfl ?_ ?_)
  all_goals (first|exact au_e|(refine au_ ?_;repeat' (first|exact as_|refine ai_ ?_ ?_)))
  all_goals (first|((try exact Cv.boxp hs rfl (a2_ rfl) rfl hWc);(try exact Cv.boxp hs rfl (a2_ rfl) rfl (aP_ e));(try exact Cv.boxp hs rfl (a2_ rfl) rfl (aa_ (ad_ _) ab_));done)|exact au_c)
 refine ac_ (r_d hmix 12 ?_)
 refine c_s (hra) ?_
 refine c_s (hna) ?_
 refine a_4 ?_
 refine ak_ (n_k ?_)
 refine af_ (Fin.many ⟨_,_,rfl,⟨_,_,_,_,_,rfl,rfl,rfl,.inl ⟨tg_57.h,_,ts_57.h,nle rfl,rfl⟩⟩,⟨_,_,rfl,rfl,rfl⟩⟩ (nle rfl) ?_)
 exact ai_ (aA_ aB_ (al_ (bn_ _ _))) (ai_ (aA_ aB_ (ad_ _)) as_)
theorem h1_{r:Ren}{hp hp':Nat→Option ABlk}(h:Shr r hp hp')(L:List Rat):∀n,CvLL r hp hp' (List.replicate n zC++pE L) (pE (List.replicate n 0++L))
 |0=>a6_ h (aC_ L)
 |n+1=>CvLL.cons (ys:=pE (List.replicate n 0++L)) (k8_ h) (h1_ h L n)
def krO(A:AV)(B:AV)(X:AV)(m:List Rat)(n:Nat):Nat→AState
 |k=>⟨[(0,A),(1,B),(4,X),(6,.arr (pE m)),(7,.lsl 1 0 (n+2) none 3),(52,i64 ((n:Int)+1)),(53,i64 k)],[(1,some ⟨35,3,pE (krE m n k)⟩)],2,94⟩
theorem ov_(A:AV)(B:AV)(X:AV)(m:List Rat)(n:Nat)(k:Nat):krO A B X m n k=⟨[(0,A),(1,B),(4,X),(6,.arr (pE m)),(7,.lsl 1 0 (n+2) none 3),(52,i64 ((n:Int)+1)),(53,i64 k)],[(1,some ⟨35,3,pE (krE m n k)⟩)],2,94⟩:=rfl
def krI(A:AV)(B:AV)(X:AV)(m:List Rat)(n:Nat)(k:Nat):Nat→AState
 |j=>⟨[(0,A),(1,B),(4,X),(6,.arr (pE m)),(7,.lsl 1 0 (n+2) none 3),(52,i64 ((n:Int)+1)),(53,i64 k),(8,i64 k),(9,.lptr 2 0 0),(57,.lsl 1 0 (n+2) none 3),(58,i64 ((n+2:Nat):Int)),(59,i64 j)],[(1,some ⟨35,3,pE (krE m n k)⟩),(2,some ⟨35,3,[qC (krS (krE m n k) m k j)]⟩)],3,94⟩
theorem ke_(A:AV)(B:AV)(X:AV)(m:List Rat)(n:Nat)(k:Nat)(j:Nat):krI A B X m n k j=⟨[(0,A),(1,B),(4,X),(6,.arr (pE m)),(7,.lsl 1 0 (n+2) none 3),(52,i64 ((n:Int)+1)),(53,i64 k),(8,i64 k),(9,.lptr 2 0 0),(57,.lsl 1 0 (n+2) none 3),(58,i64 ((n+2:Nat):Int)),(59,i64 j)],[(1,some ⟨35,3,pE (krE m n k)⟩),(2,some ⟨35,3,[qC (krS (krE m n k) m k j)]⟩)],3,94⟩:=rfl
theorem lu_ (m m2:List Rat) (l r:Bool) (a b:Rat) (n:Nat) (hn:1≤n∧n≤12) (hok:∀k,k< n→okLd m k) (o1:okMul (ldr m n).1 (ldr m n).1) (o2:okOf m (mulP (ldr m n).1 (ldr m n).1)) (o3:0< ldN m (ldr m n).1)
    (hti:FSpec Tryz.prog 121 [.agg (wC m l r (qC a) (qC b)),.arr (pE (ldr m n).1)] (.agg (wC m2 l r (qC a) (qC b)))) (hm2:2* n+2≤m2.length) (hm0:coP m2 n≠0) (hkr:∀k,k≤n→okKr m2 n k)
    (o4:okMul (ldr m n).1 (krE m2 n (n+1))):
    FSpec Tryz.prog 123 [bW m l r a b,bIn n] (.tup [.arr (pE (mulP (ldr m n).1 (krE m2 n (n+1)))),bln true]):=by
 have hcl:=i8_ m l r a b n (by omega) hok
 have hbw:=dT_ m l r a b
 have hbi:=cP_ n
 obtain⟨X,hX⟩:∃X,X=AV.aptr [ldF m l r a b n] 0 0:=⟨_,rfl⟩
 have hXc:Closed X:=by rw[hX];exact cQ_ fun e he=>by rw[List.mem_singleton.1 he];exact c9_ m l r a b n
 have hsp:=sgZ_num_gt.2 o3
 refine f_n Tryz.func123 ?_ ?_
 exact aa_ hbw (aa_ hbi ab_)
 refine r_z 2 ?_
 refine r_c 8 (hcl) ?_
 refine a_z ?_
 refine ac_ (ac_ (r_d hmix 20 ?_))
 refine c_s (d3_ _ _ o1) ?_
 refine c_s (oR_ m _ l r a b o2) ?_
 refine c_s (bJ_ (ldN m (ldr m n).1)) ?_
 refine d_2 ?_
 refine ak_ (n_k ?_)
 refine cF (ae_ (ac_ (r_d hmix 8 ?_)))
 refine c_s (hti) ?_
 refine a_2 ?_
 refine ak_ (n_k ?_)
 refine ac_ (r_d hmix 7 ?_)
 refine c_s (bk_ 1 (by decide)) ?_
 refine a_1 ?_
 refine o_2 (.append_l rfl rfl rfl te_55.h rfl rfl rfl rfl rfl d_o (jt_ _) rfl rfl (.lsl rfl (nle rfl)) tz_35.h rfl tb_35.h d_o (by first|(simp[maxLen];done)|(simp[maxLen];omega))) ?_
 refine a_1 ?_
 refine ak_ (n_k ?_)
 refine ac_ (r_z 3 ?_)
 refine aF_ (fun _:Unit=>⟨[(4,X),(7,.arr (pE (krE m2 n (n+1))))],[],1,94⟩) (fun _=>True) ?_ ?_
 refine ag_ (aw_ (krO (bW m l r a b) (bIn n) X m2 n) (fun k=>n+1- k) (fun k=>k≤n+1) 0 (Nat.zero_le _) ?_ ?_)
 rw[ov_,hX]
 rw[hX] at hXc
 refine ax_ [(1,7)] rfl rfl rfl ?_ (fun hs=>au_f) (fun hs=>?_)
 ·repeat' (first|exact ShrL.nil|refine ShrL.cons rfl rfl rfl rfl (by first|(simp[eK_])|rfl|(simp;done)|(simp <;> omega)) ?_)
 ·repeat' (first|exact av_|refine an_ rfl rfl rfl rfl ?_ ?_)
  all_goals (first|(exact h1_ hs [((1:Int):Rat)] (n+1))|exact au_e)
 intro k hk
 rw[ov_]
 have hel:=eK_ m2 n k
 have hel2:=eK_ m2 n (k+1)
 by_cases hlt:k< n+1
 obtain⟨c1,c2⟩:=hkr k (by omega)
 have hgm:(pE m2)[((n:Nat):Int).toNat]?=some (qC (coP m2 n)):=bv_ (a0_ (by omega))
 refine q_z 1 ?_
 refine ac_ (cT (ae_ (ac_ (ag_ (r_z 2 ?_)))))
 refine r_z 3 ?_
 refine ac_ (r_z 3 ?_)
 refine aF_ (fun _:Unit=>krI (bW m l r a b) (bIn n) X m2 n k (n+2)) (fun _=>True) ?_ ?_
 refine ag_ (aw_ (krI (bW m l r a b) (bIn n) X m2 n k) (fun j=>n+2- j) (fun j=>j≤n+2) 0 (Nat.zero_le _) ?_ ?_)
 rw[ke_]
 refine ax_ [(2,9)] rfl rfl rfl au_r (fun hs=>au_f) (fun hs=>?_)
 ·repeat' (first|exact av_|refine an_ rfl rfl rfl rfl ?_ ?_)
  all_goals (first|((try exact a6_ hs (aC_ _));(try exact au_ (k8_ hs));done)|exact au_e)
 intro j hj
 rw[ke_]
 by_cases hlt2:j< n+2
 obtain⟨c3,c4⟩:=c1 j hlt2
 have hg1:∀e,e=j→(pE (krE m2 n k))[e]?=some (qC (coP (krE m2 n k) j)):=fun e he=>by
  rw[he];exact bv_ (a0_ (by omega))
 have hg2:(pE m2)[((j:Int)+(k:Int)).toNat]?=some (qC (coP m2 (j+k))):=by
  rw[show((j:Int)+(k:Int)).toNat=j+k by omega]
  exact bv_ (a0_ (by omega))
 refine q_z 1 ?_
 refine ac_ (cT (ae_ (ac_ (ag_ (s_r 6 ?_)))))
 refine a_2 ?_
 first|refine aM_ (.load_l rfl rfl (hg1 _ (by omega)) tg_35.h ts_35.h (nle rfl)) rfl rfl ?_|refine aM_ (.load_a rfl (hg1 _ (by omega)) tg_35.h ts_35.h (nle rfl)) rfl rfl ?_
 refine a_z ?_
 refine r_d hmix 11 ?_
 refine a_6 ?_
 refine i_x hg2 ?_
 refine l_x hg2 ?_
 refine c_s (cX_ _ _ c3) ?_
 refine c_s (e7_ _ _ c4) ?_
 refine a_1 ?_
 refine ak_ (n_k ?_)
 refine r_m 2 ?_
 refine a_z ?_
 refine⟨j+1,by omega,hlt2,?_⟩
 rw[ke_]
 refine ax_ [] rfl rfl rfl au_r (fun hs=>au_f) (fun hs=>?_)
 ·repeat' (first|exact av_|refine an_ rfl rfl rfl rfl ?_ ?_)
  all_goals (first|((try exact a6_ hs (aC_ _));(try exact au_ (CvL.clo hs (aP_ _)));done)|exact au_e)
 have hge:j=n+2:=by omega
 subst hge
 refine q_z 1 ?_
 refine ac_ (cF (at_ ⟨(),trivial,?_⟩))
 try simp only[ke_]
 refine ax_ [] rfl rfl rfl au_r (fun hs=>au_f) (fun hs=>?_)
 ·repeat' (first|exact av_|refine an_ rfl rfl rfl rfl ?_ ?_)
  all_goals (first|((try exact a6_ hs (aC_ _));(try exact au_ (CvL.clo hs (aP_ _)));done)|exact au_e)
 rintro _ _
 try simp only[ke_]
 have hg3:∀e,e=n- k→(pE (krE m2 n k))[e]?=some (qC (coP (krE m2 n k) (n- k))):=fun e he=>by
  rw[he];exact bv_ (a0_ (by omega))
 refine r_d hmix 13 ?_
 refine a_7 ?_
 refine i_x hgm ?_
 refine l_x hgm ?_
 refine c_s (dL_ _ _ hm0 c2) ?_
 refine c_s (gu_ _) ?_
 refine a_1 ?_
 refine o_1n (.store rfl rfl (hg3 _ (by omega)) rfl rfl rfl ts_35.h (nle rfl)) ?_
 refine ak_ (n_k ?_)
 refine r_m 2 ?_
 refine a_z ?_
 refine⟨k+1,by omega,hlt,?_⟩
 rw[ov_]
 have e:∀e,e=n- k→(pE (krE m2 n k)).set e (qC (-(krS (krE m2 n k) m2 k (n+2) / coP m2 n)))=pE (krE m2 n (k+1)):=fun e he=>by
  rw[he,hd_];rfl
 refine ax_ [] rfl rfl rfl au_r (fun hs=>au_f) (fun hs=>?_)
 ·repeat' (first|exact av_|refine an_ rfl rfl rfl rfl ?_ ?_)
  all_goals (first|(exact aE_ hs (e (0+((n:Int)- (k:Int)).toNat) (by omega)) (aC_ _))|exact au_e)
 have hge:k=n+1:=by omega
 subst hge
 refine q_z 1 ?_
 refine ac_ (cF (at_ ⟨(),trivial,?_⟩))
 refine ax_ [] rfl rfl rfl au_r (fun hs=>?_) (fun hs=>?_)
 ·repeat' (first|exact aZ_|refine aR_ rfl ?_ ?_)
  all_goals (first|((try exact aA_ hs hXc);(try exact cH_ hs rfl (fun _ _ h=>by cases h) rfl (by rw[hel]));done)|exact au_c)
 ·repeat' (first|exact av_|refine an_ rfl rfl rfl rfl ?_ ?_)
  all_goals (first|exact au_e|(refine au_ ?_;repeat' (first|exact as_|refine ai_ ?_ ?_)))
  all_goals (first|((try exact aA_ hs hXc);(try exact cH_ hs rfl (fun _ _ h=>by cases h) rfl (by rw[hel]));done)|exact au_c)
 rintro _ _
 rw[hX]
 refine r_c 8 (d3_ _ _ o4) ?_
 refine a_z ?_
 refine af_ (Fin.many ⟨_,_,rfl,rfl,⟨_,_,rfl,rfl,rfl⟩⟩ (nle rfl) ?_)
 exact ai_ (aA_ aB_ (aj_ _)) (ai_ (aA_ aB_ (ad_ _)) as_)
end Go.Proofs.YtdjfjpeoddmamaaGreatDoor
