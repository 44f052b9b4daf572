/- Part Z22 of the proof. -/
import Derived.Test.YtdjfjpeoddmamaaGreatDoorZ21
import Derived.ChangeSame
set_option linter.all false
namespace Go.Proofs.YtdjfjpeoddmamaaGreatDoor
open Go.Abs
set_option maxRecDepth 100000
set_option maxHeartbeats 2000000
def apS(t:List Rat)(s:List Rat)(W:List AV):Nat×Rat→AState
 |(i,o)=>⟨[(2,.lptr 1 0 0),(4,.lptr 2 0 0),(5,.lptr 3 0 0),(6,.arr (pE s)),(20,.arr (pE t)),(21,i64 t.length),(22,i64 i)],[(1,some ⟨57,2,[W]⟩),(2,some ⟨35,3,[zC]⟩),(3,some ⟨35,3,[qC o]⟩)],4,37⟩
theorem sS_(t:List Rat)(s:List Rat)(W:List AV)(i:Nat)(o:Rat):apS t s W (i,o)=⟨[(2,.lptr 1 0 0),(4,.lptr 2 0 0),(5,.lptr 3 0 0),(6,.arr (pE s)),(20,.arr (pE t)),(21,i64 t.length),(22,i64 i)],[(1,some ⟨57,2,[W]⟩),(2,some ⟨35,3,[zC]⟩),(3,some ⟨35,3,[qC o]⟩)],4,37⟩:=rfl
theorem o8_ (p w f m:List Rat) (s t:Nat) (hsu:FSpec Tryz.prog 188 [.agg (ruC p w)] (.arr (pE m))) (h0:trimQ p≠[]) (o1:okDiv f p) (o2:okMul w (divP f p).2) (o3:okDiv (mulP w (divP f p).2) p)
    (hp:bdL (apR p w f) s) (hm:bdL m t) (hs:1≤s) (ht:1≤t) (hpl:(apR p w f).length≤1000000) (hlen:(apR p w f).length≤m.length) (hlim:((apR p w f).length+2) * (s+t+1)≤137438953472):
    FSpec Tryz.prog 103 [.agg (ruC p w),.arr (pE f)] (.agg (qC (ofQ (apR p w f) m (apR p w f).length))):=by
 have hre1:=nM_ f p o1 h0
 have hmu:=d9_ w _ o2
 have hre2:=nM_ _ p o3 h0
 obtain⟨T,hT⟩:∃T,T=apR p w f:=⟨_,rfl⟩
 rw[show(divP (mulP w (divP f p).2) p).2=T from hT.symm] at hre2
 rw[←hT] at hp hpl hlen hlim⊢
 have hWc:=bw_ p w
 refine f_n Tryz.func103 ?_ ?_
 exact aa_ (ao_ hWc) (aa_ (as_ f) ab_)
 refine r_z 2 ?_
 refine r_z 1 ?_
 refine r_c 3 (hsu) ?_
 refine a_z ?_
 refine ac_ (ac_ (r_d hmix 12 ?_))
 refine c_s (hre1) ?_
 refine c_s (hmu) ?_
 refine c_s (hre2) ?_
 refine a_2 ?_
 refine ak_ (n_k ?_)
 refine aD_ (fun _:Unit=>⟨[(4,.lptr 1 0 0),(5,.lptr 2 0 0)],[(1,some ⟨35,3,[zC]⟩),(2,some ⟨35,3,[qC (ofQ T m T.length)]⟩)],3,37⟩) (fun _=>True) ?_ ?_
 refine ah_ (aw_ (apS T m (ruC p w)) (fun x=>T.length- x.1) (fun x=>x.1≤T.length∧x.2=ofQ T m x.1) (0,0) ⟨Nat.zero_le _,rfl⟩ ?_ ?_)
 simp only[sS_]
 rw[qC0]
 exact s_f [(1,2),(2,4),(3,5)]
 rintro⟨i,o⟩ ⟨hi,ho⟩
 simp only at hi ho
 rw[sS_]
 by_cases hlt:i< T.length
 refine q_z 1 ?_
 refine ac_ (cT (ai_ ?_))
 have hgt:(pE T)[((i:Nat):Int).toNat]?=some (qC (coP T i)):=bO_ (be_ hlt)
 have hgm:(pE m)[((i:Nat):Int).toNat]?=some (qC (coP m i)):=bO_ (be_ (by omega))
 have hc:=bA_ hp hs i
 have hd:=bA_ hm ht i
 have hq:=me_ hp hm hs ht i
 rw[←ho] at hq
 have e1:i* (s+t+1)≤(T.length+1) * (s+t+1):=Nat.mul_le_mul_right _ (by omega)
 have e2:(T.length+2) * (s+t+1)=(T.length+1) * (s+t+1)+(s+t+1):=Nat.succ_mul _ _
 have hmu:=de_ (coP T i) (coP m i) (by omega)
 have hqm:=b3_ (coP T i) (coP m i)
 have had:=f4_ o (coP T i* coP m i) (by omega)
 refine ac_ (ah_ (s_r 6 ?_))
 refine a_1 ?_
 refine i_x hgt ?_
 refine l_x hgt ?_
 refine a_z ?_
 refine r_d hmix 9 ?_
 refine a_4 ?_
 refine i_x hgm ?_
 refine l_x hgm ?_
 refine c_s (hmu) ?_
 refine c_s (had) ?_
 refine a_1 ?_
 refine ak_ (n_k ?_)
 refine r_m 2 ?_
 refine a_z ?_
 refine⟨(i+1,o+coP T i* coP m i),by simp only;omega,⟨hlt,by simp only;rw[ofQ,←ho]⟩,?_⟩
 simp only[sS_]
 exact s_f []
 have hge:i=T.length:=by omega
 subst hge
 refine q_z 1 ?_
 refine ac_ (cF (av_ ⟨(),trivial,?_⟩))
 rw[ho]
 exact s_e [(1,4),(2,5)]
 rintro _ _
 refine r_z 2 ?_
 exact ag_ (c_e (ay_ _))
def smsS(T:List Rat)(n:Nat):Nat→AState
 |k=>⟨[(3,.arr (pE T)),(4,i64 n),(5,.lsl 1 0 (k+1) none 3),(6,i64 ((k+1:Nat):Int))],[(1,some ⟨35,3,pE (suL T n k)⟩)],2,57⟩
theorem if_(T:List Rat)(n:Nat)(k:Nat):smsS T n k=⟨[(3,.arr (pE T)),(4,i64 n),(5,.lsl 1 0 (k+1) none 3),(6,i64 ((k+1:Nat):Int))],[(1,some ⟨35,3,pE (suL T n k)⟩)],2,57⟩:=rfl
def smsI(T:List Rat)(n:Nat)(k:Nat):Nat→AState
 |i=>⟨[(3,.arr (pE T)),(4,i64 n),(5,.lsl 1 0 (k+1) none 3),(6,i64 ((k+1:Nat):Int)),(7,.lptr 2 0 0),(8,i64 ((i+1:Nat):Int))],[(1,some ⟨35,3,pE (suL T n k)⟩),(2,some ⟨35,3,[qC (nwA T n (suL T n k) (k+1) i)]⟩)],3,57⟩
theorem ig_(T:List Rat)(n:Nat)(k:Nat)(i:Nat):smsI T n k i=⟨[(3,.arr (pE T)),(4,i64 n),(5,.lsl 1 0 (k+1) none 3),(6,i64 ((k+1:Nat):Int)),(7,.lptr 2 0 0),(8,i64 ((i+1:Nat):Int))],[(1,some ⟨35,3,pE (suL T n k)⟩),(2,some ⟨35,3,[qC (nwA T n (suL T n k) (k+1) i)]⟩)],3,57⟩:=rfl
theorem rF_(p w:List Rat)(n:Nat)(hl:(trimQ p).length=n+1)(hn:1≤n)(hn2:n≤1000)(hpl:p.length≤1099511627776)(hok:∀k,k< n- 1→okSu (trimQ p) n k):
    FSpec Tryz.prog 188 [.agg (ruC p w)] (.arr (pE (suL (trimQ p) n (n- 1)))):=by
 have htr:=cu_ p (by omega)
 have hdg:=bI_ (trimQ p) (by omega)
 rw[show degP (trimQ p)=(n:Int) by rw[i6_];unfold degP;rw[hl];omega] at hdg
 have hW:=bw_ p w
 have hw0:=a7_ (n:Int) (by omega)
 generalize trimQ p=T at *
 refine f_n Tryz.func188 ?_ ?_
 exact aa_ (ao_ hW) ab_
 refine r_z 2 ?_
 refine r_c 4 (htr) ?_
 refine a_z ?_
 refine r_c 3 (hdg) ?_
 refine a_z ?_
 refine r_c 4 (hw0) ?_
 refine a_z ?_
 refine ac_ (r_z 1 ?_)
 refine aD_ (smsS T n) (fun k=>k=n- 1) ?_ ?_
 refine ah_ (aw_ (smsS T n) (fun k=>n- k) (fun k=>k≤n- 1) 0 (Nat.zero_le _) ?_ ?_)
 rw[if_]
 have:=(aJ_ [((n:Int):Rat)])
 exact s_f [(1,5)]
 intro k hk
 rw[if_]
 have hsl:=dh_ T n k
 by_cases hlt:k< n- 1
 obtain⟨o1,o2⟩:=hok k hlt
 have hgt:(pE T)[((n:Int)- ((k+1:Nat):Int)).toNat]?=some (qC (coP T (n- (k+1)))):=by
  rw[show((n:Int)- ((k+1:Nat):Int)).toNat=n- (k+1) by omega]
  exact bO_ (be_ (by omega))
 have hm1:=de_ (coP T (n- (k+1))) (((k+1:Nat):Int):Rat) o1
 refine ac_ (q_z 3 ?_)
 refine cT (ai_ (ac_ (ah_ (ac_ (r_d hmix 11 ?_)))))
 refine a_4 ?_
 refine i_x hgt ?_
 refine l_x hgt ?_
 refine c_s (a7_ ((k+1:Nat):Int) (by omega)) ?_
 refine c_s (hm1) ?_
 refine a_2 ?_
 refine ak_ (n_k ?_)
 refine ac_ (r_z 1 ?_)
 refine aD_ (fun _:Unit=>smsI T n k k) (fun _=>True) ?_ ?_
 refine ah_ (aw_ (smsI T n k) (fun i=>k- i) (fun i=>i≤k) 0 (Nat.zero_le _) ?_ ?_)
 rw[ig_]
 refine at_ [(2,7)] rfl rfl rfl au_r (fun hs=>au_f) (fun hs=>?_)
 ·repeat' (first|exact aq_|refine al_ rfl rfl rfl rfl ?_ ?_)
  all_goals (first|((try exact aO_ hs (aJ_ _));(try exact ae_ (CvL.clo hs (a1_ _)));done)|exact au_e)
 intro i hi
 rw[ig_]
 by_cases hlt2:i< k
 obtain⟨o3,o4⟩:=o2 i hlt2
 have hg1:(pE T)[((n:Int)- ((i+1:Nat):Int)).toNat]?=some (qC (coP T (n- (i+1)))):=by
  rw[show((n:Int)- ((i+1:Nat):Int)).toNat=n- (i+1) by omega]
  exact bO_ (be_ (by omega))
 have hg2:∀e,e=k+1- (i+1)→(pE (suL T n k))[e]?=some (qC (coP (suL T n k) (k+1- (i+1)))):=fun e he=>by
  rw[he];exact bO_ (be_ (by omega))
 refine ac_ (q_z 3 ?_)
 refine cT (ai_ (ac_ (ah_ (r_d hmix 16 ?_))))
 refine a_5 ?_
 refine i_x hg1 ?_
 refine l_x hg1 ?_
 refine a_5 ?_
 first|refine aM_ (.load_l rfl rfl (hg2 _ (by omega)) tg_35.h ts_35.h (nle rfl)) rfl rfl ?_|refine aM_ (.load_a rfl (hg2 _ (by omega)) tg_35.h ts_35.h (nle rfl)) rfl rfl ?_
 refine c_s (de_ _ _ o3) ?_
 refine c_s (f4_ _ _ o4) ?_
 refine a_1 ?_
 refine ak_ (n_k ?_)
 refine r_m 3 ?_
 refine a_z ?_
 refine⟨i+1,by omega,hlt2,?_⟩
 rw[ig_]
 refine at_ [] rfl rfl rfl au_r (fun hs=>au_f) (fun hs=>?_)
 ·repeat' (first|exact aq_|refine al_ rfl rfl rfl rfl ?_ ?_)
  all_goals (first|((try exact aO_ hs (aJ_ _));(try exact ae_ (CvL.clo hs (a1_ _)));done)|exact au_e)
 have hge:i=k:=by omega
 subst hge
 refine ac_ (q_z 3 ?_)
 refine cF (av_ ⟨(),trivial,?_⟩)
 try simp only[ig_]
 refine at_ [] rfl rfl rfl au_r (fun hs=>au_f) (fun hs=>?_)
 ·repeat' (first|exact aq_|refine al_ rfl rfl rfl rfl ?_ ?_)
  all_goals (first|((try exact aO_ hs (aJ_ _));(try exact ae_ (CvL.clo hs (a1_ _)));done)|exact au_e)
 rintro _ _
 try simp only[ig_]
 refine r_m 6 ?_
 refine c_s (hG_ _) ?_
 refine a_z ?_
 refine r_m 3 ?_
 refine a_z ?_
 refine⟨k+1,by omega,by omega,?_⟩
 rw[if_]
 have e:pE (suL T n k)++[qC (-(nwA T n (suL T n k) (k+1) k))]=pE (suL T n (k+1)):=by rw[suL,iq_]
 refine at_ [(1,5)] rfl rfl rfl ?_ (fun hs=>au_f) (fun hs=>?_)
 ·repeat' (first|exact ShrL.nil|refine ShrL.cons rfl rfl rfl rfl (by first|(simp[dh_])|rfl|(simp;done)|(simp <;> omega)) ?_)
 ·repeat' (first|exact aq_|refine al_ rfl rfl rfl rfl ?_ ?_)
  all_goals (first|(exact aH_ hs e (aJ_ _))|exact au_e)
 have hge:k=n- 1:=by omega
 refine ac_ (q_z 3 ?_)
 refine cF (av_ ⟨k,hge,?_⟩)
 try simp only[if_]
 exact s_f []
 rintro k hk
 subst hk
 have hsl:=dh_ T n (n- 1)
 rw[if_]
 refine r_z 2 ?_
 exact ag_ (Fin.tmpS rfl rfl rfl (by rw[l7_,hsl]) (aJ_ _))
theorem mp_(p w m:List Rat)(l r:Bool)(a b:Rat)(hcw:FSpec Tryz.prog 31 [.agg (wC m l r (qC a) (qC b))] (i64 0))(hck:FSpec Tryz.prog 94 [.agg (ruC p w)] (i64 0)):
    FSpec Tryz.prog 162 [.agg (wC m l r (qC a) (qC b)),.agg (ruC p w)] (i64 0):=by
 have hWc:∀c∈wC m l r (qC a) (qC b),Closed c:=aR_ (.inr ⟨a,rfl⟩) (.inr ⟨b,rfl⟩)
 refine f_n Tryz.func162 ?_ ?_
 exact aa_ (ao_ hWc) (aa_ (ao_ (bw_ p w)) ab_)
 refine r_z 3 ?_
 refine ac_ (r_c 3 (hcw) ?_)
 refine a_z ?_
 refine s_r 2 ?_
 refine a_1 ?_
 refine o_0 (.bin rfl rfl (vF bu_ (rfl))) ?_
 refine ak_ ?_
 refine cF (ai_ (r_c 3 (hck) ?_))
 refine a_z ?_
 exact ag_ (t_e (ad_ _))
theorem jV_ (p w m:List Rat) (l r:Bool) (a b:Rat) (d:Nat) (v:Nat→Rat) (hbo:FSpec Tryz.prog 162 [.agg (wC m l r (qC a) (qC b)),.agg (ruC p w)] (i64 0))
    (hap:∀k,k≤d→FSpec Tryz.prog 103 [.agg (ruC p w),.arr (pE (List.replicate k 0++[((1:Int):Rat)]))] (.agg (qC (v k)))) (hd:d< m.length) (hml:m.length≤1000) (hm:∀q∈m,sm q) (hv:∀k,k≤d→sm (v k))
    (heq:∀k,k< d→v k=coP m k) (hne:v d≠coP m d):
    FSpec Tryz.prog 61 [.agg (wC m l r (qC a) (qC b)),.agg (ruC p w)] (.tup [i64 ((d:Int)- 1),bln true,i64 0]):=by
 have hWc:∀c∈wC m l r (qC a) (qC b),Closed c:=aR_ (.inr ⟨a,rfl⟩) (.inr ⟨b,rfl⟩)
 refine f_n Tryz.func61 ?_ ?_
 exact aa_ (ao_ hWc) (aa_ (ao_ (bw_ p w)) ab_)
 refine r_z 5 ?_
 refine ac_ (r_c 4 (hbo) ?_)
 refine a_z ?_
 refine s_r 2 ?_
 refine a_1 ?_
 refine o_0 (.bin rfl rfl (vF bu_ (rfl))) ?_
 refine ak_ ?_
 refine cF (ai_ (ac_ (r_z 4 ?_)))
 refine aD_ (fun _:Unit=>⟨[],[],1,41⟩) (fun _=>False) ?_ ?_
 refine ah_ (aw_ (fun k:Nat=>⟨[(3,.lptr 1 0 0),(17,.arr (pE m)),(18,i64 m.length),(19,i64 k)],[(1,some ⟨57,2,[ruC p w]⟩)],2,41⟩) (fun k=>d+1- k) (fun k=>k≤d) 0 (Nat.zero_le _) ?_ ?_)
 have:=bw_ p w
 exact s_f [(1,3)]
 intro k hk
 have hgm:(pE m)[((k:Nat):Int).toNat]?=some (qC (coP m k)):=bO_ (be_ (by omega))
 have hap2:=FSpec.zerosQ (L:=[((1:Int):Rat)]) (hap k hk) (ao_ (bw_ p w))
 have hcm:=j1_ (v k) (coP m k) (hv k hk) (gX_ hm k)
 refine q_z 1 ?_
 refine ac_ (cT (ai_ (ac_ (ah_ (s_r 6 ?_)))))
 refine a_1 ?_
 refine i_x hgm ?_
 refine l_x hgm ?_
 refine a_z ?_
 by_cases hkd:k< d
 ·rw[show cmpQ (v k) (coP m k)=0 by unfold cmpQ;rw[heq k hkd,if_neg (by grind),if_pos rfl]] at hcm
  refine ac_ (r_d hmix 10 ?_)
  refine c_s (a7_ 1 (by decide)) ?_
  refine a_1 ?_
  refine o_2 (.append_l rfl rfl rfl te_55.h rfl rfl rfl rfl rfl d_o (lJ_ _) rfl rfl (.lsl rfl (nle rfl)) tz_35.h rfl tb_35.h d_o (by first|(simp[maxLen];done)|(simp[maxLen];omega))) ?_
  refine o_1 (.callS1 rfl rfl rfl (.keep (.shut rfl d_n (.nil))) rfl ((FSpec.argE2 hap2 (by rw[List.drop_zero];exact List.take_of_length_le (by simp))))) ?_
  refine c_s (hcm) ?_
  refine o_0 (.bin rfl rfl (vF bu_ (rfl))) ?_
  refine ak_ (n_k ?_)
  refine cF (ai_ (r_m 2 ?_))
  refine a_z ?_
  refine⟨k+1,by omega,hkd,?_⟩
  have:=bw_ p w
  exact s_f []
 ·have hge:k=d:=by omega
  subst hge
  have hcn:¬cmpQ (v k) (coP m k)=0:=by
   unfold cmpQ
   split
   decide
   first|decide|(rw[if_neg hne];decide)
  refine ac_ (r_d hmix 10 ?_)
  refine c_s (a7_ 1 (by decide)) ?_
  refine a_1 ?_
  refine o_2 (.append_l rfl rfl rfl te_55.h rfl rfl rfl rfl rfl d_o (lJ_ _) rfl rfl (.lsl rfl (nle rfl)) tz_35.h rfl tb_35.h d_o (by first|(simp[maxLen];done)|(simp[maxLen];omega))) ?_
  refine o_1 (.callS1 rfl rfl rfl (.keep (.shut rfl d_n (.nil))) rfl ((FSpec.argE2 hap2 (by rw[List.drop_zero];exact List.take_of_length_le (by simp))))) ?_
  refine c_s (hcm) ?_
  refine o_0 (.bin rfl rfl (vT bu_ (bne_iff_ne.2 hcn))) ?_
  refine ak_ (n_k ?_)
  refine cT (r_z 5 ?_)
  refine ag_ (Fin.many ⟨_,_,rfl,rfl,⟨_,_,rfl,rfl,⟨_,_,rfl,rfl,rfl⟩⟩⟩ (nle rfl) ?_)
  exact CvL.clo au_ (aa_ (ad_ _) (aa_ (ad_ _) (aa_ (ad_ _) ab_)))
 rintro _ h
 exact h.elim
theorem rV_ (m m2:List Rat) (l r:Bool) (a b e:Rat) (n:Nat) (hn:1≤n) (hn2:n≤1000) (hti:FSpec Tryz.prog 121 [.agg (wC m l r (qC a) (qC b)),.arr (pE (enM e))] (.agg (wC m2 l r (qC a) (qC b))))
    (hok:∀k,k< n- 1→okLd m2 k) (hmu:okMul (enM e) (ldr m2 (n- 1)).1):
    FSpec Tryz.prog 120 [bQ e,bW m l r a b,bIn n] (.tup [.arr (pE (mulP (enM e) (ldr m2 (n- 1)).1)),bln true]):=by
 have hcl:=lf_ m2 l r a b (n- 1) (by omega) hok
 rw[show((n- 1:Nat):Int)=(n:Int)- 1 by omega] at hcl
 have hbw:=eL_ m l r a b
 have hbi:=ds_ n
 refine f_n Tryz.func120 ?_ ?_
 exact aa_ (cx_ e) (aa_ hbw (aa_ (ds_ n) ab_))
 refine r_z 2 ?_
 refine r_c 5 (hG_ e) ?_
 refine c_s (a7_ 1 (by decide)) ?_
 refine a_z ?_
 refine AWp.ent (st':=⟨[(1,bW m l r a b),(2,bIn n),(5,.arr (pE (enM e)))],[],1,41⟩) ?_ ?_
 refine at_ [] rfl rfl rfl au_r (fun hs=>?_) (fun hs=>?_)
 ·repeat' (first|exact aK_|refine aE_ rfl ?_ ?_)
  all_goals (first|(exact dR_ hs rfl (fun _ _ h=>by cases h) rfl rfl)|exact au_c)
 ·repeat' (first|exact aq_|refine al_ rfl rfl rfl rfl ?_ ?_)
  all_goals (first|exact au_e|(refine ae_ ?_;repeat' (first|exact ap_|refine af_ ?_ ?_)))
  all_goals (first|(exact dR_ hs rfl (fun _ _ h=>by cases h) rfl rfl)|exact au_c)
 refine ac_ (r_d hmix 11 ?_)
 refine c_s (hti) ?_
 refine c_s (hcl) ?_
 refine a_5 ?_
 refine ak_ (n_k ?_)
 refine ac_ (r_z 2 ?_)
 refine cF (ai_ (r_c 9 (d9_ (enM e) _ hmu) ?_))
 refine a_z ?_
 refine ag_ (Fin.many ⟨_,_,rfl,rfl,⟨_,_,rfl,rfl,rfl⟩⟩ (nle rfl) ?_)
 exact af_ (an_ au_ (as_ _)) (af_ (an_ au_ (ad_ _)) ap_)
theorem fs_Radau (m:List Rat) (l r:Bool) (a b e:Rat) (n:Nat) (p wt:List Rat) (hn:1≤n∧n≤25) (h1:FSpec Tryz.prog 120 [bQ e,bW m l r a b,bIn n] (.tup [.arr (pE p),bln true])) (hm:2* n- 1≤m.length∧m.length≤64) (hab:l=true→r=true→a< b) (ha:sm a) (hb:sm b)
    (hr:FSpec Tryz.prog 160 [.arr (pE p)] (bln true)) (hpb:bdL p 68719476736) (hp0:trimQ p≠[]) (hpl:p.length≤1099511627776)
    (hon:FSpec Tryz.prog 161 [.agg (wC m l r (qC a) (qC b)),.arr (pE (a6_ p))] (.agg (ruC (a6_ p) wt))):
    FSpec Tryz.prog 36 [.agg (wC m l r (qC a) (qC b)),i64 n,.agg (qC e)] (.tup [.agg (ruC (a6_ p) wt),i64 0]):=by
 have hWc:∀c∈wC m l r (qC a) (qC b),Closed c:=aR_ (.inr ⟨a,rfl⟩) (.inr ⟨b,rfl⟩)
 have hra:=iT_ (n:Nat) 1 25 (by omega)
 have hcc:∀c∈[bQ e,bW m l r a b,bIn n],Closed c:=aa_ (cx_ e) (aa_ (eL_ m l r a b) (aa_ (ds_ n) ab_))
 have hna:=k9_ m l r a b (2* n- 1) 120 [bQ e,bW m l r a b,bIn n] p wt hcc (by omega) hab ha hb hm.1 h1 hr hpb hp0 hpl hon
 rw[show((2* n- 1:Nat):Int)=2* (n:Int)- 1 by omega] at hna
 refine f_n Tryz.func36 ?_ ?_
 exact aa_ (ao_ hWc) (aa_ (ad_ _) (aa_ (ay_ e) ab_))
 refine r_z 5 ?_
 refine AWp.ent (st':=⟨[(3,bW m l r a b),(4,bIn n),(5,bQ e),(6,.lptr 1 0 0)],[(1,some ⟨57,2,[[.emp,.emp]]⟩)],2,18⟩) ?_ ?_
 refine at_ [(1,6)] rfl rfl rfl au_r (fun hs=>?_) (fun hs=>?_)
 ·repeat' (first|exact aK_|refine aE_ rfl ?_ ?_)
  all_goals (first|((try exact Cv.boxp hs rfl (aQ_ rfl) rfl hWc);(try exact Cv.boxp hs rfl (aQ_ rfl) rfl (a1_ e));(try exact Cv.boxp hs rfl (aQ_ rfl) rfl (aa_ (ad_ _) ab_));done)|exact au_c)
 ·repeat' (first|exact aq_|refine al_ rfl rfl rfl rfl ?_ ?_)
  all_goals (first|exact au_e|(refine ae_ ?_;repeat' (first|exact ap_|refine af_ ?_ ?_)))
  all_goals (first|((try exact Cv.boxp hs rfl (aQ_ rfl) rfl hWc);(try exact Cv.boxp hs rfl (aQ_ rfl) rfl (a1_ e));(try exact Cv.boxp hs rfl (aQ_ rfl) rfl (aa_ (ad_ _) ab_));done)|exact au_c)
 refine ac_ (r_d hmix 12 ?_)
 refine c_s (hra) ?_
 refine c_s (hna) ?_
 refine a_4 ?_
 refine ak_ (n_k ?_)
 refine ag_ (Fin.many ⟨_,_,rfl,⟨_,_,_,_,_,rfl,rfl,rfl,.inl ⟨tg_57.h,_,ts_57.h,nle rfl,rfl⟩⟩,⟨_,_,rfl,rfl,rfl⟩⟩ (nle rfl) ?_)
 exact af_ (an_ au_ (ao_ (bw_ _ _))) (af_ (an_ au_ (ad_ _)) ap_)
theorem jp_{r:Ren}{hp hp':Nat→Option ABlk}(h:Shr r hp hp')(L:List Rat):∀n,CvLL r hp hp' (List.replicate n zC++pE L) (pE (List.replicate n 0++L))
 |0=>aO_ h (aJ_ L)
 |n+1=>CvLL.cons (ys:=pE (List.replicate n 0++L)) (fD_ h) (jp_ h L n)
def krO(A:AV)(B:AV)(X:AV)(m:List Rat)(n:Nat):Nat→AState
 |k=>⟨[(0,A),(1,B),(4,X),(6,.arr (pE m)),(7,.lsl 1 0 (n+2) none 3),(52,i64 ((n:Int)+1)),(53,i64 k)],[(1,some ⟨35,3,pE (krE m n k)⟩)],2,94⟩
theorem rn_(A:AV)(B:AV)(X:AV)(m:List Rat)(n:Nat)(k:Nat):krO A B X m n k=⟨[(0,A),(1,B),(4,X),(6,.arr (pE m)),(7,.lsl 1 0 (n+2) none 3),(52,i64 ((n:Int)+1)),(53,i64 k)],[(1,some ⟨35,3,pE (krE m n k)⟩)],2,94⟩:=rfl
def krI(A:AV)(B:AV)(X:AV)(m:List Rat)(n:Nat)(k:Nat):Nat→AState
 |j=>⟨[(0,A),(1,B),(4,X),(6,.arr (pE m)),(7,.lsl 1 0 (n+2) none 3),(52,i64 ((n:Int)+1)),(53,i64 k),(8,i64 k),(9,.lptr 2 0 0),(57,.lsl 1 0 (n+2) none 3),(58,i64 ((n+2:Nat):Int)),(59,i64 j)],[(1,some ⟨35,3,pE (krE m n k)⟩),(2,some ⟨35,3,[qC (krS (krE m n k) m k j)]⟩)],3,94⟩
theorem mj_(A:AV)(B:AV)(X:AV)(m:List Rat)(n:Nat)(k:Nat)(j:Nat):krI A B X m n k j=⟨[(0,A),(1,B),(4,X),(6,.arr (pE m)),(7,.lsl 1 0 (n+2) none 3),(52,i64 ((n:Int)+1)),(53,i64 k),(8,i64 k),(9,.lptr 2 0 0),(57,.lsl 1 0 (n+2) none 3),(58,i64 ((n+2:Nat):Int)),(59,i64 j)],[(1,some ⟨35,3,pE (krE m n k)⟩),(2,some ⟨35,3,[qC (krS (krE m n k) m k j)]⟩)],3,94⟩:=rfl
theorem nU_ (m m2:List Rat) (l r:Bool) (a b:Rat) (n:Nat) (hn:1≤n∧n≤12) (hok:∀k,k< n→okLd m k) (o1:okMul (ldr m n).1 (ldr m n).1) (o2:okOf m (mulP (ldr m n).1 (ldr m n).1)) (o3:0< ldN m (ldr m n).1)
    (hti:FSpec Tryz.prog 121 [.agg (wC m l r (qC a) (qC b)),.arr (pE (ldr m n).1)] (.agg (wC m2 l r (qC a) (qC b)))) (hm2:2* n+2≤m2.length) (hm0:coP m2 n≠0) (hkr:∀k,k≤n→okKr m2 n k)
    (o4:okMul (ldr m n).1 (krE m2 n (n+1))):
    FSpec Tryz.prog 123 [bW m l r a b,bIn n] (.tup [.arr (pE (mulP (ldr m n).1 (krE m2 n (n+1)))),bln true]):=by
 have hcl:=lf_ m l r a b n (by omega) hok
 have hbw:=eL_ m l r a b
 have hbi:=ds_ n
 obtain⟨X,hX⟩:∃X,X=AV.aptr [ldF m l r a b n] 0 0:=⟨_,rfl⟩
 have hXc:Closed X:=by rw[hX];exact dt_ fun e he=>by rw[List.mem_singleton.1 he];exact eK_ m l r a b n
 have hsp:=sgZ_num_gt.2 o3
 refine f_n Tryz.func123 ?_ ?_
 exact aa_ hbw (aa_ hbi ab_)
 refine r_z 2 ?_
 refine r_c 8 (hcl) ?_
 refine a_z ?_
 refine ac_ (ac_ (r_d hmix 20 ?_))
 refine c_s (d9_ _ _ o1) ?_
 refine c_s (mx_ m _ l r a b o2) ?_
 refine c_s (bU_ (ldN m (ldr m n).1)) ?_
 refine d_2 ?_
 refine ak_ (n_k ?_)
 refine cF (ai_ (ac_ (r_d hmix 8 ?_)))
 refine c_s (hti) ?_
 refine a_2 ?_
 refine ak_ (n_k ?_)
 refine ac_ (r_d hmix 7 ?_)
 refine c_s (a7_ 1 (by decide)) ?_
 refine a_1 ?_
 refine o_2 (.append_l rfl rfl rfl te_55.h rfl rfl rfl rfl rfl d_o (lJ_ _) rfl rfl (.lsl rfl (nle rfl)) tz_35.h rfl tb_35.h d_o (by first|(simp[maxLen];done)|(simp[maxLen];omega))) ?_
 refine a_1 ?_
 refine ak_ (n_k ?_)
 refine ac_ (r_z 3 ?_)
 refine aD_ (fun _:Unit=>⟨[(4,X),(7,.arr (pE (krE m2 n (n+1))))],[],1,94⟩) (fun _=>True) ?_ ?_
 refine ah_ (aw_ (krO (bW m l r a b) (bIn n) X m2 n) (fun k=>n+1- k) (fun k=>k≤n+1) 0 (Nat.zero_le _) ?_ ?_)
 rw[rn_,hX]
 rw[hX] at hXc
 refine at_ [(1,7)] rfl rfl rfl ?_ (fun hs=>au_f) (fun hs=>?_)
 ·repeat' (first|exact ShrL.nil|refine ShrL.cons rfl rfl rfl rfl (by first|(simp[fN_])|rfl|(simp;done)|(simp <;> omega)) ?_)
 ·repeat' (first|exact aq_|refine al_ rfl rfl rfl rfl ?_ ?_)
  all_goals (first|(exact jp_ hs [((1:Int):Rat)] (n+1))|exact au_e)
 intro k hk
 rw[rn_]
 have hel:=fN_ m2 n k
 have hel2:=fN_ m2 n (k+1)
 by_cases hlt:k< n+1
 obtain⟨c1,c2⟩:=hkr k (by omega)
 have hgm:(pE m2)[((n:Nat):Int).toNat]?=some (qC (coP m2 n)):=bO_ (be_ (by omega))
 refine q_z 1 ?_
 refine ac_ (cT (ai_ (ac_ (ah_ (r_z 2 ?_)))))
 refine r_z 3 ?_
 refine ac_ (r_z 3 ?_)
 refine aD_ (fun _:Unit=>krI (bW m l r a b) (bIn n) X m2 n k (n+2)) (fun _=>True) ?_ ?_
 refine ah_ (aw_ (krI (bW m l r a b) (bIn n) X m2 n k) (fun j=>n+2- j) (fun j=>j≤n+2) 0 (Nat.zero_le _) ?_ ?_)
 rw[mj_]
 refine at_ [(2,9)] rfl rfl rfl au_r (fun hs=>au_f) (fun hs=>?_)
 ·repeat' (first|exact aq_|refine al_ rfl rfl rfl rfl ?_ ?_)
  all_goals (first|((try exact aO_ hs (aJ_ _));(try exact ae_ (fD_ hs));done)|exact au_e)
 intro j hj
 rw[mj_]
 by_cases hlt2:j< n+2
 obtain⟨c3,c4⟩:=c1 j hlt2
 have hg1:∀e,e=j→(pE (krE m2 n k))[e]?=some (qC (coP (krE m2 n k) j)):=fun e he=>by
  rw[he];exact bO_ (be_ (by omega))
 have hg2:(pE m2)[((j:Int)+(k:Int)).toNat]?=some (qC (coP m2 (j+k))):=by
  rw[show((j:Int)+(k:Int)).toNat=j+k by omega]
  exact bO_ (be_ (by omega))
 refine q_z 1 ?_
 refine ac_ (cT (ai_ (ac_ (ah_ (s_r 6 ?_)))))
 refine a_2 ?_
 first|refine aM_ (.load_l rfl rfl (hg1 _ (by omega)) tg_35.h ts_35.h (nle rfl)) rfl rfl ?_|refine aM_ (.load_a rfl (hg1 _ (by omega)) tg_35.h ts_35.h (nle rfl)) rfl rfl ?_
 refine a_z ?_
 refine r_d hmix 11 ?_
 refine a_6 ?_
 refine i_x hg2 ?_
 refine l_x hg2 ?_
 refine c_s (de_ _ _ c3) ?_
 refine c_s (f4_ _ _ c4) ?_
 refine a_1 ?_
 refine ak_ (n_k ?_)
 refine r_m 2 ?_
 refine a_z ?_
 refine⟨j+1,by omega,hlt2,?_⟩
 rw[mj_]
 refine at_ [] rfl rfl rfl au_r (fun hs=>au_f) (fun hs=>?_)
 ·repeat' (first|exact aq_|refine al_ rfl rfl rfl rfl ?_ ?_)
  all_goals (first|((try exact aO_ hs (aJ_ _));(try exact ae_ (CvL.clo hs (a1_ _)));done)|exact au_e)
 have hge:j=n+2:=by omega
 subst hge
 refine q_z 1 ?_
 refine ac_ (cF (av_ ⟨(),trivial,?_⟩))
 try simp only[mj_]
 refine at_ [] rfl rfl rfl au_r (fun hs=>au_f) (fun hs=>?_)
 ·repeat' (first|exact aq_|refine al_ rfl rfl rfl rfl ?_ ?_)
  all_goals (first|((try exact aO_ hs (aJ_ _));(try exact ae_ (CvL.clo hs (a1_ _)));done)|exact au_e)
 rintro _ _
 try simp only[mj_]
 have hg3:∀e,e=n- k→(pE (krE m2 n k))[e]?=some (qC (coP (krE m2 n k) (n- k))):=fun e he=>by
  rw[he];exact bO_ (be_ (by omega))
 refine r_d hmix 13 ?_
 refine a_7 ?_
 refine i_x hgm ?_
 refine l_x hgm ?_
 refine c_s (d7_ _ _ hm0 c2) ?_
 refine c_s (hG_ _) ?_
 refine a_1 ?_
 refine o_1n (.store rfl rfl (hg3 _ (by omega)) rfl rfl rfl ts_35.h (nle rfl)) ?_
 refine ak_ (n_k ?_)
 refine r_m 2 ?_
 refine a_z ?_
 refine⟨k+1,by omega,hlt,?_⟩
 rw[rn_]
 have e:∀e,e=n- k→(pE (krE m2 n k)).set e (qC (-(krS (krE m2 n k) m2 k (n+2) / coP m2 n)))=pE (krE m2 n (k+1)):=fun e he=>by
  rw[he,ir_];rfl
 refine at_ [] rfl rfl rfl au_r (fun hs=>au_f) (fun hs=>?_)
 ·repeat' (first|exact aq_|refine al_ rfl rfl rfl rfl ?_ ?_)
  all_goals (first|(exact aH_ hs (e (0+((n:Int)- (k:Int)).toNat) (by omega)) (aJ_ _))|exact au_e)
 have hge:k=n+1:=by omega
 subst hge
 refine q_z 1 ?_
 refine ac_ (cF (av_ ⟨(),trivial,?_⟩))
 refine at_ [] rfl rfl rfl au_r (fun hs=>?_) (fun hs=>?_)
 ·repeat' (first|exact aK_|refine aE_ rfl ?_ ?_)
  all_goals (first|((try exact an_ hs hXc);(try exact dR_ hs rfl (fun _ _ h=>by cases h) rfl (by rw[hel]));done)|exact au_c)
 ·repeat' (first|exact aq_|refine al_ rfl rfl rfl rfl ?_ ?_)
  all_goals (first|exact au_e|(refine ae_ ?_;repeat' (first|exact ap_|refine af_ ?_ ?_)))
  all_goals (first|((try exact an_ hs hXc);(try exact dR_ hs rfl (fun _ _ h=>by cases h) rfl (by rw[hel]));done)|exact au_c)
 rintro _ _
 rw[hX]
 refine r_c 8 (d9_ _ _ o4) ?_
 refine a_z ?_
 refine ag_ (Fin.many ⟨_,_,rfl,rfl,⟨_,_,rfl,rfl,rfl⟩⟩ (nle rfl) ?_)
 exact af_ (an_ au_ (as_ _)) (af_ (an_ au_ (ad_ _)) ap_)
theorem p6_ (m:List Rat) (l r:Bool) (a b:Rat) (n:Nat) (p wt:List Rat) (hn:1≤n∧n≤12) (h1:FSpec Tryz.prog 123 [bW m l r a b,bIn n] (.tup [.arr (pE p),bln true])) (hm:3* n+2≤m.length∧m.length≤64) (hab:l=true→r=true→a< b) (ha:sm a) (hb:sm b)
    (hr:FSpec Tryz.prog 160 [.arr (pE p)] (bln true)) (hpb:bdL p 68719476736) (hp0:trimQ p≠[]) (hpl:p.length≤1099511627776)
    (hon:FSpec Tryz.prog 161 [.agg (wC m l r (qC a) (qC b)),.arr (pE (a6_ p))] (.agg (ruC (a6_ p) wt))):
    FSpec Tryz.prog 38 [.agg (wC m l r (qC a) (qC b)),i64 n] (.tup [.agg (ruC (a6_ p) wt),i64 0]):=by
 have hWc:∀c∈wC m l r (qC a) (qC b),Closed c:=aR_ (.inr ⟨a,rfl⟩) (.inr ⟨b,rfl⟩)
 have hra:=iT_ (n:Nat) 1 12 (by omega)
 have hcc:∀c∈[bW m l r a b,bIn n],Closed c:=aa_ (eL_ m l r a b) (aa_ (ds_ n) ab_)
 have hna:=k9_ m l r a b (3* n+2) 123 [bW m l r a b,bIn n] p wt hcc (by omega) hab ha hb hm.1 h1 hr hpb hp0 hpl hon
 rw[show((3* n+2:Nat):Int)=3* (n:Int)+2 by omega] at hna
 refine f_n Tryz.func38 ?_ ?_
 exact aa_ (ao_ hWc) (aa_ (ad_ _) ab_)
 refine r_z 4 ?_
 refine AWp.ent (st':=⟨[(2,bW m l r a b),(3,bIn n),(4,.lptr 1 0 0)],[(1,some ⟨57,2,[[.emp,.emp]]⟩)],2,16⟩) ?_ ?_
 refine at_ [(1,4)] rfl rfl rfl au_r (fun hs=>?_) (fun hs=>?_)
 ·repeat' (first|exact aK_|refine aE_ rfl ?_ ?_)
  all_goals (first|((try exact Cv.boxp hs rfl (aQ_ rfl) rfl hWc);(try exact Cv.boxp hs rfl (aQ_ rfl) rfl (aa_ (ad_ _) ab_));done)|exact au_c)
 ·repeat' (first|exact aq_|refine al_ rfl rfl rfl rfl ?_ ?_)
  all_goals (first|exact au_e|(refine ae_ ?_;repeat' (first|exact ap_|refine af_ ?_ ?_)))
  all_goals (first|((try exact Cv.boxp hs rfl (aQ_ rfl) rfl hWc);(try exact Cv.boxp hs rfl (aQ_ rfl) rfl (aa_ (ad_ _) ab_));done)|exact au_c)
 refine ac_ (r_d hmix 12 ?_)
 refine c_s (hra) ?_
 refine c_s (hna) ?_
 refine a_4 ?_
 refine ak_ (n_k ?_)
 refine ag_ (Fin.many ⟨_,_,rfl,⟨_,_,_,_,_,rfl,rfl,rfl,.inl ⟨tg_57.h,_,ts_57.h,nle rfl,rfl⟩⟩,⟨_,_,rfl,rfl,rfl⟩⟩ (nle rfl) ?_)
 exact af_ (an_ au_ (ao_ (bw_ _ _))) (af_ (an_ au_ (ad_ _)) ap_)
section
variable {a b:Rat}(h:a< b){k:Nat}(hk:1≤k∧k≤4)(ha:qs a≤20)(hb:qs b≤20)
include h hk ha hb
end
section
variable {a b a' b':Rat}(h:a< b)(h':a'< b'){k:Nat}(hk:1≤k∧k≤4)(ha:qs a≤20)(hb:qs b≤20)(ha':qs a'≤20)(hb':qs b'≤20)
include h h' hk ha hb ha' hb'
end
theorem h0_(f:Nat)(p:List Rat)(b:Bool)(hf:f≤1000000)(h:realM f p=some b):FSpec Tryz.prog 160 [.arr (pE p)] (bln b):=by
 unfold realM at h
 cases hc:cR_ f p with
 |none=>rw[hc] at h;cases h
 |some c=>
  rw[hc,Option.bind_some] at h
  split at h
  ·rename_i ho
   cases h
   obtain⟨o1,o2,o3,o4,o5,o6,o7⟩:=ho
   have hb1:=jf_ p
   refine o5_ p _ (by omega) ⟨o6,o7⟩ o4 (pe_ f p c (-bc_ p,bc_ p) hc hf o1 o2 o3 ?_ ?_ (by omega))
   show cmpQ (-bc_ p) (bc_ p)≤0
   unfold cmpQ;rw[if_pos (by grind)];decide
   unfold hB_;rw[if_neg (by omega),if_neg (by omega)]
  cases h
theorem rL_(f:Nat)(p m w:List Rat)(l r:Bool)(a b:Rat)(h:onM f p m=some w):FSpec Tryz.prog 161 [.agg (wC m l r (qC a) (qC b)),.arr (pE p)] (.agg (ruC p w)):=by
 unfold onM at h
 cases hz:bzL f (ax_ p) p (cU_ ((1:Int):Rat)) [] with
 |none=>rw[hz] at h;cases h
 |some x=>
  rw[hz,Option.bind_some] at h
  split at h
  ·rename_i ho
   cases h
   obtain⟨o1,o2,o3,o4,o5,o6,o7,o8,o9⟩:=ho
   have hp0:trimQ p≠[]:=by rw[o4];intro e;rw[e] at o5;simp at o5
   have hde:=gP_ p o9 (by omega)
   have hbz:=mO_ f (ax_ p) p x.1 x.2 hp0 (by omega) hz o1
   exact fs_on p m l r a b (p.length- 1) (mxL p) (mxL m) _ _ _ (by omega) o4 (by omega) (cl_ p) (cl_ m) (b0_ p) (b0_ m) (by omega) (by rw[show p.length- 1+2=p.length+1 by omega];exact o8) hde hbz o2 o3
  cases h
theorem fs_apM(p w f:List Rat)(h:okAp p w f):FSpec Tryz.prog 103 [.agg (ruC p w),.arr (pE f)] (.agg (qC (apV p w f))):=by
 obtain⟨o1,o2,o3,o4,o5,o6,o7,o8,o9,o10⟩:=h
 have hl:(trimQ p).length=dg p+1:=by unfold dg at o4⊢;omega
 have hp0:trimQ p≠[]:=by intro e;rw[e] at hl;simp at hl
 have hsu:=rF_ p w (dg p) hl o4 o5 (by omega) o7
 exact o8_ p w f (suP p) (mxL (apR p w f)) (mxL (suP p)) hsu hp0 o1 o2 o3 (cl_ _) (cl_ _) (b0_ _) (b0_ _) (by omega) (by unfold suP;rw[dh_];omega) o9
theorem t5_0:textQ (mkRat 2 5)=[50,47,53]∧okT (mkRat 2 5):=by decide+kernel
theorem t5_1:textP p13=[120,94,50,32,45,32,49,47,51]∧okPT p13:=by decide+kernel
theorem t5_2:textP [1]=[49]∧okPT [1]:=by decide+kernel
theorem t5_3:textP p35=[120,94,51,32,45,32,51,47,53,32,120]∧okPT p35:=by decide+kernel
theorem t5_4:textP w35=[45,53,47,57,32,120,94,50,32,43,32,56,47,57]∧okPT w35:=by decide+kernel
theorem t5_5:textP wRa=[51,47,52,32,120,32,43,32,53,47,52]∧okPT wRa:=by decide+kernel
theorem sm_ends:sm (-1)∧sm 1∧(-1:Rat)< 1:=by decide+kernel
theorem fs_wJac:FSpec Tryz.prog 15 [.agg (spC (-1) 1),i64 0,i64 0,i64 5] (.tup [.agg (wC m6 true true (qC (-1)) (qC 1)),i64 0]):=by
 have:=nV_ (-1) 1 5 (by omega) sm_ends.2.2 (by decide) (by decide) fun k hk=>c_ok.2 k (by omega)
 exact this
theorem f1_:m6.length=6:=by rw[c_m6];rfl
theorem rC_:FSpec Tryz.prog 16 [.agg (wC m6 true true (qC (-1)) (qC 1)),i64 2] (.tup [.agg (ruC p13 [1]),i64 0]):=by
 obtain⟨c1,c2,c3,c4,c5,c6⟩:=c_g
 have:=pc_ m6 true true (-1) 1 2 [1] (by omega) (fun j hj=>c_ok.1 j hj) (by rw[f1_];omega) (fun _ _=>sm_ends.2.2) sm_ends.1 sm_ends.2.1 (by rw[c1];exact h0_ 9 p13 true (by omega) c2) (by rw[c1];exact bdL_mono' c5 (by omega)) (by rw[c1];exact c6) (by rw[c1];decide) (by rw[c1,c4];exact rL_ 9 p13 m6 [1] _ _ _ _ c3)
 rw[c1,c4] at this
 exact this
theorem rD_:FSpec Tryz.prog 94 [.agg (ruC p13 [1])] (i64 0):=
 hH_ p13 [1] (h0_ 9 p13 true (by omega) c_g.2.1) (by decide+kernel) (by decide+kernel) (by decide) (by decide)
theorem fs_wDeg:FSpec Tryz.prog 61 [.agg (wC m6 true true (qC (-1)) (qC 1)),.agg (ruC p13 [1])] (.tup [i64 3,bln true,i64 0]):=by
 have hcw:=cA_ m6 true true (-1) 1 (by rw[f1_];omega) (fun _ _=>sm_ends.2.2) sm_ends.1 sm_ends.2.1
 obtain⟨d1,d2,d3⟩:=c_d
 have:=jV_ p13 [1] m6 true true (-1) 1 4 (fun k=>apV p13 [1] (List.replicate k 0++[((1:Int):Rat)])) (mp_ p13 [1] m6 true true (-1) 1 hcw rD_) (fun k hk=>fs_apM _ _ _ (d1 k (by omega))) (by rw[f1_];omega) (by rw[f1_];omega) (ev_ c_k.2.2.2.2.2.2.2.2.1 (by omega)) (fun k hk=>(d1 k (by omega)).2.2.2.2.2.2.2.2.2) d2 d3
 exact this
theorem fs_wKr:FSpec Tryz.prog 38 [.agg (wC m6 true true (qC (-1)) (qC 1)),i64 1] (.tup [.agg (ruC p35 w35),i64 0]):=by
 obtain⟨k1,k2,k3,k4,k5,k6,k7,k8,k9,k10⟩:=c_k
 obtain⟨q1,q2,q3,q4,q5⟩:=c_kp
 have hti:=jU_ (ldr m6 1).1 m6 true true (-1) 1 100 100 k8 k9 (by omega) (by omega) (by omega) (by rw[f1_];omega) (by rw[f1_];omega)
 have h1:=nU_ m6 mKr true true (-1) 1 1 (by omega) (fun k hk=>c_ok.1 k (by omega)) k1 k2 k3 hti (by omega) k5 (fun k hk=>c_kk k (by omega)) k6
 rw[k7] at h1
 have:=p6_ m6 true true (-1) 1 1 p35 w35 (by omega) h1 (by rw[f1_];omega) (fun _ _=>sm_ends.2.2) sm_ends.1 sm_ends.2.1 (h0_ 9 p35 true (by omega) q1) (bdL_mono' q4 (by omega)) q5 (by decide) (by rw[q3];exact rL_ 9 p35 m6 w35 _ _ _ _ q2)
 rw[q3] at this
 exact this
theorem fs_wRa:FSpec Tryz.prog 36 [.agg (wC m6 true true (qC (-1)) (qC 1)),i64 2,.agg (qC (-1))] (.tup [.agg (ruC pRa wRa),i64 0]):=by
 obtain⟨r1,r2,r3,r4,r5,r6,r7,r8,r9⟩:=c_r
 have hti:=jU_ (enM (-1)) m6 true true (-1) 1 100 100 r9 c_k.2.2.2.2.2.2.2.2.1 (by omega) (by omega) (by decide) (by rw[f1_];omega) (by rw[f1_];decide)
 have h1:=rV_ m6 mRa true true (-1) 1 (-1) 2 (by omega) (by omega) hti (fun k hk=>r1 k (by omega)) r2
 rw[show mulP (enM (-1)) (ldr mRa (2- 1)).1=pRa from r3] at h1
 have:=fs_Radau m6 true true (-1) 1 (-1) 2 pRa wRa (by omega) h1 (by rw[f1_];omega) (fun _ _=>sm_ends.2.2) sm_ends.1 sm_ends.2.1 (h0_ 9 pRa true (by omega) r4) (bdL_mono' r7 (by omega)) r8 (by decide) (by rw[r6];exact rL_ 9 pRa m6 wRa _ _ _ _ r5)
 rw[r6] at this
 exact this
theorem d6_:FSpec Tryz.prog 11 [] (.v (.bool true)):=by
 have n1:=ea_ (-1) (by decide)
 rw[show((-1:Int):Rat)= -1 by decide] at n1
 have n2:=ea_ 1 (by decide)
 rw[show((1:Int):Rat)=1 by decide] at n2
 have hj:=fs_wJac
 have hg:=rC_
 have hd:=fs_wDeg
 have hk:=fs_wKr
 have hr:=fs_wRa
 rw[c_m6] at hj hg hd hk hr
 have q0:=pb_ (mkRat 2 5) t5_0.2
 rw[t5_0.1] at q0
 have q1:=gO_ p13 t5_1.2
 rw[t5_1.1] at q1
 have q2:=gO_ [1] t5_2.2
 rw[t5_2.1] at q2
 have q3:=gO_ p35 t5_3.2
 rw[t5_3.1] at q3
 have q4:=gO_ w35 t5_4.2
 rw[t5_4.1] at q4
 have q5:=gO_ wRa t5_5.2
 rw[t5_5.1] at q5
 refine f_n Tryz.func11 ?_ ?_
 exact ab_
 refine r_z 1 ?_
 refine r_c 5 (n1) ?_
 refine c_s (n2) ?_
 refine a_z ?_
 refine r_c 8 (hj) ?_
 refine a_z ?_
 refine r_c 8 (hg) ?_
 refine a_z ?_
 refine r_c 10 (hd) ?_
 refine a_z ?_
 refine r_c 8 (hk) ?_
 refine a_z ?_
 refine ac_ (r_d hmix 9 ?_)
 refine c_s (n1) ?_
 refine c_s (hr) ?_
 refine a_6 ?_
 refine ak_ (n_k ?_)
 refine s_r 70 ?_
 refine a_1 ?_
 refine o_0 (.bin rfl rfl (vT bq_ (rfl))) ?_
 refine d_2 ?_
 refine bl_ rfl rfl rfl (.bin rfl rfl (vT bq_ (rfl))) rfl rfl ?_
 refine d_3 ?_
 refine bl_ rfl rfl rfl (.bin rfl rfl (vT bq_ (rfl))) rfl rfl ?_
 refine d_3 ?_
 refine bl_ rfl rfl rfl (.bin rfl rfl (vT bq_ (rfl))) rfl rfl ?_
 refine d_3 ?_
 refine bl_ rfl rfl rfl (.bin rfl rfl (vT bq_ (rfl))) rfl rfl ?_
 refine d_5 ?_
 refine bl_ rfl rfl rfl (.bin rfl rfl (vT bq_ (rfl))) rfl rfl ?_
 refine c_s (q0) ?_
 refine bl_ rfl rfl rfl (.bin rfl rfl (vT fV_ rfl)) rfl rfl ?_
 refine c_s (q1) ?_
 refine bl_ rfl rfl rfl (.bin rfl rfl (vT fV_ rfl)) rfl rfl ?_
 refine c_s (q2) ?_
 refine bl_ rfl rfl rfl (.bin rfl rfl (vT fV_ rfl)) rfl rfl ?_
 refine d_3 ?_
 refine bl_ rfl rfl rfl (.bin rfl rfl (vT bq_ (rfl))) rfl rfl ?_
 refine c_s (q3) ?_
 refine bl_ rfl rfl rfl (.bin rfl rfl (vT fV_ rfl)) rfl rfl ?_
 refine c_s (q4) ?_
 refine bl_ rfl rfl rfl (.bin rfl rfl (vT fV_ rfl)) rfl rfl ?_
 refine c_s (q5) ?_
 refine bl_ rfl rfl rfl (.bin rfl rfl (vT fV_ rfl)) rfl rfl ?_
 refine a_z ?_
 exact ag_ (t_e (ad_ _))
end Go.Proofs.YtdjfjpeoddmamaaGreatDoor
namespace Go.Proofs.YtdjfjpeoddmamaaGreatDoor
open Go.Abs Go.Deep Go.RowKit Go.WideShapes
set_option maxRecDepth 20000
def okN(r:NRow):Prop:=i64r r.1∧i64r r.2.1∧r.2.2≤255
end Go.Proofs.YtdjfjpeoddmamaaGreatDoor
namespace Go.Proofs.YtdjfjpeoddmamaaGreatDoor
open Go.Abs
set_option maxRecDepth 20000
def goodN(r:NRow):Bool:=decide (¬((r.2.2:Int) % 4≠0)∧¬r.1> 999999∧¬r.1< -999999∧¬r.2.1> 999999∧¬r.2.1< -999999)
def tameB(l:List NRow)(k:Nat):Bool:=l.all goodN && decide (l.length≤k)
theorem hj_(l:List NRow)(k:Nat)(hl:l.length≤9223372036854775807)(hk:k≤1000000):FSpec Tryz.prog 10 [.arr (nR l),i64 k] (bln (tameB l k)):=by
 have hnl:(nR l).length=l.length:=by simp[nR]
 refine f_n Tryz.func10 ?_ ?_
 exact aa_ (aU_ (bX_ l)) (aa_ (ad_ _) ab_)
 refine r_z 1 ?_
 refine ac_ (r_z 1 ?_)
 refine aD_ (fun _:Unit=>⟨[(0,.arr (nR l)),(1,i64 k)],[],1,45⟩) (fun _=>l.all goodN=true) ?_ ?_
 refine ah_ (aw_ (fun j:Nat=>⟨[(5,i64 ((j:Nat):Int)),(0,.arr (nR l)),(1,i64 k)],[],1,45⟩) (fun j=>l.length- j) (fun j=>j≤l.length∧(l.take j).all goodN=true) 0 ⟨Nat.zero_le _,rfl⟩ ?_ ?_)
 have:=(aU_ (bX_ l))
 exact s_f []
 rintro j ⟨hj,hg⟩
 by_cases hlt:j< l.length
 obtain⟨r,hr⟩:∃r,l[j]?=some r:=⟨_,List.getElem?_eq_getElem hlt⟩
 have hgt:(nR l)[((j:Nat):Int).toNat]?=some (nuC r.1 r.2.1 r.2.2):=by
  rw[Int.toNat_natCast,nR,List.getElem?_map,hr];rfl
 have hbad:goodN r=false→tameB l k=false:=fun h=>by
  unfold tameB
  rw[Bool.and_eq_false_iff]
  exact .inl (List.all_eq_false.2 ⟨r,List.mem_of_getElem? hr,by rw[h];decide⟩)
 refine ac_ (q_z 4 ?_)
 refine cT (ai_ (ac_ (ah_ (s_r 6 ?_))))
 refine a_2 ?_
 refine i_x hgt ?_
 refine l_x hgt ?_
 refine a_z ?_
 by_cases c0:((r.2.2:Int) % 4≠0)
 have hgd:goodN r=false:=decide_eq_false (by rintro⟨e0,e1,e2,e3,e4⟩;exact e0 c0)
 rw[hbad hgd]
 refine s_r 24 ?_
 refine a_3 ?_
 refine o_0 (.bin rfl rfl (vT bu_ ((by simpa using c0)))) ?_
 refine a_z ?_
 refine cT (r_z 1 ?_)
 exact ag_ (t_e (ad_ _))
 by_cases c1:r.1> 999999
 have hgd:goodN r=false:=decide_eq_false (by rintro⟨e0,e1,e2,e3,e4⟩;exact e1 c1)
 rw[hbad hgd]
 refine s_r 24 ?_
 refine a_3 ?_
 refine o_0 (.bin rfl rfl (vF bu_ ((by simpa using c0)))) ?_
 refine d_z ?_
 refine cT (r_z 1 ?_)
 exact ag_ (t_e (ad_ _))
 by_cases c2:r.1< -999999
 have hgd:goodN r=false:=decide_eq_false (by rintro⟨e0,e1,e2,e3,e4⟩;exact e2 c2)
 rw[hbad hgd]
 refine s_r 24 ?_
 refine a_3 ?_
 refine o_0 (.bin rfl rfl (vF bu_ ((by simpa using c0)))) ?_
 refine d_z ?_
 refine cT (r_z 1 ?_)
 exact ag_ (t_e (ad_ _))
 by_cases c3:r.2.1> 999999
 have hgd:goodN r=false:=decide_eq_false (by rintro⟨e0,e1,e2,e3,e4⟩;exact e3 c3)
 rw[hbad hgd]
 refine s_r 24 ?_
 refine a_3 ?_
 refine o_0 (.bin rfl rfl (vF bu_ ((by simpa using c0)))) ?_
 refine d_z ?_
 refine cT (r_z 1 ?_)
 exact ag_ (t_e (ad_ _))
 by_cases c4:r.2.1< -999999
 have hgd:goodN r=false:=decide_eq_false (by rintro⟨e0,e1,e2,e3,e4⟩;exact e4 c4)
 rw[hbad hgd]
 refine s_r 24 ?_
 refine a_3 ?_
 refine o_0 (.bin rfl rfl (vF bu_ ((by simpa using c0)))) ?_
 refine d_z ?_
 refine cT (r_z 1 ?_)
 exact ag_ (t_e (ad_ _))
 have hgd:goodN r=true:=decide_eq_true ⟨c0,c1,c2,c3,c4⟩
 refine s_r 24 ?_
 refine a_3 ?_
 refine o_0 (.bin rfl rfl (vF bu_ ((by simpa using c0)))) ?_
 refine d_z ?_
 refine cF (ai_ (r_m 3 ?_))
 refine a_z ?_
 refine⟨j+1,by omega,⟨hlt,?_⟩,?_⟩
 rw[cc_ hr,List.all_append,hg];simp[hgd]
 have:=(aU_ (bX_ l))
 exact s_f []
 have hge:l.take j=l:=List.take_of_length_le (by omega)
 rw[hge] at hg
 refine ac_ (q_z 4 ?_)
 refine cF (av_ ⟨(),hg,?_⟩)
 have:=(aU_ (bX_ l))
 exact s_f []
 rintro _ hg
 have e:tameB l k=decide ((((nR l).length:Nat):Int)≤(k:Int)):=by
  unfold tameB
  rw[hg,Bool.true_and,hnl]
  exact decide_eq_decide.2 (by omega)
 rw[e]
 refine r_z 5 ?_
 exact ag_ (t_e (ad_ _))
theorem good_qs{r:NRow}(h:goodN r=true)(hb:i64r r.1)(hd:i64r r.2.1):qs (numV r.1 r.2.1 r.2.2)≤20:=by
 obtain⟨h0,h1,h2,h3,h4⟩:=of_decide_eq_true h
 have hp:r.2.2 % 4=0:=by omega
 have hN:bl r.1.natAbs≤20:=bl_le (by omega)
 unfold numV
 rw[hp]
 show qs (Rat.divInt r.1 (dNum r.2.1))≤20
 obtain⟨d,hde⟩:∃d,d=dNum r.2.1:=⟨_,rfl⟩
 have hd0:d≠0:=by rw[hde];unfold dNum;split <;> omega
 have hdb:bl d.natAbs≤20:=by rw[hde];unfold dNum;split <;> exact bl_le (by omega)
 rw[←hde]
 by_cases hn:d< 0
 rw[fQ_ _ d hn]
 exact cX_ (by omega) (by rw[Int.natAbs_neg];exact hN) (by omega)
 rw[fP_ _ d (by omega)]
 exact cX_ (by omega) hN (by omega)
theorem g6_{l:List NRow}{k:Nat}(h:tameB l k=true)(ho:okR l):bdL (nL l) 20∧(nL l).length≤k:=by
 unfold tameB at h
 rw[Bool.and_eq_true,List.all_eq_true] at h
 refine⟨fun q hq=>?_,by simpa[nL] using h.2⟩
 obtain⟨r,hr,rfl⟩:=List.mem_map.1 hq
 exact good_qs (h.1 r hr) (ho r hr).1 (ho r hr).2.1
theorem mN_(N D N' D':Int)(k k':Nat)(hN:i64r N)(hD:i64r D)(hk:k≤255)(hN':i64r N')(hD':i64r D')(hk':k'≤255):
    FSpec Tryz.prog 12 [.agg (nuC N D k++nuC N' D' k')] (.tup [.agg (spC (numV N D k) (numV N' D' k')),.agg (rC (rq (numV N D k))++rC (rq (numV N' D' k')))]):=by
 have b1:=gQ_ N D k hN hD hk
 have b2:=gQ_ N' D' k' hN' hD' hk'
 obtain⟨v,hv⟩:∃v,v=numV N D k:=⟨_,rfl⟩
 obtain⟨w,hw⟩:∃w,w=numV N' D' k':=⟨_,rfl⟩
 rw[←hv] at b1⊢
 rw[←hw] at b2⊢
 refine f_n Tryz.func12 ?_ ?_
 exact aa_ (ao_ fun c hc=>(List.mem_append.1 hc).elim (cC_ _ _ _ c) (cC_ _ _ _ c)) ab_
 refine r_z 3 ?_
 refine r_c 10 (b1) ?_
 refine a_z ?_
 refine r_c 10 (b2) ?_
 refine a_z ?_
 refine ac_ (r_d hmix 8 ?_)
 refine a_8 ?_
 refine ak_ (n_k ?_)
 refine ag_ (Fin.many ⟨_,_,rfl,⟨_,_,_,_,_,rfl,rfl,rfl,.inl ⟨tg_37.h,_,ts_37.h,nle rfl,rfl⟩⟩,⟨_,_,rfl,⟨_,_,_,_,_,rfl,rfl,rfl,.inl ⟨tg_44.h,_,ts_44.h,nle rfl,rfl⟩⟩,rfl⟩⟩ (nle rfl) ?_)
 exact af_ (an_ au_ (ca_ _ _)) (af_ (an_ au_ (ao_ fun c hc=>(List.mem_append.1 hc).elim (bs_ _ c) (bs_ _ c))) ap_)
end Go.Proofs.YtdjfjpeoddmamaaGreatDoor
namespace Go.Proofs.YtdjfjpeoddmamaaGreatDoor
open Go.Abs Go.Deep Go.RowKit Go.WideShapes
set_option maxRecDepth 20000
theorem tyu3:(Tryz.prog).underlying 3=some (.int .i64):=by kernel_rfl
end Go.Proofs.YtdjfjpeoddmamaaGreatDoor
namespace Go.Proofs.YtdjfjpeoddmamaaGreatDoor
open Go.Abs Go.ChangeShapes Go.Deep Go.RowKit Go.WideShapes
set_option maxRecDepth 20000
theorem tyG:∃f0 f1,(Tryz.prog).underlying 25=some (.struct #[f0,f1])∧f0.type=23∧f0.offset=0∧f1.type=23∧f1.offset=3:=
 ⟨{name:= "Low",type:=23,offset:=0,embedded:=false,tag:= "",pkgPath:= "",byteOffset:=0},{name:= "High",type:=23,offset:=3,embedded:=false,tag:= "",pkgPath:= "",byteOffset:=24},by kernel_rfl,rfl,rfl,rfl,rfl⟩
theorem tycG:(Tryz.prog).cellsOf 25=6:=by kernel_rfl
end Go.Proofs.YtdjfjpeoddmamaaGreatDoor
namespace Go.Proofs.YtdjfjpeoddmamaaGreatDoor
open Go.Abs
set_option maxRecDepth 20000
set_option maxHeartbeats 2000000
abbrev gapC(g:NRow×NRow):List AV:=nuC g.1.1 g.1.2.1 g.1.2.2++nuC g.2.1 g.2.2.1 g.2.2.2
theorem ob_(g:NRow×NRow):∀c∈gapC g,Closed c:=fun c hc=>(List.mem_append.1 hc).elim (cC_ _ _ _ c) (cC_ _ _ _ c)
structure Wt where
 m:List Rat
 l:Bool
 r:Bool
 a:Rat
 b:Rat
 x:RQ
 y:RQ
def wZt:Wt:=⟨[],false,false,0,0,r0,r0⟩
abbrev Wt.A(w:Wt):List AV:=wC w.m w.l w.r (qC w.a) (qC w.b)
abbrev Wt.B(w:Wt):List AV:=rwC w.m w.l w.r w.x w.y
theorem Wt.cA(w:Wt):∀c∈w.A,Closed c:=aR_ (.inr ⟨_,rfl⟩) (.inr ⟨_,rfl⟩)
structure Wt.Ok (w:Wt):Prop where
 ox:rok w.x
 oy:rok w.y
 ex:w.x.1=w.a
 ey:w.y.1=w.b
 qa:qs w.a≤256
 qb:qs w.b≤256
 bd:bdL w.m 2000000000
 len:w.m.length≤70
theorem wZt_ok:wZt.Ok:=⟨io_,io_,rfl,rfl,by decide,by decide,(fun q hq=>by cases hq),by decide⟩
theorem jz_{f:Nat→Rat}{n s:Nat}(h:∀k,k< n→qs (f k)≤s):bdL (sqL f n) s:=fun q hq=>by
 obtain⟨i,hi,rfl⟩:=List.mem_map.1 hq
 exact h i (List.mem_range.1 hi)
end Go.Proofs.YtdjfjpeoddmamaaGreatDoor
