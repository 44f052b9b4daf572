/- Part O30 of the proof. -/
import Derived.Test.YtdjfjpeoddmamaaGreatDoorO29
import Derived.ChangeSame
set_option linter.all false
namespace Go.Proofs.YtdjfjpeoddmamaaGreatDoor
open Go.Abs
set_option maxRecDepth 100000
set_option maxHeartbeats 2000000
def smsS(T:List Rat)(n:Nat):Nat→AState
 |k=>⟨[(3,.arr (pE T)),(4,i64 n),(5,.lsl 1 0 (k+1) none 3),(6,i64 ((k+1:Nat):Int))],[(1,some ⟨35,3,pE (suL T n k)⟩)],2,57⟩
def smsI(T:List Rat)(n:Nat)(k:Nat):Nat→AState
 |i=>⟨[(3,.arr (pE T)),(4,i64 n),(5,.lsl 1 0 (k+1) none 3),(6,i64 ((k+1:Nat):Int)),(7,.lptr 2 0 0),(8,i64 ((i+1:Nat):Int))],[(1,some ⟨35,3,pE (suL T n k)⟩),(2,some ⟨35,3,[qC (nwA T n (suL T n k) (k+1) i)]⟩)],3,57⟩
theorem sJ_(p w:List Rat)(n:Nat)(hl:(trimQ p).length=n+1)(hn:1≤n)(hn2:n≤1000)(hpl:p.length≤1099511627776)(hok:∀k,k< n- 1→okSu (trimQ p) n k):
    FS 188 [.agg (ruC p w)] (.arr (pE (suL (trimQ p) n (n- 1)))):=by
 have htr:=cQ_ p (by omega);have hdg:=bC_ (trimQ p) (by omega);rw[show degP (trimQ p)=(n:Int) by rw[tv_];unfold degP;rw[hl];omega] at hdg;have hW:=bn_ p w;have hw0:=aV_ (n:Int) (by omega);generalize trimQ p=T at *
 refine f_c Tryz.func188 ?_;refine r_z 2 ?_;refine r_c 4 (htr) ?_;refine a_z ?_;refine r_c 3 (hdg) ?_;refine a_z ?_;refine r_c 4 (hw0) ?_;refine a_z ?_;refine aa_ (r_z 1 ?_);refine aw_ (smsS T n) (fun k=>k=n- 1) ?_ ?_;refine ac_ (ap_ (smsS T n) (fun k=>n- k) (fun k=>k≤n- 1) 0 (Nat.zero_le _) ?_ ?_);rw[smsS.eq_1];have:=(aK_ [((n:Int):Rat)]);exact s_f [(1,5)];intro k hk;rw[smsS.eq_1];have hsl:=dq_ T n k;by_cases hlt:k< n- 1;obtain⟨o1,o2⟩:=hok k hlt
 have hgt:(pE T)[((n:Int)- ((k+1:Nat):Int)).toNat]?=some (qC (coP T (n- (k+1)))):=by
  rw[show((n:Int)- ((k+1:Nat):Int)).toNat=n- (k+1) by omega];exact bK_ (a9_ (by omega))
 have hm1:=dp_ (coP T (n- (k+1))) (((k+1:Nat):Int):Rat) o1;refine aa_ (q_z 3 ?_);refine cT (ae_ (aa_ (ac_ (aa_ (r_d hmix 11 ?_)))));refine a_4 ?_;refine i_x hgt ?_;refine l_x hgt ?_;refine c_s (aV_ ((k+1:Nat):Int) (by omega)) ?_;refine c_s (hm1) ?_;refine a_2 ?_;refine ai_ (n_k ?_);refine aa_ (r_z 1 ?_);refine aw_ (fun _:Unit=>smsI T n k k) (fun _=>True) ?_ ?_;refine ac_ (ap_ (smsI T n k) (fun i=>k- i) (fun i=>i≤k) 0 (Nat.zero_le _) ?_ ?_);rw[smsI.eq_1];exact s_x [(2,7)] (fun hs=>au_f) (fun hs=>e_11);intro i hi;rw[smsI.eq_1];by_cases hlt2:i< k;obtain⟨o3,o4⟩:=o2 i hlt2
 have hg1:(pE T)[((n:Int)- ((i+1:Nat):Int)).toNat]?=some (qC (coP T (n- (i+1)))):=by
  rw[show((n:Int)- ((i+1:Nat):Int)).toNat=n- (i+1) by omega];exact bK_ (a9_ (by omega))
 have hg2:∀e,e=k+1- (i+1)→(pE (suL T n k))[e]?=some (qC (coP (suL T n k) (k+1- (i+1)))):=fun e he=>by
  rw[he];exact bK_ (a9_ (by omega))
 refine aa_ (q_z 3 ?_);refine cT (ae_ (aa_ (ac_ (r_d hmix 16 ?_))));refine a_5 ?_;refine i_x hg1 ?_;refine l_x hg1 ?_;refine a_5 ?_
 first|refine aq_ (.load_l rfl rfl (hg2 _ (by omega)) TG.h TS.h (nle rfl)) rfl rfl ?_|refine aq_ (.load_a rfl (hg2 _ (by omega)) TG.h TS.h (nle rfl)) rfl rfl ?_
 refine c_s (dp_ _ _ o3) ?_;refine c_s (gt_ _ _ o4) ?_;refine a_1 ?_;refine ai_ (n_k ?_);refine r_m 3 ?_;refine a_z ?_;refine⟨i+1,by omega,hlt2,?_⟩;rw[smsI.eq_1];exact s_x [] (fun hs=>au_f) (fun hs=>e_11);have hge:i=k:=by omega
 subst hge;refine aa_ (q_z 3 ?_);refine cF (am_ ⟨(),trivial,?_⟩)
 try simp only[smsI.eq_1]
 exact s_x [] (fun hs=>au_f) (fun hs=>e_11);rintro _ _
 try simp only[smsI.eq_1]
 refine r_m 6 ?_;refine c_s (h0_ _) ?_;refine a_z ?_;refine r_m 3 ?_;refine a_z ?_;refine⟨k+1,by omega,by omega,?_⟩;rw[smsS.eq_1];have e:pE (suL T n k)++[qC (-(nwA T n (suL T n k) (k+1) k))]=pE (suL T n (k+1)):=by rw[suL,iP_]
 refine s_x [(1,5)] (fun hs=>au_f) (fun hs=>?_) ?_
 ·repeat' (first|exact az_|refine h_c ?_ ?_|exact aC_ hs e (aK_ _)|exact au_e)
 ·repeat' (first|exact ShrL.nil|refine ShrL.cons rfl rfl rfl rfl (by first|(simp[dq_])|rfl|(simp;done)|(simp <;> omega)) ?_)
 have hge:k=n- 1:=by omega
 refine aa_ (q_z 3 ?_);refine cF (am_ ⟨k,hge,?_⟩)
 try simp only[smsS.eq_1]
 exact s_f [];rintro k hk;subst hk;have hsl:=dq_ T n (n- 1);rw[smsS.eq_1];refine r_z 2 ?_;exact af_ (Fin.tmpS rfl rfl rfl (by rw[mn_,hsl]) (aK_ _))
theorem mF_(p w m:List Rat)(l r:Bool)(a b:Rat)(hcw:FS 31 [.agg (wC m l r (qC a) (qC b))] (i64 0))(hck:FS 94 [.agg (ruC p w)] (i64 0)):
    FS 162 [.agg (wC m l r (qC a) (qC b)),.agg (ruC p w)] (i64 0):=by
 have hWc:∀c∈wC m l r (qC a) (qC b),Closed c:=a7_ (.inr ⟨a,rfl⟩) (.inr ⟨b,rfl⟩);refine f_n Tryz.func162 ?_ ?_;exact ab_ (au_ hWc) (ab_ (au_ (bn_ p w)) ah_);refine r_z 3 ?_;refine aa_ (r_c 3 (hcw) ?_);refine a_z ?_;refine s_r 2 ?_;refine a_1 ?_;refine o_0 (.bin rfl rfl (vF bd_ (rfl))) ?_;refine ai_ ?_;refine cF (ae_ (r_c 3 (hck) ?_));refine a_z ?_;exact af_ (t_e (ad_ _))
theorem ks_ (p w m:List Rat) (l r:Bool) (a b:Rat) (d:Nat) (v:Nat→Rat) (hbo:FS 162 [.agg (wC m l r (qC a) (qC b)),.agg (ruC p w)] (i64 0))
    (hap:∀k,k≤d→FS 103 [.agg (ruC p w),.arr (pE (List.replicate k 0++[((1:Int):Rat)]))] (.agg (qC (v k)))) (hd:d< m.length) (hml:m.length≤1000) (hm:∀q∈m,sm q) (hv:∀k,k≤d→sm (v k))
    (heq:∀k,k< d→v k=coP m k) (hne:v d≠coP m d):
    FS 61 [.agg (wC m l r (qC a) (qC b)),.agg (ruC p w)] (.tup [i64 ((d:Int)- 1),bln true,i64 0]):=by
 have hWc:∀c∈wC m l r (qC a) (qC b),Closed c:=a7_ (.inr ⟨a,rfl⟩) (.inr ⟨b,rfl⟩);refine f_n Tryz.func61 ?_ ?_;exact ab_ (au_ hWc) (ab_ (au_ (bn_ p w)) ah_);refine r_z 5 ?_;refine aa_ (r_c 4 (hbo) ?_);refine a_z ?_;refine s_r 2 ?_;refine a_1 ?_;refine o_0 (.bin rfl rfl (vF bd_ (rfl))) ?_;refine ai_ ?_;refine cF (ae_ (aa_ (r_z 4 ?_)));refine aw_ (fun _:Unit=>⟨[],[],1,41⟩) (fun _=>False) ?_ ?_;refine ac_ (ap_ (fun k:Nat=>⟨[(3,.lptr 1 0 0),(17,.arr (pE m)),(18,i64 m.length),(19,i64 k)],[(1,some ⟨57,2,[ruC p w]⟩)],2,41⟩) (fun k=>d+1- k) (fun k=>k≤d) 0 (Nat.zero_le _) ?_ ?_);have:=bn_ p w;exact s_f [(1,3)];intro k hk;have hgm:(pE m)[((k:Nat):Int).toNat]?=some (qC (coP m k)):=bK_ (a9_ (by omega));have hap2:=FSpec.zerosQ (L:=[((1:Int):Rat)]) (hap k hk) (au_ (bn_ p w));have hcm:=jm_ (v k) (coP m k) (hv k hk) (h8_ hm k);refine q_z 1 ?_;refine aa_ (cT (ae_ (aa_ (ac_ (s_r 6 ?_)))));refine a_1 ?_;refine i_x hgm ?_;refine l_x hgm ?_;refine a_z ?_;by_cases hkd:k< d
 ·rw[show cmpQ (v k) (coP m k)=0 by unfold cmpQ;rw[heq k hkd,if_neg (by grind),if_pos rfl]] at hcm
  refine aa_ (r_d hmix 10 ?_);refine c_s (aV_ 1 (by decide)) ?_;refine a_1 ?_;refine o_2 (.append_l rfl rfl rfl te_55.h rfl rfl rfl rfl rfl d_o (jX_ _) rfl rfl (.lsl rfl (nle rfl)) TZ.h rfl TB.h d_o (by first|(simp[maxLen];done)|(simp[maxLen];omega))) ?_;refine o_1 (.callS1 rfl rfl rfl (.keep (.shut rfl d_n (.nil))) rfl ((FSpec.argE2 hap2 (by rw[List.drop_zero];exact List.take_of_length_le (by simp))))) ?_;refine c_s (hcm) ?_;refine o_0 (.bin rfl rfl (vF bd_ (rfl))) ?_;refine ai_ (n_k ?_);refine cF (ae_ (r_m 2 ?_));refine a_z ?_;refine⟨k+1,by omega,hkd,?_⟩;have:=bn_ p w;exact s_f []
 ·have hge:k=d:=by omega
  subst hge
  have hcn:¬cmpQ (v k) (coP m k)=0:=by
   unfold cmpQ;split;decide
   first|decide|(rw[if_neg hne];decide)
  refine aa_ (r_d hmix 10 ?_);refine c_s (aV_ 1 (by decide)) ?_;refine a_1 ?_;refine o_2 (.append_l rfl rfl rfl te_55.h rfl rfl rfl rfl rfl d_o (jX_ _) rfl rfl (.lsl rfl (nle rfl)) TZ.h rfl TB.h d_o (by first|(simp[maxLen];done)|(simp[maxLen];omega))) ?_;refine o_1 (.callS1 rfl rfl rfl (.keep (.shut rfl d_n (.nil))) rfl ((FSpec.argE2 hap2 (by rw[List.drop_zero];exact List.take_of_length_le (by simp))))) ?_;refine c_s (hcm) ?_;refine o_0 (.bin rfl rfl (vT bd_ (bne_iff_ne.2 hcn))) ?_;refine ai_ (n_k ?_);refine cT (r_z 5 ?_);refine af_ (Fin.many ⟨_,_,rfl,rfl,⟨_,_,rfl,rfl,⟨_,_,rfl,rfl,rfl⟩⟩⟩ (nle rfl) ?_);exact CvL.clo ar_ (ab_ (ad_ _) (ab_ (ad_ _) (ab_ (ad_ _) ah_)))
 rintro _ h;exact h.elim
theorem s2_ (m m2:List Rat) (l r:Bool) (a b e:Rat) (n:Nat) (hn:1≤n) (hn2:n≤1000) (hti:FS 121 [.agg (wC m l r (qC a) (qC b)),.arr (pE (enM e))] (.agg (wC m2 l r (qC a) (qC b))))
    (hok:∀k,k< n- 1→okLd m2 k) (hmu:okMul (enM e) (ldr m2 (n- 1)).1):
    FS 120 [bQ e,bW m l r a b,bIn n] (.tup [.arr (pE (mulP (enM e) (ldr m2 (n- 1)).1)),bln true]):=by
 have hcl:=lu_ m2 l r a b (n- 1) (by omega) hok;rw[show((n- 1:Nat):Int)=(n:Int)- 1 by omega] at hcl;have hbw:=eY_ m l r a b;have hbi:=dz_ n;refine f_n Tryz.func120 ?_ ?_;exact ab_ (c4_ e) (ab_ hbw (ab_ (dz_ n) ah_));refine r_z 2 ?_;refine r_c 5 (h0_ e) ?_;refine c_s (aV_ 1 (by decide)) ?_;refine a_z ?_;refine AWp.ent (st':=⟨[(1,bW m l r a b),(2,bIn n),(5,.arr (pE (enM e)))],[],1,41⟩) ?_ ?_;refine s_x [] (fun hs=>?_) (fun hs=>?_)
 ·repeat' (first|exact a2_|refine aH_ rfl ?_ ?_|exact d0_ hs rfl (fun _ _ h=>by cases h) rfl rfl|exact au_c)
 ·repeat' (first|exact az_|refine h_c ?_ ?_|exact au_e|refine al_ ?_|exact ao_|refine ag_ ?_ ?_|exact d0_ hs rfl (fun _ _ h=>by cases h) rfl rfl|exact au_c)
 refine aa_ (r_d hmix 11 ?_);refine c_s (hti) ?_;refine c_s (hcl) ?_;refine a_5 ?_;refine ai_ (n_k ?_);refine aa_ (r_z 2 ?_);refine cF (ae_ (r_c 9 (eH_ (enM e) _ hmu) ?_));refine a_z ?_;refine af_ (Fin.many ⟨_,_,rfl,rfl,⟨_,_,rfl,rfl,rfl⟩⟩ (nle rfl) ?_);exact ag_ (an_ ar_ (aD_ _)) (ag_ (an_ ar_ (ad_ _)) ao_)
theorem fs_Radau (m:List Rat) (l r:Bool) (a b e:Rat) (n:Nat) (p wt:List Rat) (hn:1≤n∧n≤25) (h1:FS 120 [bQ e,bW m l r a b,bIn n] (.tup [.arr (pE p),bln true])) (hm:2* n- 1≤m.length∧m.length≤64) (hab:l=true→r=true→a< b) (ha:sm a) (hb:sm b)
    (hr:FS 160 [.arr (pE p)] (bln true)) (hpb:bdL p 68719476736) (hp0:trimQ p≠[]) (hpl:p.length≤1099511627776)
    (hon:FS 161 [.agg (wC m l r (qC a) (qC b)),.arr (pE (aG_ p))] (.agg (ruC (aG_ p) wt))):
    FS 36 [.agg (wC m l r (qC a) (qC b)),i64 n,.agg (qC e)] (.tup [.agg (ruC (aG_ p) wt),i64 0]):=by
 have hWc:∀c∈wC m l r (qC a) (qC b),Closed c:=a7_ (.inr ⟨a,rfl⟩) (.inr ⟨b,rfl⟩);have hra:=jj_ (n:Nat) 1 25 (by omega);have hcc:∀c∈[bQ e,bW m l r a b,bIn n],Closed c:=ab_ (c4_ e) (ab_ (eY_ m l r a b) (ab_ (dz_ n) ah_));have hna:=lo_ m l r a b (2* n- 1) 120 [bQ e,bW m l r a b,bIn n] p wt hcc (by omega) hab ha hb hm.1 h1 hr hpb hp0 hpl hon;rw[show((2* n- 1:Nat):Int)=2* (n:Int)- 1 by omega] at hna;refine f_c Tryz.func36 ?_;refine r_z 5 ?_;refine AWp.ent (st':=⟨[(3,bW m l r a b),(4,bIn n),(5,bQ e),(6,.lptr 1 0 0)],[(1,some ⟨57,2,[[.emp,.emp]]⟩)],2,18⟩) ?_ ?_;refine s_x [(1,6)] (fun hs=>?_) (fun hs=>?_)
 ·repeat' (first|exact a2_|refine aH_ rfl ?_ ?_|exact Cv.boxp hs rfl (aW_ rfl) rfl hWc|exact Cv.boxp hs rfl (aW_ rfl) rfl (br_ e)|exact Cv.boxp hs rfl (aW_ rfl) rfl (ab_ (ad_ _) ah_)|exact au_c)
 ·repeat' (first|exact az_|refine h_c ?_ ?_|exact au_e|refine al_ ?_|exact ao_|refine ag_ ?_ ?_|exact Cv.boxp hs rfl (aW_ rfl) rfl hWc|exact Cv.boxp hs rfl (aW_ rfl) rfl (br_ e)|exact Cv.boxp hs rfl (aW_ rfl) rfl (ab_ (ad_ _) ah_)|exact au_c)
 refine aa_ (r_d hmix 12 ?_);refine c_s (hra) ?_;refine c_s (hna) ?_;refine a_4 ?_;refine ai_ (n_k ?_);refine af_ (Fin.many ⟨_,_,rfl,⟨_,_,_,_,_,rfl,rfl,rfl,.inl ⟨TG.h,_,TS.h,nle rfl,rfl⟩⟩,⟨_,_,rfl,rfl,rfl⟩⟩ (nle rfl) ?_);exact ag_ (an_ ar_ (au_ (bn_ _ _))) (ag_ (an_ ar_ (ad_ _)) ao_)
theorem jT_{r:Ren}{hp hp':Nat→Option ABlk}(h:Shr r hp hp')(L:List Rat):∀n,CvLL r hp hp' (List.replicate n zC++pE L) (pE (List.replicate n 0++L))
 |0=>bi_ h (aK_ L)
 |n+1=>CvLL.cons (ys:=pE (List.replicate n 0++L)) (fZ_ h) (jT_ h L n)
def krO(A:AV)(B:AV)(X:AV)(m:List Rat)(n:Nat):Nat→AState
 |k=>⟨[(0,A),(1,B),(4,X),(6,.arr (pE m)),(7,.lsl 1 0 (n+2) none 3),(52,i64 ((n:Int)+1)),(53,i64 k)],[(1,some ⟨35,3,pE (krE m n k)⟩)],2,94⟩
def krI(A:AV)(B:AV)(X:AV)(m:List Rat)(n:Nat)(k:Nat):Nat→AState
 |j=>⟨[(0,A),(1,B),(4,X),(6,.arr (pE m)),(7,.lsl 1 0 (n+2) none 3),(52,i64 ((n:Int)+1)),(53,i64 k),(8,i64 k),(9,.lptr 2 0 0),(57,.lsl 1 0 (n+2) none 3),(58,i64 ((n+2:Nat):Int)),(59,i64 j)],[(1,some ⟨35,3,pE (krE m n k)⟩),(2,some ⟨35,3,[qC (krS (krE m n k) m k j)]⟩)],3,94⟩
theorem n9_ (m m2:List Rat) (l r:Bool) (a b:Rat) (n:Nat) (hn:1≤n∧n≤12) (hok:∀k,k< n→okLd m k) (o1:okMul (ldr m n).1 (ldr m n).1) (o2:okOf m (mulP (ldr m n).1 (ldr m n).1)) (o3:0< ldN m (ldr m n).1)
    (hti:FS 121 [.agg (wC m l r (qC a) (qC b)),.arr (pE (ldr m n).1)] (.agg (wC m2 l r (qC a) (qC b)))) (hm2:2* n+2≤m2.length) (hm0:coP m2 n≠0) (hkr:∀k,k≤n→okKr m2 n k)
    (o4:okMul (ldr m n).1 (krE m2 n (n+1))):
    FS 123 [bW m l r a b,bIn n] (.tup [.arr (pE (mulP (ldr m n).1 (krE m2 n (n+1)))),bln true]):=by
 have hcl:=lu_ m l r a b n (by omega) hok;have hbw:=eY_ m l r a b;have hbi:=dz_ n;obtain⟨X,hX⟩:∃X,X=AV.aptr [ldF m l r a b n] 0 0:=⟨_,rfl⟩;have hXc:Closed X:=by rw[hX];exact de_ fun e he=>by rw[List.mem_singleton.1 he];exact eV_ m l r a b n
 have hsp:=sgZ_num_gt.2 o3;refine f_c Tryz.func123 ?_;refine r_z 2 ?_;refine r_c 8 (hcl) ?_;refine a_z ?_;refine aa_ (aa_ (r_d hmix 20 ?_));refine c_s (eH_ _ _ o1) ?_;refine c_s (pn_ m _ l r a b o2) ?_;refine c_s (bZ_ (ldN m (ldr m n).1)) ?_;refine d_2 ?_;refine ai_ (n_k ?_);refine cF (ae_ (aa_ (r_d hmix 8 ?_)));refine c_s (hti) ?_;refine a_2 ?_;refine ai_ (n_k ?_);refine aa_ (r_d hmix 7 ?_);refine c_s (aV_ 1 (by decide)) ?_;refine a_1 ?_;refine o_2 (.append_l rfl rfl rfl te_55.h rfl rfl rfl rfl rfl d_o (jX_ _) rfl rfl (.lsl rfl (nle rfl)) TZ.h rfl TB.h d_o (by first|(simp[maxLen];done)|(simp[maxLen];omega))) ?_;refine a_1 ?_;refine ai_ (n_k ?_);refine aa_ (r_z 3 ?_);refine aw_ (fun _:Unit=>⟨[(4,X),(7,.arr (pE (krE m2 n (n+1))))],[],1,94⟩) (fun _=>True) ?_ ?_;refine ac_ (ap_ (krO (bW m l r a b) (bIn n) X m2 n) (fun k=>n+1- k) (fun k=>k≤n+1) 0 (Nat.zero_le _) ?_ ?_);rw[krO.eq_1,hX];rw[hX] at hXc;refine s_x [(1,7)] (fun hs=>au_f) (fun hs=>?_) ?_
 ·repeat' (first|exact az_|refine h_c ?_ ?_|exact jT_ hs [((1:Int):Rat)] (n+1)|exact au_e)
 ·repeat' (first|exact ShrL.nil|refine ShrL.cons rfl rfl rfl rfl (by first|(simp[gb_])|rfl|(simp;done)|(simp <;> omega)) ?_)
 intro k hk;rw[krO.eq_1];have hel:=gb_ m2 n k;have hel2:=gb_ m2 n (k+1);by_cases hlt:k< n+1;obtain⟨c1,c2⟩:=hkr k (by omega);have hgm:(pE m2)[((n:Nat):Int).toNat]?=some (qC (coP m2 n)):=bK_ (a9_ (by omega));refine q_z 1 ?_;refine aa_ (cT (ae_ (aa_ (ac_ (r_z 2 ?_)))));refine r_z 3 ?_;refine aa_ (r_z 3 ?_);refine aw_ (fun _:Unit=>krI (bW m l r a b) (bIn n) X m2 n k (n+2)) (fun _=>True) ?_ ?_;refine ac_ (ap_ (krI (bW m l r a b) (bIn n) X m2 n k) (fun j=>n+2- j) (fun j=>j≤n+2) 0 (Nat.zero_le _) ?_ ?_);rw[krI.eq_1];refine s_x [(2,9)] (fun hs=>au_f) (fun hs=>?_)
 ·repeat' (first|exact az_|refine h_c ?_ ?_|exact bi_ hs (aK_ _)|exact al_ (fZ_ hs)|exact au_e)
 intro j hj;rw[krI.eq_1];by_cases hlt2:j< n+2;obtain⟨c3,c4⟩:=c1 j hlt2
 have hg1:∀e,e=j→(pE (krE m2 n k))[e]?=some (qC (coP (krE m2 n k) j)):=fun e he=>by
  rw[he];exact bK_ (a9_ (by omega))
 have hg2:(pE m2)[((j:Int)+(k:Int)).toNat]?=some (qC (coP m2 (j+k))):=by
  rw[show((j:Int)+(k:Int)).toNat=j+k by omega];exact bK_ (a9_ (by omega))
 refine q_z 1 ?_;refine aa_ (cT (ae_ (aa_ (ac_ (s_r 6 ?_)))));refine a_2 ?_
 first|refine aq_ (.load_l rfl rfl (hg1 _ (by omega)) TG.h TS.h (nle rfl)) rfl rfl ?_|refine aq_ (.load_a rfl (hg1 _ (by omega)) TG.h TS.h (nle rfl)) rfl rfl ?_
 refine a_z ?_;refine r_d hmix 11 ?_;refine a_6 ?_;refine i_x hg2 ?_;refine l_x hg2 ?_;refine c_s (dp_ _ _ c3) ?_;refine c_s (gt_ _ _ c4) ?_;refine a_1 ?_;refine ai_ (n_k ?_);refine r_m 2 ?_;refine a_z ?_;refine⟨j+1,by omega,hlt2,?_⟩;rw[krI.eq_1];exact s_x [] (fun hs=>au_f) (fun hs=>e_11);have hge:j=n+2:=by omega
 subst hge;refine q_z 1 ?_;refine aa_ (cF (am_ ⟨(),trivial,?_⟩))
 try simp only[krI.eq_1]
 exact s_x [] (fun hs=>au_f) (fun hs=>e_11);rintro _ _
 try simp only[krI.eq_1]
 have hg3:∀e,e=n- k→(pE (krE m2 n k))[e]?=some (qC (coP (krE m2 n k) (n- k))):=fun e he=>by
  rw[he];exact bK_ (a9_ (by omega))
 refine r_d hmix 13 ?_;refine a_7 ?_;refine i_x hgm ?_;refine l_x hgm ?_;refine c_s (eg_ _ _ hm0 c2) ?_;refine c_s (h0_ _) ?_;refine a_1 ?_;refine o_1n (.store rfl rfl (hg3 _ (by omega)) rfl rfl rfl TS.h (nle rfl)) ?_;refine ai_ (n_k ?_);refine r_m 2 ?_;refine a_z ?_;refine⟨k+1,by omega,hlt,?_⟩;rw[krO.eq_1]
 have e:∀e,e=n- k→(pE (krE m2 n k)).set e (qC (-(krS (krE m2 n k) m2 k (n+2) / coP m2 n)))=pE (krE m2 n (k+1)):=fun e he=>by
  rw[he,iQ_];rfl
 refine s_x [] (fun hs=>au_f) (fun hs=>?_)
 ·repeat' (first|exact az_|refine h_c ?_ ?_|exact aC_ hs (e (0+((n:Int)- (k:Int)).toNat) (by omega)) (aK_ _)|exact au_e)
 have hge:k=n+1:=by omega
 subst hge;refine q_z 1 ?_;refine aa_ (cF (am_ ⟨(),trivial,?_⟩));refine s_x [] (fun hs=>?_) (fun hs=>?_)
 ·repeat' (first|exact a2_|refine aH_ rfl ?_ ?_|exact an_ hs hXc|exact d0_ hs rfl (fun _ _ h=>by cases h) rfl (by rw[hel])|exact au_c)
 ·repeat' (first|exact az_|refine h_c ?_ ?_|exact au_e|refine al_ ?_|exact ao_|refine ag_ ?_ ?_|exact an_ hs hXc|exact d0_ hs rfl (fun _ _ h=>by cases h) rfl (by rw[hel])|exact au_c)
 rintro _ _;rw[hX];refine r_c 8 (eH_ _ _ o4) ?_;refine a_z ?_;refine af_ (Fin.many ⟨_,_,rfl,rfl,⟨_,_,rfl,rfl,rfl⟩⟩ (nle rfl) ?_);exact ag_ (an_ ar_ (aD_ _)) (ag_ (an_ ar_ (ad_ _)) ao_)
theorem qy_ (m:List Rat) (l r:Bool) (a b:Rat) (n:Nat) (p wt:List Rat) (hn:1≤n∧n≤12) (h1:FS 123 [bW m l r a b,bIn n] (.tup [.arr (pE p),bln true])) (hm:3* n+2≤m.length∧m.length≤64) (hab:l=true→r=true→a< b) (ha:sm a) (hb:sm b)
    (hr:FS 160 [.arr (pE p)] (bln true)) (hpb:bdL p 68719476736) (hp0:trimQ p≠[]) (hpl:p.length≤1099511627776)
    (hon:FS 161 [.agg (wC m l r (qC a) (qC b)),.arr (pE (aG_ p))] (.agg (ruC (aG_ p) wt))):
    FS 38 [.agg (wC m l r (qC a) (qC b)),i64 n] (.tup [.agg (ruC (aG_ p) wt),i64 0]):=by
 have hWc:∀c∈wC m l r (qC a) (qC b),Closed c:=a7_ (.inr ⟨a,rfl⟩) (.inr ⟨b,rfl⟩);have hra:=jj_ (n:Nat) 1 12 (by omega);have hcc:∀c∈[bW m l r a b,bIn n],Closed c:=ab_ (eY_ m l r a b) (ab_ (dz_ n) ah_);have hna:=lo_ m l r a b (3* n+2) 123 [bW m l r a b,bIn n] p wt hcc (by omega) hab ha hb hm.1 h1 hr hpb hp0 hpl hon;rw[show((3* n+2:Nat):Int)=3* (n:Int)+2 by omega] at hna;refine f_c Tryz.func38 ?_;refine r_z 4 ?_;refine AWp.ent (st':=⟨[(2,bW m l r a b),(3,bIn n),(4,.lptr 1 0 0)],[(1,some ⟨57,2,[[.emp,.emp]]⟩)],2,16⟩) ?_ ?_;exact s_x [(1,4)] (fun hs=>e_36) (fun hs=>e_37);refine aa_ (r_d hmix 12 ?_);refine c_s (hra) ?_;refine c_s (hna) ?_;refine a_4 ?_;refine ai_ (n_k ?_);refine af_ (Fin.many ⟨_,_,rfl,⟨_,_,_,_,_,rfl,rfl,rfl,.inl ⟨TG.h,_,TS.h,nle rfl,rfl⟩⟩,⟨_,_,rfl,rfl,rfl⟩⟩ (nle rfl) ?_);exact ag_ (an_ ar_ (au_ (bn_ _ _))) (ag_ (an_ ar_ (ad_ _)) ao_)
section
variable {a b:Rat}(h:a< b){k:Nat}(hk:1≤k∧k≤4)(ha:qs a≤20)(hb:qs b≤20)
include h hk ha hb
end
section
variable {a b a' b':Rat}(h:a< b)(h':a'< b'){k:Nat}(hk:1≤k∧k≤4)(ha:qs a≤20)(hb:qs b≤20)(ha':qs a'≤20)(hb':qs b'≤20)
include h h' hk ha hb ha' hb'
end
theorem ir_(f:Nat)(p:List Rat)(b:Bool)(hf:f≤1000000)(h:realM f p=some b):FS 160 [.arr (pE p)] (bln b):=by
 unfold realM at h;cases hc:cn_ f p with
 |none=>rw[hc] at h;cases h
 |some c=>
  rw[hc,Option.bind_some] at h;split at h
  ·rename_i ho
   cases h;obtain⟨o1,o2,o3,o4,o5,o6,o7⟩:=ho;have hb1:=hi_ p;refine lh_ p _ (by omega) ⟨o6,o7⟩ o4 (lz_ f p c (-aN_ p,aN_ p) hc hf o1 o2 o3 ?_ ?_ (by omega));show cmpQ (-aN_ p) (aN_ p)≤0;unfold cmpQ;rw[if_pos (by grind)];decide;unfold g0_;rw[if_neg (by omega),if_neg (by omega)]
  cases h
theorem sQ_(f:Nat)(p m w:List Rat)(l r:Bool)(a b:Rat)(h:onM f p m=some w):FS 161 [.agg (wC m l r (qC a) (qC b)),.arr (pE p)] (.agg (ruC p w)):=by
 unfold onM at h;cases hz:bzL f (at_ p) p (c3_ ((1:Int):Rat)) [] with
 |none=>rw[hz] at h;cases h
 |some x=>
  rw[hz,Option.bind_some] at h;split at h
  ·rename_i ho
   cases h;obtain⟨o1,o2,o3,o4,o5,o6,o7,o8,o9⟩:=ho;have hp0:trimQ p≠[]:=by rw[o4];intro e;rw[e] at o5;simp at o5
   have hde:=g8_ p o9 (by omega);have hbz:=mY_ f (at_ p) p x.1 x.2 hp0 (by omega) hz o1;exact fs_on p m l r a b (p.length- 1) (mxL p) (mxL m) _ _ _ (by omega) o4 (by omega) (ch_ p) (ch_ m) (bX_ p) (bX_ m) (by omega) (by rw[show p.length- 1+2=p.length+1 by omega];exact o8) hde hbz o2 o3
  cases h
theorem fs_apM(p w f:List Rat)(h:okAp p w f):FS 103 [.agg (ruC p w),.arr (pE f)] (.agg (qC (apV p w f))):=by
 obtain⟨o1,o2,o3,o4,o5,o6,o7,o8,o9,o10⟩:=h;have hl:(trimQ p).length=dg p+1:=by unfold dg at o4⊢;omega
 have hp0:trimQ p≠[]:=by intro e;rw[e] at hl;simp at hl
 have hsu:=sJ_ p w (dg p) hl o4 o5 (by omega) o7;exact pq_ p w f (suP p) (mxL (apR p w f)) (mxL (suP p)) hsu hp0 o1 o2 o3 (ch_ _) (ch_ _) (bX_ _) (bX_ _) (by omega) (by unfold suP;rw[dq_];omega) o9
theorem t5_0:textQ (mkRat 2 5)=[50,47,53]∧okT (mkRat 2 5):=by decide+kernel
theorem t5_1:textP p13=[120,94,50,32,45,32,49,47,51]∧okPT p13:=by decide+kernel
theorem t5_2:textP [1]=[49]∧okPT [1]:=by decide+kernel
theorem t5_3:textP p35=[120,94,51,32,45,32,51,47,53,32,120]∧okPT p35:=by decide+kernel
theorem t5_4:textP w35=[45,53,47,57,32,120,94,50,32,43,32,56,47,57]∧okPT w35:=by decide+kernel
theorem t5_5:textP wRa=[51,47,52,32,120,32,43,32,53,47,52]∧okPT wRa:=by decide+kernel
theorem sm_ends:sm (-1)∧sm 1∧(-1:Rat)< 1:=by decide+kernel
theorem fs_wJac:FS 15 [.agg (spC (-1) 1),i64 0,i64 0,i64 5] (.tup [.agg (wC m6 true true (qC (-1)) (qC 1)),i64 0]):=by
 have:=oa_ (-1) 1 5 (by omega) sm_ends.2.2 (by decide) (by decide) fun k hk=>c_ok.2 k (by omega);exact this
theorem gq_:m6.length=6:=by rw[c_m6];rfl
theorem sG_:FS 16 [.agg (wC m6 true true (qC (-1)) (qC 1)),i64 2] (.tup [.agg (ruC p13 [1]),i64 0]):=by
 obtain⟨c1,c2,c3,c4,c5,c6⟩:=c_g;have:=fs_Gauss m6 true true (-1) 1 2 [1] (by omega) (fun j hj=>c_ok.1 j hj) (by rw[gq_];omega) (fun _ _=>sm_ends.2.2) sm_ends.1 sm_ends.2.1 (by rw[c1];exact ir_ 9 p13 true (by omega) c2) (by rw[c1];exact bdL_mono' c5 (by omega)) (by rw[c1];exact c6) (by rw[c1];decide) (by rw[c1,c4];exact sQ_ 9 p13 m6 [1] _ _ _ _ c3);rw[c1,c4] at this;exact this
theorem sH_:FS 94 [.agg (ruC p13 [1])] (i64 0):=
 h1_ p13 [1] (ir_ 9 p13 true (by omega) c_g.2.1) (by decide+kernel) (by decide+kernel) (by decide) (by decide)
theorem fs_wDeg:FS 61 [.agg (wC m6 true true (qC (-1)) (qC 1)),.agg (ruC p13 [1])] (.tup [i64 3,bln true,i64 0]):=by
 have hcw:=cB_ m6 true true (-1) 1 (by rw[gq_];omega) (fun _ _=>sm_ends.2.2) sm_ends.1 sm_ends.2.1;obtain⟨d1,d2,d3⟩:=c_d;have:=ks_ p13 [1] m6 true true (-1) 1 4 (fun k=>apV p13 [1] (List.replicate k 0++[((1:Int):Rat)])) (mF_ p13 [1] m6 true true (-1) 1 hcw sH_) (fun k hk=>fs_apM _ _ _ (d1 k (by omega))) (by rw[gq_];omega) (by rw[gq_];omega) (ft_ c_k.2.2.2.2.2.2.2.2.1 (by omega)) (fun k hk=>(d1 k (by omega)).2.2.2.2.2.2.2.2.2) d2 d3;exact this
theorem fs_wKr:FS 38 [.agg (wC m6 true true (qC (-1)) (qC 1)),i64 1] (.tup [.agg (ruC p35 w35),i64 0]):=by
 obtain⟨k1,k2,k3,k4,k5,k6,k7,k8,k9,k10⟩:=c_k;obtain⟨q1,q2,q3,q4,q5⟩:=c_kp;have hti:=kr_ (ldr m6 1).1 m6 true true (-1) 1 100 100 k8 k9 (by omega) (by omega) (by omega) (by rw[gq_];omega) (by rw[gq_];omega);have h1:=n9_ m6 mKr true true (-1) 1 1 (by omega) (fun k hk=>c_ok.1 k (by omega)) k1 k2 k3 hti (by omega) k5 (fun k hk=>c_kk k (by omega)) k6;rw[k7] at h1;have:=qy_ m6 true true (-1) 1 1 p35 w35 (by omega) h1 (by rw[gq_];omega) (fun _ _=>sm_ends.2.2) sm_ends.1 sm_ends.2.1 (ir_ 9 p35 true (by omega) q1) (bdL_mono' q4 (by omega)) q5 (by decide) (by rw[q3];exact sQ_ 9 p35 m6 w35 _ _ _ _ q2);rw[q3] at this;exact this
theorem fs_wRa:FS 36 [.agg (wC m6 true true (qC (-1)) (qC 1)),i64 2,.agg (qC (-1))] (.tup [.agg (ruC pRa wRa),i64 0]):=by
 obtain⟨r1,r2,r3,r4,r5,r6,r7,r8,r9⟩:=c_r;have hti:=kr_ (enM (-1)) m6 true true (-1) 1 100 100 r9 c_k.2.2.2.2.2.2.2.2.1 (by omega) (by omega) (by decide) (by rw[gq_];omega) (by rw[gq_];decide);have h1:=s2_ m6 mRa true true (-1) 1 (-1) 2 (by omega) (by omega) hti (fun k hk=>r1 k (by omega)) r2;rw[show mulP (enM (-1)) (ldr mRa (2- 1)).1=pRa from r3] at h1;have:=fs_Radau m6 true true (-1) 1 (-1) 2 pRa wRa (by omega) h1 (by rw[gq_];omega) (fun _ _=>sm_ends.2.2) sm_ends.1 sm_ends.2.1 (ir_ 9 pRa true (by omega) r4) (bdL_mono' r7 (by omega)) r8 (by decide) (by rw[r6];exact sQ_ 9 pRa m6 wRa _ _ _ _ r5);rw[r6] at this;exact this
theorem ef_:FS 11 [] (.v (.bool true)):=by
 have n1:=ei_ (-1) (by decide);rw[show((-1:Int):Rat)= -1 by decide] at n1;have n2:=ei_ 1 (by decide);rw[show((1:Int):Rat)=1 by decide] at n2;have hj:=fs_wJac;have hg:=sG_;have hd:=fs_wDeg;have hk:=fs_wKr;have hr:=fs_wRa;rw[c_m6] at hj hg hd hk hr;have q0:=pw_ (mkRat 2 5) t5_0.2;rw[t5_0.1] at q0;have q1:=g7_ p13 t5_1.2;rw[t5_1.1] at q1;have q2:=g7_ [1] t5_2.2;rw[t5_2.1] at q2;have q3:=g7_ p35 t5_3.2;rw[t5_3.1] at q3;have q4:=g7_ w35 t5_4.2;rw[t5_4.1] at q4;have q5:=g7_ wRa t5_5.2;rw[t5_5.1] at q5;refine f_c Tryz.func11 ?_;refine r_z 1 ?_;refine r_c 5 (n1) ?_;refine c_s (n2) ?_;refine a_z ?_;refine r_c 8 (hj) ?_;refine a_z ?_;refine r_c 8 (hg) ?_;refine a_z ?_;refine r_c 10 (hd) ?_;refine a_z ?_;refine r_c 8 (hk) ?_;refine a_z ?_;refine aa_ (r_d hmix 9 ?_);refine c_s (n1) ?_;refine c_s (hr) ?_;refine a_6 ?_;refine ai_ (n_k ?_);refine s_r 70 ?_;refine a_1 ?_;refine o_0 (.bin rfl rfl (vT aU_ (rfl))) ?_;refine d_2 ?_;refine aA_ rfl rfl rfl (.bin rfl rfl (vT aU_ (rfl))) rfl rfl ?_;refine d_3 ?_;refine aA_ rfl rfl rfl (.bin rfl rfl (vT aU_ (rfl))) rfl rfl ?_;refine d_3 ?_;refine aA_ rfl rfl rfl (.bin rfl rfl (vT aU_ (rfl))) rfl rfl ?_;refine d_3 ?_;refine aA_ rfl rfl rfl (.bin rfl rfl (vT aU_ (rfl))) rfl rfl ?_;refine d_5 ?_;refine aA_ rfl rfl rfl (.bin rfl rfl (vT aU_ (rfl))) rfl rfl ?_;refine c_s (q0) ?_;refine aA_ rfl rfl rfl (.bin rfl rfl (vT dZ_ rfl)) rfl rfl ?_;refine c_s (q1) ?_;refine aA_ rfl rfl rfl (.bin rfl rfl (vT dZ_ rfl)) rfl rfl ?_;refine c_s (q2) ?_
 refine aA_ rfl rfl rfl (.bin rfl rfl (vT dZ_ rfl)) rfl rfl ?_;refine d_3 ?_;refine aA_ rfl rfl rfl (.bin rfl rfl (vT aU_ (rfl))) rfl rfl ?_;refine c_s (q3) ?_;refine aA_ rfl rfl rfl (.bin rfl rfl (vT dZ_ rfl)) rfl rfl ?_;refine c_s (q4) ?_;refine aA_ rfl rfl rfl (.bin rfl rfl (vT dZ_ rfl)) rfl rfl ?_;refine c_s (q5) ?_;refine aA_ rfl rfl rfl (.bin rfl rfl (vT dZ_ rfl)) rfl rfl ?_;refine a_z ?_;exact af_ (t_e (ad_ _))
end Go.Proofs.YtdjfjpeoddmamaaGreatDoor
namespace Go.Proofs.YtdjfjpeoddmamaaGreatDoor
open Go.Abs Go.Deep Go.RowKit Go.WideShapes
set_option maxRecDepth 20000
def okN(r:NRow):Prop:=i64r r.1∧i64r r.2.1∧r.2.2≤255
end Go.Proofs.YtdjfjpeoddmamaaGreatDoor
namespace Go.Proofs.YtdjfjpeoddmamaaGreatDoor
open Go.Abs
set_option maxRecDepth 20000
def goodN(r:NRow):Bool:=decide (¬((r.2.2:Int) % 4≠0)∧¬r.1> 999999∧¬r.1< -999999∧¬r.2.1> 999999∧¬r.2.1< -999999)
def tameB(l:List NRow)(k:Nat):Bool:=l.all goodN && decide (l.length≤k)
theorem n7_(l:List NRow)(k:Nat)(hl:l.length≤9223372036854775807)(hk:k≤1000000):FS 10 [.arr (nR l),i64 k] (bln (tameB l k)):=by
 have hnl:(nR l).length=l.length:=by simp[nR]
 refine f_n Tryz.func10 ?_ ?_;exact ab_ (aL_ (b2_ l)) (ab_ (ad_ _) ah_);refine r_z 1 ?_;refine aa_ (r_z 1 ?_);refine aw_ (fun _:Unit=>⟨[(0,.arr (nR l)),(1,i64 k)],[],1,45⟩) (fun _=>l.all goodN=true) ?_ ?_;refine ac_ (ap_ (fun j:Nat=>⟨[(5,i64 ((j:Nat):Int)),(0,.arr (nR l)),(1,i64 k)],[],1,45⟩) (fun j=>l.length- j) (fun j=>j≤l.length∧(l.take j).all goodN=true) 0 ⟨Nat.zero_le _,rfl⟩ ?_ ?_);have:=(aL_ (b2_ l));exact s_f [];rintro j ⟨hj,hg⟩;by_cases hlt:j< l.length;obtain⟨r,hr⟩:∃r,l[j]?=some r:=⟨_,List.getElem?_eq_getElem hlt⟩
 have hgt:(nR l)[((j:Nat):Int).toNat]?=some (nuC r.1 r.2.1 r.2.2):=by
  rw[Int.toNat_natCast,nR,List.getElem?_map,hr];rfl
 have hbad:goodN r=false→tameB l k=false:=fun h=>by
  unfold tameB;rw[Bool.and_eq_false_iff];exact .inl (List.all_eq_false.2 ⟨r,List.mem_of_getElem? hr,by rw[h];decide⟩)
 refine aa_ (q_z 4 ?_);refine cT (ae_ (aa_ (ac_ (s_r 6 ?_))));refine a_2 ?_;refine i_x hgt ?_;refine l_x hgt ?_;refine a_z ?_;by_cases c0:((r.2.2:Int) % 4≠0);have hgd:goodN r=false:=decide_eq_false (by rintro⟨e0,e1,e2,e3,e4⟩;exact e0 c0);rw[hbad hgd];refine s_r 24 ?_;refine a_3 ?_;refine o_0 (.bin rfl rfl (vT bd_ ((by simpa using c0)))) ?_;refine a_z ?_;refine cT (r_z 1 ?_);exact af_ (t_e (ad_ _));by_cases c1:r.1> 999999;have hgd:goodN r=false:=decide_eq_false (by rintro⟨e0,e1,e2,e3,e4⟩;exact e1 c1);rw[hbad hgd];refine s_r 24 ?_;refine a_3 ?_;refine o_0 (.bin rfl rfl (vF bd_ ((by simpa using c0)))) ?_;refine d_z ?_;refine cT (r_z 1 ?_);exact af_ (t_e (ad_ _));by_cases c2:r.1< -999999;have hgd:goodN r=false:=decide_eq_false (by rintro⟨e0,e1,e2,e3,e4⟩;exact e2 c2);rw[hbad hgd];refine s_r 24 ?_;refine a_3 ?_;refine o_0 (.bin rfl rfl (vF bd_ ((by simpa using c0)))) ?_;refine d_z ?_;refine cT (r_z 1 ?_);exact af_ (t_e (ad_ _));by_cases c3:r.2.1> 999999;have hgd:goodN r=false:=decide_eq_false (by rintro⟨e0,e1,e2,e3,e4⟩;exact e3 c3);rw[hbad hgd];refine s_r 24 ?_;refine a_3 ?_;refine o_0 (.bin rfl rfl (vF bd_ ((by simpa using c0)))) ?_;refine d_z ?_;refine cT (r_z 1 ?_);exact af_ (t_e (ad_ _));by_cases c4:r.2.1< -999999;have hgd:goodN r=false:=decide_eq_false (by rintro⟨e0,e1,e2,e3,e4⟩;exact e4 c4);rw[hbad hgd];refine s_r 24 ?_;refine a_3 ?_;refine o_0 (.bin rfl rfl (vF bd_ ((by simpa using c0)))) ?_;refine d_z ?_;refine cT (r_z 1 ?_);exact af_ (t_e (ad_ _))
 have hgd:goodN r=true:=decide_eq_true ⟨c0,c1,c2,c3,c4⟩;refine s_r 24 ?_;refine a_3 ?_;refine o_0 (.bin rfl rfl (vF bd_ ((by simpa using c0)))) ?_;refine d_z ?_;refine cF (ae_ (r_m 3 ?_));refine a_z ?_;refine⟨j+1,by omega,⟨hlt,?_⟩,?_⟩;rw[cv_ hr,List.all_append,hg];simp[hgd];have:=(aL_ (b2_ l));exact s_f [];have hge:l.take j=l:=List.take_of_length_le (by omega);rw[hge] at hg;refine aa_ (q_z 4 ?_);refine cF (am_ ⟨(),hg,?_⟩);have:=(aL_ (b2_ l));exact s_f [];rintro _ hg
 have e:tameB l k=decide ((((nR l).length:Nat):Int)≤(k:Int)):=by
  unfold tameB;rw[hg,Bool.true_and,hnl];exact decide_eq_decide.2 (by omega)
 rw[e];refine r_z 5 ?_;exact af_ (t_e (ad_ _))
theorem good_qs{r:NRow}(h:goodN r=true)(hb:i64r r.1)(hd:i64r r.2.1):qs (numV r.1 r.2.1 r.2.2)≤20:=by
 obtain⟨h0,h1,h2,h3,h4⟩:=of_decide_eq_true h;have hp:r.2.2 % 4=0:=by omega
 have hN:bl r.1.natAbs≤20:=bl_le (by omega);unfold numV;rw[hp];show qs (Rat.divInt r.1 (dNum r.2.1))≤20;obtain⟨d,hde⟩:∃d,d=dNum r.2.1:=⟨_,rfl⟩;have hd0:d≠0:=by rw[hde];unfold dNum;split <;> omega
 have hdb:bl d.natAbs≤20:=by rw[hde];unfold dNum;split <;> exact bl_le (by omega)
 rw[←hde];by_cases hn:d< 0;rw[gf_ _ d hn];exact c6_ (by omega) (by rw[Int.natAbs_neg];exact hN) (by omega);rw[ge_ _ d (by omega)];exact c6_ (by omega) hN (by omega)
theorem ny_{l:List NRow}{k:Nat}(h:tameB l k=true)(ho:okR l):bdL (nL l) 20∧(nL l).length≤k:=by
 unfold tameB at h;rw[Bool.and_eq_true,List.all_eq_true] at h;refine⟨fun q hq=>?_,by simpa[nL] using h.2⟩;obtain⟨r,hr,rfl⟩:=List.mem_map.1 hq;exact good_qs (h.1 r hr) (ho r hr).1 (ho r hr).2.1
theorem mX_(N D N' D':Int)(k k':Nat)(hN:i64r N)(hD:i64r D)(hk:k≤255)(hN':i64r N')(hD':i64r D')(hk':k'≤255):
    FS 12 [.agg (nuC N D k++nuC N' D' k')] (.tup [.agg (spC (numV N D k) (numV N' D' k')),.agg (rC (rq (numV N D k))++rC (rq (numV N' D' k')))]):=by
 have b1:=g9_ N D k hN hD hk;have b2:=g9_ N' D' k' hN' hD' hk';obtain⟨v,hv⟩:∃v,v=numV N D k:=⟨_,rfl⟩;obtain⟨w,hw⟩:∃w,w=numV N' D' k':=⟨_,rfl⟩;rw[←hv] at b1⊢;rw[←hw] at b2⊢;refine f_n Tryz.func12 ?_ ?_;exact ab_ (au_ fun c hc=>(List.mem_append.1 hc).elim (cE_ _ _ _ c) (cE_ _ _ _ c)) ah_;refine r_z 3 ?_;refine r_c 10 (b1) ?_;refine a_z ?_;refine r_c 10 (b2) ?_;refine a_z ?_;refine aa_ (r_d hmix 8 ?_);refine a_8 ?_;refine ai_ (n_k ?_);refine af_ (Fin.many ⟨_,_,rfl,⟨_,_,_,_,_,rfl,rfl,rfl,.inl ⟨TG.h,_,TS.h,nle rfl,rfl⟩⟩,⟨_,_,rfl,⟨_,_,_,_,_,rfl,rfl,rfl,.inl ⟨TG.h,_,TS.h,nle rfl,rfl⟩⟩,rfl⟩⟩ (nle rfl) ?_);exact ag_ (an_ ar_ (gj_ _ _)) (ag_ (an_ ar_ (au_ fun c hc=>(List.mem_append.1 hc).elim (bb_ _ c) (bb_ _ c))) ao_)
end Go.Proofs.YtdjfjpeoddmamaaGreatDoor
namespace Go.Proofs.YtdjfjpeoddmamaaGreatDoor
open Go.Abs Go.Deep Go.RowKit Go.WideShapes
set_option maxRecDepth 20000
theorem tyu3:(Tryz.prog).underlying 3=some (.int .i64):=by kernel_rfl
end Go.Proofs.YtdjfjpeoddmamaaGreatDoor
namespace Go.Proofs.YtdjfjpeoddmamaaGreatDoor
open Go.Abs Go.ChangeShapes Go.Deep Go.RowKit Go.WideShapes
set_option maxRecDepth 20000
theorem tyG:∃f0 f1,(Tryz.prog).underlying 25=some (.struct #[f0,f1])∧f0.type=23∧f0.offset=0∧f1.type=23∧f1.offset=3:=
 ⟨{name:= "Low",type:=23,offset:=0,embedded:=false,tag:= "",pkgPath:= "",byteOffset:=0},{name:= "High",type:=23,offset:=3,embedded:=false,tag:= "",pkgPath:= "",byteOffset:=24},by kernel_rfl,rfl,rfl,rfl,rfl⟩
theorem tycG:(Tryz.prog).cellsOf 25=6:=by kernel_rfl
end Go.Proofs.YtdjfjpeoddmamaaGreatDoor
namespace Go.Proofs.YtdjfjpeoddmamaaGreatDoor
open Go.Abs
set_option maxRecDepth 20000
set_option maxHeartbeats 2000000
abbrev gapC(g:NRow×NRow):List AV:=nuC g.1.1 g.1.2.1 g.1.2.2++nuC g.2.1 g.2.2.1 g.2.2.2
theorem ot_(g:NRow×NRow):∀c∈gapC g,Closed c:=fun c hc=>(List.mem_append.1 hc).elim (cE_ _ _ _ c) (cE_ _ _ _ c)
structure Wt where
 m:List Rat
 l:Bool
 r:Bool
 a:Rat
 b:Rat
 x:RQ
 y:RQ
def wZt:Wt:=⟨[],false,false,0,0,r0,r0⟩
abbrev Wt.A(w:Wt):List AV:=wC w.m w.l w.r (qC w.a) (qC w.b)
abbrev Wt.B(w:Wt):List AV:=rwC w.m w.l w.r w.x w.y
theorem Wt.cA(w:Wt):∀c∈w.A,Closed c:=a7_ (.inr ⟨_,rfl⟩) (.inr ⟨_,rfl⟩)
structure Wt.Ok (w:Wt):Prop where
 ox:rok w.x
 oy:rok w.y
 ex:w.x.1=w.a
 ey:w.y.1=w.b
 qa:qs w.a≤256
 qb:qs w.b≤256
 bd:bdL w.m 2000000000
 len:w.m.length≤70
theorem wZt_ok:wZt.Ok:=⟨iN_,iN_,rfl,rfl,by decide,by decide,(fun q hq=>by cases hq),by decide⟩
theorem j4_{f:Nat→Rat}{n s:Nat}(h:∀k,k< n→qs (f k)≤s):bdL (sqL f n) s:=fun q hq=>by
 obtain⟨i,hi,rfl⟩:=List.mem_map.1 hq;exact h i (List.mem_range.1 hi)
end Go.Proofs.YtdjfjpeoddmamaaGreatDoor
