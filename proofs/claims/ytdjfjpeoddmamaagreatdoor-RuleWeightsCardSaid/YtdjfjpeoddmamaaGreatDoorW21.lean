/- Part W21 of the proof. -/
import Derived.Test.YtdjfjpeoddmamaaGreatDoorW20
set_option linter.all false
namespace Go.Proofs.YtdjfjpeoddmamaaGreatDoor
open Go.Abs
set_option maxRecDepth 100000
set_option maxHeartbeats 2000000
theorem fs_Radau (m:List Rat) (l r:Bool) (a b e:Rat) (n:Nat) (p wt:List Rat) (hn:1≤n∧n≤25) (h1:FSpec Tryz.prog 120 [bQ e,bW m l r a b,bIn n] (.tup [.arr (pE p),bln true])) (hm:2* n- 1≤m.length∧m.length≤64) (hab:l=true→r=true→a< b) (ha:sm a) (hb:sm b)
    (hr:FSpec Tryz.prog 160 [.arr (pE p)] (bln true)) (hpb:bdL p 68719476736) (hp0:trimQ p≠[]) (hpl:p.length≤1099511627776)
    (hon:FSpec Tryz.prog 161 [.agg (wC m l r (qC a) (qC b)),.arr (pE (bd_ p))] (.agg (ruC (bd_ p) wt))):
    FSpec Tryz.prog 36 [.agg (wC m l r (qC a) (qC b)),i64 n,.agg (qC e)] (.tup [.agg (ruC (bd_ p) wt),i64 0]):=by
 have hWc:∀c∈wC m l r (qC a) (qC b),Closed c:=aJ_ (.inr ⟨a,rfl⟩) (.inr ⟨b,rfl⟩)
 have hra:=hS_ (n:Nat) 1 25 (by omega)
 have hcc:∀c∈[bQ e,bW m l r a b,bIn n],Closed c:=aa_ (cl_ e) (aa_ (d9_ m l r a b) (aa_ (c3_ n) ab_))
 have hna:=jQ_ m l r a b (2* n- 1) 120 [bQ e,bW m l r a b,bIn n] p wt hcc (by omega) hab ha hb hm.1 h1 hr hpb hp0 hpl hon
 rw[show((2* n- 1:Nat):Int)=2* (n:Int)- 1 by omega] at hna
 refine f_n Tryz.func36 ?_ ?_
 exact aa_ (aq_ hWc) (aa_ (ad_ _) (aa_ (av_ e) ab_))
 refine r_z 5 ?_
 refine AWp.ent (st':=⟨[(3,bW m l r a b),(4,bIn n),(5,bQ e),(6,.lptr 1 0 0)],[(1,some ⟨57,2,[[.emp,.emp]]⟩)],2,18⟩) ?_ ?_
 refine as_ [(1,6)] rfl rfl rfl au_r (fun hs=>?_) (fun hs=>?_)
 ·repeat' (first|exact aA_|refine aw_ rfl ?_ ?_)
  all_goals (first|((try exact Cv.boxp hs rfl (aE_ rfl) rfl hWc);(try exact Cv.boxp hs rfl (aE_ rfl) rfl (aK_ e));(try exact Cv.boxp hs rfl (aE_ rfl) rfl (aa_ (ad_ _) ab_));done)|exact au_c)
 ·repeat' (first|exact ao_|refine ak_ rfl rfl rfl rfl ?_ ?_)
  all_goals (first|exact au_e|(refine ae_ ?_;repeat' (first|exact ap_|refine af_ ?_ ?_)))
  all_goals (first|((try exact Cv.boxp hs rfl (aE_ rfl) rfl hWc);(try exact Cv.boxp hs rfl (aE_ rfl) rfl (aK_ e));(try exact Cv.boxp hs rfl (aE_ rfl) rfl (aa_ (ad_ _) ab_));done)|exact au_c)
 refine ac_ (r_d hmix 12 ?_)
 refine c_s (hra) ?_
 refine c_s (hna) ?_
 refine a_4 ?_
 refine an_ (n_k ?_)
 refine ai_ (Fin.many ⟨_,_,rfl,⟨_,_,_,_,_,rfl,rfl,rfl,.inl ⟨tg_57.h,_,ts_57.h,nle rfl,rfl⟩⟩,⟨_,_,rfl,rfl,rfl⟩⟩ (nle rfl) ?_)
 exact af_ (al_ at_ (aq_ (bL_ _ _))) (af_ (al_ at_ (ad_ _)) ap_)
theorem im_{r:Ren}{hp hp':Nat→Option ABlk}(h:Shr r hp hp')(L:List Rat):∀n,CvLL r hp hp' (List.replicate n zC++pE L) (pE (List.replicate n 0++L))
 |0=>aQ_ h (aH_ L)
 |n+1=>CvLL.cons (ys:=pE (List.replicate n 0++L)) (eb_ h) (im_ h L n)
def krO(A:AV)(B:AV)(X:AV)(m:List Rat)(n:Nat):Nat→AState
 |k=>⟨[(0,A),(1,B),(4,X),(6,.arr (pE m)),(7,.lsl 1 0 (n+2) none 3),(52,i64 ((n:Int)+1)),(53,i64 k)],[(1,some ⟨35,3,pE (krE m n k)⟩)],2,94⟩
theorem pA_(A:AV)(B:AV)(X:AV)(m:List Rat)(n:Nat)(k:Nat):krO A B X m n k=⟨[(0,A),(1,B),(4,X),(6,.arr (pE m)),(7,.lsl 1 0 (n+2) none 3),(52,i64 ((n:Int)+1)),(53,i64 k)],[(1,some ⟨35,3,pE (krE m n k)⟩)],2,94⟩:=rfl
def krI(A:AV)(B:AV)(X:AV)(m:List Rat)(n:Nat)(k:Nat):Nat→AState
 |j=>⟨[(0,A),(1,B),(4,X),(6,.arr (pE m)),(7,.lsl 1 0 (n+2) none 3),(52,i64 ((n:Int)+1)),(53,i64 k),(8,i64 k),(9,.lptr 2 0 0),(57,.lsl 1 0 (n+2) none 3),(58,i64 ((n+2:Nat):Int)),(59,i64 j)],[(1,some ⟨35,3,pE (krE m n k)⟩),(2,some ⟨35,3,[qC (krS (krE m n k) m k j)]⟩)],3,94⟩
theorem kR_(A:AV)(B:AV)(X:AV)(m:List Rat)(n:Nat)(k:Nat)(j:Nat):krI A B X m n k j=⟨[(0,A),(1,B),(4,X),(6,.arr (pE m)),(7,.lsl 1 0 (n+2) none 3),(52,i64 ((n:Int)+1)),(53,i64 k),(8,i64 k),(9,.lptr 2 0 0),(57,.lsl 1 0 (n+2) none 3),(58,i64 ((n+2:Nat):Int)),(59,i64 j)],[(1,some ⟨35,3,pE (krE m n k)⟩),(2,some ⟨35,3,[qC (krS (krE m n k) m k j)]⟩)],3,94⟩:=rfl
theorem me_ (m m2:List Rat) (l r:Bool) (a b:Rat) (n:Nat) (hn:1≤n∧n≤12) (hok:∀k,k< n→okLd m k) (o1:okMul (ldr m n).1 (ldr m n).1) (o2:okOf m (mulP (ldr m n).1 (ldr m n).1)) (o3:0< ldN m (ldr m n).1)
    (hti:FSpec Tryz.prog 121 [.agg (wC m l r (qC a) (qC b)),.arr (pE (ldr m n).1)] (.agg (wC m2 l r (qC a) (qC b)))) (hm2:2* n+2≤m2.length) (hm0:coP m2 n≠0) (hkr:∀k,k≤n→okKr m2 n k)
    (o4:okMul (ldr m n).1 (krE m2 n (n+1))):
    FSpec Tryz.prog 123 [bW m l r a b,bIn n] (.tup [.arr (pE (mulP (ldr m n).1 (krE m2 n (n+1)))),bln true]):=by
 have hcl:=jW_ m l r a b n (by omega) hok
 have hbw:=d9_ m l r a b
 have hbi:=c3_ n
 obtain⟨X,hX⟩:∃X,X=AV.aptr [ldF m l r a b n] 0 0:=⟨_,rfl⟩
 have hXc:Closed X:=by rw[hX];exact cL_ fun e he=>by rw[List.mem_singleton.1 he];exact do_ m l r a b n
 have hsp:=sgZ_num_gt.2 o3
 refine f_n Tryz.func123 ?_ ?_
 exact aa_ hbw (aa_ hbi ab_)
 refine r_z 2 ?_
 refine r_c 8 (hcl) ?_
 refine a_z ?_
 refine ac_ (ac_ (r_d hmix 20 ?_))
 refine c_s (eo_ _ _ o1) ?_
 refine c_s (ni_ m _ l r a b o2) ?_
 refine c_s (bK_ (ldN m (ldr m n).1)) ?_
 refine d_2 ?_
 refine an_ (n_k ?_)
 refine cF (ag_ (ac_ (r_d hmix 8 ?_)))
 refine c_s (hti) ?_
 refine a_2 ?_
 refine an_ (n_k ?_)
 refine ac_ (r_d hmix 7 ?_)
 refine c_s (aZ_ 1 (by decide)) ?_
 refine a_1 ?_
 refine o_2 (.append_l rfl rfl rfl te_55.h rfl rfl rfl rfl rfl d_o (kl_ _) rfl rfl (.lsl rfl (nle rfl)) tz_35.h rfl tb_35.h d_o (by first|(simp[maxLen];done)|(simp[maxLen];omega))) ?_
 refine a_1 ?_
 refine an_ (n_k ?_)
 refine ac_ (r_z 3 ?_)
 refine aD_ (fun _:Unit=>⟨[(4,X),(7,.arr (pE (krE m2 n (n+1))))],[],1,94⟩) (fun _=>True) ?_ ?_
 refine ah_ (ax_ (krO (bW m l r a b) (bIn n) X m2 n) (fun k=>n+1- k) (fun k=>k≤n+1) 0 (Nat.zero_le _) ?_ ?_)
 rw[pA_,hX]
 rw[hX] at hXc
 refine as_ [(1,7)] rfl rfl rfl ?_ (fun hs=>au_f) (fun hs=>?_)
 ·repeat' (first|exact ShrL.nil|refine ShrL.cons rfl rfl rfl rfl (by first|(simp[e6_])|rfl|(simp;done)|(simp <;> omega)) ?_)
 ·repeat' (first|exact ao_|refine ak_ rfl rfl rfl rfl ?_ ?_)
  all_goals (first|(exact im_ hs [((1:Int):Rat)] (n+1))|exact au_e)
 intro k hk
 rw[pA_]
 have hel:=e6_ m2 n k
 have hel2:=e6_ m2 n (k+1)
 by_cases hlt:k< n+1
 obtain⟨c1,c2⟩:=hkr k (by omega)
 have hgm:(pE m2)[((n:Nat):Int).toNat]?=some (qC (coP m2 n)):=bC_ (bc_ (by omega))
 refine q_z 1 ?_
 refine ac_ (cT (ag_ (ac_ (ah_ (r_z 2 ?_)))))
 refine r_z 3 ?_
 refine ac_ (r_z 3 ?_)
 refine aD_ (fun _:Unit=>krI (bW m l r a b) (bIn n) X m2 n k (n+2)) (fun _=>True) ?_ ?_
 refine ah_ (ax_ (krI (bW m l r a b) (bIn n) X m2 n k) (fun j=>n+2- j) (fun j=>j≤n+2) 0 (Nat.zero_le _) ?_ ?_)
 rw[kR_]
 refine as_ [(2,9)] rfl rfl rfl au_r (fun hs=>au_f) (fun hs=>?_)
 ·repeat' (first|exact ao_|refine ak_ rfl rfl rfl rfl ?_ ?_)
  all_goals (first|((try exact aQ_ hs (aH_ _));(try exact ae_ (eb_ hs));done)|exact au_e)
 intro j hj
 rw[kR_]
 by_cases hlt2:j< n+2
 obtain⟨c3,c4⟩:=c1 j hlt2
 have hg1:∀e,e=j→(pE (krE m2 n k))[e]?=some (qC (coP (krE m2 n k) j)):=fun e he=>by
  rw[he];exact bC_ (bc_ (by omega))
 have hg2:(pE m2)[((j:Int)+(k:Int)).toNat]?=some (qC (coP m2 (j+k))):=by
  rw[show((j:Int)+(k:Int)).toNat=j+k by omega]
  exact bC_ (bc_ (by omega))
 refine q_z 1 ?_
 refine ac_ (cT (ag_ (ac_ (ah_ (s_r 6 ?_)))))
 refine a_2 ?_
 first|refine aB_ (.load_l rfl rfl (hg1 _ (by omega)) tg_35.h ts_35.h (nle rfl)) rfl rfl ?_|refine aB_ (.load_a rfl (hg1 _ (by omega)) tg_35.h ts_35.h (nle rfl)) rfl rfl ?_
 refine a_z ?_
 refine r_d hmix 11 ?_
 refine a_6 ?_
 refine i_x hg2 ?_
 refine l_x hg2 ?_
 refine c_s (cW_ _ _ c3) ?_
 refine c_s (fm_ _ _ c4) ?_
 refine a_1 ?_
 refine an_ (n_k ?_)
 refine r_m 2 ?_
 refine a_z ?_
 refine⟨j+1,by omega,hlt2,?_⟩
 rw[kR_]
 refine as_ [] rfl rfl rfl au_r (fun hs=>au_f) (fun hs=>?_)
 ·repeat' (first|exact ao_|refine ak_ rfl rfl rfl rfl ?_ ?_)
  all_goals (first|((try exact aQ_ hs (aH_ _));(try exact ae_ (CvL.clo hs (aK_ _)));done)|exact au_e)
 have hge:j=n+2:=by omega
 subst hge
 refine q_z 1 ?_
 refine ac_ (cF (au_ ⟨(),trivial,?_⟩))
 try simp only[kR_]
 refine as_ [] rfl rfl rfl au_r (fun hs=>au_f) (fun hs=>?_)
 ·repeat' (first|exact ao_|refine ak_ rfl rfl rfl rfl ?_ ?_)
  all_goals (first|((try exact aQ_ hs (aH_ _));(try exact ae_ (CvL.clo hs (aK_ _)));done)|exact au_e)
 rintro _ _
 try simp only[kR_]
 have hg3:∀e,e=n- k→(pE (krE m2 n k))[e]?=some (qC (coP (krE m2 n k) (n- k))):=fun e he=>by
  rw[he];exact bC_ (bc_ (by omega))
 refine r_d hmix 13 ?_
 refine a_7 ?_
 refine i_x hgm ?_
 refine l_x hgm ?_
 refine c_s (dz_ _ _ hm0 c2) ?_
 refine c_s (gH_ _) ?_
 refine a_1 ?_
 refine o_1n (.store rfl rfl (hg3 _ (by omega)) rfl rfl rfl ts_35.h (nle rfl)) ?_
 refine an_ (n_k ?_)
 refine r_m 2 ?_
 refine a_z ?_
 refine⟨k+1,by omega,hlt,?_⟩
 rw[pA_]
 have e:∀e,e=n- k→(pE (krE m2 n k)).set e (qC (-(krS (krE m2 n k) m2 k (n+2) / coP m2 n)))=pE (krE m2 n (k+1)):=fun e he=>by
  rw[he,hu_];rfl
 refine as_ [] rfl rfl rfl au_r (fun hs=>au_f) (fun hs=>?_)
 ·repeat' (first|exact ao_|refine ak_ rfl rfl rfl rfl ?_ ?_)
  all_goals (first|(exact aG_ hs (e (0+((n:Int)- (k:Int)).toNat) (by omega)) (aH_ _))|exact au_e)
 have hge:k=n+1:=by omega
 subst hge
 refine q_z 1 ?_
 refine ac_ (cF (au_ ⟨(),trivial,?_⟩))
 refine as_ [] rfl rfl rfl au_r (fun hs=>?_) (fun hs=>?_)
 ·repeat' (first|exact aA_|refine aw_ rfl ?_ ?_)
  all_goals (first|((try exact al_ hs hXc);(try exact dk_ hs rfl (fun _ _ h=>by cases h) rfl (by rw[hel]));done)|exact au_c)
 ·repeat' (first|exact ao_|refine ak_ rfl rfl rfl rfl ?_ ?_)
  all_goals (first|exact au_e|(refine ae_ ?_;repeat' (first|exact ap_|refine af_ ?_ ?_)))
  all_goals (first|((try exact al_ hs hXc);(try exact dk_ hs rfl (fun _ _ h=>by cases h) rfl (by rw[hel]));done)|exact au_c)
 rintro _ _
 rw[hX]
 refine r_c 8 (eo_ _ _ o4) ?_
 refine a_z ?_
 refine ai_ (Fin.many ⟨_,_,rfl,rfl,⟨_,_,rfl,rfl,rfl⟩⟩ (nle rfl) ?_)
 exact af_ (al_ at_ (ar_ _)) (af_ (al_ at_ (ad_ _)) ap_)
theorem oj_ (m:List Rat) (l r:Bool) (a b:Rat) (n:Nat) (p wt:List Rat) (hn:1≤n∧n≤12) (h1:FSpec Tryz.prog 123 [bW m l r a b,bIn n] (.tup [.arr (pE p),bln true])) (hm:3* n+2≤m.length∧m.length≤64) (hab:l=true→r=true→a< b) (ha:sm a) (hb:sm b)
    (hr:FSpec Tryz.prog 160 [.arr (pE p)] (bln true)) (hpb:bdL p 68719476736) (hp0:trimQ p≠[]) (hpl:p.length≤1099511627776)
    (hon:FSpec Tryz.prog 161 [.agg (wC m l r (qC a) (qC b)),.arr (pE (bd_ p))] (.agg (ruC (bd_ p) wt))):
    FSpec Tryz.prog 38 [.agg (wC m l r (qC a) (qC b)),i64 n] (.tup [.agg (ruC (bd_ p) wt),i64 0]):=by
 have hWc:∀c∈wC m l r (qC a) (qC b),Closed c:=aJ_ (.inr ⟨a,rfl⟩) (.inr ⟨b,rfl⟩)
 have hra:=hS_ (n:Nat) 1 12 (by omega)
 have hcc:∀c∈[bW m l r a b,bIn n],Closed c:=aa_ (d9_ m l r a b) (aa_ (c3_ n) ab_)
 have hna:=jQ_ m l r a b (3* n+2) 123 [bW m l r a b,bIn n] p wt hcc (by omega) hab ha hb hm.1 h1 hr hpb hp0 hpl hon
 rw[show((3* n+2:Nat):Int)=3* (n:Int)+2 by omega] at hna
 refine f_n Tryz.func38 ?_ ?_
 exact aa_ (aq_ hWc) (aa_ (ad_ _) ab_)
 refine r_z 4 ?_
 refine AWp.ent (st':=⟨[(2,bW m l r a b),(3,bIn n),(4,.lptr 1 0 0)],[(1,some ⟨57,2,[[.emp,.emp]]⟩)],2,16⟩) ?_ ?_
 refine as_ [(1,4)] rfl rfl rfl au_r (fun hs=>?_) (fun hs=>?_)
 ·repeat' (first|exact aA_|refine aw_ rfl ?_ ?_)
  all_goals (first|((try exact Cv.boxp hs rfl (aE_ rfl) rfl hWc);(try exact Cv.boxp hs rfl (aE_ rfl) rfl (aa_ (ad_ _) ab_));done)|exact au_c)
 ·repeat' (first|exact ao_|refine ak_ rfl rfl rfl rfl ?_ ?_)
  all_goals (first|exact au_e|(refine ae_ ?_;repeat' (first|exact ap_|refine af_ ?_ ?_)))
  all_goals (first|((try exact Cv.boxp hs rfl (aE_ rfl) rfl hWc);(try exact Cv.boxp hs rfl (aE_ rfl) rfl (aa_ (ad_ _) ab_));done)|exact au_c)
 refine ac_ (r_d hmix 12 ?_)
 refine c_s (hra) ?_
 refine c_s (hna) ?_
 refine a_4 ?_
 refine an_ (n_k ?_)
 refine ai_ (Fin.many ⟨_,_,rfl,⟨_,_,_,_,_,rfl,rfl,rfl,.inl ⟨tg_57.h,_,ts_57.h,nle rfl,rfl⟩⟩,⟨_,_,rfl,rfl,rfl⟩⟩ (nle rfl) ?_)
 exact af_ (al_ at_ (aq_ (bL_ _ _))) (af_ (al_ at_ (ad_ _)) ap_)
section
variable {a b:Rat}(h:a< b){k:Nat}(hk:1≤k∧k≤4)(ha:qs a≤20)(hb:qs b≤20)
include h hk ha hb
end
section
variable {a b a' b':Rat}(h:a< b)(h':a'< b'){k:Nat}(hk:1≤k∧k≤4)(ha:qs a≤20)(hb:qs b≤20)(ha':qs a'≤20)(hb':qs b'≤20)
include h h' hk ha hb ha' hb'
end
theorem g1_(f:Nat)(p:List Rat)(b:Bool)(hf:f≤1000000)(h:realM f p=some b):FSpec Tryz.prog 160 [.arr (pE p)] (bln b):=by
 unfold realM at h
 cases hc:eS_ f p with
 |none=>rw[hc] at h;cases h
 |some c=>
  rw[hc,Option.bind_some] at h
  split at h
  ·rename_i ho
   cases h
   obtain⟨o1,o2,o3,o4,o5,o6,o7⟩:=ho
   have hb1:=qJ_ p
   refine fs_real1 p _ (by omega) ⟨o6,o7⟩ o4 (fs_Count f p c (-cC_ p,cC_ p) hc hf o1 o2 o3 ?_ ?_ (by omega))
   show cmpQ (-cC_ p) (cC_ p)≤0
   unfold cmpQ;rw[if_pos (by grind)];decide
   unfold hK_;rw[if_neg (by omega),if_neg (by omega)]
  cases h
theorem pV_(f:Nat)(p m w:List Rat)(l r:Bool)(a b:Rat)(h:onM f p m=some w):FSpec Tryz.prog 161 [.agg (wC m l r (qC a) (qC b)),.arr (pE p)] (.agg (ruC p w)):=by
 unfold onM at h
 cases hz:bzL f (a2_ p) p (dB_ ((1:Int):Rat)) [] with
 |none=>rw[hz] at h;cases h
 |some x=>
  rw[hz,Option.bind_some] at h
  split at h
  ·rename_i ho
   cases h
   obtain⟨o1,o2,o3,o4,o5,o6,o7,o8,o9⟩:=ho
   have hp0:trimQ p≠[]:=by rw[o4];intro e;rw[e] at o5;simp at o5
   have hde:=hV_ p o9 (by omega)
   have hbz:=qf_ f (a2_ p) p x.1 x.2 hp0 (by omega) hz o1
   exact fs_on p m l r a b (p.length- 1) (mxL p) (mxL m) _ _ _ (by omega) o4 (by omega) (b7_ p) (b7_ m) (bJ_ p) (bJ_ m) (by omega) (by rw[show p.length- 1+2=p.length+1 by omega];exact o8) hde hbz o2 o3
  cases h
theorem fs_apM(p w f:List Rat)(h:okAp p w f):FSpec Tryz.prog 103 [.agg (ruC p w),.arr (pE f)] (.agg (qC (apV p w f))):=by
 obtain⟨o1,o2,o3,o4,o5,o6,o7,o8,o9,o10⟩:=h
 have hl:(trimQ p).length=dg p+1:=by unfold dg at o4⊢;omega
 have hp0:trimQ p≠[]:=by intro e;rw[e] at hl;simp at hl
 have hsu:=fs_sums p w (dg p) hl o4 o5 (by omega) o7
 exact fs_apply p w f (suP p) (mxL (apR p w f)) (mxL (suP p)) hsu hp0 o1 o2 o3 (b7_ _) (b7_ _) (bJ_ _) (bJ_ _) (by omega) (by unfold suP;rw[dY_];omega) o9
theorem t5_0:textQ (mkRat 2 5)=[50,47,53]∧okT (mkRat 2 5):=by decide+kernel
theorem t5_1:textP p13=[120,94,50,32,45,32,49,47,51]∧okPT p13:=by decide+kernel
theorem t5_2:textP [1]=[49]∧okPT [1]:=by decide+kernel
theorem t5_3:textP p35=[120,94,51,32,45,32,51,47,53,32,120]∧okPT p35:=by decide+kernel
theorem t5_4:textP w35=[45,53,47,57,32,120,94,50,32,43,32,56,47,57]∧okPT w35:=by decide+kernel
theorem t5_5:textP wRa=[51,47,52,32,120,32,43,32,53,47,52]∧okPT wRa:=by decide+kernel
theorem sm_ends:sm (-1)∧sm 1∧(-1:Rat)< 1:=by decide+kernel
theorem fs_wJac:FSpec Tryz.prog 15 [.agg (spC (-1) 1),i64 0,i64 0,i64 5] (.tup [.agg (wC m6 true true (qC (-1)) (qC 1)),i64 0]):=by
 have:=mf_ (-1) 1 5 (by omega) sm_ends.2.2 (by decide) (by decide) fun k hk=>c_ok.2 k (by omega)
 exact this
theorem fk_:m6.length=6:=by rw[c_m6];rfl
theorem pL_:FSpec Tryz.prog 16 [.agg (wC m6 true true (qC (-1)) (qC 1)),i64 2] (.tup [.agg (ruC p13 [1]),i64 0]):=by
 obtain⟨c1,c2,c3,c4,c5,c6⟩:=c_g
 have:=fs_Gauss m6 true true (-1) 1 2 [1] (by omega) (fun j hj=>c_ok.1 j hj) (by rw[fk_];omega) (fun _ _=>sm_ends.2.2) sm_ends.1 sm_ends.2.1 (by rw[c1];exact g1_ 9 p13 true (by omega) c2) (by rw[c1];exact bdL_mono' c5 (by omega)) (by rw[c1];exact c6) (by rw[c1];decide) (by rw[c1,c4];exact pV_ 9 p13 m6 [1] _ _ _ _ c3)
 rw[c1,c4] at this
 exact this
theorem pM_:FSpec Tryz.prog 94 [.agg (ruC p13 [1])] (i64 0):=
 lc_ p13 [1] (g1_ 9 p13 true (by omega) c_g.2.1) (by decide+kernel) (by decide+kernel) (by decide) (by decide)
theorem fs_wDeg:FSpec Tryz.prog 61 [.agg (wC m6 true true (qC (-1)) (qC 1)),.agg (ruC p13 [1])] (.tup [i64 3,bln true,i64 0]):=by
 have hcw:=cI_ m6 true true (-1) 1 (by rw[fk_];omega) (fun _ _=>sm_ends.2.2) sm_ends.1 sm_ends.2.1
 obtain⟨d1,d2,d3⟩:=c_d
 have:=oc_ p13 [1] m6 true true (-1) 1 4 (fun k=>apV p13 [1] (List.replicate k 0++[((1:Int):Rat)])) (pQ_ p13 [1] m6 true true (-1) 1 hcw pM_) (fun k hk=>fs_apM _ _ _ (d1 k (by omega))) (by rw[fk_];omega) (by rw[fk_];omega) (f7_ c_k.2.2.2.2.2.2.2.2.1 (by omega)) (fun k hk=>(d1 k (by omega)).2.2.2.2.2.2.2.2.2) d2 d3
 exact this
theorem fs_wKr:FSpec Tryz.prog 38 [.agg (wC m6 true true (qC (-1)) (qC 1)),i64 1] (.tup [.agg (ruC p35 w35),i64 0]):=by
 obtain⟨k1,k2,k3,k4,k5,k6,k7,k8,k9,k10⟩:=c_k
 obtain⟨q1,q2,q3,q4,q5⟩:=c_kp
 have hti:=i6_ (ldr m6 1).1 m6 true true (-1) 1 100 100 k8 k9 (by omega) (by omega) (by omega) (by rw[fk_];omega) (by rw[fk_];omega)
 have h1:=me_ m6 mKr true true (-1) 1 1 (by omega) (fun k hk=>c_ok.1 k (by omega)) k1 k2 k3 hti (by omega) k5 (fun k hk=>c_kk k (by omega)) k6
 rw[k7] at h1
 have:=oj_ m6 true true (-1) 1 1 p35 w35 (by omega) h1 (by rw[fk_];omega) (fun _ _=>sm_ends.2.2) sm_ends.1 sm_ends.2.1 (g1_ 9 p35 true (by omega) q1) (bdL_mono' q4 (by omega)) q5 (by decide) (by rw[q3];exact pV_ 9 p35 m6 w35 _ _ _ _ q2)
 rw[q3] at this
 exact this
theorem fs_wRa:FSpec Tryz.prog 36 [.agg (wC m6 true true (qC (-1)) (qC 1)),i64 2,.agg (qC (-1))] (.tup [.agg (ruC pRa wRa),i64 0]):=by
 obtain⟨r1,r2,r3,r4,r5,r6,r7,r8,r9⟩:=c_r
 have hti:=i6_ (enM (-1)) m6 true true (-1) 1 100 100 r9 c_k.2.2.2.2.2.2.2.2.1 (by omega) (by omega) (by decide) (by rw[fk_];omega) (by rw[fk_];decide)
 have h1:=p5_ m6 mRa true true (-1) 1 (-1) 2 (by omega) (by omega) hti (fun k hk=>r1 k (by omega)) r2
 rw[show mulP (enM (-1)) (ldr mRa (2- 1)).1=pRa from r3] at h1
 have:=fs_Radau m6 true true (-1) 1 (-1) 2 pRa wRa (by omega) h1 (by rw[fk_];omega) (fun _ _=>sm_ends.2.2) sm_ends.1 sm_ends.2.1 (g1_ 9 pRa true (by omega) r4) (bdL_mono' r7 (by omega)) r8 (by decide) (by rw[r6];exact pV_ 9 pRa m6 wRa _ _ _ _ r5)
 rw[r6] at this
 exact this
theorem eK_:FSpec Tryz.prog 11 [] (.v (.bool true)):=by
 have n1:=dA_ (-1) (by decide)
 rw[show((-1:Int):Rat)= -1 by decide] at n1
 have n2:=dA_ 1 (by decide)
 rw[show((1:Int):Rat)=1 by decide] at n2
 have hj:=fs_wJac
 have hg:=pL_
 have hd:=fs_wDeg
 have hk:=fs_wKr
 have hr:=fs_wRa
 rw[c_m6] at hj hg hd hk hr
 have q0:=np_ (mkRat 2 5) t5_0.2
 rw[t5_0.1] at q0
 have q1:=fX_ p13 t5_1.2
 rw[t5_1.1] at q1
 have q2:=fX_ [1] t5_2.2
 rw[t5_2.1] at q2
 have q3:=fX_ p35 t5_3.2
 rw[t5_3.1] at q3
 have q4:=fX_ w35 t5_4.2
 rw[t5_4.1] at q4
 have q5:=fX_ wRa t5_5.2
 rw[t5_5.1] at q5
 refine f_n Tryz.func11 ?_ ?_
 exact ab_
 refine r_z 1 ?_
 refine r_c 5 (n1) ?_
 refine c_s (n2) ?_
 refine a_z ?_
 refine r_c 8 (hj) ?_
 refine a_z ?_
 refine r_c 8 (hg) ?_
 refine a_z ?_
 refine r_c 10 (hd) ?_
 refine a_z ?_
 refine r_c 8 (hk) ?_
 refine a_z ?_
 refine ac_ (r_d hmix 9 ?_)
 refine c_s (n1) ?_
 refine c_s (hr) ?_
 refine a_6 ?_
 refine an_ (n_k ?_)
 refine s_r 70 ?_
 refine a_1 ?_
 refine o_0 (.bin rfl rfl (vT a8_ (rfl))) ?_
 refine d_2 ?_
 refine ay_ rfl rfl rfl (.bin rfl rfl (vT a8_ (rfl))) rfl rfl ?_
 refine d_3 ?_
 refine ay_ rfl rfl rfl (.bin rfl rfl (vT a8_ (rfl))) rfl rfl ?_
 refine d_3 ?_
 refine ay_ rfl rfl rfl (.bin rfl rfl (vT a8_ (rfl))) rfl rfl ?_
 refine d_3 ?_
 refine ay_ rfl rfl rfl (.bin rfl rfl (vT a8_ (rfl))) rfl rfl ?_
 refine d_5 ?_
 refine ay_ rfl rfl rfl (.bin rfl rfl (vT a8_ (rfl))) rfl rfl ?_
 refine c_s (q0) ?_
 refine ay_ rfl rfl rfl (.bin rfl rfl (vT di_ rfl)) rfl rfl ?_
 refine c_s (q1) ?_
 refine ay_ rfl rfl rfl (.bin rfl rfl (vT di_ rfl)) rfl rfl ?_
 refine c_s (q2) ?_
 refine ay_ rfl rfl rfl (.bin rfl rfl (vT di_ rfl)) rfl rfl ?_
 refine d_3 ?_
 refine ay_ rfl rfl rfl (.bin rfl rfl (vT a8_ (rfl))) rfl rfl ?_
 refine c_s (q3) ?_
 refine ay_ rfl rfl rfl (.bin rfl rfl (vT di_ rfl)) rfl rfl ?_
 refine c_s (q4) ?_
 refine ay_ rfl rfl rfl (.bin rfl rfl (vT di_ rfl)) rfl rfl ?_
 refine c_s (q5) ?_
 refine ay_ rfl rfl rfl (.bin rfl rfl (vT di_ rfl)) rfl rfl ?_
 refine a_z ?_
 exact ai_ (t_e (ad_ _))
def goodN(r:NRow):Bool:=decide (¬((r.2.2:Int) % 4≠0)∧¬r.1> 999999∧¬r.1< -999999∧¬r.2.1> 999999∧¬r.2.1< -999999)
def tameB(l:List NRow)(k:Nat):Bool:=l.all goodN && decide (l.length≤k)
theorem p2_(l:List NRow)(k:Nat)(hl:l.length≤9223372036854775807)(hk:k≤1000000):FSpec Tryz.prog 10 [.arr (nR l),i64 k] (bln (tameB l k)):=by
 have hnl:(nR l).length=l.length:=by simp[nR]
 refine f_n Tryz.func10 ?_ ?_
 exact aa_ (aC_ (ba_ l)) (aa_ (ad_ _) ab_)
 refine r_z 1 ?_
 refine ac_ (r_z 1 ?_)
 refine aD_ (fun _:Unit=>⟨[(0,.arr (nR l)),(1,i64 k)],[],1,45⟩) (fun _=>l.all goodN=true) ?_ ?_
 refine ah_ (ax_ (fun j:Nat=>⟨[(5,i64 ((j:Nat):Int)),(0,.arr (nR l)),(1,i64 k)],[],1,45⟩) (fun j=>l.length- j) (fun j=>j≤l.length∧(l.take j).all goodN=true) 0 ⟨Nat.zero_le _,rfl⟩ ?_ ?_)
 have:=(aC_ (ba_ l))
 exact s_f []
 rintro j ⟨hj,hg⟩
 by_cases hlt:j< l.length
 obtain⟨r,hr⟩:∃r,l[j]?=some r:=⟨_,List.getElem?_eq_getElem hlt⟩
 have hgt:(nR l)[((j:Nat):Int).toNat]?=some (nuC r.1 r.2.1 r.2.2):=by
  rw[Int.toNat_natCast,nR,List.getElem?_map,hr];rfl
 have hbad:goodN r=false→tameB l k=false:=fun h=>by
  unfold tameB
  rw[Bool.and_eq_false_iff]
  exact .inl (List.all_eq_false.2 ⟨r,List.mem_of_getElem? hr,by rw[h];decide⟩)
 refine ac_ (q_z 4 ?_)
 refine cT (ag_ (ac_ (ah_ (s_r 6 ?_))))
 refine a_2 ?_
 refine i_x hgt ?_
 refine l_x hgt ?_
 refine a_z ?_
 by_cases c0:((r.2.2:Int) % 4≠0)
 have hgd:goodN r=false:=decide_eq_false (by rintro⟨e0,e1,e2,e3,e4⟩;exact e0 c0)
 rw[hbad hgd]
 refine s_r 24 ?_
 refine a_3 ?_
 refine o_0 (.bin rfl rfl (vT by_ ((by simpa using c0)))) ?_
 refine a_z ?_
 refine cT (r_z 1 ?_)
 exact ai_ (t_e (ad_ _))
 by_cases c1:r.1> 999999
 have hgd:goodN r=false:=decide_eq_false (by rintro⟨e0,e1,e2,e3,e4⟩;exact e1 c1)
 rw[hbad hgd]
 refine s_r 24 ?_
 refine a_3 ?_
 refine o_0 (.bin rfl rfl (vF by_ ((by simpa using c0)))) ?_
 refine d_z ?_
 refine cT (r_z 1 ?_)
 exact ai_ (t_e (ad_ _))
 by_cases c2:r.1< -999999
 have hgd:goodN r=false:=decide_eq_false (by rintro⟨e0,e1,e2,e3,e4⟩;exact e2 c2)
 rw[hbad hgd]
 refine s_r 24 ?_
 refine a_3 ?_
 refine o_0 (.bin rfl rfl (vF by_ ((by simpa using c0)))) ?_
 refine d_z ?_
 refine cT (r_z 1 ?_)
 exact ai_ (t_e (ad_ _))
 by_cases c3:r.2.1> 999999
 have hgd:goodN r=false:=decide_eq_false (by rintro⟨e0,e1,e2,e3,e4⟩;exact e3 c3)
 rw[hbad hgd]
 refine s_r 24 ?_
 refine a_3 ?_
 refine o_0 (.bin rfl rfl (vF by_ ((by simpa using c0)))) ?_
 refine d_z ?_
 refine cT (r_z 1 ?_)
 exact ai_ (t_e (ad_ _))
 by_cases c4:r.2.1< -999999
 have hgd:goodN r=false:=decide_eq_false (by rintro⟨e0,e1,e2,e3,e4⟩;exact e4 c4)
 rw[hbad hgd]
 refine s_r 24 ?_
 refine a_3 ?_
 refine o_0 (.bin rfl rfl (vF by_ ((by simpa using c0)))) ?_
 refine d_z ?_
 refine cT (r_z 1 ?_)
 exact ai_ (t_e (ad_ _))
 have hgd:goodN r=true:=decide_eq_true ⟨c0,c1,c2,c3,c4⟩
 refine s_r 24 ?_
 refine a_3 ?_
 refine o_0 (.bin rfl rfl (vF by_ ((by simpa using c0)))) ?_
 refine d_z ?_
 refine cF (ag_ (r_m 3 ?_))
 refine a_z ?_
 refine⟨j+1,by omega,⟨hlt,?_⟩,?_⟩
 rw[cw_ hr,List.all_append,hg];simp[hgd]
 have:=(aC_ (ba_ l))
 exact s_f []
 have hge:l.take j=l:=List.take_of_length_le (by omega)
 rw[hge] at hg
 refine ac_ (q_z 4 ?_)
 refine cF (au_ ⟨(),hg,?_⟩)
 have:=(aC_ (ba_ l))
 exact s_f []
 rintro _ hg
 have e:tameB l k=decide ((((nR l).length:Nat):Int)≤(k:Int)):=by
  unfold tameB
  rw[hg,Bool.true_and,hnl]
  exact decide_eq_decide.2 (by omega)
 rw[e]
 refine r_z 5 ?_
 exact ai_ (t_e (ad_ _))
theorem ld_(N D N' D':Int)(k k':Nat)(hN:i64r N)(hD:i64r D)(hk:k≤255)(hN':i64r N')(hD':i64r D')(hk':k'≤255):
    FSpec Tryz.prog 12 [.agg (nuC N D k++nuC N' D' k')] (.tup [.agg (spC (numV N D k) (numV N' D' k')),.agg (rC (rq (numV N D k))++rC (rq (numV N' D' k')))]):=by
 have b1:=fY_ N D k hN hD hk
 have b2:=fY_ N' D' k' hN' hD' hk'
 obtain⟨v,hv⟩:∃v,v=numV N D k:=⟨_,rfl⟩
 obtain⟨w,hw⟩:∃w,w=numV N' D' k':=⟨_,rfl⟩
 rw[←hv] at b1⊢
 rw[←hw] at b2⊢
 refine f_n Tryz.func12 ?_ ?_
 exact aa_ (aq_ fun c hc=>(List.mem_append.1 hc).elim (cp_ _ _ _ c) (cp_ _ _ _ c)) ab_
 refine r_z 3 ?_
 refine r_c 10 (b1) ?_
 refine a_z ?_
 refine r_c 10 (b2) ?_
 refine a_z ?_
 refine ac_ (r_d hmix 8 ?_)
 refine a_8 ?_
 refine an_ (n_k ?_)
 refine ai_ (Fin.many ⟨_,_,rfl,⟨_,_,_,_,_,rfl,rfl,rfl,.inl ⟨tg_37.h,_,ts_37.h,nle rfl,rfl⟩⟩,⟨_,_,rfl,⟨_,_,_,_,_,rfl,rfl,rfl,.inl ⟨tg_44.h,_,ts_44.h,nle rfl,rfl⟩⟩,rfl⟩⟩ (nle rfl) ?_)
 exact af_ (al_ at_ (bX_ _ _)) (af_ (al_ at_ (aq_ fun c hc=>(List.mem_append.1 hc).elim (bi_ _ c) (bi_ _ c))) ap_)
abbrev gapC(g:NRow×NRow):List AV:=nuC g.1.1 g.1.2.1 g.1.2.2++nuC g.2.1 g.2.2.1 g.2.2.2
theorem mx_(g:NRow×NRow):∀c∈gapC g,Closed c:=fun c hc=>(List.mem_append.1 hc).elim (cp_ _ _ _ c) (cp_ _ _ _ c)
structure Wt where
 m:List Rat
 l:Bool
 r:Bool
 a:Rat
 b:Rat
 x:RQ
 y:RQ
def wZt:Wt:=⟨[],false,false,0,0,r0,r0⟩
abbrev Wt.A(w:Wt):List AV:=wC w.m w.l w.r (qC w.a) (qC w.b)
abbrev Wt.B(w:Wt):List AV:=rwC w.m w.l w.r w.x w.y
theorem Wt.cA(w:Wt):∀c∈w.A,Closed c:=aJ_ (.inr ⟨_,rfl⟩) (.inr ⟨_,rfl⟩)
structure Wt.Ok (w:Wt):Prop where
 ox:rok w.x
 oy:rok w.y
 ex:w.x.1=w.a
 ey:w.y.1=w.b
 qa:qs w.a≤256
 qb:qs w.b≤256
 bd:bdL w.m 2000000000
 len:w.m.length≤70
theorem wZt_ok:wZt.Ok:=⟨hr_,hr_,rfl,rfl,by decide,by decide,(fun q hq=>by cases hq),by decide⟩
theorem oY_{f:Nat→Rat}{n s:Nat}(h:∀k,k< n→qs (f k)≤s):bdL (sqL f n) s:=fun q hq=>by
 obtain⟨i,hi,rfl⟩:=List.mem_map.1 hq
 exact h i (List.mem_range.1 hi)
theorem jM_(w:Wt)(h:w.Ok)(hl:w.l=false→w.a=0)(hr:w.r=false→w.b=0):FSpec Tryz.prog 27 [.agg w.A,.agg w.B] (bln true):=by
 obtain⟨m,l,r,a,b,x,y⟩:=w
 obtain⟨ox,oy,ex,ey,qa,qb,bd,len⟩:=h
 simp only at *
 have i0:FSpec Tryz.prog 112 [i64 0] (.agg (rC (rq 0))):=cr_ 0 (by decide)
 have hal:=fs_Alike m (rP m) (ev_ _) (vR_rP m) (dU_ bd (by decide)) (by omega)
 have cA:∀c∈wC m l r (qC a) (qC b),Closed c:=aJ_ (.inr ⟨_,rfl⟩) (.inr ⟨_,rfl⟩)
 have cB:∀c∈rwC m l r x y,Closed c:=aV_
 have sl:∀X:RQ,rok X→X.1=a→FSpec Tryz.prog 33 [.agg (qC a),.agg (rC X)] (bln true):=fun X o e=>g3_ a X o e (by omega)
 have sr:∀X:RQ,rok X→X.1=b→FSpec Tryz.prog 33 [.agg (qC b),.agg (rC X)] (bln true):=fun X o e=>g3_ b X o e (by omega)
 refine f_n Tryz.func27 ?_ ?_
 exact aa_ (aq_ cA) (aa_ (aq_ cB) ab_)
 refine r_z 3 ?_
 refine r_c 6 (i0) ?_
 refine c_s (i0) ?_
 refine a_z ?_
 refine aS_ (fun X:RQ=>⟨[(2,.aptr [wC m l r (qC a) (qC b)] 0 0),(3,.aptr [rwC m l r x y] 0 0),(5,.lptr 1 0 0),(6,.lptr 2 0 0)],[(1,some ⟨42,4,[rC X]⟩),(2,some ⟨42,4,[rC (rq 0)]⟩)],3,48⟩) (fun X=>rok X∧X.1=a) ?_ ?_
 cases l with
 |true=>
  refine r_z 2 ?_
  refine cT (r_m 3 ?_)
  refine a_z ?_
  refine⟨x,⟨ox,ex⟩,?_⟩
  refine as_ [(1,5),(2,6)] rfl rfl rfl au_r (fun hs=>?_) (fun hs=>?_)
  ·repeat' (first|exact aA_|refine aw_ rfl ?_ ?_)
   all_goals (first|((first|exact Cv.boxp hs rfl (aE_ rfl) rfl cA|exact Cv.boxp hs rfl (aE_ rfl) rfl cB))|exact au_c)
  ·repeat' (first|exact ao_|refine ak_ rfl rfl rfl rfl ?_ ?_)
   all_goals (first|((try exact ae_ (b8_ hs _)))|exact au_e|(refine ae_ ?_;repeat' (first|exact ap_|refine af_ ?_ ?_)))
   all_goals (first|((first|exact Cv.boxp hs rfl (aE_ rfl) rfl cA|exact Cv.boxp hs rfl (aE_ rfl) rfl cB))|exact au_c)
 |false=>
  refine r_z 2 ?_
  refine cF (ag_ ⟨rq 0,⟨bm_ _,(hl rfl).symm⟩,?_⟩)
  refine as_ [(1,5),(2,6)] rfl rfl rfl au_r (fun hs=>?_) (fun hs=>?_)
  ·repeat' (first|exact aA_|refine aw_ rfl ?_ ?_)
   all_goals (first|((first|exact Cv.boxp hs rfl (aE_ rfl) rfl cA|exact Cv.boxp hs rfl (aE_ rfl) rfl cB))|exact au_c)
  ·repeat' (first|exact ao_|refine ak_ rfl rfl rfl rfl ?_ ?_)
   all_goals (first|((try exact ae_ (b8_ hs _)))|exact au_e|(refine ae_ ?_;repeat' (first|exact ap_|refine af_ ?_ ?_)))
   all_goals (first|((first|exact Cv.boxp hs rfl (aE_ rfl) rfl cA|exact Cv.boxp hs rfl (aE_ rfl) rfl cB))|exact au_c)
 rintro X ⟨o1,e1⟩
 refine aS_ (fun Y:RQ=>⟨[(2,.aptr [wC m l r (qC a) (qC b)] 0 0),(3,.aptr [rwC m l r x y] 0 0),(5,.lptr 1 0 0),(6,.lptr 2 0 0)],[(1,some ⟨42,4,[rC X]⟩),(2,some ⟨42,4,[rC Y]⟩)],3,48⟩) (fun Y=>rok Y∧Y.1=b) ?_ ?_
 cases r with
 |true=>
  refine r_z 2 ?_
  refine cT (r_m 3 ?_)
  refine a_z ?_
  refine⟨y,⟨oy,ey⟩,?_⟩
  refine as_ [(1,5),(2,6)] rfl rfl rfl au_r (fun hs=>?_) (fun hs=>?_)
  ·repeat' (first|exact aA_|refine aw_ rfl ?_ ?_)
   all_goals (first|((first|exact al_ hs (aj_ cA)|exact al_ hs (aj_ cB)))|exact au_c)
  ·repeat' (first|exact ao_|refine ak_ rfl rfl rfl rfl ?_ ?_)
   all_goals (first|((try exact ae_ (b8_ hs _)))|exact au_e|(refine ae_ ?_;repeat' (first|exact ap_|refine af_ ?_ ?_)))
   all_goals (first|((first|exact al_ hs (aj_ cA)|exact al_ hs (aj_ cB)))|exact au_c)
 |false=>
  refine r_z 2 ?_
  refine cF (ag_ ⟨rq 0,⟨bm_ _,(hr rfl).symm⟩,?_⟩)
  refine as_ [(1,5),(2,6)] rfl rfl rfl au_r (fun hs=>?_) (fun hs=>?_)
  ·repeat' (first|exact aA_|refine aw_ rfl ?_ ?_)
   all_goals (first|((first|exact al_ hs (aj_ cA)|exact al_ hs (aj_ cB)))|exact au_c)
  ·repeat' (first|exact ao_|refine ak_ rfl rfl rfl rfl ?_ ?_)
   all_goals (first|((try exact ae_ (b8_ hs _)))|exact au_e|(refine ae_ ?_;repeat' (first|exact ap_|refine af_ ?_ ?_)))
   all_goals (first|((first|exact al_ hs (aj_ cA)|exact al_ hs (aj_ cB)))|exact au_c)
 rintro Y ⟨o2,e2⟩
 have s1:=sl X o1 e1
 have s2:=sr Y o2 e2
 refine r_c 32 (hal) ?_
 refine d_5 ?_
 refine ay_ rfl rfl rfl (.bin rfl rfl (vT (kc_ tu_4.h) ((by cases l <;> rfl)))) rfl rfl ?_
 refine d_6 ?_
 refine ay_ rfl rfl rfl (.bin rfl rfl (vT (kc_ tu_4.h) ((by cases r <;> rfl)))) rfl rfl ?_
 refine c_s (s1) ?_
 refine c_s (s2) ?_
 refine a_z ?_
 exact ai_ (t_e (ad_ _))
structure LoR where
 k:Nat
 g:NRow×NRow
 p:Int
 q:Int
 n:Int
 mo:List NRow
 l:Bool
 r:Bool
 lo:NRow
 hi:NRow
def okLo(x:LoR):Prop:=x.k≤255∧(okN x.g.1∧okN x.g.2)∧i64r x.p∧i64r x.q∧i64r x.n∧okR x.mo∧okN x.lo∧okN x.hi
def loC(x:LoR):List AV:= .v (.int .u8 x.k)::(gapC x.g++[i64 x.p,i64 x.q,i64 x.n,.arr (nR x.mo),bln x.l,bln x.r]++nuC x.lo.1 x.lo.2.1 x.lo.2.2++nuC x.hi.1 x.hi.2.1 x.hi.2.2)
theorem gr_(x:LoR):∀c∈loC x,Closed c:=by
 unfold loC
 refine aa_ (ad_ _) fun c hc=>?_
 rcases List.mem_append.1 hc with hc|hc
 rcases List.mem_append.1 hc with hc|hc
 rcases List.mem_append.1 hc with hc|hc
 exact mx_ _ c hc
 exact aa_ (ad_ _) (aa_ (ad_ _) (aa_ (ad_ _) (aa_ (aC_ (ba_ _)) (aa_ (ad_ _) (aa_ (ad_ _) ab_))))) c hc
 exact cp_ _ _ _ c hc
 exact cp_ _ _ _ c hc
def bdN(n:Int):Prop:=n< 0∨63< n
def bdP(p:Int):Prop:=p< 0∨8< p
instance (n:Int):Decidable (bdN n):=inferInstanceAs (Decidable (_∨_))
instance (n:Int):Decidable (bdP n):=inferInstanceAs (Decidable (_∨_))
def gvJ(a b:Rat)(p q n:Nat):Wt:=⟨sqL (moQ (jcF a b p q) (a,b)) (n+1),true,true,a,b,rq a,rq b⟩
def gvL(p n:Nat):Wt:=⟨sqL (lgQ p) (n+1),true,false,0,0,r0,r0⟩
def gvV(c n:Nat):Wt:=⟨sqL (evW (evK c)) (n+1),decide (1< c),decide (1< c),(evLo c).1.1,(evLo c).2.1,(evLo c).1,(evLo c).2⟩
def gvW(x:LoR):Wt×Int:=
 if x.k=1 then
  if nV x.g.1< nV x.g.2 then
   if bdN x.n∨bdP x.p∨bdP x.q then(wZt,3) else(gvJ (nV x.g.1) (nV x.g.2) x.p.toNat x.q.toNat x.n.toNat,0)
  else(wZt,2)
 else if x.k=2 then
  if bdN x.n∨bdP x.p then(wZt,3) else(gvL x.p.toNat x.n.toNat,0)
 else if bdN x.n then(wZt,3) else(gvV (x.k- 2) x.n.toNat,0)
def gvS(z:Wt×Int):AState:=⟨[(2,.lptr 1 0 0),(4,.lptr 2 0 0),(9,.lptr 3 0 0),(10,.lptr 4 0 0),(11,i64 z.2),(12,i64 z.2)],[(1,some ⟨51,9,[w0C]⟩),(2,some ⟨77,11,[rw0]⟩),(3,some ⟨51,9,[z.1.A]⟩),(4,some ⟨77,11,[z.1.B]⟩)],5,139⟩
theorem gF_(w:Wt)(e:Int):gvS (w,e)=⟨[(2,.lptr 1 0 0),(4,.lptr 2 0 0),(9,.lptr 3 0 0),(10,.lptr 4 0 0),(11,i64 e),(12,i64 e)],[(1,some ⟨51,9,[w0C]⟩),(2,some ⟨77,11,[rw0]⟩),(3,some ⟨51,9,[w.A]⟩),(4,some ⟨77,11,[w.B]⟩)],5,139⟩:=rfl
def gvM(x:LoR)(a b:Rat)(W:List AV)(e:Int)(t:Nat)(B:Bool):AState:=⟨[(1,.aptr [loC x] 0 0),(2,.lptr 1 0 0),(4,.lptr 2 0 0),(7,.aptr [rC (rq a)++rC (rq b)] 0 0),(9,.lptr 3 0 0),(10,.lptr 4 0 0),(11,i64 e),(12,i64 0),(t,bln B)],[(1,some ⟨51,9,[w0C]⟩),(2,some ⟨77,11,[rw0]⟩),(3,some ⟨51,9,[W]⟩),(4,some ⟨77,11,[rw0]⟩)],5,139⟩
theorem i3_(x:LoR)(a b:Rat)(W:List AV)(e:Int)(t:Nat)(B:Bool):gvM x a b W e t B=⟨[(1,.aptr [loC x] 0 0),(2,.lptr 1 0 0),(4,.lptr 2 0 0),(7,.aptr [rC (rq a)++rC (rq b)] 0 0),(9,.lptr 3 0 0),(10,.lptr 4 0 0),(11,i64 e),(12,i64 0),(t,bln B)],[(1,some ⟨51,9,[w0C]⟩),(2,some ⟨77,11,[rw0]⟩),(3,some ⟨51,9,[W]⟩),(4,some ⟨77,11,[rw0]⟩)],5,139⟩:=rfl
theorem b5_{r:Ren}{hp hp':Nat→Option ABlk}(h:Shr r hp hp'):CvL r hp hp' rw0 wZt.B:=bF_ h (Cv.emp _) (gt_ h) (gt_ h)
theorem evS_list{c n:Nat}(hc:1≤c∧c≤3)(hn:n≤20):sqL (evD c) (n+1)=sqL (evW (evK c)) (n+1):=by
 unfold sqL
 exact List.map_congr_left fun i hi=>evD_eq hc (by have:=List.mem_range.1 hi;omega)
theorem nl_(x:LoR)(hx:okLo x)(hk:1≤x.k∧x.k≤5)(hn20:x.n≤20∨63< x.n):FSpec Tryz.prog 26 [.agg (loC x)] (.tup [.agg (gvW x).1.A,i64 (gvW x).2,.agg (gvW x).1.B,i64 (gvW x).2]):=by
 obtain⟨k,g,p,q,n,mo,l,r,lo,hi⟩:=x
 obtain⟨hk255,⟨g1,g2⟩,hp,hq,hn,hmo,hlo,hhi⟩:=hx
 simp only at *
 have kk:(⟨k,g,p,q,n,mo,l,r,lo,hi⟩:LoR).k=k:=rfl
 have cX:=gr_ ⟨k,g,p,q,n,mo,l,r,lo,hi⟩
 have bG:FSpec Tryz.prog 12 [.agg (gapC g)] (.tup [.agg (spC (nV g.1) (nV g.2)),.agg (rC (rq (nV g.1))++rC (rq (nV g.2)))]):=ld_ _ _ _ _ _ _ g1.1 g1.2.1 g1.2.2 g2.1 g2.2.1 g2.2.2
 have qa:qs (nV g.1)≤256:=fs_ g1.1 g1.2.1
 have qb:qs (nV g.2)≤256:=fs_ g2.1 g2.2.1
 obtain⟨Z,hZ⟩:∃Z,Z=gvW ⟨k,g,p,q,n,mo,l,r,lo,hi⟩:=⟨_,rfl⟩
 rw[←hZ]
 unfold gvW at hZ
 simp only at hZ
 have cS:∀c∈rC (rq (nV g.1))++rC (rq (nV g.2)),Closed c:=fun c hc=>(List.mem_append.1 hc).elim (bi_ _ c) (bi_ _ c)
 generalize nV g.1=a at *
 generalize nV g.2=b at *
 refine f_n Tryz.func26 ?_ ?_
 exact aa_ (aq_ cX) ab_
 refine r_z 5 ?_
 refine r_c 10 (bG) ?_
 refine a_z ?_
 refine aS_ (fun _:Unit=>⟨[(1,.aptr [loC ⟨k,g,p,q,n,mo,l,r,lo,hi⟩] 0 0),(2,.lptr 1 0 0),(4,.lptr 2 0 0),(6,.aptr [spC a b] 0 0),(7,.aptr [rC (rq a)++rC (rq b)] 0 0),(8,bln (decide (bdN n)))],[(1,some ⟨51,9,[w0C]⟩),(2,some ⟨77,11,[rw0]⟩)],3,139⟩) (fun _=>True) ?_ ?_
 by_cases h1:n< 0
 rw[decide_eq_true (show bdN n from .inl h1)]
 refine r_m 9 ?_
 refine d_z ?_
 refine⟨(),trivial,?_⟩
 refine as_ [(1,2),(2,4)] rfl rfl rfl au_r (fun hs=>?_) (fun hs=>?_)
 ·repeat' (first|exact aA_|refine aw_ rfl ?_ ?_)
  all_goals (first|((first|exact Cv.boxp hs rfl (aE_ rfl) rfl cX|exact Cv.boxp hs rfl (aE_ rfl) rfl cS))|exact au_c)
 ·repeat' (first|exact ao_|refine ak_ rfl rfl rfl rfl ?_ ?_)
  all_goals (first|((try exact ae_ (CvL.clo hs aT_));(try exact ae_ (CvL.clo hs az_)))|exact au_e|(refine ae_ ?_;repeat' (first|exact ap_|refine af_ ?_ ?_)))
  all_goals (first|((first|exact Cv.boxp hs rfl (aE_ rfl) rfl cX|exact Cv.boxp hs rfl (aE_ rfl) rfl cS))|exact au_c)
 by_cases h2:63< n
 rw[decide_eq_true (show bdN n from .inr h2)]
 refine r_m 9 ?_
 refine d_z ?_
 refine⟨(),trivial,?_⟩
 refine as_ [(1,2),(2,4)] rfl rfl rfl au_r (fun hs=>?_) (fun hs=>?_)
 ·repeat' (first|exact aA_|refine aw_ rfl ?_ ?_)
  all_goals (first|((first|exact Cv.boxp hs rfl (aE_ rfl) rfl cX|exact Cv.boxp hs rfl (aE_ rfl) rfl cS))|exact au_c)
 ·repeat' (first|exact ao_|refine ak_ rfl rfl rfl rfl ?_ ?_)
  all_goals (first|((try exact ae_ (CvL.clo hs aT_));(try exact ae_ (CvL.clo hs az_)))|exact au_e|(refine ae_ ?_;repeat' (first|exact ap_|refine af_ ?_ ?_)))
  all_goals (first|((first|exact Cv.boxp hs rfl (aE_ rfl) rfl cX|exact Cv.boxp hs rfl (aE_ rfl) rfl cS))|exact au_c)
 rw[decide_eq_false (show¬bdN n from fun e=>e.elim h1 h2)]
 refine r_m 9 ?_
 refine d_z ?_
 refine⟨(),trivial,?_⟩
 refine as_ [(1,2),(2,4)] rfl rfl rfl au_r (fun hs=>?_) (fun hs=>?_)
 ·repeat' (first|exact aA_|refine aw_ rfl ?_ ?_)
  all_goals (first|((first|exact Cv.boxp hs rfl (aE_ rfl) rfl cX|exact Cv.boxp hs rfl (aE_ rfl) rfl cS))|exact au_c)
 ·repeat' (first|exact ao_|refine ak_ rfl rfl rfl rfl ?_ ?_)
  all_goals (first|((try exact ae_ (CvL.clo hs aT_));(try exact ae_ (CvL.clo hs az_)))|exact au_e|(refine ae_ ?_;repeat' (first|exact ap_|refine af_ ?_ ?_)))
  all_goals (first|((first|exact Cv.boxp hs rfl (aE_ rfl) rfl cX|exact Cv.boxp hs rfl (aE_ rfl) rfl cS))|exact au_c)
 rintro _ _
 refine r_z 1 ?_
 refine r_z 1 ?_
 refine r_z 1 ?_
 refine r_z 1 ?_
 refine ac_ (r_z 2 ?_)
 refine aD_ gvS (fun z=>z=Z) ?_ ?_
 refine ah_ ?_
 have hcm:FSpec Tryz.prog 39 [.agg (rC (rq a)),.agg (rC (rq b))] (i64 (cmpQ a b)):=pU_ (rq a) (rq b) (bm_ _) (bm_ _) (by show qs a+qs b≤_;omega)
 by_cases k1:k=1
 ·rw[if_pos k1] at hZ
  refine q_z 2 ?_
  refine cT ?_
  by_cases hab:a< b
  rotate_left
  rw[if_neg hab] at hZ
  refine r_c 13 ((ol_ a b p q n hab qa qb)) ?_
  refine a_z ?_
  refine r_c 6 (hcm) ?_
  refine o_0 (.bin rfl rfl (vT cv_ (decide_eq_true (qE_ hab)))) ?_
  refine an_ ?_
  refine cT (r_m 1 ?_)
  refine a_z ?_
  refine⟨_,hZ.symm,?_⟩
  rw[gF_]
  refine as_ [(1,2),(2,4),(3,9),(4,10)] rfl rfl rfl au_r (fun hs=>?_) (fun hs=>?_)
  ·repeat' (first|exact aA_|refine aw_ rfl ?_ ?_)
   all_goals (first|((first|exact al_ hs (aj_ cX)|exact al_ hs (aj_ cS)))|exact au_c)
  ·repeat' (first|exact ao_|refine ak_ rfl rfl rfl rfl ?_ ?_)
   all_goals (first|((try exact ae_ (CvL.clo hs aT_));(try exact ae_ (CvL.clo hs az_));(try exact ae_ (CvL.clo hs (aJ_ (.inr ⟨_,rfl⟩) (.inr ⟨_,rfl⟩))));(try exact ae_ (b5_ hs));(try exact ae_ (CvL.clo hs aV_)))|exact au_e|(refine ae_ ?_;repeat' (first|exact ap_|refine af_ ?_ ?_)))
   all_goals (first|((first|exact al_ hs (aj_ cX)|exact al_ hs (aj_ cS)))|exact au_c)
  rw[if_pos hab] at hZ
  rw[cmp_lt hab] at hcm
  by_cases hb:bdN n∨bdP p∨bdP q
  rw[if_pos hb] at hZ
  refine r_c 13 ((ok_ a b p q n hab qa qb (by unfold bdN bdP at hb;omega))) ?_
  refine a_z ?_
  refine r_c 6 (hcm) ?_
  refine o_0 (.bin rfl rfl (vF cv_ (rfl))) ?_
  refine an_ ?_
  refine cF (aS_ (fun _:Unit=>gvM ⟨k,g,p,q,n,mo,l,r,lo,hi⟩ a b wZ 3 100 true) (fun _=>True) ?_ ?_)
  rw[i3_]
  by_cases b0:bdN n
  rw[decide_eq_true b0]
  refine r_m 21 ?_
  refine a_z ?_
  refine⟨(),trivial,?_⟩
  refine as_ [(1,2),(2,4),(3,9),(4,10)] rfl rfl rfl au_r (fun hs=>?_) (fun hs=>?_)
  ·repeat' (first|exact aA_|refine aw_ rfl ?_ ?_)
   all_goals (first|((first|exact al_ hs (aj_ cX)|exact al_ hs (aj_ cS)))|exact au_c)
  ·repeat' (first|exact ao_|refine ak_ rfl rfl rfl rfl ?_ ?_)
   all_goals (first|((try exact ae_ (CvL.clo hs aT_));(try exact ae_ (CvL.clo hs az_));(try exact ae_ (CvL.clo hs (aJ_ (.inr ⟨_,rfl⟩) (.inr ⟨_,rfl⟩))));(try exact ae_ (b5_ hs));(try exact ae_ (CvL.clo hs aV_)))|exact au_e|(refine ae_ ?_;repeat' (first|exact ap_|refine af_ ?_ ?_)))
   all_goals (first|((first|exact al_ hs (aj_ cX)|exact al_ hs (aj_ cS)))|exact au_c)
  rw[decide_eq_false b0]
  by_cases b1:p< 0
  refine r_m 21 ?_
  refine d_z ?_
  refine⟨(),trivial,?_⟩
  refine as_ [(1,2),(2,4),(3,9),(4,10)] rfl rfl rfl au_r (fun hs=>?_) (fun hs=>?_)
  ·repeat' (first|exact aA_|refine aw_ rfl ?_ ?_)
   all_goals (first|((first|exact al_ hs (aj_ cX)|exact al_ hs (aj_ cS)))|exact au_c)
  ·repeat' (first|exact ao_|refine ak_ rfl rfl rfl rfl ?_ ?_)
   all_goals (first|((try exact ae_ (CvL.clo hs aT_));(try exact ae_ (CvL.clo hs az_));(try exact ae_ (CvL.clo hs (aJ_ (.inr ⟨_,rfl⟩) (.inr ⟨_,rfl⟩))));(try exact ae_ (b5_ hs));(try exact ae_ (CvL.clo hs aV_)))|exact au_e|(refine ae_ ?_;repeat' (first|exact ap_|refine af_ ?_ ?_)))
   all_goals (first|((first|exact al_ hs (aj_ cX)|exact al_ hs (aj_ cS)))|exact au_c)
  by_cases b2:8< p
  refine r_m 21 ?_
  refine d_z ?_
  refine⟨(),trivial,?_⟩
  refine as_ [(1,2),(2,4),(3,9),(4,10)] rfl rfl rfl au_r (fun hs=>?_) (fun hs=>?_)
  ·repeat' (first|exact aA_|refine aw_ rfl ?_ ?_)
   all_goals (first|((first|exact al_ hs (aj_ cX)|exact al_ hs (aj_ cS)))|exact au_c)
  ·repeat' (first|exact ao_|refine ak_ rfl rfl rfl rfl ?_ ?_)
   all_goals (first|((try exact ae_ (CvL.clo hs aT_));(try exact ae_ (CvL.clo hs az_));(try exact ae_ (CvL.clo hs (aJ_ (.inr ⟨_,rfl⟩) (.inr ⟨_,rfl⟩))));(try exact ae_ (b5_ hs));(try exact ae_ (CvL.clo hs aV_)))|exact au_e|(refine ae_ ?_;repeat' (first|exact ap_|refine af_ ?_ ?_)))
   all_goals (first|((first|exact al_ hs (aj_ cX)|exact al_ hs (aj_ cS)))|exact au_c)
  by_cases b3:q< 0
  refine r_m 21 ?_
  refine d_z ?_
  refine⟨(),trivial,?_⟩
  refine as_ [(1,2),(2,4),(3,9),(4,10)] rfl rfl rfl au_r (fun hs=>?_) (fun hs=>?_)
  ·repeat' (first|exact aA_|refine aw_ rfl ?_ ?_)
   all_goals (first|((first|exact al_ hs (aj_ cX)|exact al_ hs (aj_ cS)))|exact au_c)
  ·repeat' (first|exact ao_|refine ak_ rfl rfl rfl rfl ?_ ?_)
   all_goals (first|((try exact ae_ (CvL.clo hs aT_));(try exact ae_ (CvL.clo hs az_));(try exact ae_ (CvL.clo hs (aJ_ (.inr ⟨_,rfl⟩) (.inr ⟨_,rfl⟩))));(try exact ae_ (b5_ hs));(try exact ae_ (CvL.clo hs aV_)))|exact au_e|(refine ae_ ?_;repeat' (first|exact ap_|refine af_ ?_ ?_)))
   all_goals (first|((first|exact al_ hs (aj_ cX)|exact al_ hs (aj_ cS)))|exact au_c)
  have b4:8< q:=by unfold bdP at hb;rcases hb with h|h|h;exact absurd h b0;omega;omega
  refine r_m 21 ?_
  refine d_z ?_
  refine⟨(),trivial,?_⟩
  refine as_ [(1,2),(2,4),(3,9),(4,10)] rfl rfl rfl au_r (fun hs=>?_) (fun hs=>?_)
  ·repeat' (first|exact aA_|refine aw_ rfl ?_ ?_)
   all_goals (first|((first|exact al_ hs (aj_ cX)|exact al_ hs (aj_ cS)))|exact au_c)
  ·repeat' (first|exact ao_|refine ak_ rfl rfl rfl rfl ?_ ?_)
   all_goals (first|((try exact ae_ (CvL.clo hs aT_));(try exact ae_ (CvL.clo hs az_));(try exact ae_ (CvL.clo hs (aJ_ (.inr ⟨_,rfl⟩) (.inr ⟨_,rfl⟩))));(try exact ae_ (b5_ hs));(try exact ae_ (CvL.clo hs aV_)))|exact au_e|(refine ae_ ?_;repeat' (first|exact ap_|refine af_ ?_ ?_)))
   all_goals (first|((first|exact al_ hs (aj_ cX)|exact al_ hs (aj_ cS)))|exact au_c)
  rintro _ _
  rw[i3_]
  refine cT (r_m 1 ?_)
  refine a_z ?_
  refine⟨_,hZ.symm,?_⟩
  rw[gF_]
  refine as_ [(1,2),(2,4),(3,9),(4,10)] rfl rfl rfl au_r (fun hs=>?_) (fun hs=>?_)
  ·repeat' (first|exact aA_|refine aw_ rfl ?_ ?_)
   all_goals (first|((first|exact al_ hs (aj_ cX)|exact al_ hs (aj_ cS)))|exact au_c)
  ·repeat' (first|exact ao_|refine ak_ rfl rfl rfl rfl ?_ ?_)
   all_goals (first|((try exact ae_ (CvL.clo hs aT_));(try exact ae_ (CvL.clo hs az_));(try exact ae_ (CvL.clo hs (aJ_ (.inr ⟨_,rfl⟩) (.inr ⟨_,rfl⟩))));(try exact ae_ (b5_ hs));(try exact ae_ (CvL.clo hs aV_)))|exact au_e|(refine ae_ ?_;repeat' (first|exact ap_|refine af_ ?_ ?_)))
   all_goals (first|((first|exact al_ hs (aj_ cX)|exact al_ hs (aj_ cS)))|exact au_c)
  rw[if_neg hb] at hZ
  have b0:¬bdN n:=fun e=>hb (.inl e)
  have b1:¬p< 0:=fun e=>hb (.inr (.inl (.inl e)))
  have b2:¬8< p:=fun e=>hb (.inr (.inl (.inr e)))
  have b3:¬q< 0:=fun e=>hb (.inr (.inr (.inl e)))
  have b4:¬8< q:=fun e=>hb (.inr (.inr (.inr e)))
  have b5:0≤n∧n≤63:=by unfold bdN at b0;omega
  obtain⟨P,eP⟩:∃P:Nat,(P:Int)=p:=⟨p.toNat,by omega⟩
  obtain⟨Q,eQ⟩:∃Q:Nat,(Q:Int)=q:=⟨q.toNat,by omega⟩
  obtain⟨M,eM⟩:∃M:Nat,(M:Int)=n:=⟨n.toNat,by omega⟩
  subst eP;subst eQ;subst eM
  simp only[Int.toNat_natCast] at hZ
  have hJ:=qb_ a b P Q M (by omega) (by omega) (by omega) hab qa qb
  have hR:=od_ a b P Q M (by omega) (by omega) (by omega) qa qb
  refine r_c 13 (hJ) ?_
  refine a_z ?_
  refine r_c 6 (hcm) ?_
  refine o_0 (.bin rfl rfl (vF cv_ (rfl))) ?_
  refine an_ ?_
  refine cF ?_
  rw[decide_eq_false b0]
  refine q_z 21 ?_
  refine cF (r_m 9 ?_)
  refine c_s (hR) ?_
  refine a_z ?_
  refine⟨_,hZ.symm,?_⟩
  rw[gF_]
  refine as_ [(1,2),(2,4),(3,9),(4,10)] rfl rfl rfl au_r (fun hs=>?_) (fun hs=>?_)
  ·repeat' (first|exact aA_|refine aw_ rfl ?_ ?_)
   all_goals (first|((first|exact al_ hs (aj_ cX)|exact al_ hs (aj_ cS)))|exact au_c)
  ·repeat' (first|exact ao_|refine ak_ rfl rfl rfl rfl ?_ ?_)
   all_goals (first|((try exact ae_ (CvL.clo hs aT_));(try exact ae_ (CvL.clo hs az_));(try exact ae_ (CvL.clo hs (aJ_ (.inr ⟨_,rfl⟩) (.inr ⟨_,rfl⟩))));(try exact ae_ (b5_ hs));(try exact ae_ (CvL.clo hs aV_)))|exact au_e|(refine ae_ ?_;repeat' (first|exact ap_|refine af_ ?_ ?_)))
   all_goals (first|((first|exact al_ hs (aj_ cX)|exact al_ hs (aj_ cS)))|exact au_c)
 rw[if_neg k1] at hZ
 by_cases k2:k=2
 rw[if_pos k2] at hZ
 refine q_z 2 ?_
 refine cF (q_z 2 ?_)
 refine cT ?_
 by_cases hb:bdN n∨bdP p
 rw[if_pos hb] at hZ
 refine r_c 10 ((k7_ p n (by unfold bdN bdP at hb;omega))) ?_
 refine a_z ?_
 refine aS_ (fun _:Unit=>gvM ⟨k,g,p,q,n,mo,l,r,lo,hi⟩ a b wZ 3 129 true) (fun _=>True) ?_ ?_
 rw[i3_]
 by_cases b0:bdN n
 rw[decide_eq_true b0]
 refine r_m 11 ?_
 refine a_z ?_
 refine⟨(),trivial,?_⟩
 refine as_ [(1,2),(2,4),(3,9),(4,10)] rfl rfl rfl au_r (fun hs=>?_) (fun hs=>?_)
 ·repeat' (first|exact aA_|refine aw_ rfl ?_ ?_)
  all_goals (first|((first|exact al_ hs (aj_ cX)|exact al_ hs (aj_ cS)))|exact au_c)
 ·repeat' (first|exact ao_|refine ak_ rfl rfl rfl rfl ?_ ?_)
  all_goals (first|((try exact ae_ (CvL.clo hs aT_));(try exact ae_ (CvL.clo hs az_));(try exact ae_ (CvL.clo hs (aJ_ (.inr ⟨_,rfl⟩) (.inr ⟨_,rfl⟩))));(try exact ae_ (b5_ hs));(try exact ae_ (CvL.clo hs aV_)))|exact au_e|(refine ae_ ?_;repeat' (first|exact ap_|refine af_ ?_ ?_)))
  all_goals (first|((first|exact al_ hs (aj_ cX)|exact al_ hs (aj_ cS)))|exact au_c)
 rw[decide_eq_false b0]
 by_cases b1:p< 0
 refine r_m 11 ?_
 refine d_z ?_
 refine⟨(),trivial,?_⟩
 refine as_ [(1,2),(2,4),(3,9),(4,10)] rfl rfl rfl au_r (fun hs=>?_) (fun hs=>?_)
 ·repeat' (first|exact aA_|refine aw_ rfl ?_ ?_)
  all_goals (first|((first|exact al_ hs (aj_ cX)|exact al_ hs (aj_ cS)))|exact au_c)
 ·repeat' (first|exact ao_|refine ak_ rfl rfl rfl rfl ?_ ?_)
  all_goals (first|((try exact ae_ (CvL.clo hs aT_));(try exact ae_ (CvL.clo hs az_));(try exact ae_ (CvL.clo hs (aJ_ (.inr ⟨_,rfl⟩) (.inr ⟨_,rfl⟩))));(try exact ae_ (b5_ hs));(try exact ae_ (CvL.clo hs aV_)))|exact au_e|(refine ae_ ?_;repeat' (first|exact ap_|refine af_ ?_ ?_)))
  all_goals (first|((first|exact al_ hs (aj_ cX)|exact al_ hs (aj_ cS)))|exact au_c)
 have b2:8< p:=by unfold bdP at hb;rcases hb with h|h;exact absurd h b0;omega
 refine r_m 11 ?_
 refine d_z ?_
 refine⟨(),trivial,?_⟩
 refine as_ [(1,2),(2,4),(3,9),(4,10)] rfl rfl rfl au_r (fun hs=>?_) (fun hs=>?_)
 ·repeat' (first|exact aA_|refine aw_ rfl ?_ ?_)
  all_goals (first|((first|exact al_ hs (aj_ cX)|exact al_ hs (aj_ cS)))|exact au_c)
 ·repeat' (first|exact ao_|refine ak_ rfl rfl rfl rfl ?_ ?_)
  all_goals (first|((try exact ae_ (CvL.clo hs aT_));(try exact ae_ (CvL.clo hs az_));(try exact ae_ (CvL.clo hs (aJ_ (.inr ⟨_,rfl⟩) (.inr ⟨_,rfl⟩))));(try exact ae_ (b5_ hs));(try exact ae_ (CvL.clo hs aV_)))|exact au_e|(refine ae_ ?_;repeat' (first|exact ap_|refine af_ ?_ ?_)))
  all_goals (first|((first|exact al_ hs (aj_ cX)|exact al_ hs (aj_ cS)))|exact au_c)
 rintro _ _
 rw[i3_]
 refine cT (r_m 1 ?_)
 refine a_z ?_
 refine⟨_,hZ.symm,?_⟩
 rw[gF_]
 refine as_ [(1,2),(2,4),(3,9),(4,10)] rfl rfl rfl au_r (fun hs=>?_) (fun hs=>?_)
 ·repeat' (first|exact aA_|refine aw_ rfl ?_ ?_)
  all_goals (first|((first|exact al_ hs (aj_ cX)|exact al_ hs (aj_ cS)))|exact au_c)
 ·repeat' (first|exact ao_|refine ak_ rfl rfl rfl rfl ?_ ?_)
  all_goals (first|((try exact ae_ (CvL.clo hs aT_));(try exact ae_ (CvL.clo hs az_));(try exact ae_ (CvL.clo hs (aJ_ (.inr ⟨_,rfl⟩) (.inr ⟨_,rfl⟩))));(try exact ae_ (b5_ hs));(try exact ae_ (CvL.clo hs aV_)))|exact au_e|(refine ae_ ?_;repeat' (first|exact ap_|refine af_ ?_ ?_)))
  all_goals (first|((first|exact al_ hs (aj_ cX)|exact al_ hs (aj_ cS)))|exact au_c)
 rw[if_neg hb] at hZ
 have b0:¬bdN n:=fun e=>hb (.inl e)
 have b1:¬p< 0:=fun e=>hb (.inr (.inl e))
 have b2:¬8< p:=fun e=>hb (.inr (.inr e))
 have b5:0≤n∧n≤63:=by unfold bdN at b0;omega
 obtain⟨P,eP⟩:∃P:Nat,(P:Int)=p:=⟨p.toNat,by omega⟩
 obtain⟨M,eM⟩:∃M:Nat,(M:Int)=n:=⟨n.toNat,by omega⟩
 subst eP;subst eM
 simp only[Int.toNat_natCast] at hZ
 have hJ:=md_ P M (by omega) (by omega)
 have hR:=kZ_ P M (by omega) (by omega)
 refine r_c 10 (hJ) ?_
 refine a_z ?_
 rw[decide_eq_false b0]
 refine q_z 11 ?_
 refine cF (r_m 6 ?_)
 refine c_s (hR) ?_
 refine a_z ?_
 refine⟨_,hZ.symm,?_⟩
 rw[gF_]
 refine as_ [(1,2),(2,4),(3,9),(4,10)] rfl rfl rfl au_r (fun hs=>?_) (fun hs=>?_)
 ·repeat' (first|exact aA_|refine aw_ rfl ?_ ?_)
  all_goals (first|((first|exact al_ hs (aj_ cX)|exact al_ hs (aj_ cS)))|exact au_c)
 ·repeat' (first|exact ao_|refine ak_ rfl rfl rfl rfl ?_ ?_)
  all_goals (first|((try exact ae_ (CvL.clo hs aT_));(try exact ae_ (CvL.clo hs az_));(try exact ae_ (CvL.clo hs (aJ_ (.inr ⟨_,rfl⟩) (.inr ⟨_,rfl⟩))));(try exact ae_ (b5_ hs));(try exact ae_ (CvL.clo hs aV_)))|exact au_e|(refine ae_ ?_;repeat' (first|exact ap_|refine af_ ?_ ?_)))
  all_goals (first|((first|exact al_ hs (aj_ cX)|exact al_ hs (aj_ cS)))|exact au_c)
 rw[if_neg k2] at hZ
 refine q_z 2 ?_
 refine cF (q_z 2 ?_)
 refine cF (ac_ (r_z 2 ?_))
 have hH:∃e,((bdN n∧e=3)∨(¬bdN n∧e=0))∧(k=3→FSpec Tryz.prog 108 [i64 n] (.tup [.agg Z.1.A,i64 e]))∧(k=4→FSpec Tryz.prog 109 [i64 n] (.tup [.agg Z.1.A,i64 e]))∧(k=5→FSpec Tryz.prog 110 [i64 n] (.tup [.agg Z.1.A,i64 e])):=by
  by_cases b0:bdN n
  rw[if_pos b0] at hZ
  subst hZ
  exact⟨3,.inl ⟨b0,rfl⟩,fun _=>jd_ [] n 3 (jT_ _ n b0),fun _=>nq_ [] n 3 [] false false 0 0 (jT_ _ n b0) (k3_ []),fun _=>k5_ [] n 3 [] false false 0 0 (jT_ _ n b0) (k3_ [])⟩
  rw[if_neg b0] at hZ
  have b5:0≤n∧n≤63:=by unfold bdN at b0;omega
  obtain⟨M,eM⟩:∃M:Nat,(M:Int)=n:=⟨n.toNat,by omega⟩
  subst eM
  simp only[Int.toNat_natCast] at hZ
  subst hZ
  refine⟨0,.inr ⟨b0,rfl⟩,fun e=>?_,fun e=>?_,fun e=>?_⟩
  subst e
  exact jd_ _ _ 0 (mc_ _ _ M (by omega) fs_Herm1 (nv_ 1))
  subst e
  exact nq_ _ _ 0 _ true true _ _ (mc_ _ _ M (by omega) fs_Firs1 (nv_ 2)) (k4_ _)
  subst e
  exact k5_ _ _ 0 _ true true _ _ (mc_ _ _ M (by omega) fs_Seco1 (nv_ 3)) (k4_ _)
 obtain⟨e,he,h3,h4,h5⟩:=hH
 refine aD_ (fun _:Unit=>gvM ⟨k,g,p,q,n,mo,l,r,lo,hi⟩ a b Z.1.A e 8 (decide (bdN n))) (fun _=>True) ?_ ?_
 rw[i3_]
 refine ah_ ?_
 by_cases k3:k=3
 have h3:=h3 k3
 refine q_z 2 ?_
 refine cT (r_m 8 ?_)
 refine c_s (h3) ?_
 refine a_z ?_
 refine⟨(),trivial,?_⟩
 refine as_ [(1,2),(2,4),(3,9),(4,10)] rfl rfl rfl au_r (fun hs=>?_) (fun hs=>?_)
 ·repeat' (first|exact aA_|refine aw_ rfl ?_ ?_)
  all_goals (first|((first|exact al_ hs (aj_ cX)|exact al_ hs (aj_ cS)))|exact au_c)
 ·repeat' (first|exact ao_|refine ak_ rfl rfl rfl rfl ?_ ?_)
  all_goals (first|((try exact ae_ (CvL.clo hs aT_));(try exact ae_ (CvL.clo hs az_));(try exact ae_ (CvL.clo hs (aJ_ (.inr ⟨_,rfl⟩) (.inr ⟨_,rfl⟩))));(try exact ae_ (b5_ hs));(try exact ae_ (CvL.clo hs aV_)))|exact au_e|(refine ae_ ?_;repeat' (first|exact ap_|refine af_ ?_ ?_)))
  all_goals (first|((first|exact al_ hs (aj_ cX)|exact al_ hs (aj_ cS)))|exact au_c)
 refine q_z 2 ?_
 refine cF ?_
 by_cases k4:k=4
 have h4:=h4 k4
 refine q_z 2 ?_
 refine cT (r_m 8 ?_)
 refine c_s (h4) ?_
 refine a_z ?_
 refine⟨(),trivial,?_⟩
 refine as_ [(1,2),(2,4),(3,9),(4,10)] rfl rfl rfl au_r (fun hs=>?_) (fun hs=>?_)
 ·repeat' (first|exact aA_|refine aw_ rfl ?_ ?_)
  all_goals (first|((first|exact al_ hs (aj_ cX)|exact al_ hs (aj_ cS)))|exact au_c)
 ·repeat' (first|exact ao_|refine ak_ rfl rfl rfl rfl ?_ ?_)
  all_goals (first|((try exact ae_ (CvL.clo hs aT_));(try exact ae_ (CvL.clo hs az_));(try exact ae_ (CvL.clo hs (aJ_ (.inr ⟨_,rfl⟩) (.inr ⟨_,rfl⟩))));(try exact ae_ (b5_ hs));(try exact ae_ (CvL.clo hs aV_)))|exact au_e|(refine ae_ ?_;repeat' (first|exact ap_|refine af_ ?_ ?_)))
  all_goals (first|((first|exact al_ hs (aj_ cX)|exact al_ hs (aj_ cS)))|exact au_c)
 have h5:=h5 (by omega)
 refine q_z 2 ?_
 refine cF (r_m 8 ?_)
 refine c_s (h5) ?_
 refine a_z ?_
 refine⟨(),trivial,?_⟩
 refine as_ [(1,2),(2,4),(3,9),(4,10)] rfl rfl rfl au_r (fun hs=>?_) (fun hs=>?_)
 ·repeat' (first|exact aA_|refine aw_ rfl ?_ ?_)
  all_goals (first|((first|exact al_ hs (aj_ cX)|exact al_ hs (aj_ cS)))|exact au_c)
 ·repeat' (first|exact ao_|refine ak_ rfl rfl rfl rfl ?_ ?_)
  all_goals (first|((try exact ae_ (CvL.clo hs aT_));(try exact ae_ (CvL.clo hs az_));(try exact ae_ (CvL.clo hs (aJ_ (.inr ⟨_,rfl⟩) (.inr ⟨_,rfl⟩))));(try exact ae_ (b5_ hs));(try exact ae_ (CvL.clo hs aV_)))|exact au_e|(refine ae_ ?_;repeat' (first|exact ap_|refine af_ ?_ ?_)))
  all_goals (first|((first|exact al_ hs (aj_ cX)|exact al_ hs (aj_ cS)))|exact au_c)
 rintro _ _
 rw[i3_]
 rcases he with⟨b0,rfl⟩|⟨b0,rfl⟩
 rw[if_pos b0] at hZ
 rw[decide_eq_true b0]
 refine r_z 1 ?_
 refine cT (r_m 1 ?_)
 refine a_z ?_
 refine⟨_,hZ.symm,?_⟩
 subst hZ
 rw[gF_]
 refine as_ [(1,2),(2,4),(3,9),(4,10)] rfl rfl rfl au_r (fun hs=>?_) (fun hs=>?_)
 ·repeat' (first|exact aA_|refine aw_ rfl ?_ ?_)
  all_goals (first|((first|exact al_ hs (aj_ cX)|exact al_ hs (aj_ cS)))|exact au_c)
 ·repeat' (first|exact ao_|refine ak_ rfl rfl rfl rfl ?_ ?_)
  all_goals (first|((try exact ae_ (CvL.clo hs aT_));(try exact ae_ (CvL.clo hs az_));(try exact ae_ (CvL.clo hs (aJ_ (.inr ⟨_,rfl⟩) (.inr ⟨_,rfl⟩))));(try exact ae_ (b5_ hs));(try exact ae_ (CvL.clo hs aV_)))|exact au_e|(refine ae_ ?_;repeat' (first|exact ap_|refine af_ ?_ ?_)))
  all_goals (first|((first|exact al_ hs (aj_ cX)|exact al_ hs (aj_ cS)))|exact au_c)
 rw[if_neg b0] at hZ
 rw[decide_eq_false b0]
 have b5:0≤n∧n≤20:=by unfold bdN at b0;omega
 obtain⟨M,eM⟩:∃M:Nat,(M:Int)=n:=⟨n.toNat,by omega⟩
 subst eM
 simp only[Int.toNat_natCast] at hZ
 have hR:=fs_rEven (k- 2) M (by omega) (by omega)
 rw[evS_list (by omega) (by omega),show(((k- 2:Nat):Nat):Int)=(k:Int)- 2 by omega] at hR
 refine r_z 1 ?_
 refine cF (r_m 8 ?_)
 refine c_s (hR) ?_
 refine a_z ?_
 refine⟨_,hZ.symm,?_⟩
 subst hZ
 rw[gF_]
 refine as_ [(1,2),(2,4),(3,9),(4,10)] rfl rfl rfl au_r (fun hs=>?_) (fun hs=>?_)
 ·repeat' (first|exact aA_|refine aw_ rfl ?_ ?_)
  all_goals (first|((first|exact al_ hs (aj_ cX)|exact al_ hs (aj_ cS)))|exact au_c)
 ·repeat' (first|exact ao_|refine ak_ rfl rfl rfl rfl ?_ ?_)
  all_goals (first|((try exact ae_ (CvL.clo hs aT_));(try exact ae_ (CvL.clo hs az_));(try exact ae_ (CvL.clo hs (aJ_ (.inr ⟨_,rfl⟩) (.inr ⟨_,rfl⟩))));(try exact ae_ (b5_ hs));(try exact ae_ (CvL.clo hs aV_)))|exact au_e|(refine ae_ ?_;repeat' (first|exact ap_|refine af_ ?_ ?_)))
  all_goals (first|((first|exact al_ hs (aj_ cX)|exact al_ hs (aj_ cS)))|exact au_c)
 rintro⟨w,e⟩ rfl
 rw[gF_]
 refine ac_ (r_d hmix 8 ?_)
 refine a_8 ?_
 refine an_ (n_k ?_)
 refine ai_ (Fin.many ⟨_,_,rfl,⟨_,_,_,_,_,rfl,rfl,rfl,.inl ⟨tg_51.h,_,ts_51.h,nle rfl,rfl⟩⟩,⟨_,_,rfl,rfl,⟨_,_,rfl,⟨_,_,_,_,_,rfl,rfl,rfl,.inl ⟨tg_77.h,_,ts_77.h,nle rfl,rfl⟩⟩,⟨_,_,rfl,rfl,rfl⟩⟩⟩⟩ (nle rfl) ?_)
 exact af_ (al_ at_ (aq_ w.cA)) (af_ (al_ at_ (ad_ _)) (af_ (al_ at_ (aq_ aV_)) (af_ (al_ at_ (ad_ _)) ap_)))
end Go.Proofs.YtdjfjpeoddmamaaGreatDoor
