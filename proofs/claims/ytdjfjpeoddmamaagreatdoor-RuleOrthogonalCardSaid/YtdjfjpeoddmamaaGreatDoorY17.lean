/- Part Y17 of the proof. -/
import Derived.Test.YtdjfjpeoddmamaaGreatDoorY16
import Derived.ChangeSame
import Derived.ProofKit
import Derived.OpenShut
import Derived.Carry
import Derived.Deep.Slices
import Derived.Deep.Strs
import Derived.ChangeArms
set_option linter.all false
namespace Go.Proofs.YtdjfjpeoddmamaaGreatDoor
open Go.Abs
set_option maxRecDepth 100000
set_option maxHeartbeats 2000000
theorem jt_{r:Ren}{hp hp':Nat→Option ABlk}(h:Shr r hp hp')(L:List Rat):∀n,CvLL r hp hp' (List.replicate n zC++pE L) (pE (List.replicate n 0++L))
 |0=>aH_ h (aI_ L)
 |n+1=>CvLL.cons (ys:=pE (List.replicate n 0++L)) (fs_ h) (jt_ h L n)
def krO(A:AV)(B:AV)(X:AV)(m:List Rat)(n:Nat):Nat→AState
 |k=>⟨[(0,A),(1,B),(4,X),(6,.arr (pE m)),(7,.lsl 1 0 (n+2) none 3),(52,i64 ((n:Int)+1)),(53,i64 k)],[(1,some ⟨35,3,pE (krE m n k)⟩)],2,94⟩
def krI(A:AV)(B:AV)(X:AV)(m:List Rat)(n:Nat)(k:Nat):Nat→AState
 |j=>⟨[(0,A),(1,B),(4,X),(6,.arr (pE m)),(7,.lsl 1 0 (n+2) none 3),(52,i64 ((n:Int)+1)),(53,i64 k),(8,i64 k),(9,.lptr 2 0 0),(57,.lsl 1 0 (n+2) none 3),(58,i64 ((n+2:Nat):Int)),(59,i64 j)],[(1,some ⟨35,3,pE (krE m n k)⟩),(2,some ⟨35,3,[qC (krS (krE m n k) m k j)]⟩)],3,94⟩
theorem nh_ (m m2:List Rat) (l r:Bool) (a b:Rat) (n:Nat) (hn:1≤n∧n≤12) (hok:∀k,k< n→okLd m k) (o1:okMul (ldr m n).1 (ldr m n).1) (o2:okOf m (mulP (ldr m n).1 (ldr m n).1)) (o3:0< ldN m (ldr m n).1)
    (hti:FSpec Tryz.prog 121 [.agg (wC m l r (qC a) (qC b)),.arr (pE (ldr m n).1)] (.agg (wC m2 l r (qC a) (qC b)))) (hm2:2* n+2≤m2.length) (hm0:coP m2 n≠0) (hkr:∀k,k≤n→okKr m2 n k)
    (o4:okMul (ldr m n).1 (krE m2 n (n+1))):
    FSpec Tryz.prog 123 [bW m l r a b,bIn n] (.tup [.arr (pE (mulP (ldr m n).1 (krE m2 n (n+1)))),bln true]):=by
 have hcl:=kO_ m l r a b n (by omega) hok
 have hbw:=es_ m l r a b
 have hbi:=dk_ n
 obtain⟨X,hX⟩:∃X,X=AV.aptr [ldF m l r a b n] 0 0:=⟨_,rfl⟩
 have hXc:Closed X:=by rw[hX];exact cJ_ fun e he=>by rw[List.mem_singleton.1 he];exact dK_ m l r a b n
 have hsp:=sgZ_num_gt.2 o3
 refine f_n Tryz.func123 ?_ ?_
 exact aa_ hbw (aa_ hbi ab_)
 refine r_z 2 ?_
 refine r_c 8 (hcl) ?_
 refine a_z ?_
 refine ac_ (ac_ (r_d hmix 20 ?_))
 refine c_s (dw_ _ _ o1) ?_
 refine c_s (lZ_ m _ l r a b o2) ?_
 refine c_s (bI_ (ldN m (ldr m n).1)) ?_
 refine d_2 ?_
 refine an_ (n_k ?_)
 refine cF (ah_ (ac_ (r_d hmix 8 ?_)))
 refine c_s (hti) ?_
 refine a_2 ?_
 refine an_ (n_k ?_)
 refine ac_ (r_d hmix 7 ?_)
 refine c_s (a4_ 1 (by decide)) ?_
 refine a_1 ?_
 refine o_2 (.append_l rfl rfl rfl te_55.h rfl rfl rfl rfl rfl d_o (lb_ _) rfl rfl (.lsl rfl (nle rfl)) tz_35.h rfl tb_35.h d_o (by first|(simp[maxLen];done)|(simp[maxLen];omega))) ?_
 refine a_1 ?_
 refine an_ (n_k ?_)
 refine ac_ (r_z 3 ?_)
 refine aB_ (fun _:Unit=>⟨[(4,X),(7,.arr (pE (krE m2 n (n+1))))],[],1,94⟩) (fun _=>True) ?_ ?_
 refine ag_ (ax_ (krO (bW m l r a b) (bIn n) X m2 n) (fun k=>n+1- k) (fun k=>k≤n+1) 0 (Nat.zero_le _) ?_ ?_)
 rw[krO.eq_1,hX]
 rw[hX] at hXc
 refine ar_ [(1,7)] rfl rfl rfl ?_ (fun hs=>au_f) (fun hs=>?_)
 ·repeat' (first|exact ShrL.nil|refine ShrL.cons rfl rfl rfl rfl (by first|(simp[fA_])|rfl|(simp;done)|(simp <;> omega)) ?_)
 ·repeat' (first|exact ap_|refine al_ rfl rfl rfl rfl ?_ ?_)
  all_goals (first|(exact jt_ hs [((1:Int):Rat)] (n+1))|exact au_e)
 intro k hk
 rw[krO.eq_1]
 have hel:=fA_ m2 n k
 have hel2:=fA_ m2 n (k+1)
 by_cases hlt:k< n+1
 obtain⟨c1,c2⟩:=hkr k (by omega)
 have hgm:(pE m2)[((n:Nat):Int).toNat]?=some (qC (coP m2 n)):=bD_ (bd_ (by omega))
 refine q_z 1 ?_
 refine ac_ (cT (ah_ (ac_ (ag_ (r_z 2 ?_)))))
 refine r_z 3 ?_
 refine ac_ (r_z 3 ?_)
 refine aB_ (fun _:Unit=>krI (bW m l r a b) (bIn n) X m2 n k (n+2)) (fun _=>True) ?_ ?_
 refine ag_ (ax_ (krI (bW m l r a b) (bIn n) X m2 n k) (fun j=>n+2- j) (fun j=>j≤n+2) 0 (Nat.zero_le _) ?_ ?_)
 rw[krI.eq_1]
 refine ar_ [(2,9)] rfl rfl rfl au_r (fun hs=>au_f) (fun hs=>?_)
 ·repeat' (first|exact ap_|refine al_ rfl rfl rfl rfl ?_ ?_)
  all_goals (first|((try exact aH_ hs (aI_ _));(try exact ae_ (fs_ hs));done)|exact au_e)
 intro j hj
 rw[krI.eq_1]
 by_cases hlt2:j< n+2
 obtain⟨c3,c4⟩:=c1 j hlt2
 have hg1:∀e,e=j→(pE (krE m2 n k))[e]?=some (qC (coP (krE m2 n k) j)):=fun e he=>by
  rw[he];exact bD_ (bd_ (by omega))
 have hg2:(pE m2)[((j:Int)+(k:Int)).toNat]?=some (qC (coP m2 (j+k))):=by
  rw[show((j:Int)+(k:Int)).toNat=j+k by omega]
  exact bD_ (bd_ (by omega))
 refine q_z 1 ?_
 refine ac_ (cT (ah_ (ac_ (ag_ (s_r 6 ?_)))))
 refine a_2 ?_
 first|refine aw_ (.load_l rfl rfl (hg1 _ (by omega)) tg_35.h ts_35.h (nle rfl)) rfl rfl ?_|refine aw_ (.load_a rfl (hg1 _ (by omega)) tg_35.h ts_35.h (nle rfl)) rfl rfl ?_
 refine a_z ?_
 refine r_d hmix 11 ?_
 refine a_6 ?_
 refine i_x hg2 ?_
 refine l_x hg2 ?_
 refine c_s (dd_ _ _ c3) ?_
 refine c_s (fT_ _ _ c4) ?_
 refine a_1 ?_
 refine an_ (n_k ?_)
 refine r_m 2 ?_
 refine a_z ?_
 refine⟨j+1,by omega,hlt2,?_⟩
 rw[krI.eq_1]
 refine ar_ [] rfl rfl rfl au_r (fun hs=>au_f) (fun hs=>?_)
 ·repeat' (first|exact ap_|refine al_ rfl rfl rfl rfl ?_ ?_)
  all_goals (first|((try exact aH_ hs (aI_ _));(try exact ae_ (CvL.clo hs (aO_ _)));done)|exact au_e)
 have hge:j=n+2:=by omega
 subst hge
 refine q_z 1 ?_
 refine ac_ (cF (av_ ⟨(),trivial,?_⟩))
 try simp only[krI.eq_1]
 refine ar_ [] rfl rfl rfl au_r (fun hs=>au_f) (fun hs=>?_)
 ·repeat' (first|exact ap_|refine al_ rfl rfl rfl rfl ?_ ?_)
  all_goals (first|((try exact aH_ hs (aI_ _));(try exact ae_ (CvL.clo hs (aO_ _)));done)|exact au_e)
 rintro _ _
 try simp only[krI.eq_1]
 have hg3:∀e,e=n- k→(pE (krE m2 n k))[e]?=some (qC (coP (krE m2 n k) (n- k))):=fun e he=>by
  rw[he];exact bD_ (bd_ (by omega))
 refine r_d hmix 13 ?_
 refine a_7 ?_
 refine i_x hgm ?_
 refine l_x hgm ?_
 refine c_s (dW_ _ _ hm0 c2) ?_
 refine c_s (gx_ _) ?_
 refine a_1 ?_
 refine o_1n (.store rfl rfl (hg3 _ (by omega)) rfl rfl rfl ts_35.h (nle rfl)) ?_
 refine an_ (n_k ?_)
 refine r_m 2 ?_
 refine a_z ?_
 refine⟨k+1,by omega,hlt,?_⟩
 rw[krO.eq_1]
 have e:∀e,e=n- k→(pE (krE m2 n k)).set e (qC (-(krS (krE m2 n k) m2 k (n+2) / coP m2 n)))=pE (krE m2 n (k+1)):=fun e he=>by
  rw[he,iu_];rfl
 refine ar_ [] rfl rfl rfl au_r (fun hs=>au_f) (fun hs=>?_)
 ·repeat' (first|exact ap_|refine al_ rfl rfl rfl rfl ?_ ?_)
  all_goals (first|(exact aD_ hs (e (0+((n:Int)- (k:Int)).toNat) (by omega)) (aI_ _))|exact au_e)
 have hge:k=n+1:=by omega
 subst hge
 refine q_z 1 ?_
 refine ac_ (cF (av_ ⟨(),trivial,?_⟩))
 refine ar_ [] rfl rfl rfl au_r (fun hs=>?_) (fun hs=>?_)
 ·repeat' (first|exact aA_|refine au_ rfl ?_ ?_)
  all_goals (first|((try exact ak_ hs hXc);(try exact db_ hs rfl (fun _ _ h=>by cases h) rfl (by rw[hel]));done)|exact au_c)
 ·repeat' (first|exact ap_|refine al_ rfl rfl rfl rfl ?_ ?_)
  all_goals (first|exact au_e|(refine ae_ ?_;repeat' (first|exact ao_|refine af_ ?_ ?_)))
  all_goals (first|((try exact ak_ hs hXc);(try exact db_ hs rfl (fun _ _ h=>by cases h) rfl (by rw[hel]));done)|exact au_c)
 rintro _ _
 rw[hX]
 refine r_c 8 (dw_ _ _ o4) ?_
 refine a_z ?_
 refine aj_ (Fin.many ⟨_,_,rfl,rfl,⟨_,_,rfl,rfl,rfl⟩⟩ (nle rfl) ?_)
 exact af_ (ak_ as_ (at_ _)) (af_ (ak_ as_ (ad_ _)) ao_)
theorem pD_ (m:List Rat) (l r:Bool) (a b:Rat) (n:Nat) (p wt:List Rat) (hn:1≤n∧n≤12) (h1:FSpec Tryz.prog 123 [bW m l r a b,bIn n] (.tup [.arr (pE p),bln true])) (hm:3* n+2≤m.length∧m.length≤64) (hab:l=true→r=true→a< b) (ha:sm a) (hb:sm b)
    (hr:FSpec Tryz.prog 160 [.arr (pE p)] (bln true)) (hpb:bdL p 68719476736) (hp0:trimQ p≠[]) (hpl:p.length≤1099511627776)
    (hon:FSpec Tryz.prog 161 [.agg (wC m l r (qC a) (qC b)),.arr (pE (bf_ p))] (.agg (ruC (bf_ p) wt))):
    FSpec Tryz.prog 38 [.agg (wC m l r (qC a) (qC b)),i64 n] (.tup [.agg (ruC (bf_ p) wt),i64 0]):=by
 have hWc:∀c∈wC m l r (qC a) (qC b),Closed c:=aG_ (.inr ⟨a,rfl⟩) (.inr ⟨b,rfl⟩)
 have hra:=iV_ (n:Nat) 1 12 (by omega)
 have hcc:∀c∈[bW m l r a b,bIn n],Closed c:=aa_ (es_ m l r a b) (aa_ (dk_ n) ab_)
 have hna:=kI_ m l r a b (3* n+2) 123 [bW m l r a b,bIn n] p wt hcc (by omega) hab ha hb hm.1 h1 hr hpb hp0 hpl hon
 rw[show((3* n+2:Nat):Int)=3* (n:Int)+2 by omega] at hna
 refine f_n Tryz.func38 ?_ ?_
 exact aa_ (aq_ hWc) (aa_ (ad_ _) ab_)
 refine r_z 4 ?_
 refine AWp.ent (st':=⟨[(2,bW m l r a b),(3,bIn n),(4,.lptr 1 0 0)],[(1,some ⟨57,2,[[.emp,.emp]]⟩)],2,16⟩) ?_ ?_
 refine ar_ [(1,4)] rfl rfl rfl au_r (fun hs=>?_) (fun hs=>?_)
 ·repeat' (first|exact aA_|refine au_ rfl ?_ ?_)
  all_goals (first|((try exact Cv.boxp hs rfl (aM_ rfl) rfl hWc);(try exact Cv.boxp hs rfl (aM_ rfl) rfl (aa_ (ad_ _) ab_));done)|exact au_c)
 ·repeat' (first|exact ap_|refine al_ rfl rfl rfl rfl ?_ ?_)
  all_goals (first|exact au_e|(refine ae_ ?_;repeat' (first|exact ao_|refine af_ ?_ ?_)))
  all_goals (first|((try exact Cv.boxp hs rfl (aM_ rfl) rfl hWc);(try exact Cv.boxp hs rfl (aM_ rfl) rfl (aa_ (ad_ _) ab_));done)|exact au_c)
 refine ac_ (r_d hmix 12 ?_)
 refine c_s (hra) ?_
 refine c_s (hna) ?_
 refine a_4 ?_
 refine an_ (n_k ?_)
 refine aj_ (Fin.many ⟨_,_,rfl,⟨_,_,_,_,_,rfl,rfl,rfl,.inl ⟨tg_57.h,_,ts_57.h,nle rfl,rfl⟩⟩,⟨_,_,rfl,rfl,rfl⟩⟩ (nle rfl) ?_)
 exact af_ (ak_ as_ (aq_ (bU_ _ _))) (af_ (ak_ as_ (ad_ _)) ao_)
section
variable {a b:Rat}(h:a< b){k:Nat}(hk:1≤k∧k≤4)(ha:qs a≤20)(hb:qs b≤20)
include h hk ha hb
end
section
variable {a b a' b':Rat}(h:a< b)(h':a'< b'){k:Nat}(hk:1≤k∧k≤4)(ha:qs a≤20)(hb:qs b≤20)(ha':qs a'≤20)(hb':qs b'≤20)
include h h' hk ha hb ha' hb'
end
theorem h0_(f:Nat)(p:List Rat)(b:Bool)(hf:f≤1000000)(h:realM f p=some b):FSpec Tryz.prog 160 [.arr (pE p)] (bln b):=by
 unfold realM at h
 cases hc:dX_ f p with
 |none=>rw[hc] at h;cases h
 |some c=>
  rw[hc,Option.bind_some] at h
  split at h
  ·rename_i ho
   cases h
   obtain⟨o1,o2,o3,o4,o5,o6,o7⟩:=ho
   have hb1:=sj_ p
   refine fs_real1 p _ (by omega) ⟨o6,o7⟩ o4 (fs_Count f p c (-cB_ p,cB_ p) hc hf o1 o2 o3 ?_ ?_ (by omega))
   show cmpQ (-cB_ p) (cB_ p)≤0
   unfold cmpQ;rw[if_pos (by grind)];decide
   unfold iL_;rw[if_neg (by omega),if_neg (by omega)]
  cases h
theorem rw_(f:Nat)(p m w:List Rat)(l r:Bool)(a b:Rat)(h:onM f p m=some w):FSpec Tryz.prog 161 [.agg (wC m l r (qC a) (qC b)),.arr (pE p)] (.agg (ruC p w)):=by
 unfold onM at h
 cases hz:bzL f (aY_ p) p (dY_ ((1:Int):Rat)) [] with
 |none=>rw[hz] at h;cases h
 |some x=>
  rw[hz,Option.bind_some] at h
  split at h
  ·rename_i ho
   cases h
   obtain⟨o1,o2,o3,o4,o5,o6,o7,o8,o9⟩:=ho
   have hp0:trimQ p≠[]:=by rw[o4];intro e;rw[e] at o5;simp at o5
   have hde:=i0_ p o9 (by omega)
   have hbz:=rQ_ f (aY_ p) p x.1 x.2 hp0 (by omega) hz o1
   exact fs_on p m l r a b (p.length- 1) (mxL p) (mxL m) _ _ _ (by omega) o4 (by omega) (ce_ p) (ce_ m) (bP_ p) (bP_ m) (by omega) (by rw[show p.length- 1+2=p.length+1 by omega];exact o8) hde hbz o2 o3
  cases h
theorem fs_apM(p w f:List Rat)(h:okAp p w f):FSpec Tryz.prog 103 [.agg (ruC p w),.arr (pE f)] (.agg (qC (apV p w f))):=by
 obtain⟨o1,o2,o3,o4,o5,o6,o7,o8,o9,o10⟩:=h
 have hl:(trimQ p).length=dg p+1:=by unfold dg at o4⊢;omega
 have hp0:trimQ p≠[]:=by intro e;rw[e] at hl;simp at hl
 have hsu:=fs_sums p w (dg p) hl o4 o5 (by omega) o7
 exact fs_apply p w f (suP p) (mxL (apR p w f)) (mxL (suP p)) hsu hp0 o1 o2 o3 (ce_ _) (ce_ _) (bP_ _) (bP_ _) (by omega) (by unfold suP;rw[eh_];omega) o9
theorem t5_0:textQ (mkRat 2 5)=[50,47,53]∧okT (mkRat 2 5):=by decide+kernel
theorem t5_1:textP p13=[120,94,50,32,45,32,49,47,51]∧okPT p13:=by decide+kernel
theorem t5_2:textP [1]=[49]∧okPT [1]:=by decide+kernel
theorem t5_3:textP p35=[120,94,51,32,45,32,51,47,53,32,120]∧okPT p35:=by decide+kernel
theorem t5_4:textP w35=[45,53,47,57,32,120,94,50,32,43,32,56,47,57]∧okPT w35:=by decide+kernel
theorem t5_5:textP wRa=[51,47,52,32,120,32,43,32,53,47,52]∧okPT wRa:=by decide+kernel
theorem sm_ends:sm (-1)∧sm 1∧(-1:Rat)< 1:=by decide+kernel
theorem fs_wJac:FSpec Tryz.prog 15 [.agg (spC (-1) 1),i64 0,i64 0,i64 5] (.tup [.agg (wC m6 true true (qC (-1)) (qC 1)),i64 0]):=by
 have:=ni_ (-1) 1 5 (by omega) sm_ends.2.2 (by decide) (by decide) fun k hk=>c_ok.2 k (by omega)
 exact this
theorem fR_:m6.length=6:=by rw[c_m6];rfl
theorem rm_:FSpec Tryz.prog 16 [.agg (wC m6 true true (qC (-1)) (qC 1)),i64 2] (.tup [.agg (ruC p13 [1]),i64 0]):=by
 obtain⟨c1,c2,c3,c4,c5,c6⟩:=c_g
 have:=fs_Gauss m6 true true (-1) 1 2 [1] (by omega) (fun j hj=>c_ok.1 j hj) (by rw[fR_];omega) (fun _ _=>sm_ends.2.2) sm_ends.1 sm_ends.2.1 (by rw[c1];exact h0_ 9 p13 true (by omega) c2) (by rw[c1];exact bdL_mono' c5 (by omega)) (by rw[c1];exact c6) (by rw[c1];decide) (by rw[c1,c4];exact rw_ 9 p13 m6 [1] _ _ _ _ c3)
 rw[c1,c4] at this
 exact this
theorem rn_:FSpec Tryz.prog 94 [.agg (ruC p13 [1])] (i64 0):=
 md_ p13 [1] (h0_ 9 p13 true (by omega) c_g.2.1) (by decide+kernel) (by decide+kernel) (by decide) (by decide)
theorem fs_wDeg:FSpec Tryz.prog 61 [.agg (wC m6 true true (qC (-1)) (qC 1)),.agg (ruC p13 [1])] (.tup [i64 3,bln true,i64 0]):=by
 have hcw:=bS_ m6 true true (-1) 1 (by rw[fR_];omega) (fun _ _=>sm_ends.2.2) sm_ends.1 sm_ends.2.1
 obtain⟨d1,d2,d3⟩:=c_d
 have:=pt_ p13 [1] m6 true true (-1) 1 4 (fun k=>apV p13 [1] (List.replicate k 0++[((1:Int):Rat)])) (rr_ p13 [1] m6 true true (-1) 1 hcw rn_) (fun k hk=>fs_apM _ _ _ (d1 k (by omega))) (by rw[fR_];omega) (by rw[fR_];omega) (gO_ c_k.2.2.2.2.2.2.2.2.1 (by omega)) (fun k hk=>(d1 k (by omega)).2.2.2.2.2.2.2.2.2) d2 d3
 exact this
theorem fs_wKr:FSpec Tryz.prog 38 [.agg (wC m6 true true (qC (-1)) (qC 1)),i64 1] (.tup [.agg (ruC p35 w35),i64 0]):=by
 obtain⟨k1,k2,k3,k4,k5,k6,k7,k8,k9,k10⟩:=c_k
 obtain⟨q1,q2,q3,q4,q5⟩:=c_kp
 have hti:=jX_ (ldr m6 1).1 m6 true true (-1) 1 100 100 k8 k9 (by omega) (by omega) (by omega) (by rw[fR_];omega) (by rw[fR_];omega)
 have h1:=nh_ m6 mKr true true (-1) 1 1 (by omega) (fun k hk=>c_ok.1 k (by omega)) k1 k2 k3 hti (by omega) k5 (fun k hk=>c_kk k (by omega)) k6
 rw[k7] at h1
 have:=pD_ m6 true true (-1) 1 1 p35 w35 (by omega) h1 (by rw[fR_];omega) (fun _ _=>sm_ends.2.2) sm_ends.1 sm_ends.2.1 (h0_ 9 p35 true (by omega) q1) (bdL_mono' q4 (by omega)) q5 (by decide) (by rw[q3];exact rw_ 9 p35 m6 w35 _ _ _ _ q2)
 rw[q3] at this
 exact this
theorem fs_wRa:FSpec Tryz.prog 36 [.agg (wC m6 true true (qC (-1)) (qC 1)),i64 2,.agg (qC (-1))] (.tup [.agg (ruC pRa wRa),i64 0]):=by
 obtain⟨r1,r2,r3,r4,r5,r6,r7,r8,r9⟩:=c_r
 have hti:=jX_ (enM (-1)) m6 true true (-1) 1 100 100 r9 c_k.2.2.2.2.2.2.2.2.1 (by omega) (by omega) (by decide) (by rw[fR_];omega) (by rw[fR_];decide)
 have h1:=rH_ m6 mRa true true (-1) 1 (-1) 2 (by omega) (by omega) hti (fun k hk=>r1 k (by omega)) r2
 rw[show mulP (enM (-1)) (ldr mRa (2- 1)).1=pRa from r3] at h1
 have:=fs_Radau m6 true true (-1) 1 (-1) 2 pRa wRa (by omega) h1 (by rw[fR_];omega) (fun _ _=>sm_ends.2.2) sm_ends.1 sm_ends.2.1 (h0_ 9 pRa true (by omega) r4) (bdL_mono' r7 (by omega)) r8 (by decide) (by rw[r6];exact rw_ 9 pRa m6 wRa _ _ _ _ r5)
 rw[r6] at this
 exact this
theorem fc_:FSpec Tryz.prog 11 [] (.v (.bool true)):=by
 have n1:=dz_ (-1) (by decide)
 rw[show((-1:Int):Rat)= -1 by decide] at n1
 have n2:=dz_ 1 (by decide)
 rw[show((1:Int):Rat)=1 by decide] at n2
 have hj:=fs_wJac
 have hg:=rm_
 have hd:=fs_wDeg
 have hk:=fs_wKr
 have hr:=fs_wRa
 rw[c_m6] at hj hg hd hk hr
 have q0:=oB_ (mkRat 2 5) t5_0.2
 rw[t5_0.1] at q0
 have q1:=gz_ p13 t5_1.2
 rw[t5_1.1] at q1
 have q2:=gz_ [1] t5_2.2
 rw[t5_2.1] at q2
 have q3:=gz_ p35 t5_3.2
 rw[t5_3.1] at q3
 have q4:=gz_ w35 t5_4.2
 rw[t5_4.1] at q4
 have q5:=gz_ wRa t5_5.2
 rw[t5_5.1] at q5
 refine f_n Tryz.func11 ?_ ?_
 exact ab_
 refine r_z 1 ?_
 refine r_c 5 (n1) ?_
 refine c_s (n2) ?_
 refine a_z ?_
 refine r_c 8 (hj) ?_
 refine a_z ?_
 refine r_c 8 (hg) ?_
 refine a_z ?_
 refine r_c 10 (hd) ?_
 refine a_z ?_
 refine r_c 8 (hk) ?_
 refine a_z ?_
 refine ac_ (r_d hmix 9 ?_)
 refine c_s (n1) ?_
 refine c_s (hr) ?_
 refine a_6 ?_
 refine an_ (n_k ?_)
 refine s_r 70 ?_
 refine a_1 ?_
 refine o_0 (.bin rfl rfl (vT a9_ (rfl))) ?_
 refine d_2 ?_
 refine ay_ rfl rfl rfl (.bin rfl rfl (vT a9_ (rfl))) rfl rfl ?_
 refine d_3 ?_
 refine ay_ rfl rfl rfl (.bin rfl rfl (vT a9_ (rfl))) rfl rfl ?_
 refine d_3 ?_
 refine ay_ rfl rfl rfl (.bin rfl rfl (vT a9_ (rfl))) rfl rfl ?_
 refine d_3 ?_
 refine ay_ rfl rfl rfl (.bin rfl rfl (vT a9_ (rfl))) rfl rfl ?_
 refine d_5 ?_
 refine ay_ rfl rfl rfl (.bin rfl rfl (vT a9_ (rfl))) rfl rfl ?_
 refine c_s (q0) ?_
 refine ay_ rfl rfl rfl (.bin rfl rfl (vT dF_ rfl)) rfl rfl ?_
 refine c_s (q1) ?_
 refine ay_ rfl rfl rfl (.bin rfl rfl (vT dF_ rfl)) rfl rfl ?_
 refine c_s (q2) ?_
 refine ay_ rfl rfl rfl (.bin rfl rfl (vT dF_ rfl)) rfl rfl ?_
 refine d_3 ?_
 refine ay_ rfl rfl rfl (.bin rfl rfl (vT a9_ (rfl))) rfl rfl ?_
 refine c_s (q3) ?_
 refine ay_ rfl rfl rfl (.bin rfl rfl (vT dF_ rfl)) rfl rfl ?_
 refine c_s (q4) ?_
 refine ay_ rfl rfl rfl (.bin rfl rfl (vT dF_ rfl)) rfl rfl ?_
 refine c_s (q5) ?_
 refine ay_ rfl rfl rfl (.bin rfl rfl (vT dF_ rfl)) rfl rfl ?_
 refine a_z ?_
 exact aj_ (t_e (ad_ _))
end Go.Proofs.YtdjfjpeoddmamaaGreatDoor
namespace Go.Proofs.YtdjfjpeoddmamaaGreatDoor
open Go.Abs Go.Deep Go.RowKit Go.WideShapes
set_option maxRecDepth 20000
def okN(r:NRow):Prop:=i64r r.1∧i64r r.2.1∧r.2.2≤255
end Go.Proofs.YtdjfjpeoddmamaaGreatDoor
namespace Go.Proofs.YtdjfjpeoddmamaaGreatDoor
open Go.Abs
set_option maxRecDepth 20000
def goodN(r:NRow):Bool:=decide (¬((r.2.2:Int) % 4≠0)∧¬r.1> 999999∧¬r.1< -999999∧¬r.2.1> 999999∧¬r.2.1< -999999)
def tameB(l:List NRow)(k:Nat):Bool:=l.all goodN && decide (l.length≤k)
theorem rD_(l:List NRow)(k:Nat)(hl:l.length≤9223372036854775807)(hk:k≤1000000):FSpec Tryz.prog 10 [.arr (nR l),i64 k] (bln (tameB l k)):=by
 have hnl:(nR l).length=l.length:=by simp[nR]
 refine f_n Tryz.func10 ?_ ?_
 exact aa_ (aX_ (cj_ l)) (aa_ (ad_ _) ab_)
 refine r_z 1 ?_
 refine ac_ (r_z 1 ?_)
 refine aB_ (fun _:Unit=>⟨[(0,.arr (nR l)),(1,i64 k)],[],1,45⟩) (fun _=>l.all goodN=true) ?_ ?_
 refine ag_ (ax_ (fun j:Nat=>⟨[(5,i64 ((j:Nat):Int)),(0,.arr (nR l)),(1,i64 k)],[],1,45⟩) (fun j=>l.length- j) (fun j=>j≤l.length∧(l.take j).all goodN=true) 0 ⟨Nat.zero_le _,rfl⟩ ?_ ?_)
 have:=(aX_ (cj_ l))
 exact s_f []
 rintro j ⟨hj,hg⟩
 by_cases hlt:j< l.length
 obtain⟨r,hr⟩:∃r,l[j]?=some r:=⟨_,List.getElem?_eq_getElem hlt⟩
 have hgt:(nR l)[((j:Nat):Int).toNat]?=some (nuC r.1 r.2.1 r.2.2):=by
  rw[Int.toNat_natCast,nR,List.getElem?_map,hr];rfl
 have hbad:goodN r=false→tameB l k=false:=fun h=>by
  unfold tameB
  rw[Bool.and_eq_false_iff]
  exact .inl (List.all_eq_false.2 ⟨r,List.mem_of_getElem? hr,by rw[h];decide⟩)
 refine ac_ (q_z 4 ?_)
 refine cT (ah_ (ac_ (ag_ (s_r 6 ?_))))
 refine a_2 ?_
 refine i_x hgt ?_
 refine l_x hgt ?_
 refine a_z ?_
 by_cases c0:((r.2.2:Int) % 4≠0)
 have hgd:goodN r=false:=decide_eq_false (by rintro⟨e0,e1,e2,e3,e4⟩;exact e0 c0)
 rw[hbad hgd]
 refine s_r 24 ?_
 refine a_3 ?_
 refine o_0 (.bin rfl rfl (vT ba_ ((by simpa using c0)))) ?_
 refine a_z ?_
 refine cT (r_z 1 ?_)
 exact aj_ (t_e (ad_ _))
 by_cases c1:r.1> 999999
 have hgd:goodN r=false:=decide_eq_false (by rintro⟨e0,e1,e2,e3,e4⟩;exact e1 c1)
 rw[hbad hgd]
 refine s_r 24 ?_
 refine a_3 ?_
 refine o_0 (.bin rfl rfl (vF ba_ ((by simpa using c0)))) ?_
 refine d_z ?_
 refine cT (r_z 1 ?_)
 exact aj_ (t_e (ad_ _))
 by_cases c2:r.1< -999999
 have hgd:goodN r=false:=decide_eq_false (by rintro⟨e0,e1,e2,e3,e4⟩;exact e2 c2)
 rw[hbad hgd]
 refine s_r 24 ?_
 refine a_3 ?_
 refine o_0 (.bin rfl rfl (vF ba_ ((by simpa using c0)))) ?_
 refine d_z ?_
 refine cT (r_z 1 ?_)
 exact aj_ (t_e (ad_ _))
 by_cases c3:r.2.1> 999999
 have hgd:goodN r=false:=decide_eq_false (by rintro⟨e0,e1,e2,e3,e4⟩;exact e3 c3)
 rw[hbad hgd]
 refine s_r 24 ?_
 refine a_3 ?_
 refine o_0 (.bin rfl rfl (vF ba_ ((by simpa using c0)))) ?_
 refine d_z ?_
 refine cT (r_z 1 ?_)
 exact aj_ (t_e (ad_ _))
 by_cases c4:r.2.1< -999999
 have hgd:goodN r=false:=decide_eq_false (by rintro⟨e0,e1,e2,e3,e4⟩;exact e4 c4)
 rw[hbad hgd]
 refine s_r 24 ?_
 refine a_3 ?_
 refine o_0 (.bin rfl rfl (vF ba_ ((by simpa using c0)))) ?_
 refine d_z ?_
 refine cT (r_z 1 ?_)
 exact aj_ (t_e (ad_ _))
 have hgd:goodN r=true:=decide_eq_true ⟨c0,c1,c2,c3,c4⟩
 refine s_r 24 ?_
 refine a_3 ?_
 refine o_0 (.bin rfl rfl (vF ba_ ((by simpa using c0)))) ?_
 refine d_z ?_
 refine cF (ah_ (r_m 3 ?_))
 refine a_z ?_
 refine⟨j+1,by omega,⟨hlt,?_⟩,?_⟩
 rw[cD_ hr,List.all_append,hg];simp[hgd]
 have:=(aX_ (cj_ l))
 exact s_f []
 have hge:l.take j=l:=List.take_of_length_le (by omega)
 rw[hge] at hg
 refine ac_ (q_z 4 ?_)
 refine cF (av_ ⟨(),hg,?_⟩)
 have:=(aX_ (cj_ l))
 exact s_f []
 rintro _ hg
 have e:tameB l k=decide ((((nR l).length:Nat):Int)≤(k:Int)):=by
  unfold tameB
  rw[hg,Bool.true_and,hnl]
  exact decide_eq_decide.2 (by omega)
 rw[e]
 refine r_z 5 ?_
 exact aj_ (t_e (ad_ _))
theorem good_qs{r:NRow}(h:goodN r=true)(hb:i64r r.1)(hd:i64r r.2.1):qs (numV r.1 r.2.1 r.2.2)≤20:=by
 obtain⟨h0,h1,h2,h3,h4⟩:=of_decide_eq_true h
 have hp:r.2.2 % 4=0:=by omega
 have hN:bl r.1.natAbs≤20:=bl_le (by omega)
 unfold numV
 rw[hp]
 show qs (Rat.divInt r.1 (dNum r.2.1))≤20
 obtain⟨d,hde⟩:∃d,d=dNum r.2.1:=⟨_,rfl⟩
 have hd0:d≠0:=by rw[hde];unfold dNum;split <;> omega
 have hdb:bl d.natAbs≤20:=by rw[hde];unfold dNum;split <;> exact bl_le (by omega)
 rw[←hde]
 by_cases hn:d< 0
 rw[fF_ _ d hn]
 exact cU_ (by omega) (by rw[Int.natAbs_neg];exact hN) (by omega)
 rw[fE_ _ d (by omega)]
 exact cU_ (by omega) hN (by omega)
theorem qb_{l:List NRow}{k:Nat}(h:tameB l k=true)(ho:okR l):bdL (nL l) 20∧(nL l).length≤k:=by
 unfold tameB at h
 rw[Bool.and_eq_true,List.all_eq_true] at h
 refine⟨fun q hq=>?_,by simpa[nL] using h.2⟩
 obtain⟨r,hr,rfl⟩:=List.mem_map.1 hq
 exact good_qs (h.1 r hr) (ho r hr).1 (ho r hr).2.1
theorem me_(N D N' D':Int)(k k':Nat)(hN:i64r N)(hD:i64r D)(hk:k≤255)(hN':i64r N')(hD':i64r D')(hk':k'≤255):
    FSpec Tryz.prog 12 [.agg (nuC N D k++nuC N' D' k')] (.tup [.agg (spC (numV N D k) (numV N' D' k')),.agg (rC (rq (numV N D k))++rC (rq (numV N' D' k')))]):=by
 have b1:=gA_ N D k hN hD hk
 have b2:=gA_ N' D' k' hN' hD' hk'
 obtain⟨v,hv⟩:∃v,v=numV N D k:=⟨_,rfl⟩
 obtain⟨w,hw⟩:∃w,w=numV N' D' k':=⟨_,rfl⟩
 rw[←hv] at b1⊢
 rw[←hw] at b2⊢
 refine f_n Tryz.func12 ?_ ?_
 exact aa_ (aq_ fun c hc=>(List.mem_append.1 hc).elim (cw_ _ _ _ c) (cw_ _ _ _ c)) ab_
 refine r_z 3 ?_
 refine r_c 10 (b1) ?_
 refine a_z ?_
 refine r_c 10 (b2) ?_
 refine a_z ?_
 refine ac_ (r_d hmix 8 ?_)
 refine a_8 ?_
 refine an_ (n_k ?_)
 refine aj_ (Fin.many ⟨_,_,rfl,⟨_,_,_,_,_,rfl,rfl,rfl,.inl ⟨tg_37.h,_,ts_37.h,nle rfl,rfl⟩⟩,⟨_,_,rfl,⟨_,_,_,_,_,rfl,rfl,rfl,.inl ⟨tg_44.h,_,ts_44.h,nle rfl,rfl⟩⟩,rfl⟩⟩ (nle rfl) ?_)
 exact af_ (ak_ as_ (b4_ _ _)) (af_ (ak_ as_ (aq_ fun c hc=>(List.mem_append.1 hc).elim (bg_ _ c) (bg_ _ c))) ao_)
end Go.Proofs.YtdjfjpeoddmamaaGreatDoor
namespace Go.Proofs.YtdjfjpeoddmamaaGreatDoor
open Go.Abs Go.Deep Go.RowKit Go.WideShapes
set_option maxRecDepth 20000
theorem tyu3:(Tryz.prog).underlying 3=some (.int .i64):=by kernel_rfl
theorem intP_of{H:Type}{enc:TypeId×Value→H}{W:World}{base:Nat}{v:Value}{d:DataW H}{ps:List MemPlace}(hv:Value.okWide Tryz.prog W .any base 3 v)(h:DataW.Trod enc Tryz.prog W 0 (fun _=>true) true 3 v d ps):
    ∃r:Int,i64r r∧RV (fun _=>False) (fun _=>none) W (i64 r) v:=by
 obtain⟨n,rfl⟩:∃n,v= .int .i64 n:=by
  unfold Value.okWide at hv
  rw[tyu3] at hv
  cases v with
  |int k n=>obtain⟨rfl,_⟩:=hv;exact⟨n,rfl⟩
  |_=>exact False.elim hv
 obtain⟨fuel,hf⟩:=h
 obtain⟨n0,e0,_,w0⟩:=DataW.trod_int tyu3 hf
 have e:n=n0:=by simpa[Value.cells] using e0
 subst e
 exact⟨n,bounds_i64 w0,rfl⟩
end Go.Proofs.YtdjfjpeoddmamaaGreatDoor
namespace Go.Proofs.YtdjfjpeoddmamaaGreatDoor
open Go.Abs Go.ChangeShapes Go.Deep Go.RowKit Go.WideShapes
set_option maxRecDepth 20000
theorem tyG:∃f0 f1,(Tryz.prog).underlying 25=some (.struct #[f0,f1])∧f0.type=23∧f0.offset=0∧f1.type=23∧f1.offset=3:=
 ⟨{name:= "Low",type:=23,offset:=0,embedded:=false,tag:= "",pkgPath:= "",byteOffset:=0},{name:= "High",type:=23,offset:=3,embedded:=false,tag:= "",pkgPath:= "",byteOffset:=24},by kernel_rfl,rfl,rfl,rfl,rfl⟩
theorem tycG:(Tryz.prog).cellsOf 25=6:=by kernel_rfl
end Go.Proofs.YtdjfjpeoddmamaaGreatDoor
namespace Go.Proofs.YtdjfjpeoddmamaaGreatDoor
open Go.Abs
set_option maxRecDepth 20000
set_option maxHeartbeats 2000000
abbrev gapC(g:NRow×NRow):List AV:=nuC g.1.1 g.1.2.1 g.1.2.2++nuC g.2.1 g.2.2.1 g.2.2.2
theorem nD_(g:NRow×NRow):∀c∈gapC g,Closed c:=fun c hc=>(List.mem_append.1 hc).elim (cw_ _ _ _ c) (cw_ _ _ _ c)
theorem sgZ_le{q:Rat}:sgZ q.num≤0↔¬0< q:=by
 have h1:=sgZ_num_gt (q:=q)
 constructor
 intro h e;have:=h1.2 e;omega
 intro h
 by_cases e:0< sgZ q.num
 exact absurd (h1.1 e) h
 omega
structure Wt where
 m:List Rat
 l:Bool
 r:Bool
 a:Rat
 b:Rat
 x:RQ
 y:RQ
def wZt:Wt:=⟨[],false,false,0,0,r0,r0⟩
abbrev Wt.A(w:Wt):List AV:=wC w.m w.l w.r (qC w.a) (qC w.b)
abbrev Wt.B(w:Wt):List AV:=rwC w.m w.l w.r w.x w.y
theorem Wt.cA(w:Wt):∀c∈w.A,Closed c:=aG_ (.inr ⟨_,rfl⟩) (.inr ⟨_,rfl⟩)
structure Wt.Ok (w:Wt):Prop where
 ox:rok w.x
 oy:rok w.y
 ex:w.x.1=w.a
 ey:w.y.1=w.b
 qa:qs w.a≤256
 qb:qs w.b≤256
 bd:bdL w.m 2000000000
 len:w.m.length≤70
theorem wZt_ok:wZt.Ok:=⟨ir_,ir_,rfl,rfl,by decide,by decide,(fun q hq=>by cases hq),by decide⟩
theorem jD_{f:Nat→Rat}{n s:Nat}(h:∀k,k< n→qs (f k)≤s):bdL (sqL f n) s:=fun q hq=>by
 obtain⟨i,hi,rfl⟩:=List.mem_map.1 hq
 exact h i (List.mem_range.1 hi)
structure LoR where
 k:Nat
 g:NRow×NRow
 p:Int
 q:Int
 n:Int
 mo:List NRow
 l:Bool
 r:Bool
 lo:NRow
 hi:NRow
def okLo(x:LoR):Prop:=x.k≤255∧(okN x.g.1∧okN x.g.2)∧i64r x.p∧i64r x.q∧i64r x.n∧okR x.mo∧okN x.lo∧okN x.hi
def loC(x:LoR):List AV:= .v (.int .u8 x.k)::(gapC x.g++[i64 x.p,i64 x.q,i64 x.n,.arr (nR x.mo),bln x.l,bln x.r]++nuC x.lo.1 x.lo.2.1 x.lo.2.2++nuC x.hi.1 x.hi.2.1 x.hi.2.2)
theorem hv_(x:LoR):∀c∈loC x,Closed c:=by
 unfold loC
 refine aa_ (ad_ _) fun c hc=>?_
 rcases List.mem_append.1 hc with hc|hc
 rcases List.mem_append.1 hc with hc|hc
 rcases List.mem_append.1 hc with hc|hc
 exact nD_ _ c hc
 exact aa_ (ad_ _) (aa_ (ad_ _) (aa_ (ad_ _) (aa_ (aX_ (cj_ _)) (aa_ (ad_ _) (aa_ (ad_ _) ab_))))) c hc
 exact cw_ _ _ _ c hc
 exact cw_ _ _ _ c hc
def bdN(n:Int):Prop:=n< 0∨63< n
def bdP(p:Int):Prop:=p< 0∨8< p
instance (n:Int):Decidable (bdN n):=inferInstanceAs (Decidable (_∨_))
instance (n:Int):Decidable (bdP n):=inferInstanceAs (Decidable (_∨_))
def gvJ(a b:Rat)(p q n:Nat):Wt:=⟨sqL (moQ (jcF a b p q) (a,b)) (n+1),true,true,a,b,rq a,rq b⟩
def gvL(p n:Nat):Wt:=⟨sqL (lgQ p) (n+1),true,false,0,0,r0,r0⟩
def gvV(c n:Nat):Wt:=⟨sqL (evW (evK c)) (n+1),decide (1< c),decide (1< c),(evLo c).1.1,(evLo c).2.1,(evLo c).1,(evLo c).2⟩
def gvW(x:LoR):Wt×Int:=
 if x.k=1 then
  if nV x.g.1< nV x.g.2 then
   if bdN x.n∨bdP x.p∨bdP x.q then(wZt,3) else(gvJ (nV x.g.1) (nV x.g.2) x.p.toNat x.q.toNat x.n.toNat,0)
  else(wZt,2)
 else if x.k=2 then
  if bdN x.n∨bdP x.p then(wZt,3) else(gvL x.p.toNat x.n.toNat,0)
 else if bdN x.n then(wZt,3) else(gvV (x.k- 2) x.n.toNat,0)
def gvS(z:Wt×Int):AState:=⟨[(2,.lptr 1 0 0),(4,.lptr 2 0 0),(9,.lptr 3 0 0),(10,.lptr 4 0 0),(11,i64 z.2),(12,i64 z.2)],[(1,some ⟨51,9,[w0C]⟩),(2,some ⟨77,11,[rw0]⟩),(3,some ⟨51,9,[z.1.A]⟩),(4,some ⟨77,11,[z.1.B]⟩)],5,139⟩
def gvM(x:LoR)(a b:Rat)(W:List AV)(e:Int)(t:Nat)(B:Bool):AState:=⟨[(1,.aptr [loC x] 0 0),(2,.lptr 1 0 0),(4,.lptr 2 0 0),(7,.aptr [rC (rq a)++rC (rq b)] 0 0),(9,.lptr 3 0 0),(10,.lptr 4 0 0),(11,i64 e),(12,i64 0),(t,bln B)],[(1,some ⟨51,9,[w0C]⟩),(2,some ⟨77,11,[rw0]⟩),(3,some ⟨51,9,[W]⟩),(4,some ⟨77,11,[rw0]⟩)],5,139⟩
theorem cd_{r:Ren}{hp hp':Nat→Option ABlk}(h:Shr r hp hp'):CvL r hp hp' rw0 wZt.B:=bK_ h (Cv.emp _) (hx_ h) (hx_ h)
theorem evS_list{c n:Nat}(hc:1≤c∧c≤3)(hn:n≤20):sqL (evD c) (n+1)=sqL (evW (evK c)) (n+1):=by
 unfold sqL
 exact List.map_congr_left fun i hi=>evD_eq hc (by have:=List.mem_range.1 hi;omega)
theorem fs_given(x:LoR)(hx:okLo x)(hk:1≤x.k∧x.k≤5)(hn20:x.n≤20∨63< x.n):FSpec Tryz.prog 26 [.agg (loC x)] (.tup [.agg (gvW x).1.A,i64 (gvW x).2,.agg (gvW x).1.B,i64 (gvW x).2]):=by
 obtain⟨k,g,p,q,n,mo,l,r,lo,hi⟩:=x
 obtain⟨hk255,⟨g1,g2⟩,hp,hq,hn,hmo,hlo,hhi⟩:=hx
 simp only at *
 have kk:(⟨k,g,p,q,n,mo,l,r,lo,hi⟩:LoR).k=k:=rfl
 have cX:=hv_ ⟨k,g,p,q,n,mo,l,r,lo,hi⟩
 have bG:FSpec Tryz.prog 12 [.agg (gapC g)] (.tup [.agg (spC (nV g.1) (nV g.2)),.agg (rC (rq (nV g.1))++rC (rq (nV g.2)))]):=me_ _ _ _ _ _ _ g1.1 g1.2.1 g1.2.2 g2.1 g2.2.1 g2.2.2
 have qa:qs (nV g.1)≤256:=f0_ g1.1 g1.2.1
 have qb:qs (nV g.2)≤256:=f0_ g2.1 g2.2.1
 obtain⟨Z,hZ⟩:∃Z,Z=gvW ⟨k,g,p,q,n,mo,l,r,lo,hi⟩:=⟨_,rfl⟩
 rw[←hZ]
 unfold gvW at hZ
 simp only at hZ
 have cS:∀c∈rC (rq (nV g.1))++rC (rq (nV g.2)),Closed c:=fun c hc=>(List.mem_append.1 hc).elim (bg_ _ c) (bg_ _ c)
 generalize nV g.1=a at *
 generalize nV g.2=b at *
 refine f_n Tryz.func26 ?_ ?_
 exact aa_ (aq_ cX) ab_
 refine r_z 5 ?_
 refine r_c 10 (bG) ?_
 refine a_z ?_
 refine aU_ (fun _:Unit=>⟨[(1,.aptr [loC ⟨k,g,p,q,n,mo,l,r,lo,hi⟩] 0 0),(2,.lptr 1 0 0),(4,.lptr 2 0 0),(6,.aptr [spC a b] 0 0),(7,.aptr [rC (rq a)++rC (rq b)] 0 0),(8,bln (decide (bdN n)))],[(1,some ⟨51,9,[w0C]⟩),(2,some ⟨77,11,[rw0]⟩)],3,139⟩) (fun _=>True) ?_ ?_
 by_cases h1:n< 0
 rw[decide_eq_true (show bdN n from .inl h1)]
 refine r_m 9 ?_
 refine d_z ?_
 refine⟨(),trivial,?_⟩
 refine ar_ [(1,2),(2,4)] rfl rfl rfl au_r (fun hs=>?_) (fun hs=>?_)
 ·repeat' (first|exact aA_|refine au_ rfl ?_ ?_)
  all_goals (first|((first|exact Cv.boxp hs rfl (aM_ rfl) rfl cX|exact Cv.boxp hs rfl (aM_ rfl) rfl cS))|exact au_c)
 ·repeat' (first|exact ap_|refine al_ rfl rfl rfl rfl ?_ ?_)
  all_goals (first|((try exact ae_ (CvL.clo hs aV_));(try exact ae_ (CvL.clo hs aC_)))|exact au_e|(refine ae_ ?_;repeat' (first|exact ao_|refine af_ ?_ ?_)))
  all_goals (first|((first|exact Cv.boxp hs rfl (aM_ rfl) rfl cX|exact Cv.boxp hs rfl (aM_ rfl) rfl cS))|exact au_c)
 by_cases h2:63< n
 rw[decide_eq_true (show bdN n from .inr h2)]
 refine r_m 9 ?_
 refine d_z ?_
 refine⟨(),trivial,?_⟩
 refine ar_ [(1,2),(2,4)] rfl rfl rfl au_r (fun hs=>?_) (fun hs=>?_)
 ·repeat' (first|exact aA_|refine au_ rfl ?_ ?_)
  all_goals (first|((first|exact Cv.boxp hs rfl (aM_ rfl) rfl cX|exact Cv.boxp hs rfl (aM_ rfl) rfl cS))|exact au_c)
 ·repeat' (first|exact ap_|refine al_ rfl rfl rfl rfl ?_ ?_)
  all_goals (first|((try exact ae_ (CvL.clo hs aV_));(try exact ae_ (CvL.clo hs aC_)))|exact au_e|(refine ae_ ?_;repeat' (first|exact ao_|refine af_ ?_ ?_)))
  all_goals (first|((first|exact Cv.boxp hs rfl (aM_ rfl) rfl cX|exact Cv.boxp hs rfl (aM_ rfl) rfl cS))|exact au_c)
 rw[decide_eq_false (show¬bdN n from fun e=>e.elim h1 h2)]
 refine r_m 9 ?_
 refine d_z ?_
 refine⟨(),trivial,?_⟩
 refine ar_ [(1,2),(2,4)] rfl rfl rfl au_r (fun hs=>?_) (fun hs=>?_)
 ·repeat' (first|exact aA_|refine au_ rfl ?_ ?_)
  all_goals (first|((first|exact Cv.boxp hs rfl (aM_ rfl) rfl cX|exact Cv.boxp hs rfl (aM_ rfl) rfl cS))|exact au_c)
 ·repeat' (first|exact ap_|refine al_ rfl rfl rfl rfl ?_ ?_)
  all_goals (first|((try exact ae_ (CvL.clo hs aV_));(try exact ae_ (CvL.clo hs aC_)))|exact au_e|(refine ae_ ?_;repeat' (first|exact ao_|refine af_ ?_ ?_)))
  all_goals (first|((first|exact Cv.boxp hs rfl (aM_ rfl) rfl cX|exact Cv.boxp hs rfl (aM_ rfl) rfl cS))|exact au_c)
 rintro _ _
 refine r_z 1 ?_
 refine r_z 1 ?_
 refine r_z 1 ?_
 refine r_z 1 ?_
 refine ac_ (r_z 2 ?_)
 refine aB_ gvS (fun z=>z=Z) ?_ ?_
 refine ag_ ?_
 have hcm:FSpec Tryz.prog 39 [.agg (rC (rq a)),.agg (rC (rq b))] (i64 (cmpQ a b)):=rv_ (rq a) (rq b) (bk_ _) (bk_ _) (by show qs a+qs b≤_;omega)
 by_cases k1:k=1
 ·rw[if_pos k1] at hZ
  refine q_z 2 ?_
  refine cT ?_
  by_cases hab:a< b
  rotate_left
  rw[if_neg hab] at hZ
  refine r_c 13 ((pF_ a b p q n hab qa qb)) ?_
  refine a_z ?_
  refine r_c 6 (hcm) ?_
  refine o_0 (.bin rfl rfl (vT cN_ (decide_eq_true (sd_ hab)))) ?_
  refine an_ ?_
  refine cT (r_m 1 ?_)
  refine a_z ?_
  refine⟨_,hZ.symm,?_⟩
  rw[gvS.eq_1]
  refine ar_ [(1,2),(2,4),(3,9),(4,10)] rfl rfl rfl au_r (fun hs=>?_) (fun hs=>?_)
  ·repeat' (first|exact aA_|refine au_ rfl ?_ ?_)
   all_goals (first|((first|exact ak_ hs (ai_ cX)|exact ak_ hs (ai_ cS)))|exact au_c)
  ·repeat' (first|exact ap_|refine al_ rfl rfl rfl rfl ?_ ?_)
   all_goals (first|((try exact ae_ (CvL.clo hs aV_));(try exact ae_ (CvL.clo hs aC_));(try exact ae_ (CvL.clo hs (aG_ (.inr ⟨_,rfl⟩) (.inr ⟨_,rfl⟩))));(try exact ae_ (cd_ hs));(try exact ae_ (CvL.clo hs a0_)))|exact au_e|(refine ae_ ?_;repeat' (first|exact ao_|refine af_ ?_ ?_)))
   all_goals (first|((first|exact ak_ hs (ai_ cX)|exact ak_ hs (ai_ cS)))|exact au_c)
  rw[if_pos hab] at hZ
  rw[cmp_lt hab] at hcm
  by_cases hb:bdN n∨bdP p∨bdP q
  rw[if_pos hb] at hZ
  refine r_c 13 ((pE_ a b p q n hab qa qb (by unfold bdN bdP at hb;omega))) ?_
  refine a_z ?_
  refine r_c 6 (hcm) ?_
  refine o_0 (.bin rfl rfl (vF cN_ (rfl))) ?_
  refine an_ ?_
  refine cF (aU_ (fun _:Unit=>gvM ⟨k,g,p,q,n,mo,l,r,lo,hi⟩ a b wZ 3 100 true) (fun _=>True) ?_ ?_)
  rw[gvM.eq_1]
  by_cases b0:bdN n
  rw[decide_eq_true b0]
  refine r_m 21 ?_
  refine a_z ?_
  refine⟨(),trivial,?_⟩
  refine ar_ [(1,2),(2,4),(3,9),(4,10)] rfl rfl rfl au_r (fun hs=>?_) (fun hs=>?_)
  ·repeat' (first|exact aA_|refine au_ rfl ?_ ?_)
   all_goals (first|((first|exact ak_ hs (ai_ cX)|exact ak_ hs (ai_ cS)))|exact au_c)
  ·repeat' (first|exact ap_|refine al_ rfl rfl rfl rfl ?_ ?_)
   all_goals (first|((try exact ae_ (CvL.clo hs aV_));(try exact ae_ (CvL.clo hs aC_));(try exact ae_ (CvL.clo hs (aG_ (.inr ⟨_,rfl⟩) (.inr ⟨_,rfl⟩))));(try exact ae_ (cd_ hs));(try exact ae_ (CvL.clo hs a0_)))|exact au_e|(refine ae_ ?_;repeat' (first|exact ao_|refine af_ ?_ ?_)))
   all_goals (first|((first|exact ak_ hs (ai_ cX)|exact ak_ hs (ai_ cS)))|exact au_c)
  rw[decide_eq_false b0]
  by_cases b1:p< 0
  refine r_m 21 ?_
  refine d_z ?_
  refine⟨(),trivial,?_⟩
  refine ar_ [(1,2),(2,4),(3,9),(4,10)] rfl rfl rfl au_r (fun hs=>?_) (fun hs=>?_)
  ·repeat' (first|exact aA_|refine au_ rfl ?_ ?_)
   all_goals (first|((first|exact ak_ hs (ai_ cX)|exact ak_ hs (ai_ cS)))|exact au_c)
  ·repeat' (first|exact ap_|refine al_ rfl rfl rfl rfl ?_ ?_)
   all_goals (first|((try exact ae_ (CvL.clo hs aV_));(try exact ae_ (CvL.clo hs aC_));(try exact ae_ (CvL.clo hs (aG_ (.inr ⟨_,rfl⟩) (.inr ⟨_,rfl⟩))));(try exact ae_ (cd_ hs));(try exact ae_ (CvL.clo hs a0_)))|exact au_e|(refine ae_ ?_;repeat' (first|exact ao_|refine af_ ?_ ?_)))
   all_goals (first|((first|exact ak_ hs (ai_ cX)|exact ak_ hs (ai_ cS)))|exact au_c)
  by_cases b2:8< p
  refine r_m 21 ?_
  refine d_z ?_
  refine⟨(),trivial,?_⟩
  refine ar_ [(1,2),(2,4),(3,9),(4,10)] rfl rfl rfl au_r (fun hs=>?_) (fun hs=>?_)
  ·repeat' (first|exact aA_|refine au_ rfl ?_ ?_)
   all_goals (first|((first|exact ak_ hs (ai_ cX)|exact ak_ hs (ai_ cS)))|exact au_c)
  ·repeat' (first|exact ap_|refine al_ rfl rfl rfl rfl ?_ ?_)
   all_goals (first|((try exact ae_ (CvL.clo hs aV_));(try exact ae_ (CvL.clo hs aC_));(try exact ae_ (CvL.clo hs (aG_ (.inr ⟨_,rfl⟩) (.inr ⟨_,rfl⟩))));(try exact ae_ (cd_ hs));(try exact ae_ (CvL.clo hs a0_)))|exact au_e|(refine ae_ ?_;repeat' (first|exact ao_|refine af_ ?_ ?_)))
   all_goals (first|((first|exact ak_ hs (ai_ cX)|exact ak_ hs (ai_ cS)))|exact au_c)
  by_cases b3:q< 0
  refine r_m 21 ?_
  refine d_z ?_
  refine⟨(),trivial,?_⟩
  refine ar_ [(1,2),(2,4),(3,9),(4,10)] rfl rfl rfl au_r (fun hs=>?_) (fun hs=>?_)
  ·repeat' (first|exact aA_|refine au_ rfl ?_ ?_)
   all_goals (first|((first|exact ak_ hs (ai_ cX)|exact ak_ hs (ai_ cS)))|exact au_c)
  ·repeat' (first|exact ap_|refine al_ rfl rfl rfl rfl ?_ ?_)
   all_goals (first|((try exact ae_ (CvL.clo hs aV_));(try exact ae_ (CvL.clo hs aC_));(try exact ae_ (CvL.clo hs (aG_ (.inr ⟨_,rfl⟩) (.inr ⟨_,rfl⟩))));(try exact ae_ (cd_ hs));(try exact ae_ (CvL.clo hs a0_)))|exact au_e|(refine ae_ ?_;repeat' (first|exact ao_|refine af_ ?_ ?_)))
   all_goals (first|((first|exact ak_ hs (ai_ cX)|exact ak_ hs (ai_ cS)))|exact au_c)
  have b4:8< q:=by unfold bdP at hb;rcases hb with h|h|h;exact absurd h b0;omega;omega
  refine r_m 21 ?_
  refine d_z ?_
  refine⟨(),trivial,?_⟩
  refine ar_ [(1,2),(2,4),(3,9),(4,10)] rfl rfl rfl au_r (fun hs=>?_) (fun hs=>?_)
  ·repeat' (first|exact aA_|refine au_ rfl ?_ ?_)
   all_goals (first|((first|exact ak_ hs (ai_ cX)|exact ak_ hs (ai_ cS)))|exact au_c)
  ·repeat' (first|exact ap_|refine al_ rfl rfl rfl rfl ?_ ?_)
   all_goals (first|((try exact ae_ (CvL.clo hs aV_));(try exact ae_ (CvL.clo hs aC_));(try exact ae_ (CvL.clo hs (aG_ (.inr ⟨_,rfl⟩) (.inr ⟨_,rfl⟩))));(try exact ae_ (cd_ hs));(try exact ae_ (CvL.clo hs a0_)))|exact au_e|(refine ae_ ?_;repeat' (first|exact ao_|refine af_ ?_ ?_)))
   all_goals (first|((first|exact ak_ hs (ai_ cX)|exact ak_ hs (ai_ cS)))|exact au_c)
  rintro _ _
  rw[gvM.eq_1]
  refine cT (r_m 1 ?_)
  refine a_z ?_
  refine⟨_,hZ.symm,?_⟩
  rw[gvS.eq_1]
  refine ar_ [(1,2),(2,4),(3,9),(4,10)] rfl rfl rfl au_r (fun hs=>?_) (fun hs=>?_)
  ·repeat' (first|exact aA_|refine au_ rfl ?_ ?_)
   all_goals (first|((first|exact ak_ hs (ai_ cX)|exact ak_ hs (ai_ cS)))|exact au_c)
  ·repeat' (first|exact ap_|refine al_ rfl rfl rfl rfl ?_ ?_)
   all_goals (first|((try exact ae_ (CvL.clo hs aV_));(try exact ae_ (CvL.clo hs aC_));(try exact ae_ (CvL.clo hs (aG_ (.inr ⟨_,rfl⟩) (.inr ⟨_,rfl⟩))));(try exact ae_ (cd_ hs));(try exact ae_ (CvL.clo hs a0_)))|exact au_e|(refine ae_ ?_;repeat' (first|exact ao_|refine af_ ?_ ?_)))
   all_goals (first|((first|exact ak_ hs (ai_ cX)|exact ak_ hs (ai_ cS)))|exact au_c)
  rw[if_neg hb] at hZ
  have b0:¬bdN n:=fun e=>hb (.inl e)
  have b1:¬p< 0:=fun e=>hb (.inr (.inl (.inl e)))
  have b2:¬8< p:=fun e=>hb (.inr (.inl (.inr e)))
  have b3:¬q< 0:=fun e=>hb (.inr (.inr (.inl e)))
  have b4:¬8< q:=fun e=>hb (.inr (.inr (.inr e)))
  have b5:0≤n∧n≤63:=by unfold bdN at b0;omega
  obtain⟨P,eP⟩:∃P:Nat,(P:Int)=p:=⟨p.toNat,by omega⟩
  obtain⟨Q,eQ⟩:∃Q:Nat,(Q:Int)=q:=⟨q.toNat,by omega⟩
  obtain⟨M,eM⟩:∃M:Nat,(M:Int)=n:=⟨n.toNat,by omega⟩
  subst eP;subst eQ;subst eM
  simp only[Int.toNat_natCast] at hZ
  have hJ:=rM_ a b P Q M (by omega) (by omega) (by omega) hab qa qb
  have hR:=pu_ a b P Q M (by omega) (by omega) (by omega) qa qb
  refine r_c 13 (hJ) ?_
  refine a_z ?_
  refine r_c 6 (hcm) ?_
  refine o_0 (.bin rfl rfl (vF cN_ (rfl))) ?_
  refine an_ ?_
  refine cF ?_
  rw[decide_eq_false b0]
  refine q_z 21 ?_
  refine cF (r_m 9 ?_)
  refine c_s (hR) ?_
  refine a_z ?_
  refine⟨_,hZ.symm,?_⟩
  rw[gvS.eq_1]
  refine ar_ [(1,2),(2,4),(3,9),(4,10)] rfl rfl rfl au_r (fun hs=>?_) (fun hs=>?_)
  ·repeat' (first|exact aA_|refine au_ rfl ?_ ?_)
   all_goals (first|((first|exact ak_ hs (ai_ cX)|exact ak_ hs (ai_ cS)))|exact au_c)
  ·repeat' (first|exact ap_|refine al_ rfl rfl rfl rfl ?_ ?_)
   all_goals (first|((try exact ae_ (CvL.clo hs aV_));(try exact ae_ (CvL.clo hs aC_));(try exact ae_ (CvL.clo hs (aG_ (.inr ⟨_,rfl⟩) (.inr ⟨_,rfl⟩))));(try exact ae_ (cd_ hs));(try exact ae_ (CvL.clo hs a0_)))|exact au_e|(refine ae_ ?_;repeat' (first|exact ao_|refine af_ ?_ ?_)))
   all_goals (first|((first|exact ak_ hs (ai_ cX)|exact ak_ hs (ai_ cS)))|exact au_c)
 rw[if_neg k1] at hZ
 by_cases k2:k=2
 rw[if_pos k2] at hZ
 refine q_z 2 ?_
 refine cF (q_z 2 ?_)
 refine cT ?_
 by_cases hb:bdN n∨bdP p
 rw[if_pos hb] at hZ
 refine r_c 10 ((l5_ p n (by unfold bdN bdP at hb;omega))) ?_
 refine a_z ?_
 refine aU_ (fun _:Unit=>gvM ⟨k,g,p,q,n,mo,l,r,lo,hi⟩ a b wZ 3 129 true) (fun _=>True) ?_ ?_
 rw[gvM.eq_1]
 by_cases b0:bdN n
 rw[decide_eq_true b0]
 refine r_m 11 ?_
 refine a_z ?_
 refine⟨(),trivial,?_⟩
 refine ar_ [(1,2),(2,4),(3,9),(4,10)] rfl rfl rfl au_r (fun hs=>?_) (fun hs=>?_)
 ·repeat' (first|exact aA_|refine au_ rfl ?_ ?_)
  all_goals (first|((first|exact ak_ hs (ai_ cX)|exact ak_ hs (ai_ cS)))|exact au_c)
 ·repeat' (first|exact ap_|refine al_ rfl rfl rfl rfl ?_ ?_)
  all_goals (first|((try exact ae_ (CvL.clo hs aV_));(try exact ae_ (CvL.clo hs aC_));(try exact ae_ (CvL.clo hs (aG_ (.inr ⟨_,rfl⟩) (.inr ⟨_,rfl⟩))));(try exact ae_ (cd_ hs));(try exact ae_ (CvL.clo hs a0_)))|exact au_e|(refine ae_ ?_;repeat' (first|exact ao_|refine af_ ?_ ?_)))
  all_goals (first|((first|exact ak_ hs (ai_ cX)|exact ak_ hs (ai_ cS)))|exact au_c)
 rw[decide_eq_false b0]
 by_cases b1:p< 0
 refine r_m 11 ?_
 refine d_z ?_
 refine⟨(),trivial,?_⟩
 refine ar_ [(1,2),(2,4),(3,9),(4,10)] rfl rfl rfl au_r (fun hs=>?_) (fun hs=>?_)
 ·repeat' (first|exact aA_|refine au_ rfl ?_ ?_)
  all_goals (first|((first|exact ak_ hs (ai_ cX)|exact ak_ hs (ai_ cS)))|exact au_c)
 ·repeat' (first|exact ap_|refine al_ rfl rfl rfl rfl ?_ ?_)
  all_goals (first|((try exact ae_ (CvL.clo hs aV_));(try exact ae_ (CvL.clo hs aC_));(try exact ae_ (CvL.clo hs (aG_ (.inr ⟨_,rfl⟩) (.inr ⟨_,rfl⟩))));(try exact ae_ (cd_ hs));(try exact ae_ (CvL.clo hs a0_)))|exact au_e|(refine ae_ ?_;repeat' (first|exact ao_|refine af_ ?_ ?_)))
  all_goals (first|((first|exact ak_ hs (ai_ cX)|exact ak_ hs (ai_ cS)))|exact au_c)
 have b2:8< p:=by unfold bdP at hb;rcases hb with h|h;exact absurd h b0;omega
 refine r_m 11 ?_
 refine d_z ?_
 refine⟨(),trivial,?_⟩
 refine ar_ [(1,2),(2,4),(3,9),(4,10)] rfl rfl rfl au_r (fun hs=>?_) (fun hs=>?_)
 ·repeat' (first|exact aA_|refine au_ rfl ?_ ?_)
  all_goals (first|((first|exact ak_ hs (ai_ cX)|exact ak_ hs (ai_ cS)))|exact au_c)
 ·repeat' (first|exact ap_|refine al_ rfl rfl rfl rfl ?_ ?_)
  all_goals (first|((try exact ae_ (CvL.clo hs aV_));(try exact ae_ (CvL.clo hs aC_));(try exact ae_ (CvL.clo hs (aG_ (.inr ⟨_,rfl⟩) (.inr ⟨_,rfl⟩))));(try exact ae_ (cd_ hs));(try exact ae_ (CvL.clo hs a0_)))|exact au_e|(refine ae_ ?_;repeat' (first|exact ao_|refine af_ ?_ ?_)))
  all_goals (first|((first|exact ak_ hs (ai_ cX)|exact ak_ hs (ai_ cS)))|exact au_c)
 rintro _ _
 rw[gvM.eq_1]
 refine cT (r_m 1 ?_)
 refine a_z ?_
 refine⟨_,hZ.symm,?_⟩
 rw[gvS.eq_1]
 refine ar_ [(1,2),(2,4),(3,9),(4,10)] rfl rfl rfl au_r (fun hs=>?_) (fun hs=>?_)
 ·repeat' (first|exact aA_|refine au_ rfl ?_ ?_)
  all_goals (first|((first|exact ak_ hs (ai_ cX)|exact ak_ hs (ai_ cS)))|exact au_c)
 ·repeat' (first|exact ap_|refine al_ rfl rfl rfl rfl ?_ ?_)
  all_goals (first|((try exact ae_ (CvL.clo hs aV_));(try exact ae_ (CvL.clo hs aC_));(try exact ae_ (CvL.clo hs (aG_ (.inr ⟨_,rfl⟩) (.inr ⟨_,rfl⟩))));(try exact ae_ (cd_ hs));(try exact ae_ (CvL.clo hs a0_)))|exact au_e|(refine ae_ ?_;repeat' (first|exact ao_|refine af_ ?_ ?_)))
  all_goals (first|((first|exact ak_ hs (ai_ cX)|exact ak_ hs (ai_ cS)))|exact au_c)
 rw[if_neg hb] at hZ
 have b0:¬bdN n:=fun e=>hb (.inl e)
 have b1:¬p< 0:=fun e=>hb (.inr (.inl e))
 have b2:¬8< p:=fun e=>hb (.inr (.inr e))
 have b5:0≤n∧n≤63:=by unfold bdN at b0;omega
 obtain⟨P,eP⟩:∃P:Nat,(P:Int)=p:=⟨p.toNat,by omega⟩
 obtain⟨M,eM⟩:∃M:Nat,(M:Int)=n:=⟨n.toNat,by omega⟩
 subst eP;subst eM
 simp only[Int.toNat_natCast] at hZ
 have hJ:=ng_ P M (by omega) (by omega)
 have hR:=lW_ P M (by omega) (by omega)
 refine r_c 10 (hJ) ?_
 refine a_z ?_
 rw[decide_eq_false b0]
 refine q_z 11 ?_
 refine cF (r_m 6 ?_)
 refine c_s (hR) ?_
 refine a_z ?_
 refine⟨_,hZ.symm,?_⟩
 rw[gvS.eq_1]
 refine ar_ [(1,2),(2,4),(3,9),(4,10)] rfl rfl rfl au_r (fun hs=>?_) (fun hs=>?_)
 ·repeat' (first|exact aA_|refine au_ rfl ?_ ?_)
  all_goals (first|((first|exact ak_ hs (ai_ cX)|exact ak_ hs (ai_ cS)))|exact au_c)
 ·repeat' (first|exact ap_|refine al_ rfl rfl rfl rfl ?_ ?_)
  all_goals (first|((try exact ae_ (CvL.clo hs aV_));(try exact ae_ (CvL.clo hs aC_));(try exact ae_ (CvL.clo hs (aG_ (.inr ⟨_,rfl⟩) (.inr ⟨_,rfl⟩))));(try exact ae_ (cd_ hs));(try exact ae_ (CvL.clo hs a0_)))|exact au_e|(refine ae_ ?_;repeat' (first|exact ao_|refine af_ ?_ ?_)))
  all_goals (first|((first|exact ak_ hs (ai_ cX)|exact ak_ hs (ai_ cS)))|exact au_c)
 rw[if_neg k2] at hZ
 refine q_z 2 ?_
 refine cF (q_z 2 ?_)
 refine cF (ac_ (r_z 2 ?_))
 have hH:∃e,((bdN n∧e=3)∨(¬bdN n∧e=0))∧(k=3→FSpec Tryz.prog 108 [i64 n] (.tup [.agg Z.1.A,i64 e]))∧(k=4→FSpec Tryz.prog 109 [i64 n] (.tup [.agg Z.1.A,i64 e]))∧(k=5→FSpec Tryz.prog 110 [i64 n] (.tup [.agg Z.1.A,i64 e])):=by
  by_cases b0:bdN n
  rw[if_pos b0] at hZ
  subst hZ
  exact⟨3,.inl ⟨b0,rfl⟩,fun _=>j4_ [] n 3 (kL_ _ n b0),fun _=>oC_ [] n 3 [] false false 0 0 (kL_ _ n b0) (l1_ []),fun _=>l3_ [] n 3 [] false false 0 0 (kL_ _ n b0) (l1_ [])⟩
  rw[if_neg b0] at hZ
  have b5:0≤n∧n≤63:=by unfold bdN at b0;omega
  obtain⟨M,eM⟩:∃M:Nat,(M:Int)=n:=⟨n.toNat,by omega⟩
  subst eM
  simp only[Int.toNat_natCast] at hZ
  subst hZ
  refine⟨0,.inr ⟨b0,rfl⟩,fun e=>?_,fun e=>?_,fun e=>?_⟩
  subst e
  exact j4_ _ _ 0 (nf_ _ _ M (by omega) fs_Herm1 (ml_ 1))
  subst e
  exact oC_ _ _ 0 _ true true _ _ (nf_ _ _ M (by omega) fs_Firs1 (ml_ 2)) (l2_ _)
  subst e
  exact l3_ _ _ 0 _ true true _ _ (nf_ _ _ M (by omega) fs_Seco1 (ml_ 3)) (l2_ _)
 obtain⟨e,he,h3,h4,h5⟩:=hH
 refine aB_ (fun _:Unit=>gvM ⟨k,g,p,q,n,mo,l,r,lo,hi⟩ a b Z.1.A e 8 (decide (bdN n))) (fun _=>True) ?_ ?_
 rw[gvM.eq_1]
 refine ag_ ?_
 by_cases k3:k=3
 have h3:=h3 k3
 refine q_z 2 ?_
 refine cT (r_m 8 ?_)
 refine c_s (h3) ?_
 refine a_z ?_
 refine⟨(),trivial,?_⟩
 refine ar_ [(1,2),(2,4),(3,9),(4,10)] rfl rfl rfl au_r (fun hs=>?_) (fun hs=>?_)
 ·repeat' (first|exact aA_|refine au_ rfl ?_ ?_)
  all_goals (first|((first|exact ak_ hs (ai_ cX)|exact ak_ hs (ai_ cS)))|exact au_c)
 ·repeat' (first|exact ap_|refine al_ rfl rfl rfl rfl ?_ ?_)
  all_goals (first|((try exact ae_ (CvL.clo hs aV_));(try exact ae_ (CvL.clo hs aC_));(try exact ae_ (CvL.clo hs (aG_ (.inr ⟨_,rfl⟩) (.inr ⟨_,rfl⟩))));(try exact ae_ (cd_ hs));(try exact ae_ (CvL.clo hs a0_)))|exact au_e|(refine ae_ ?_;repeat' (first|exact ao_|refine af_ ?_ ?_)))
  all_goals (first|((first|exact ak_ hs (ai_ cX)|exact ak_ hs (ai_ cS)))|exact au_c)
 refine q_z 2 ?_
 refine cF ?_
 by_cases k4:k=4
 have h4:=h4 k4
 refine q_z 2 ?_
 refine cT (r_m 8 ?_)
 refine c_s (h4) ?_
 refine a_z ?_
 refine⟨(),trivial,?_⟩
 refine ar_ [(1,2),(2,4),(3,9),(4,10)] rfl rfl rfl au_r (fun hs=>?_) (fun hs=>?_)
 ·repeat' (first|exact aA_|refine au_ rfl ?_ ?_)
  all_goals (first|((first|exact ak_ hs (ai_ cX)|exact ak_ hs (ai_ cS)))|exact au_c)
 ·repeat' (first|exact ap_|refine al_ rfl rfl rfl rfl ?_ ?_)
  all_goals (first|((try exact ae_ (CvL.clo hs aV_));(try exact ae_ (CvL.clo hs aC_));(try exact ae_ (CvL.clo hs (aG_ (.inr ⟨_,rfl⟩) (.inr ⟨_,rfl⟩))));(try exact ae_ (cd_ hs));(try exact ae_ (CvL.clo hs a0_)))|exact au_e|(refine ae_ ?_;repeat' (first|exact ao_|refine af_ ?_ ?_)))
  all_goals (first|((first|exact ak_ hs (ai_ cX)|exact ak_ hs (ai_ cS)))|exact au_c)
 have h5:=h5 (by omega)
 refine q_z 2 ?_
 refine cF (r_m 8 ?_)
 refine c_s (h5) ?_
 refine a_z ?_
 refine⟨(),trivial,?_⟩
 refine ar_ [(1,2),(2,4),(3,9),(4,10)] rfl rfl rfl au_r (fun hs=>?_) (fun hs=>?_)
 ·repeat' (first|exact aA_|refine au_ rfl ?_ ?_)
  all_goals (first|((first|exact ak_ hs (ai_ cX)|exact ak_ hs (ai_ cS)))|exact au_c)
 ·repeat' (first|exact ap_|refine al_ rfl rfl rfl rfl ?_ ?_)
  all_goals (first|((try exact ae_ (CvL.clo hs aV_));(try exact ae_ (CvL.clo hs aC_));(try exact ae_ (CvL.clo hs (aG_ (.inr ⟨_,rfl⟩) (.inr ⟨_,rfl⟩))));(try exact ae_ (cd_ hs));(try exact ae_ (CvL.clo hs a0_)))|exact au_e|(refine ae_ ?_;repeat' (first|exact ao_|refine af_ ?_ ?_)))
  all_goals (first|((first|exact ak_ hs (ai_ cX)|exact ak_ hs (ai_ cS)))|exact au_c)
 rintro _ _
 rw[gvM.eq_1]
 rcases he with⟨b0,rfl⟩|⟨b0,rfl⟩
 rw[if_pos b0] at hZ
 rw[decide_eq_true b0]
 refine r_z 1 ?_
 refine cT (r_m 1 ?_)
 refine a_z ?_
 refine⟨_,hZ.symm,?_⟩
 subst hZ
 rw[gvS.eq_1]
 refine ar_ [(1,2),(2,4),(3,9),(4,10)] rfl rfl rfl au_r (fun hs=>?_) (fun hs=>?_)
 ·repeat' (first|exact aA_|refine au_ rfl ?_ ?_)
  all_goals (first|((first|exact ak_ hs (ai_ cX)|exact ak_ hs (ai_ cS)))|exact au_c)
 ·repeat' (first|exact ap_|refine al_ rfl rfl rfl rfl ?_ ?_)
  all_goals (first|((try exact ae_ (CvL.clo hs aV_));(try exact ae_ (CvL.clo hs aC_));(try exact ae_ (CvL.clo hs (aG_ (.inr ⟨_,rfl⟩) (.inr ⟨_,rfl⟩))));(try exact ae_ (cd_ hs));(try exact ae_ (CvL.clo hs a0_)))|exact au_e|(refine ae_ ?_;repeat' (first|exact ao_|refine af_ ?_ ?_)))
  all_goals (first|((first|exact ak_ hs (ai_ cX)|exact ak_ hs (ai_ cS)))|exact au_c)
 rw[if_neg b0] at hZ
 rw[decide_eq_false b0]
 have b5:0≤n∧n≤20:=by unfold bdN at b0;omega
 obtain⟨M,eM⟩:∃M:Nat,(M:Int)=n:=⟨n.toNat,by omega⟩
 subst eM
 simp only[Int.toNat_natCast] at hZ
 have hR:=fs_rEven (k- 2) M (by omega) (by omega)
 rw[evS_list (by omega) (by omega),show(((k- 2:Nat):Nat):Int)=(k:Int)- 2 by omega] at hR
 refine r_z 1 ?_
 refine cF (r_m 8 ?_)
 refine c_s (hR) ?_
 refine a_z ?_
 refine⟨_,hZ.symm,?_⟩
 subst hZ
 rw[gvS.eq_1]
 refine ar_ [(1,2),(2,4),(3,9),(4,10)] rfl rfl rfl au_r (fun hs=>?_) (fun hs=>?_)
 ·repeat' (first|exact aA_|refine au_ rfl ?_ ?_)
  all_goals (first|((first|exact ak_ hs (ai_ cX)|exact ak_ hs (ai_ cS)))|exact au_c)
 ·repeat' (first|exact ap_|refine al_ rfl rfl rfl rfl ?_ ?_)
  all_goals (first|((try exact ae_ (CvL.clo hs aV_));(try exact ae_ (CvL.clo hs aC_));(try exact ae_ (CvL.clo hs (aG_ (.inr ⟨_,rfl⟩) (.inr ⟨_,rfl⟩))));(try exact ae_ (cd_ hs));(try exact ae_ (CvL.clo hs a0_)))|exact au_e|(refine ae_ ?_;repeat' (first|exact ao_|refine af_ ?_ ?_)))
  all_goals (first|((first|exact ak_ hs (ai_ cX)|exact ak_ hs (ai_ cS)))|exact au_c)
 rintro⟨w,e⟩ rfl
 rw[gvS.eq_1]
 refine ac_ (r_d hmix 8 ?_)
 refine a_8 ?_
 refine an_ (n_k ?_)
 refine aj_ (Fin.many ⟨_,_,rfl,⟨_,_,_,_,_,rfl,rfl,rfl,.inl ⟨tg_51.h,_,ts_51.h,nle rfl,rfl⟩⟩,⟨_,_,rfl,rfl,⟨_,_,rfl,⟨_,_,_,_,_,rfl,rfl,rfl,.inl ⟨tg_77.h,_,ts_77.h,nle rfl,rfl⟩⟩,⟨_,_,rfl,rfl,rfl⟩⟩⟩⟩ (nle rfl) ?_)
 exact af_ (ak_ as_ (aq_ w.cA)) (af_ (ak_ as_ (ad_ _)) (af_ (ak_ as_ (aq_ a0_)) (af_ (ak_ as_ (ad_ _)) ao_)))
theorem jg_{x:AV}{l r:Bool}{lo hi:List AV}(hx:Closed x)(h1:∀c∈lo,Closed c)(h2:∀c∈hi,Closed c):∀c∈rwX x l r lo hi,Closed c:=fun c hc=>by
 unfold rwX at hc
 rcases List.mem_append.1 hc with hc|hc
 rcases List.mem_append.1 hc with hc|hc
 exact aa_ hx (aa_ (ad_ _) (aa_ (ad_ _) ab_)) c hc
 exact h1 c hc
 exact h2 c hc
def ldW(x:LoR)(most:Nat):Option Wt:=
 if 1≤x.k∧x.k≤5 then
  if (most:Int)< x.n∨tameB [x.g.1,x.g.2] 2=false then none else some (gvW x).1
 else if (tameB x.mo (most+1)=false∧x.mo.length≤64)∨70< x.mo.length then none
 else some ⟨nL x.mo,x.l,x.r,nV x.lo,nV x.hi,rq (nV x.lo),rq (nV x.hi)⟩
theorem fs_Loads(x:LoR)(most:Nat)(hx:okLo x)(hm:most≤20)(hml:x.mo.length≤9223372036854775807):FSpec Tryz.prog 28 [.agg (loC x),i64 most] (.tup [.agg ((ldW x most).getD wZt).A,.agg ((ldW x most).getD wZt).B,bln (ldW x most).isSome]):=by
 have hgv:=fs_given x hx
 obtain⟨k,g,p,q,n,mo,l,r,lo,hi⟩:=x
 obtain⟨hk255,⟨g1,g2⟩,hp,hq,hn,hmo,hlo,hhi⟩:=hx
 simp only at *
 have kk:(⟨k,g,p,q,n,mo,l,r,lo,hi⟩:LoR).k=k:=rfl
 have mm:(nR (⟨k,g,p,q,n,mo,l,r,lo,hi⟩:LoR).mo).length=mo.length:=by simp[nR]
 have nn:(⟨k,g,p,q,n,mo,l,r,lo,hi⟩:LoR).n=n:=rfl
 have cX:=hv_ ⟨k,g,p,q,n,mo,l,r,lo,hi⟩
 obtain⟨Z,hZ⟩:∃Z,Z=ldW ⟨k,g,p,q,n,mo,l,r,lo,hi⟩ most:=⟨_,rfl⟩
 rw[←hZ]
 unfold ldW at hZ
 simp only at hZ
 have hT:=rD_ [g.1,g.2] 2 (by simp) (by omega)
 have hT2:=rD_ mo (most+1) (by omega) (by omega)
 have hnl:(nR mo).length=mo.length:=by simp[nR]
 refine f_n Tryz.func28 ?_ ?_
 exact aa_ (aq_ cX) (aa_ (ad_ _) ab_)
 refine r_z 4 ?_
 by_cases hk:1≤k∧k≤5
 rw[if_pos hk] at hZ
 refine ac_ (q_z 8 ?_)
 refine cT ?_
 by_cases hn1:(most:Int)< n
 rw[if_pos (.inl hn1)] at hZ
 subst hZ
 refine ac_ (q_z 15 ?_)
 refine cT (r_z 5 ?_)
 refine aj_ (Fin.many ⟨_,_,rfl,⟨_,_,_,_,_,rfl,rfl,rfl,.inl ⟨tg_51.h,_,ts_51.h,nle rfl,rfl⟩⟩,⟨_,_,rfl,⟨_,_,_,_,_,rfl,rfl,rfl,.inl ⟨tg_77.h,_,ts_77.h,nle rfl,rfl⟩⟩,⟨_,_,rfl,rfl,rfl⟩⟩⟩ (nle rfl) ?_)
 exact af_ (Cv_wZ as_) (af_ (Cv.agg (cd_ as_)) (af_ (ak_ as_ (ad_ _)) ao_))
 cases ht:tameB [g.1,g.2] 2 with
 |false=>
  rw[if_pos (.inr ht)] at hZ
  subst hZ
  rw[ht] at hT
  refine ac_ (s_r 15 ?_)
  refine d_8 ?_
  refine d_3 ?_
  refine AR.op1y rfl rfl rfl (.buildSlice te_26.h tz_23.h rfl (by decide) rfl rfl rfl (by simp[loC,gapC,nuC])) rfl rfl ?_
  refine AR.op1y rfl rfl rfl (.callS1 rfl rfl rfl (.shut rfl d_n (.keep (.nil))) rfl (hT)) rfl rfl ?_
  refine a_z ?_
  refine cT (r_z 5 ?_)
  refine aj_ (Fin.many ⟨_,_,rfl,⟨_,_,_,_,_,rfl,rfl,rfl,.inl ⟨tg_51.h,_,ts_51.h,nle rfl,rfl⟩⟩,⟨_,_,rfl,⟨_,_,_,_,_,rfl,rfl,rfl,.inl ⟨tg_77.h,_,ts_77.h,nle rfl,rfl⟩⟩,⟨_,_,rfl,rfl,rfl⟩⟩⟩ (nle rfl) ?_)
  exact af_ (Cv_wZ as_) (af_ (Cv.agg (cd_ as_)) (af_ (ak_ as_ (ad_ _)) ao_))
 |true=>
  rw[if_neg (fun h=>h.elim hn1 (fun e=>by rw[ht] at e;cases e))] at hZ
  subst hZ
  rw[ht] at hT
  have hgv:=hgv hk (by omega)
  generalize gvW ⟨k,g,p,q,n,mo,l,r,lo,hi⟩=G at *
  refine ac_ (s_r 15 ?_)
  refine d_8 ?_
  refine d_3 ?_
  refine AR.op1y rfl rfl rfl (.buildSlice te_26.h tz_23.h rfl (by decide) rfl rfl rfl (by simp[loC,gapC,nuC])) rfl rfl ?_
  refine AR.op1y rfl rfl rfl (.callS1 rfl rfl rfl (.shut rfl d_n (.keep (.nil))) rfl (hT)) rfl rfl ?_
  refine a_z ?_
  refine cF (ah_ (r_c 13 (hgv) ?_))
  refine a_z ?_
  refine ac_ (r_d hmix 5 ?_)
  refine a_5 ?_
  refine an_ (n_k ?_)
  refine aj_ (Fin.many ⟨_,_,rfl,⟨_,_,_,_,_,rfl,rfl,rfl,.inl ⟨tg_51.h,_,ts_51.h,nle rfl,rfl⟩⟩,⟨_,_,rfl,⟨_,_,_,_,_,rfl,rfl,rfl,.inl ⟨tg_77.h,_,ts_77.h,nle rfl,rfl⟩⟩,⟨_,_,rfl,rfl,rfl⟩⟩⟩ (nle rfl) ?_)
  exact af_ (ak_ as_ (aq_ (Wt.cA _))) (af_ (ak_ as_ (aq_ a0_)) (af_ (ak_ as_ (ad_ _)) ao_))
 rw[if_neg hk] at hZ
 refine aU_ (fun _:Unit=>⟨[(1,i64 most),(2,.aptr [loC ⟨k,g,p,q,n,mo,l,r,lo,hi⟩] 0 0),(4,.lptr 1 0 0),(5,.lptr 2 0 0)],[(1,some ⟨51,9,[w0C]⟩),(2,some ⟨77,11,[rw0]⟩)],3,105⟩) (fun _=>True) ?_ ?_
 by_cases k1:1≤k
 refine q_z 8 ?_
 refine cF (ah_ ⟨(),trivial,?_⟩)
 refine ar_ [(1,4),(2,5)] rfl rfl rfl au_r (fun hs=>?_) (fun hs=>?_)
 ·repeat' (first|exact aA_|refine au_ rfl ?_ ?_)
  all_goals (first|(exact Cv.boxp hs rfl (aM_ rfl) rfl cX)|exact au_c)
 ·repeat' (first|exact ap_|refine al_ rfl rfl rfl rfl ?_ ?_)
  all_goals (first|((try exact ae_ (CvL.clo hs aV_));(try exact ae_ (CvL.clo hs aC_)))|exact au_e|(refine ae_ ?_;repeat' (first|exact ao_|refine af_ ?_ ?_)))
  all_goals (first|(exact Cv.boxp hs rfl (aM_ rfl) rfl cX)|exact au_c)
 refine q_z 8 ?_
 refine cF (ah_ ⟨(),trivial,?_⟩)
 refine ar_ [(1,4),(2,5)] rfl rfl rfl au_r (fun hs=>?_) (fun hs=>?_)
 ·repeat' (first|exact aA_|refine au_ rfl ?_ ?_)
  all_goals (first|(exact Cv.boxp hs rfl (aM_ rfl) rfl cX)|exact au_c)
 ·repeat' (first|exact ap_|refine al_ rfl rfl rfl rfl ?_ ?_)
  all_goals (first|((try exact ae_ (CvL.clo hs aV_));(try exact ae_ (CvL.clo hs aC_)))|exact au_e|(refine ae_ ?_;repeat' (first|exact ao_|refine af_ ?_ ?_)))
  all_goals (first|(exact Cv.boxp hs rfl (aM_ rfl) rfl cX)|exact au_c)
 rintro _ _
 rw[show((most+1:Nat):Int)=((most:Nat):Int)+1 by omega] at hT2
 by_cases hb:(tameB mo (most+1)=false∧mo.length≤64)∨70< mo.length
 rw[if_pos hb] at hZ
 subst hZ
 refine ac_ (aU_ (fun _:Unit=>⟨[(4,.lptr 1 0 0),(5,.lptr 2 0 0),(66,bln true)],[(1,some ⟨51,9,[w0C]⟩),(2,some ⟨77,11,[rw0]⟩)],3,105⟩) (fun _=>True) ?_ ?_)
 cases ht:tameB mo (most+1) with
 |true=>
  rw[ht] at hT2
  have h70:70< mo.length:=hb.resolve_left fun h=>by rw[ht] at h;cases h.1
  refine r_m 18 ?_
  refine c_s (hT2) ?_
  refine d_z ?_
  refine⟨(),trivial,?_⟩
  refine ar_ [(1,4),(2,5)] rfl rfl rfl au_r (fun hs=>?_) (fun hs=>?_)
  ·repeat' (first|exact aA_|refine au_ rfl ?_ ?_)
   all_goals (first|(exact ak_ hs (ai_ cX))|exact au_c)
  ·repeat' (first|exact ap_|refine al_ rfl rfl rfl rfl ?_ ?_)
   all_goals (first|((try exact ae_ (CvL.clo hs aV_));(try exact ae_ (CvL.clo hs aC_)))|exact au_e|(refine ae_ ?_;repeat' (first|exact ao_|refine af_ ?_ ?_)))
   all_goals (first|(exact ak_ hs (ai_ cX))|exact au_c)
 |false=>
  rw[ht] at hT2
  by_cases h64:mo.length≤64
  refine r_m 18 ?_
  refine c_s (hT2) ?_
  refine d_z ?_
  refine⟨(),trivial,?_⟩
  refine ar_ [(1,4),(2,5)] rfl rfl rfl au_r (fun hs=>?_) (fun hs=>?_)
  ·repeat' (first|exact aA_|refine au_ rfl ?_ ?_)
   all_goals (first|(exact ak_ hs (ai_ cX))|exact au_c)
  ·repeat' (first|exact ap_|refine al_ rfl rfl rfl rfl ?_ ?_)
   all_goals (first|((try exact ae_ (CvL.clo hs aV_));(try exact ae_ (CvL.clo hs aC_)))|exact au_e|(refine ae_ ?_;repeat' (first|exact ao_|refine af_ ?_ ?_)))
   all_goals (first|(exact ak_ hs (ai_ cX))|exact au_c)
  refine r_m 18 ?_
  refine c_s (hT2) ?_
  refine d_z ?_
  refine⟨(),trivial,?_⟩
  refine ar_ [(1,4),(2,5)] rfl rfl rfl au_r (fun hs=>?_) (fun hs=>?_)
  ·repeat' (first|exact aA_|refine au_ rfl ?_ ?_)
   all_goals (first|(exact ak_ hs (ai_ cX))|exact au_c)
  ·repeat' (first|exact ap_|refine al_ rfl rfl rfl rfl ?_ ?_)
   all_goals (first|((try exact ae_ (CvL.clo hs aV_));(try exact ae_ (CvL.clo hs aC_)))|exact au_e|(refine ae_ ?_;repeat' (first|exact ao_|refine af_ ?_ ?_)))
   all_goals (first|(exact ak_ hs (ai_ cX))|exact au_c)
 rintro _ _
 refine cT (r_z 5 ?_)
 refine aj_ (Fin.many ⟨_,_,rfl,⟨_,_,_,_,_,rfl,rfl,rfl,.inl ⟨tg_51.h,_,ts_51.h,nle rfl,rfl⟩⟩,⟨_,_,rfl,⟨_,_,_,_,_,rfl,rfl,rfl,.inl ⟨tg_77.h,_,ts_77.h,nle rfl,rfl⟩⟩,⟨_,_,rfl,rfl,rfl⟩⟩⟩ (nle rfl) ?_)
 exact af_ (Cv_wZ as_) (af_ (Cv.agg (cd_ as_)) (af_ (ak_ as_ (ad_ _)) ao_))
 rw[if_neg hb] at hZ
 subst hZ
 refine ac_ (aU_ (fun _:Unit=>⟨[(2,.aptr [loC ⟨k,g,p,q,n,mo,l,r,lo,hi⟩] 0 0),(4,.lptr 1 0 0),(5,.lptr 2 0 0),(66,bln false)],[(1,some ⟨51,9,[w0C]⟩),(2,some ⟨77,11,[rw0]⟩)],3,105⟩) (fun _=>True) ?_ ?_)
 cases ht:tameB mo (most+1) with
 |true=>
  rw[ht] at hT2
  refine r_m 18 ?_
  refine c_s (hT2) ?_
  refine d_z ?_
  refine⟨(),trivial,?_⟩
  refine ar_ [(1,4),(2,5)] rfl rfl rfl au_r (fun hs=>?_) (fun hs=>?_)
  ·repeat' (first|exact aA_|refine au_ rfl ?_ ?_)
   all_goals (first|(exact ak_ hs (ai_ cX))|exact au_c)
  ·repeat' (first|exact ap_|refine al_ rfl rfl rfl rfl ?_ ?_)
   all_goals (first|((try exact ae_ (CvL.clo hs aV_));(try exact ae_ (CvL.clo hs aC_)))|exact au_e|(refine ae_ ?_;repeat' (first|exact ao_|refine af_ ?_ ?_)))
   all_goals (first|(exact ak_ hs (ai_ cX))|exact au_c)
 |false=>
  rw[ht] at hT2
  refine r_m 18 ?_
  refine c_s (hT2) ?_
  refine d_5 ?_
  refine ay_ rfl rfl rfl (.bin rfl rfl (vF cW_ (decide_eq_false (fun h=>hb (.inl ⟨ht,by omega⟩))))) rfl rfl ?_
  refine d_z ?_
  refine⟨(),trivial,?_⟩
  refine ar_ [(1,4),(2,5)] rfl rfl rfl au_r (fun hs=>?_) (fun hs=>?_)
  ·repeat' (first|exact aA_|refine au_ rfl ?_ ?_)
   all_goals (first|(exact ak_ hs (ai_ cX))|exact au_c)
  ·repeat' (first|exact ap_|refine al_ rfl rfl rfl rfl ?_ ?_)
   all_goals (first|((try exact ae_ (CvL.clo hs aV_));(try exact ae_ (CvL.clo hs aC_)))|exact au_e|(refine ae_ ?_;repeat' (first|exact ao_|refine af_ ?_ ?_)))
   all_goals (first|(exact ak_ hs (ai_ cX))|exact au_c)
 rintro _ _
 refine cF (ah_ ?_)
 have hL:=fs_List mo (by omega) hmo
 have b1:FSpec Tryz.prog 35 [.agg (nuC lo.1 lo.2.1 lo.2.2)] (.tup [.agg (qC (nV lo)),.agg (rC (rq (nV lo)))]):=gA_ _ _ _ hlo.1 hlo.2.1 hlo.2.2
 have b2:FSpec Tryz.prog 35 [.agg (nuC hi.1 hi.2.1 hi.2.2)] (.tup [.agg (qC (nV hi)),.agg (rC (rq (nV hi)))]):=gA_ _ _ _ hhi.1 hhi.2.1 hhi.2.2
 generalize nV lo=A at *
 generalize nV hi=B at *
 generalize nL mo=LM at *
 refine r_c 8 (hL) ?_
 refine a_z ?_
 refine r_z 8 ?_
 refine r_z 8 ?_
 refine AWp.ent (st':=⟨[(2,.aptr [loC ⟨k,g,p,q,n,mo,l,r,lo,hi⟩] 0 0),(4,.lptr 1 0 0),(5,.lptr 2 0 0),(13,.lptr 3 0 0),(14,.lptr 4 0 0)],[(1,some ⟨51,9,[w0C]⟩),(2,some ⟨77,11,[rw0]⟩),(3,some ⟨51,9,[wC LM l r zC zC]⟩),(4,some ⟨77,11,[rwX (.arr (rE (rP LM))) l r zR4 zR4]⟩)],5,105⟩) ?_ ?_
 refine ar_ [(1,4),(2,5),(3,13),(4,14)] rfl rfl rfl au_r (fun hs=>?_) (fun hs=>?_)
 ·repeat' (first|exact aA_|refine au_ rfl ?_ ?_)
  all_goals (first|(exact ak_ hs (ai_ cX))|exact au_c)
 ·repeat' (first|exact ap_|refine al_ rfl rfl rfl rfl ?_ ?_)
  all_goals (first|((first|exact ae_ (CvL.clo hs (aG_ (.inl rfl) (.inl rfl)))|exact ae_ (CvL.clo hs (jg_ (a1_ _) bA_ bA_))|exact ae_ (CvL.clo hs aV_)|exact ae_ (CvL.clo hs aC_)))|exact au_e|(refine ae_ ?_;repeat' (first|exact ao_|refine af_ ?_ ?_)))
  all_goals (first|(exact ak_ hs (ai_ cX))|exact au_c)
 refine r_c 10 (b1) ?_
 refine a_z ?_
 refine AWp.ent (st':=⟨[(2,.aptr [loC ⟨k,g,p,q,n,mo,l,r,lo,hi⟩] 0 0),(4,.lptr 1 0 0),(5,.lptr 2 0 0),(13,.lptr 3 0 0),(14,.lptr 4 0 0)],[(1,some ⟨51,9,[w0C]⟩),(2,some ⟨77,11,[rw0]⟩),(3,some ⟨51,9,[wC LM l r (qC A) zC]⟩),(4,some ⟨77,11,[rwX (.arr (rE (rP LM))) l r (rC (rq A)) zR4]⟩)],5,105⟩) ?_ ?_
 refine ar_ [(1,4),(2,5),(3,13),(4,14)] rfl rfl rfl au_r (fun hs=>?_) (fun hs=>?_)
 ·repeat' (first|exact aA_|refine au_ rfl ?_ ?_)
  all_goals (first|(exact ak_ hs (ai_ cX))|exact au_c)
 ·repeat' (first|exact ap_|refine al_ rfl rfl rfl rfl ?_ ?_)
  all_goals (first|((first|exact ae_ (CvL.clo hs (aG_ (.inr ⟨_,rfl⟩) (.inl rfl)))|exact ae_ (CvL.clo hs (jg_ (a1_ _) (bg_ _) bA_))|exact ae_ (CvL.clo hs aV_)|exact ae_ (CvL.clo hs aC_)))|exact au_e|(refine ae_ ?_;repeat' (first|exact ao_|refine af_ ?_ ?_)))
  all_goals (first|(exact ak_ hs (ai_ cX))|exact au_c)
 refine r_c 10 (b2) ?_
 refine a_z ?_
 refine AWp.ent (st':=⟨[(4,.lptr 1 0 0),(5,.lptr 2 0 0),(13,.lptr 3 0 0),(14,.lptr 4 0 0)],[(1,some ⟨51,9,[w0C]⟩),(2,some ⟨77,11,[rw0]⟩),(3,some ⟨51,9,[wC LM l r (qC A) (qC B)]⟩),(4,some ⟨77,11,[rwC LM l r (rq A) (rq B)]⟩)],5,105⟩) ?_ ?_
 refine ar_ [(1,4),(2,5),(3,13),(4,14)] rfl rfl rfl au_r (fun hs=>au_f) (fun hs=>?_)
 ·repeat' (first|exact ap_|refine al_ rfl rfl rfl rfl ?_ ?_)
  all_goals (first|((first|exact ae_ (CvL.clo hs (aG_ (.inr ⟨_,rfl⟩) (.inr ⟨_,rfl⟩)))|exact ae_ (CvL.clo hs a0_)|exact ae_ (CvL.clo hs aV_)|exact ae_ (CvL.clo hs aC_)))|exact au_e)
 refine ac_ (r_d hmix 5 ?_)
 refine a_5 ?_
 refine an_ (n_k ?_)
 refine aj_ (Fin.many ⟨_,_,rfl,⟨_,_,_,_,_,rfl,rfl,rfl,.inl ⟨tg_51.h,_,ts_51.h,nle rfl,rfl⟩⟩,⟨_,_,rfl,⟨_,_,_,_,_,rfl,rfl,rfl,.inl ⟨tg_77.h,_,ts_77.h,nle rfl,rfl⟩⟩,⟨_,_,rfl,rfl,rfl⟩⟩⟩ (nle rfl) ?_)
 exact af_ (ak_ as_ (aq_ (aG_ (.inr ⟨_,rfl⟩) (.inr ⟨_,rfl⟩)))) (af_ (ak_ as_ (aq_ a0_)) (af_ (ak_ as_ (ad_ _)) ao_))
theorem evLo_ok(c:Nat):rok (evLo c).1∧rok (evLo c).2∧qs (evLo c).1.1≤256∧qs (evLo c).2.1≤256:=by
 unfold evLo
 split
 exact⟨ir_,ir_,by decide,by decide⟩
 exact⟨bk_ _,bk_ _,by decide,by decide⟩
theorem gvW_ok(x:LoR)(hx:okLo x)(hk0:1≤x.k):(gvW x).1.Ok∧((gvW x).1.l=false→(gvW x).1.a=0)∧((gvW x).1.r=false→(gvW x).1.b=0)∧((gvW x).2=0∨(gvW x).1=wZt∧((gvW x).2=2∨(gvW x).2=3)):=by
 have hz:∀e:Int,(e=2∨e=3)→(wZt,e).1.Ok∧((wZt,e).1.l=false→(wZt,e).1.a=0)∧((wZt,e).1.r=false→(wZt,e).1.b=0)∧((wZt,e).2=0∨(wZt,e).1=wZt∧((wZt,e).2=2∨(wZt,e).2=3)):=fun e he=>⟨wZt_ok,fun _=>rfl,fun _=>rfl,.inr ⟨rfl,he⟩⟩
 have qa:qs (nV x.g.1)≤256:=f0_ hx.2.1.1.1 hx.2.1.1.2.1
 have qb:qs (nV x.g.2)≤256:=f0_ hx.2.1.2.1 hx.2.1.2.2.1
 unfold gvW
 split
 split
 split
 exact hz 3 (.inr rfl)
 ·rename_i h
  have b5:¬bdN x.n:=fun e=>h (.inl e)
  have b6:¬bdP x.p:=fun e=>h (.inr (.inl e))
  have b7:¬bdP x.q:=fun e=>h (.inr (.inr e))
  unfold bdN at b5
  unfold bdP at b6 b7
  refine⟨⟨bk_ _,bk_ _,rfl,rfl,qa,qb,jD_ fun k hk=>(jc_mom qa qb (by omega) (by omega) k (by omega)).2,?_⟩,fun e=>(by cases e),fun e=>(by cases e),.inl rfl⟩
  show(sqL _ _).length≤70
  rw[dH_];omega
 exact hz 2 (.inl rfl)
 split
 split
 exact hz 3 (.inr rfl)
 ·rename_i h
  have b5:¬bdN x.n:=fun e=>h (.inl e)
  have b6:¬bdP x.p:=fun e=>h (.inr e)
  unfold bdN at b5
  unfold bdP at b6
  refine⟨⟨ir_,ir_,rfl,rfl,(by decide:qs 0≤256),(by decide:qs 0≤256),jD_ fun k hk=>?_,?_⟩,fun _=>rfl,fun _=>rfl,.inl rfl⟩
  exact Nat.le_trans (gB_ (n:=x.p.toNat+k) (by omega)) (by decide)
  show(sqL _ _).length≤70
  rw[dH_];omega
 split
 exact hz 3 (.inr rfl)
 ·rename_i b5
  unfold bdN at b5
  obtain⟨o1,o2,o3,o4⟩:=evLo_ok (x.k- 2)
  have hw:∀k,qs (evW (evK (x.k- 2)) k)≤(k/ 2) * 42+1∨200< k:=fun k=>by
   by_cases h:k≤200
   refine .inl ?_
   unfold evW
   split
   exact oH_ _ fun j hj=>ml_ _ _ (by omega)
   exact Nat.le_trans (by decide:qs 0≤1) (Nat.le_add_left _ _)
   exact .inr (by omega)
  refine⟨⟨o1,o2,rfl,rfl,o3,o4,jD_ fun k hk=>?_,?_⟩,?_,?_,.inl rfl⟩
  rcases hw k with h|h <;> omega
  show(sqL _ _).length≤70
  rw[dH_];omega
  all_goals
   intro e
   have h0:¬1< x.k- 2:=of_decide_eq_false e
   have h1:x.k- 2=1:=by omega
  show(evLo (x.k- 2)).1.1=0
  unfold evLo;rw[if_pos h1];rfl
  show(evLo (x.k- 2)).2.1=0
  unfold evLo;rw[if_pos h1];rfl
theorem ldW_ok(x:LoR)(hx:okLo x)(most:Nat)(w:Wt)(h:ldW x most=some w):w.Ok:=by
 unfold ldW at h
 split at h
 split at h
 cases h
 ·rename_i h1 _;cases h;exact(gvW_ok x hx h1.1).1
 split at h
 cases h
 ·rename_i h2
  cases h
  obtain⟨hk255,hg,hp,hq,hn,hmo,hlo,hhi⟩:=hx
  refine⟨bk_ _,bk_ _,rfl,rfl,f0_ hlo.1 hlo.2.1,f0_ hhi.1 hhi.2.1,fun q hq=>Nat.le_trans (nL_qs hmo q hq) (by decide),?_⟩
  show(nL x.mo).length≤70
  have:(nL x.mo).length=x.mo.length:=by simp[nL]
  omega
theorem nl_ (m:List Rat) (l r:Bool) (a b:Rat) (n d:Nat) (hv:okW m l r a b) (ha:sm a) (hb:sm b) (hn:n≤(m.length- 1) / 2) (hn2:n≤1000) (hd:d≤n) (hok:∀k,k< d→okLd m k)
    (hop:okMul (ldr m d).1 (ldr m d).1∧okOf m (mulP (ldr m d).1 (ldr m d).1)) (hbad:d< n→¬0< ldN m (ldr m d).1):FSpec Tryz.prog 67 [.agg (wC m l r (qC a) (qC b)),i64 n] (.tup [bln (decide (0< ldN m (ldr m d).1)),i64 0]):=by
 have hck:=bS_ m l r a b ⟨hv.1,hv.2.1⟩ hv.2.2 ha hb
 have hcl:=iY_ m l r a b n d hn2 hd hok fun h=>⟨hop.1,hop.2,hbad h⟩
 have hm1:=hv.1
 have hm2:=hv.2.1
 have hWc:=aG_ (m:=m) (l:=l) (r:=r) (.inr ⟨a,rfl⟩) (.inr ⟨b,rfl⟩)
 refine f_n Tryz.func67 ?_ ?_
 exact aa_ (aq_ hWc) (aa_ (ad_ _) ab_)
 refine r_z 3 ?_
 refine ac_ (r_c 3 (hck) ?_)
 refine a_z ?_
 refine aB_ (fun _:Unit=>⟨[(1,i64 n),(2,.aptr [wC m l r (qC a) (qC b)] 0 0)],[],1,51⟩) (fun _=>True) ?_ ?_
 refine ag_ (s_r 3 ?_)
 refine a_1 ?_
 refine o_0 (.bin rfl rfl (vF ba_ (rfl))) ?_
 refine a_z ?_
 refine cF (q_z 3 ?_)
 refine cF (q_z 8 ?_)
 refine cF (ah_ ⟨(),trivial,?_⟩)
 exact s_f []
 rintro _ _
 refine r_c 8 (hcl) ?_
 refine a_z ?_
 by_cases hdn:d=n
 rw[decide_eq_true hdn]
 have hmm:=dw_ _ _ hop.1
 have ho1:=lZ_ m _ l r a b hop.2
 have hsg:=bI_ (ldN m (ldr m d).1)
 have hgt:=sgZ_num_gt (q:=ldN m (ldr m d).1)
 by_cases hp:0< ldN m (ldr m d).1
 rw[decide_eq_true hp]
 refine ac_ (r_d hmix 21 ?_)
 refine c_s (hmm) ?_
 refine c_s (ho1) ?_
 refine c_s (hsg) ?_
 refine ay_ rfl rfl rfl (.bin rfl rfl (vT dG_ (decide_eq_true (hgt.2 hp)))) rfl rfl ?_
 refine a_3 ?_
 refine an_ (n_k ?_)
 refine aj_ (Fin.many ⟨_,_,rfl,rfl,⟨_,_,rfl,rfl,rfl⟩⟩ (nle rfl) ?_)
 exact af_ (ak_ as_ (ad_ _)) (af_ (ak_ as_ (ad_ _)) ao_)
 rw[decide_eq_false hp]
 refine ac_ (r_d hmix 21 ?_)
 refine c_s (hmm) ?_
 refine c_s (ho1) ?_
 refine c_s (hsg) ?_
 refine ay_ rfl rfl rfl (.bin rfl rfl (vF dG_ (decide_eq_false (fun e=>hp (hgt.1 e))))) rfl rfl ?_
 refine a_3 ?_
 refine an_ (n_k ?_)
 refine aj_ (Fin.many ⟨_,_,rfl,rfl,⟨_,_,rfl,rfl,rfl⟩⟩ (nle rfl) ?_)
 exact af_ (ak_ as_ (ad_ _)) (af_ (ak_ as_ (ad_ _)) ao_)
 rw[decide_eq_false hdn,decide_eq_false (hbad (by omega))]
 refine ac_ (r_d hmix 21 ?_)
 refine d_8 ?_
 refine d_8 ?_
 refine d_5 ?_
 refine an_ (n_k ?_)
 refine aj_ (Fin.many ⟨_,_,rfl,rfl,⟨_,_,rfl,rfl,rfl⟩⟩ (nle rfl) ?_)
 exact af_ (ak_ as_ (ad_ _)) (af_ (ak_ as_ (ad_ _)) ao_)





end Go.Proofs.YtdjfjpeoddmamaaGreatDoor
namespace Go.Proofs.YtdjfjpeoddmamaaGreatDoor
open Go.Abs Go.Deep Go.RowKit Go.WideShapes
set_option maxRecDepth 20000

end Go.Proofs.YtdjfjpeoddmamaaGreatDoor
namespace Go.Proofs.YtdjfjpeoddmamaaGreatDoor
open Go.Abs Go.ChangeShapes Go.Deep Go.RowKit Go.WideShapes
set_option maxRecDepth 20000
def loF:Array Field:= #[{name:= "Kind",type:=5,offset:=0,embedded:=false,tag:= "",pkgPath:= "",byteOffset:=0},{name:= "S",type:=25,offset:=1,embedded:=false,tag:= "",pkgPath:= "",byteOffset:=8},{name:= "P",type:=3,offset:=7,embedded:=false,tag:= "",pkgPath:= "",byteOffset:=56},{name:= "Q",type:=3,offset:=8,embedded:=false,tag:= "",pkgPath:= "",byteOffset:=64},{name:= "N",type:=3,offset:=9,embedded:=false,tag:= "",pkgPath:= "",byteOffset:=72},{name:= "Moments",type:=26,offset:=10,embedded:=false,tag:= "",pkgPath:= "",byteOffset:=80},{name:= "Left",type:=4,offset:=11,embedded:=false,tag:= "",pkgPath:= "",byteOffset:=104},{name:= "Right",type:=4,offset:=12,embedded:=false,tag:= "",pkgPath:= "",byteOffset:=105},{name:= "Low",type:=23,offset:=13,embedded:=false,tag:= "",pkgPath:= "",byteOffset:=112},{name:= "High",type:=23,offset:=16,embedded:=false,tag:= "",pkgPath:= "",byteOffset:=136}]
theorem tyL:(Tryz.prog).underlying 75=some (.struct loF):=by kernel_rfl
theorem tycL:(Tryz.prog).cellsOf 75=19:=by kernel_rfl
theorem tycb:(Tryz.prog).cellsOf 4=1:=by kernel_rfl
theorem tyc3:(Tryz.prog).cellsOf 3=1:=by kernel_rfl
theorem tycS:(Tryz.prog).cellsOf 26=1:=by kernel_rfl
theorem tyub:(Tryz.prog).underlying 4=some .bool:=by kernel_rfl
theorem gap_of{H:Type}{enc:TypeId×Value→H}{W:World}{base n:Nat}{spare:Nat→Bool}{held:Bool}{cs:List Value}{x:DataW H×List MemPlace}(h:DataW.trod enc Tryz.prog W base spare held n 25 cs=some x):
    ∃r:NRow×NRow,(okN r.1∧okN r.2)∧cs=[.int .i64 r.1.1,.int .i64 r.1.2.1,.int .u8 r.1.2.2,.int .i64 r.2.1,.int .i64 r.2.2.1,.int .u8 r.2.2.2]:=by
 obtain⟨f0,f1,hu,h1,h2,h3,h4⟩:=tyG
 obtain⟨y0,y1,m,_,hl,g0,g1⟩:=trod_struct2 hu h
 rw[h1,h2,tyc82] at g0
 rw[h3,h4,tyc82] at g1
 rw[tycG] at hl
 obtain⟨r,r1,r2,r3,e⟩:=lG_ g0
 obtain⟨r',r1',r2',r3',e'⟩:=lG_ g1
 match cs,hl with
 |[a0,a1,a2,a3,a4,a5],_=>
  simp at e e'
  obtain⟨rfl,rfl,rfl⟩:=e
  obtain⟨rfl,rfl,rfl⟩:=e'
  exact⟨(r,r'),⟨⟨r1,r2,r3⟩,⟨r1',r2',r3'⟩⟩,rfl⟩
theorem loP_of{H:Type}{enc:TypeId×Value→H}{W:World}{base:Nat}{v:Value}{d:DataW H}{ps:List MemPlace}(hv:Value.okWide Tryz.prog W .any base 75 v)(h:DataW.Trod enc Tryz.prog W 0 (fun _=>true) true 75 v d ps):
    ∃x:LoR,(okLo x∧x.mo.length≤9223372036854775807)∧RV (fun _=>False) (fun _=>none) W (.agg (loC x)) v:=by
 obtain⟨cs,rfl,_⟩:∃cs,v= .agg cs∧True:=by
  unfold Value.okWide at hv
  rw[tyL] at hv
  obtain⟨cs,h1,_⟩:=hv
  exact⟨cs,h1,trivial⟩
 obtain⟨fuel,hf⟩:=h
 obtain⟨ys,m,_,_,hl,hlen,hg⟩:=DataW.trod_struct tyL hf
 rw[tycL] at hl
 have h0:(Value.agg cs).cells.toList=cs.toList:=by simp[Value.cells]
 rw[h0] at hg hl
 have hcs:cs=⟨cs.toList⟩:=rfl
 generalize cs.toList=l at *
 match l,hl,ys,hlen with
 |[c0,c1,c2,c3,c4,c5,c6,c7,c8,c9,c10,c11,c12,c13,c14,c15,c16,c17,c18],_,[y0,y1,y2,y3,y4,y5,y6,y7,y8,y9],_=>
  obtain⟨L,hL⟩:∃L,L=[c0,c1,c2,c3,c4,c5,c6,c7,c8,c9,c10,c11,c12,c13,c14,c15,c16,c17,c18]:=⟨_,rfl⟩
  rw[←hL] at hg
  have g0:DataW.trod enc Tryz.prog W 0 (fun _=>true) true m 5 ((L.drop 0).take ((Tryz.prog).cellsOf 5))=some y0:=hg 0 _ rfl
  have g1:DataW.trod enc Tryz.prog W 0 (fun _=>true) true m 25 ((L.drop 1).take ((Tryz.prog).cellsOf 25))=some y1:=hg 1 _ rfl
  have g2:DataW.trod enc Tryz.prog W 0 (fun _=>true) true m 3 ((L.drop 7).take ((Tryz.prog).cellsOf 3))=some y2:=hg 2 _ rfl
  have g3:DataW.trod enc Tryz.prog W 0 (fun _=>true) true m 3 ((L.drop 8).take ((Tryz.prog).cellsOf 3))=some y3:=hg 3 _ rfl
  have g4:DataW.trod enc Tryz.prog W 0 (fun _=>true) true m 3 ((L.drop 9).take ((Tryz.prog).cellsOf 3))=some y4:=hg 4 _ rfl
  have g5:DataW.trod enc Tryz.prog W 0 (fun _=>true) true m 26 ((L.drop 10).take ((Tryz.prog).cellsOf 26))=some y5:=hg 5 _ rfl
  have g6:DataW.trod enc Tryz.prog W 0 (fun _=>true) true m 4 ((L.drop 11).take ((Tryz.prog).cellsOf 4))=some y6:=hg 6 _ rfl
  have g7:DataW.trod enc Tryz.prog W 0 (fun _=>true) true m 4 ((L.drop 12).take ((Tryz.prog).cellsOf 4))=some y7:=hg 7 _ rfl
  have g8:DataW.trod enc Tryz.prog W 0 (fun _=>true) true m 23 ((L.drop 13).take ((Tryz.prog).cellsOf 23))=some y8:=hg 8 _ rfl
  have g9:DataW.trod enc Tryz.prog W 0 (fun _=>true) true m 23 ((L.drop 16).take ((Tryz.prog).cellsOf 23))=some y9:=hg 9 _ rfl
  rw[tyc5] at g0
  rw[tycG] at g1
  rw[tyc3] at g2 g3 g4
  rw[tycS] at g5
  rw[tycb] at g6 g7
  rw[tyc82] at g8 g9
  subst hL
  simp only[List.drop,List.take] at g0 g1 g2 g3 g4 g5 g6 g7 g8 g9
  obtain⟨n0,e0,_,w0⟩:=DataW.trod_int tyu5 g0
  obtain⟨r,hr,e1⟩:=gap_of g1
  obtain⟨n2,e2,_,w2⟩:=DataW.trod_int tyu3 g2
  obtain⟨n3,e3,_,w3⟩:=DataW.trod_int tyu3 g3
  obtain⟨n4,e4,_,w4⟩:=DataW.trod_int tyu3 g4
  obtain⟨b6,e6,_⟩:=DataW.trod_bool tyub g6
  obtain⟨b7,e7,_⟩:=DataW.trod_bool tyub g7
  obtain⟨r8,r81,r82,r83,e8⟩:=lG_ g8
  obtain⟨r9,r91,r92,r93,e9⟩:=lG_ g9
  have hsl:∃a len cap,c10= .slice a len cap:=by
   rcases open_slice tyS g5 with⟨e5,_⟩|⟨a,len,cap,_,_,_,_,e5,_⟩
   simp at e5;exact⟨_,_,_,e5⟩
   simp at e5;exact⟨_,_,_,e5⟩
  obtain⟨a,len,cap,rfl⟩:=hsl
  have hT:DataW.Trod enc Tryz.prog W 0 (fun _=>true) true 26 (.slice a len cap) y5.1 y5.2:=⟨m,by simpa[Value.cells] using g5⟩
  obtain⟨mo,hmo,hrv⟩:=rows_of hT
  have hml:mo.length≤9223372036854775807:=by
   obtain⟨a',cap',e',hle,hcap,_⟩:=hrv
   have:(nR mo).length=mo.length:=by simp[nR]
   have hm:maxLen=9223372036854775807:=by decide
   omega
  simp at e0 e1 e2 e3 e4 e6 e7 e8 e9
  obtain⟨rfl,rfl,rfl,rfl,rfl,rfl⟩:=e1
  obtain⟨rfl,rfl,rfl⟩:=e8
  obtain⟨rfl,rfl,rfl⟩:=e9
  subst e0;subst e2;subst e3;subst e4;subst e6;subst e7
  have b:=bounds_u8 w0
  refine⟨⟨n0.toNat,r,n2,n3,n4,mo,b6,b7,r8,r9⟩,⟨⟨by show n0.toNat≤255;omega,hr,bounds_i64 w2,bounds_i64 w3,bounds_i64 w4,hmo,⟨r81,r82,r83⟩,⟨r91,r92,r93⟩⟩,hml⟩,cs,rfl,?_⟩
  rw[hcs]
  refine⟨_,_,rfl,?_,?_⟩
  show _=Value.int .u8 ((n0.toNat:Nat):Int)
  rw[Int.toNat_of_nonneg b.1]
  exact⟨_,_,rfl,rfl,_,_,rfl,rfl,_,_,rfl,rfl,_,_,rfl,rfl,_,_,rfl,rfl,_,_,rfl,rfl,_,_,rfl,rfl,_,_,rfl,rfl,_,_,rfl,rfl,_,_,rfl,hrv,_,_,rfl,rfl,_,_,rfl,rfl,_,_,rfl,rfl,_,_,rfl,rfl,_,_,rfl,rfl,_,_,rfl,rfl,_,_,rfl,rfl,_,_,rfl,rfl,rfl⟩
end Go.Proofs.YtdjfjpeoddmamaaGreatDoor
namespace Go.Proofs.YtdjfjpeoddmamaaGreatDoor
open Go.Abs
set_option maxRecDepth 20000
set_option maxHeartbeats 2000000

section
variable {T:List Rat}{n:Nat}(hn:1≤n∧n≤5)(hl:T.length=n+1)(ht:trimQ T=T)(hm:leadP T=1)(hb:bdL T 20)
include hn hl ht hm hb
end


end Go.Proofs.YtdjfjpeoddmamaaGreatDoor
