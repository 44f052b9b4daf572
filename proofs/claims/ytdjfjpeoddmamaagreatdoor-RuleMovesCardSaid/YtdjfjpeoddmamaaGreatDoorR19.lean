/- For every input the law RuleMoves returns true; the listed variables start as the program's text lays them (tied). -/
import Derived.Test.YtdjfjpeoddmamaaGreatDoorR18
import Derived.ProofKit
import Derived.OpenShut
import Derived.Carry
import Derived.Deep.Slices
import Derived.Deep.Strs
import Derived.ChangeSame
import Derived.Test.YtdjfjpeoddmamaaGreatDoorRows
import Derived.JoinedOf
import Derived.SevenTiedAt
import Derived.Lib.LaidTab
import Derived.Test.YtdjfjpeoddmamaaGreatDoorTie
import Derived.Test.YtdjfjpeoddmamaaGreatDoorCards
import Derived.LaidMore
import Derived.Stop.Joined
import Derived.MakeChecks
set_option linter.all false
namespace Go.Proofs.YtdjfjpeoddmamaaGreatDoor
open Go.Abs
set_option maxRecDepth 100000
set_option maxHeartbeats 2000000
theorem nn_ (m:List Rat) (l r:Bool) (a b:Rat) (n:Nat) (p wt:List Rat) (hn:1≤n∧n≤12) (h1:FSpec Tryz.prog 123 [bW m l r a b,bIn n] (.tup [.arr (pE p),bln true])) (hm:3* n+2≤m.length∧m.length≤64) (hab:l=true→r=true→a< b) (ha:sm a) (hb:sm b)
    (hr:FSpec Tryz.prog 160 [.arr (pE p)] (bln true)) (hpb:bdL p 68719476736) (hp0:trimQ p≠[]) (hpl:p.length≤1099511627776)
    (hon:FSpec Tryz.prog 161 [.agg (wC m l r (qC a) (qC b)),.arr (pE (aW_ p))] (.agg (ruC (aW_ p) wt))):
    FSpec Tryz.prog 38 [.agg (wC m l r (qC a) (qC b)),i64 n] (.tup [.agg (ruC (aW_ p) wt),i64 0]):=by
 have hWc:∀c∈wC m l r (qC a) (qC b),Closed c:=bL_ (.inr ⟨a,rfl⟩) (.inr ⟨b,rfl⟩)
 have hra:=hx_ (n:Nat) 1 12 (by omega)
 have hcc:∀c∈[bW m l r a b,bIn n],Closed c:=aa_ (dT_ m l r a b) (aa_ (cP_ n) ab_)
 have hna:=i3_ m l r a b (3* n+2) 123 [bW m l r a b,bIn n] p wt hcc (by omega) hab ha hb hm.1 h1 hr hpb hp0 hpl hon
 rw[show((3* n+2:Nat):Int)=3* (n:Int)+2 by omega] at hna
 refine f_n Tryz.func38 ?_ ?_
 exact aa_ (al_ hWc) (aa_ (ad_ _) ab_)
 refine r_z 4 ?_
 refine AWp.ent (st':=⟨[(2,bW m l r a b),(3,bIn n),(4,.lptr 1 0 0)],[(1,some ⟨57,2,[[.emp,.emp]]⟩)],2,16⟩) ?_ ?_
 refine ax_ [(1,4)] rfl rfl rfl au_r (fun hs=>?_) (fun hs=>?_)
 ·repeat' (first|exact aZ_|refine aR_ rfl ?_ ?_)
  all_goals (first|((try exact Cv.boxp hs rfl (a2_ rfl) rfl hWc);(try exact Cv.boxp hs rfl (a2_ rfl) rfl (aa_ (ad_ _) ab_));done)|exact au_c)
 ·repeat' (first|exact av_|refine an_ rfl rfl rfl rfl ?_ ?_)
  all_goals (first|exact au_e|(refine au_ ?_;repeat' (first|exact as_|refine ai_ ?_ ?_)))
  all_goals (first|((try exact Cv.boxp hs rfl (a2_ rfl) rfl hWc);(try exact Cv.boxp hs rfl (a2_ rfl) rfl (aa_ (ad_ _) ab_));done)|exact au_c)
 refine ac_ (r_d hmix 12 ?_)
 refine c_s (hra) ?_
 refine c_s (hna) ?_
 refine a_4 ?_
 refine ak_ (n_k ?_)
 refine af_ (Fin.many ⟨_,_,rfl,⟨_,_,_,_,_,rfl,rfl,rfl,.inl ⟨tg_57.h,_,ts_57.h,nle rfl,rfl⟩⟩,⟨_,_,rfl,rfl,rfl⟩⟩ (nle rfl) ?_)
 exact ai_ (aA_ aB_ (al_ (bn_ _ _))) (ai_ (aA_ aB_ (ad_ _)) as_)
section
variable {a b:Rat}(h:a< b){k:Nat}(hk:1≤k∧k≤4)(ha:qs a≤20)(hb:qs b≤20)
include h hk ha hb
theorem oT_:FSpec Tryz.prog 15 [.agg (spC a b),i64 0,i64 0,i64 (2* (k:Int)- 1)] (.tup [.agg (wC (mAB a b k) true true (qC a) (qC b)),i64 0]):=by
 have:=hB_ a b (2* k- 1) (by omega) h (by omega) (by omega) fun i hi=>(g_mom ha hb i (by omega)).1
 rw[show 2* k- 1+1=2* k by omega,show((2* k- 1:Nat):Int)=2* (k:Int)- 1 by omega] at this
 exact this
theorem mp_:FSpec Tryz.prog 160 [.arr (pE (gN a b k))] (bln true):=by
 obtain⟨n1,n2,n3,n4,n5,n6⟩:=g_len h hk
 obtain⟨c,c1,c2,c3,c4,c5,c6⟩:=g_count h hk ha hb
 have hd:degP (gN a b k)=(k:Int):=by rw[degP_dg n3,n4]
 have hb1:=fX_ (gN a b k)
 have hcn:=mv_ 9 (gN a b k) c (-aU_ (gN a b k),aU_ (gN a b k)) c1 (by omega) c2 c3 c5 (by
  show cmpQ (-aU_ (gN a b k)) (aU_ (gN a b k))≤0
  unfold cmpQ;rw[if_pos (by grind)];decide) (by unfold gq_;rw[hd,if_neg (by omega),if_neg (by omega)]) (by omega)
 have:=mm_ (gN a b k) _ (by omega) (by rw[hd];omega) c6 hcn
 rw[decide_eq_true (show uptoV c (aU_ (gN a b k))- dy_ c (-aU_ (gN a b k))=degP (gN a b k) by rw[c4,hd])] at this
 exact this
theorem fs_gOn:FSpec Tryz.prog 161 [.agg (wC (mAB a b k) true true (qC a) (qC b)),.arr (pE (gN a b k))] (.agg (ruC (gN a b k) (gW a b k))):=by
 obtain⟨n1,n2,n3,n4,n5,n6⟩:=g_len h hk
 have hN:=g_N h hk ha hb
 obtain⟨d1,d2⟩:=g_m hk ha hb
 obtain⟨G,A,z1,z2,z3,z4,z5⟩:=g_bez h hk ha hb
 have hde:=fL_ (gN a b k) (cJ_ hN (by omega)) (by omega)
 have hbz:=kw_ 8 (ao_ (gN a b k)) (gN a b k) G A n3 (by omega) z1 z2
 have:=fs_on (gN a b k) (mAB a b k) true true a b k 6100 500 _ _ _ n1 n6 (by omega) hN d1 (by omega) (by omega) (by omega) (by omega) hde hbz z3 z4
 rw[z5] at this
 exact this
theorem kk_:FSpec Tryz.prog 16 [.agg (wC (mAB a b k) true true (qC a) (qC b)),i64 k] (.tup [.agg (ruC (gN a b k) (gW a b k)),i64 0]):=by
 obtain⟨n1,n2,n3,n4,n5,n6⟩:=g_len h hk
 have hN:=g_N h hk ha hb
 obtain⟨d1,d2⟩:=g_m hk ha hb
 have hm:=ne_ n3 n5 n6
 have:=mu_ (mAB a b k) true true a b k (gW a b k) (by omega) (fun j hj=>g_okLd h hk ha hb j hj) (by omega) (fun _ _=>h) (by unfold sm;omega) (by unfold sm;omega) (mp_ h hk ha hb) (bdL_mono' hN (by omega)) n3 (by have:(ldr (mAB a b k) k).1.length=k+1:=n1;omega) (by
  show FSpec _ _ [_,.arr (pE (aW_ (gN a b k)))] (.agg (ruC (aW_ (gN a b k)) _))
  rw[hm];exact fs_gOn h hk ha hb)
 rw[show aW_ (ldr (mAB a b k) k).1=gN a b k from hm] at this
 exact this
theorem kl_:FSpec Tryz.prog 94 [.agg (ruC (gN a b k) (gW a b k))] (i64 0):=by
 obtain⟨n1,n2,n3,n4,n5,n6⟩:=g_len h hk
 obtain⟨w1,w2,w3,w4,w5⟩:=g_wt h hk
 refine gv_ (gN a b k) (gW a b k) (mp_ h hk ha hb) n5 ?_ (by omega) (by omega)
 refine degP_lt ?_
 rw[n6,w4];omega
theorem km_{f:List Rat}(hf:f.length≤6)(hfb:bdL f 40000):FSpec Tryz.prog 24 [.agg (ruC (gN a b k) (gW a b k)),.arr (pE f)] (.tup [.agg (qC (trP (gN a b k) (mulP (gW a b k) f))),i64 0])∧qs (trP (gN a b k) (mulP (gW a b k) f))≤300000000:=by
 obtain⟨n1,n2,n3,n4,n5,n6⟩:=g_len h hk
 obtain⟨s1,s2⟩:=g_su h hk ha hb
 obtain⟨o1,o2,o3,o4,o5,o6,o7⟩:=g_apply h hk ha hb hf hfb
 have hsu:=oL_ (gN a b k) (gW a b k) k (by rw[n6,n1]) (by omega) (by omega) (by omega) (by rw[n6];exact s2)
 rw[n6] at hsu
 have hap:=mr_ (gN a b k) (gW a b k) f _ 60000000 100000 hsu n3 o1 o2 o3 o4 s1 (by omega) (by omega) (by omega) (by rw[cK_];omega) (by
  have:=Nat.mul_le_mul_right (60000000+100000+1) (show(apR (gN a b k) (gW a b k) f).length+2≤6 by omega)
  generalize (apR (gN a b k) (gW a b k) f).length=z at *
  omega)
 rw[o7] at hap o6
 exact⟨fs_Apply (gN a b k) (gW a b k) f _ (kl_ h hk ha hb) hap,o6⟩
end
section
variable {a b a' b':Rat}(h:a< b)(h':a'< b'){k:Nat}(hk:1≤k∧k≤4)(ha:qs a≤20)(hb:qs b≤20)(ha':qs a'≤20)(hb':qs b'≤20)
include h h' hk ha hb ha' hb'
theorem fs_gMove:FSpec Tryz.prog 20 [.agg (ruC (gN a b k) (gW a b k)),.agg (qC (scT a b a' b')),.agg (qC (shT a b a' b'))] (.tup [.agg (ruC (gN a' b' k) (gW a' b' k)),i64 0]):=by
 obtain⟨n1,n2,n3,n4,n5,n6⟩:=g_len h hk
 obtain⟨w1,w2,w3,w4,w5⟩:=g_wt h hk
 obtain⟨q1,q2⟩:=sc_qs ha hb ha' hb'
 obtain⟨b1,b2⟩:=g_bd h hk ha hb
 obtain⟨c1,c2,c3⟩:=pE_ ha hb ha' hb' (show(gN a b k).length≤5 by omega) (g_N h hk ha hb)
 obtain⟨d1,d2,d3⟩:=pE_ ha hb ha' hb' (show(gW a b k).length≤5 by omega) b2
 have s0:=(gm_ h h').1
 have hz:=aD_ (bkM (scT a b a' b') (shT a b a' b'))
 have hz2:(bkM (scT a b a' b') (shT a b a' b')).length=2:=rfl
 have hzN:=aD_ (gN a b k)
 have hzW:=aD_ (gW a b k)
 have hdg:∀p:List Rat,(trimQ p).length≤5→0≤(if 0> degP p then 0 else degP p) * (if 0> degP (bkM (scT a b a' b') (shT a b a' b')) then 0 else degP (bkM (scT a b a' b') (shT a b a' b')))∧(if 0> degP p then 0 else degP p) * (if 0> degP (bkM (scT a b a' b') (shT a b a' b')) then 0 else degP (bkM (scT a b a' b') (shT a b a' b')))≤1000:=fun p hp=>by
  have e1:0≤(if 0> degP p then 0 else degP p)∧(if 0> degP p then 0 else degP p)≤4:=by unfold degP;split <;> omega
  have e2:(if 0> degP (bkM (scT a b a' b') (shT a b a' b')) then 0 else degP (bkM (scT a b a' b') (shT a b a' b')))=0∨(if 0> degP (bkM (scT a b a' b') (shT a b a' b')) then 0 else degP (bkM (scT a b a' b') (shT a b a' b')))=1:=by unfold degP;split <;> omega
  rcases e2 with e|e <;> rw[e]<;> omega
 have m1:=ga_ (gN a b k) (bkM (scT a b a' b') (shT a b a' b')) c1 (by omega) (by omega) (hdg _ (by omega))
 have m2:=ga_ (gW a b k) (bkM (scT a b a' b') (shT a b a' b')) d1 (by omega) (by omega) (hdg _ (by omega))
 obtain⟨v1,v2⟩:=mv_nodes h h' hk
 have:=fs_Move (gN a b k) (gW a b k) (scT a b a' b') (shT a b a' b') _ _ (by grind) (by omega) (by omega) (kl_ h hk ha hb) m1 m2 (bdL_mono' c2 (by omega)) v1 (by omega) (cJ_ d2 (by omega)) (by omega)
 rw[v2,nd_ h h' hk] at this
 exact this
end
theorem gO_(f:Nat)(p:List Rat)(b:Bool)(hf:f≤1000000)(h:realM f p=some b):FSpec Tryz.prog 160 [.arr (pE p)] (bln b):=by
 unfold realM at h
 cases hc:cn_ f p with
 |none=>rw[hc] at h;cases h
 |some c=>
  rw[hc,Option.bind_some] at h
  split at h
  ·rename_i ho
   cases h
   obtain⟨o1,o2,o3,o4,o5,o6,o7⟩:=ho
   have hb1:=fX_ p
   refine mm_ p _ (by omega) ⟨o6,o7⟩ o4 (mv_ f p c (-aU_ p,aU_ p) hc hf o1 o2 o3 ?_ ?_ (by omega))
   show cmpQ (-aU_ p) (aU_ p)≤0
   unfold cmpQ;rw[if_pos (by grind)];decide
   unfold gq_;rw[if_neg (by omega),if_neg (by omega)]
  cases h
theorem oQ_(f:Nat)(p m w:List Rat)(l r:Bool)(a b:Rat)(h:onM f p m=some w):FSpec Tryz.prog 161 [.agg (wC m l r (qC a) (qC b)),.arr (pE p)] (.agg (ruC p w)):=by
 unfold onM at h
 cases hz:bzL f (ao_ p) p (bT_ ((1:Int):Rat)) [] with
 |none=>rw[hz] at h;cases h
 |some x=>
  rw[hz,Option.bind_some] at h
  split at h
  ·rename_i ho
   cases h
   obtain⟨o1,o2,o3,o4,o5,o6,o7,o8,o9⟩:=ho
   have hp0:trimQ p≠[]:=by rw[o4];intro e;rw[e] at o5;simp at o5
   have hde:=fL_ p o9 (by omega)
   have hbz:=kw_ f (ao_ p) p x.1 x.2 hp0 (by omega) hz o1
   exact fs_on p m l r a b (p.length- 1) (mxL p) (mxL m) _ _ _ (by omega) o4 (by omega) (bG_ p) (bG_ m) (bs_ p) (bs_ m) (by omega) (by rw[show p.length- 1+2=p.length+1 by omega];exact o8) hde hbz o2 o3
  cases h
theorem fs_apM(p w f:List Rat)(h:okAp p w f):FSpec Tryz.prog 103 [.agg (ruC p w),.arr (pE f)] (.agg (qC (apV p w f))):=by
 obtain⟨o1,o2,o3,o4,o5,o6,o7,o8,o9,o10⟩:=h
 have hl:(trimQ p).length=dg p+1:=by unfold dg at o4⊢;omega
 have hp0:trimQ p≠[]:=by intro e;rw[e] at hl;simp at hl
 have hsu:=oL_ p w (dg p) hl o4 o5 (by omega) o7
 exact mr_ p w f (suP p) (mxL (apR p w f)) (mxL (suP p)) hsu hp0 o1 o2 o3 (bG_ _) (bG_ _) (bs_ _) (bs_ _) (by omega) (by unfold suP;rw[cK_];omega) o9
theorem t5_0:textQ (mkRat 2 5)=[50,47,53]∧okT (mkRat 2 5):=by decide+kernel
theorem t5_1:textP p13=[120,94,50,32,45,32,49,47,51]∧okPT p13:=by decide+kernel
theorem t5_2:textP [1]=[49]∧okPT [1]:=by decide+kernel
theorem t5_3:textP p35=[120,94,51,32,45,32,51,47,53,32,120]∧okPT p35:=by decide+kernel
theorem t5_4:textP w35=[45,53,47,57,32,120,94,50,32,43,32,56,47,57]∧okPT w35:=by decide+kernel
theorem t5_5:textP wRa=[51,47,52,32,120,32,43,32,53,47,52]∧okPT wRa:=by decide+kernel
theorem sm_ends:sm (-1)∧sm 1∧(-1:Rat)< 1:=by decide+kernel
theorem fs_wJac:FSpec Tryz.prog 15 [.agg (spC (-1) 1),i64 0,i64 0,i64 5] (.tup [.agg (wC m6 true true (qC (-1)) (qC 1)),i64 0]):=by
 have:=hB_ (-1) 1 5 (by omega) sm_ends.2.2 (by decide) (by decide) fun k hk=>c_ok.2 k (by omega)
 exact this
theorem e5_:m6.length=6:=by rw[c_m6];rfl
theorem oI_:FSpec Tryz.prog 16 [.agg (wC m6 true true (qC (-1)) (qC 1)),i64 2] (.tup [.agg (ruC p13 [1]),i64 0]):=by
 obtain⟨c1,c2,c3,c4,c5,c6⟩:=c_g
 have:=mu_ m6 true true (-1) 1 2 [1] (by omega) (fun j hj=>c_ok.1 j hj) (by rw[e5_];omega) (fun _ _=>sm_ends.2.2) sm_ends.1 sm_ends.2.1 (by rw[c1];exact gO_ 9 p13 true (by omega) c2) (by rw[c1];exact bdL_mono' c5 (by omega)) (by rw[c1];exact c6) (by rw[c1];decide) (by rw[c1,c4];exact oQ_ 9 p13 m6 [1] _ _ _ _ c3)
 rw[c1,c4] at this
 exact this
theorem oJ_:FSpec Tryz.prog 94 [.agg (ruC p13 [1])] (i64 0):=
 gv_ p13 [1] (gO_ 9 p13 true (by omega) c_g.2.1) (by decide+kernel) (by decide+kernel) (by decide) (by decide)
theorem fs_wDeg:FSpec Tryz.prog 61 [.agg (wC m6 true true (qC (-1)) (qC 1)),.agg (ruC p13 [1])] (.tup [i64 3,bln true,i64 0]):=by
 have hcw:=e8_ m6 true true (-1) 1 (by rw[e5_];omega) (fun _ _=>sm_ends.2.2) sm_ends.1 sm_ends.2.1
 obtain⟨d1,d2,d3⟩:=c_d
 have:=nh_ p13 [1] m6 true true (-1) 1 4 (fun k=>apV p13 [1] (List.replicate k 0++[((1:Int):Rat)])) (oO_ p13 [1] m6 true true (-1) 1 hcw oJ_) (fun k hk=>fs_apM _ _ _ (d1 k (by omega))) (by rw[e5_];omega) (by rw[e5_];omega) (cJ_ c_k.2.2.2.2.2.2.2.2.1 (by omega)) (fun k hk=>(d1 k (by omega)).2.2.2.2.2.2.2.2.2) d2 d3
 exact this
theorem fs_wKr:FSpec Tryz.prog 38 [.agg (wC m6 true true (qC (-1)) (qC 1)),i64 1] (.tup [.agg (ruC p35 w35),i64 0]):=by
 obtain⟨k1,k2,k3,k4,k5,k6,k7,k8,k9,k10⟩:=c_k
 obtain⟨q1,q2,q3,q4,q5⟩:=c_kp
 have hti:=ip_ (ldr m6 1).1 m6 true true (-1) 1 100 100 k8 k9 (by omega) (by omega) (by omega) (by rw[e5_];omega) (by rw[e5_];omega)
 have h1:=lu_ m6 mKr true true (-1) 1 1 (by omega) (fun k hk=>c_ok.1 k (by omega)) k1 k2 k3 hti (by omega) k5 (fun k hk=>c_kk k (by omega)) k6
 rw[k7] at h1
 have:=nn_ m6 true true (-1) 1 1 p35 w35 (by omega) h1 (by rw[e5_];omega) (fun _ _=>sm_ends.2.2) sm_ends.1 sm_ends.2.1 (gO_ 9 p35 true (by omega) q1) (bdL_mono' q4 (by omega)) q5 (by decide) (by rw[q3];exact oQ_ 9 p35 m6 w35 _ _ _ _ q2)
 rw[q3] at this
 exact this
theorem fs_wRa:FSpec Tryz.prog 36 [.agg (wC m6 true true (qC (-1)) (qC 1)),i64 2,.agg (qC (-1))] (.tup [.agg (ruC pRa wRa),i64 0]):=by
 obtain⟨r1,r2,r3,r4,r5,r6,r7,r8,r9⟩:=c_r
 have hti:=ip_ (enM (-1)) m6 true true (-1) 1 100 100 r9 c_k.2.2.2.2.2.2.2.2.1 (by omega) (by omega) (by decide) (by rw[e5_];omega) (by rw[e5_];decide)
 have h1:=o2_ m6 mRa true true (-1) 1 (-1) 2 (by omega) (by omega) hti (fun k hk=>r1 k (by omega)) r2
 rw[show mulP (enM (-1)) (ldr mRa (2- 1)).1=pRa from r3] at h1
 have:=fs_Radau m6 true true (-1) 1 (-1) 2 pRa wRa (by omega) h1 (by rw[e5_];omega) (fun _ _=>sm_ends.2.2) sm_ends.1 sm_ends.2.1 (gO_ 9 pRa true (by omega) r4) (bdL_mono' r7 (by omega)) r8 (by decide) (by rw[r6];exact oQ_ 9 pRa m6 wRa _ _ _ _ r5)
 rw[r6] at this
 exact this
theorem er_:FSpec Tryz.prog 11 [] (.v (.bool true)):=by
 have n1:=dh_ (-1) (by decide)
 rw[show((-1:Int):Rat)= -1 by decide] at n1
 have n2:=dh_ 1 (by decide)
 rw[show((1:Int):Rat)=1 by decide] at n2
 have hj:=fs_wJac
 have hg:=oI_
 have hd:=fs_wDeg
 have hk:=fs_wKr
 have hr:=fs_wRa
 rw[c_m6] at hj hg hd hk hr
 have q0:=mt_ (mkRat 2 5) t5_0.2
 rw[t5_0.1] at q0
 have q1:=fK_ p13 t5_1.2
 rw[t5_1.1] at q1
 have q2:=fK_ [1] t5_2.2
 rw[t5_2.1] at q2
 have q3:=fK_ p35 t5_3.2
 rw[t5_3.1] at q3
 have q4:=fK_ w35 t5_4.2
 rw[t5_4.1] at q4
 have q5:=fK_ wRa t5_5.2
 rw[t5_5.1] at q5
 refine f_n Tryz.func11 ?_ ?_
 exact ab_
 refine r_z 1 ?_
 refine r_c 5 (n1) ?_
 refine c_s (n2) ?_
 refine a_z ?_
 refine r_c 8 (hj) ?_
 refine a_z ?_
 refine r_c 8 (hg) ?_
 refine a_z ?_
 refine r_c 10 (hd) ?_
 refine a_z ?_
 refine r_c 8 (hk) ?_
 refine a_z ?_
 refine ac_ (r_d hmix 9 ?_)
 refine c_s (n1) ?_
 refine c_s (hr) ?_
 refine a_6 ?_
 refine ak_ (n_k ?_)
 refine s_r 70 ?_
 refine a_1 ?_
 refine o_0 (.bin rfl rfl (vT br_ (rfl))) ?_
 refine d_2 ?_
 refine bD_ rfl rfl rfl (.bin rfl rfl (vT br_ (rfl))) rfl rfl ?_
 refine d_3 ?_
 refine bD_ rfl rfl rfl (.bin rfl rfl (vT br_ (rfl))) rfl rfl ?_
 refine d_3 ?_
 refine bD_ rfl rfl rfl (.bin rfl rfl (vT br_ (rfl))) rfl rfl ?_
 refine d_3 ?_
 refine bD_ rfl rfl rfl (.bin rfl rfl (vT br_ (rfl))) rfl rfl ?_
 refine d_5 ?_
 refine bD_ rfl rfl rfl (.bin rfl rfl (vT br_ (rfl))) rfl rfl ?_
 refine c_s (q0) ?_
 refine bD_ rfl rfl rfl (.bin rfl rfl (vT eW_ rfl)) rfl rfl ?_
 refine c_s (q1) ?_
 refine bD_ rfl rfl rfl (.bin rfl rfl (vT eW_ rfl)) rfl rfl ?_
 refine c_s (q2) ?_
 refine bD_ rfl rfl rfl (.bin rfl rfl (vT eW_ rfl)) rfl rfl ?_
 refine d_3 ?_
 refine bD_ rfl rfl rfl (.bin rfl rfl (vT br_ (rfl))) rfl rfl ?_
 refine c_s (q3) ?_
 refine bD_ rfl rfl rfl (.bin rfl rfl (vT eW_ rfl)) rfl rfl ?_
 refine c_s (q4) ?_
 refine bD_ rfl rfl rfl (.bin rfl rfl (vT eW_ rfl)) rfl rfl ?_
 refine c_s (q5) ?_
 refine bD_ rfl rfl rfl (.bin rfl rfl (vT eW_ rfl)) rfl rfl ?_
 refine a_z ?_
 exact af_ (t_e (ad_ _))
abbrev NRow:=Int×Int×Nat
def nV(r:NRow):Rat:=numV r.1 r.2.1 r.2.2
def nR(l:List NRow):List (List AV):=l.map fun r=>nuC r.1 r.2.1 r.2.2
def nL(l:List NRow):List Rat:=l.map nV
abbrev rL(l:List Rat):List (List AV):=rE (l.map rq)
def okR(l:List NRow):Prop:=∀r∈l,i64r r.1∧i64r r.2.1∧r.2.2≤255
theorem bU_(l:List NRow):∀e∈nR l,∀c∈e,Closed c:=by
 intro e he c hc
 obtain⟨r,_,rfl⟩:=List.mem_map.1 he
 exact cz_ _ _ _ c hc
theorem ex_(l:List Rat):∀e∈rL l,∀c∈e,Closed c:=fU_ _
theorem numV_qs{N D:Int}{p:Nat}(hN:i64r N)(hD:i64r D):qs (numV N D p)≤256:=by
 obtain⟨d,hd⟩:∃d,d=dNum D:=⟨_,rfl⟩
 have hd0:d≠0:=by rw[hd];unfold dNum;split <;> omega
 have hdr:i64r d:=by
  rw[hd];unfold dNum i64r;unfold i64r at hD;split <;> omega
 unfold i64r at hN hdr
 obtain⟨q,hq⟩:∃q,q=Rat.divInt N d:=⟨_,rfl⟩
 have hnv:numV N D p=powQ q (p % 4):=by unfold numV;rw[←hd,←hq]
 have hqs:qs q≤64:=by
  have hb:∀z:Int,-9223372036854775808≤z∧z≤9223372036854775808→bl z.natAbs≤64:=fun z h=>bl_le (k:=64) (by omega)
  rw[hq]
  by_cases hn:d< 0
  rw[eQ_ N d hn]
  exact cs_ (by omega) (hb (-N) (by omega)) (hb d (by omega))
  rw[eP_ N d (by omega)]
  exact cs_ (by omega) (hb N (by omega)) (hb d (by omega))
 have h1:=lf_ q (p % 4)
 have h2:(p % 4+1) * qs q≤4* 64:=Nat.mul_le_mul (by omega) hqs
 rw[hnv];omega
theorem nL_qs{l:List NRow}(h:okR l):∀q∈nL l,qs q≤256:=by
 intro q hq
 obtain⟨r,hr,rfl⟩:=List.mem_map.1 hq
 exact numV_qs (h r hr).1 (h r hr).2.1
def liS(l:List NRow):List Rat→Nat→AState
 |[],i=>⟨[(0,.arr (nR l)),(4,.emp),(5,.emp),(6,i64 i)],[],1,33⟩
 |q::Q,i=>⟨[(0,.arr (nR l)),(4,.lsl 1 0 (Q.length+1) none 3),(5,.lsl 2 0 (Q.length+1) none 4),(6,i64 i)],[(1,some ⟨35,3,pE (q::Q)⟩),(2,some ⟨42,4,rL (q::Q)⟩)],3,33⟩
theorem hp_(l:List NRow)(i:Nat):liS l [] i=⟨[(0,.arr (nR l)),(4,.emp),(5,.emp),(6,i64 i)],[],1,33⟩:=rfl
theorem eJ_(l:List NRow)(q:Rat)(Q:List Rat)(i:Nat):liS l (q::Q) i=⟨[(0,.arr (nR l)),(4,.lsl 1 0 (Q.length+1) none 3),(5,.lsl 2 0 (Q.length+1) none 4),(6,i64 i)],[(1,some ⟨35,3,pE (q::Q)⟩),(2,some ⟨42,4,rL (q::Q)⟩)],3,33⟩:=rfl
theorem fs_List(l:List NRow)(hl:l.length≤1099511627776)(hb:okR l):FSpec Tryz.prog 101 [.arr (nR l)] (.tup [.arr (pE (nL l)),.arr (rL (nL l))]):=by
 have hcr:∀q:Rat,∀e∈[rC (rq q)],∀c∈e,Closed c:=fun q=>ex_ [q]
 refine f_n Tryz.func101 ?_ ?_
 exact aa_ (aL_ (bU_ l)) ab_
 refine r_z 2 ?_
 refine r_z 1 ?_
 refine r_z 1 ?_
 refine ac_ (r_z 1 ?_)
 refine aF_ (fun _:Unit=>liS l (nL l) l.length) (fun _=>True) ?_ ?_
 refine ag_ (aw_ (fun i:Nat=>liS l (nL (l.take i)) i) (fun i=>l.length- i) (fun i=>i≤l.length) 0 (Nat.zero_le _) ?_ ?_)
 show SEnt _ (liS l [] 0)
 rw[hp_]
 have:=(aL_ (bU_ l))
 exact s_f []
 rintro i hi
 have hlen:(nR l).length=l.length:=by simp[nR]
 by_cases hlt:i< l.length
 ·obtain⟨n,hn⟩:∃n,l[i]?=some n:=⟨_,List.getElem?_eq_getElem hlt⟩
  have hgt:(nR l)[((i:Nat):Int).toNat]?=some (nuC n.1 n.2.1 n.2.2):=by
   show(nR l)[i]?=_
   simp[nR,hn]
  obtain⟨hn1,hn2,hn3⟩:=hb n (List.mem_of_getElem? hn)
  have hbo:=jc_ n.1 n.2.1 n.2.2 hn1 hn2 hn3
  obtain⟨v,hv⟩:∃v,v=numV n.1 n.2.1 n.2.2:=⟨_,rfl⟩
  rw[←hv] at hbo
  have htk:nL (l.take (i+1))=nL (l.take i)++[v]:=by rw[ca_ hn];simp[nL,nV,hv]
  have hQl:(nL (l.take i)).length=i:=by simp[nL];omega
  cases hQ:nL (l.take i) with
  |nil=>
   simp only[hp_]
   refine ac_ (r_z 4 ?_)
   refine ah_ rfl (fun h=>?_) (fun h=>?_)
   rotate_left
   exact absurd h (by simp[nR];omega)
   refine ae_ (ac_ (ag_ (s_r 12 ?_)))
   refine a_2 ?_
   refine i_x hgt ?_
   refine l_x hgt ?_
   refine c_s (hbo) ?_
   refine a_z ?_
   refine r_d hmix 10 ?_
   refine a_8 ?_
   refine a_2 ?_
   refine ak_ (n_k ?_)
   refine r_m 3 ?_
   refine a_z ?_
   refine⟨i+1,by omega,hlt,?_⟩
   simp only[htk,hQ,List.nil_append,eJ_]
   refine ax_ [(1,4),(2,5)] rfl rfl rfl au_r (fun hs=>?_) (fun hs=>?_)
   ·repeat' (first|exact aZ_|refine aR_ rfl ?_ ?_)
    all_goals (first|(exact aA_ hs (aL_ (bU_ l)))|exact au_c)
   ·repeat' (first|exact av_|refine an_ rfl rfl rfl rfl ?_ ?_)
    all_goals (first|((try exact a6_ hs (aC_ [v]));(try exact a6_ hs (ex_ [v])))|exact au_e|(refine au_ ?_;repeat' (first|exact as_|refine ai_ ?_ ?_)))
    all_goals (first|(exact aA_ hs (aL_ (bU_ l)))|exact au_c)
  |cons q Q=>
   rw[hQ] at hQl
   simp at hQl
   simp only[eJ_]
   refine ac_ (r_z 4 ?_)
   refine ah_ rfl (fun h=>?_) (fun h=>?_)
   rotate_left
   exact absurd h (by simp[nR];omega)
   refine ae_ (ac_ (ag_ (s_r 12 ?_)))
   refine a_2 ?_
   refine i_x hgt ?_
   refine l_x hgt ?_
   refine c_s (hbo) ?_
   refine a_z ?_
   refine r_d hmix 10 ?_
   refine a_8 ?_
   refine a_2 ?_
   refine ak_ (n_k ?_)
   refine r_m 3 ?_
   refine a_z ?_
   refine⟨i+1,by omega,hlt,?_⟩
   simp only[htk,hQ,List.cons_append,eJ_]
   have e:pE (q::Q)++[qC v]=pE (q::(Q++[v])):=by simp[pE]
   have e2:rL (q::Q)++[rC (rq v)]=rL (q::(Q++[v])):=by simp[rE]
   refine ax_ [(1,4),(2,5)] rfl rfl rfl ?_ (fun hs=>?_) (fun hs=>?_)
   ·repeat' (first|exact ShrL.nil|refine ShrL.cons rfl rfl rfl rfl (by first|(simp)|rfl|(simp;done)|(simp <;> omega)) ?_)
   ·repeat' (first|exact aZ_|refine aR_ rfl ?_ ?_)
    all_goals (first|(exact aA_ hs (aL_ (bU_ l)))|exact au_c)
   ·repeat' (first|exact av_|refine an_ rfl rfl rfl rfl ?_ ?_)
    all_goals (first|((try exact aE_ hs e (aC_ _));(try exact aE_ hs e2 (ex_ _)))|exact au_e|(refine au_ ?_;repeat' (first|exact as_|refine ai_ ?_ ?_)))
    all_goals (first|(exact aA_ hs (aL_ (bU_ l)))|exact au_c)
 have hge:i=l.length:=by omega
 subst hge
 simp only[List.take_length]
 cases hQ:nL l with
 |nil=>
  simp only[hp_]
  refine ac_ (r_z 4 ?_)
  refine ah_ rfl (fun h=>?_) (fun h=>?_)
  exact absurd h (by simp[nR])
  refine at_ ⟨(),trivial,?_⟩
  simp only[hQ,hp_]
  have:=(aL_ (bU_ l))
  exact s_f []
 |cons q Q=>
  simp only[eJ_]
  refine ac_ (r_z 4 ?_)
  refine ah_ rfl (fun h=>?_) (fun h=>?_)
  exact absurd h (by simp[nR])
  refine at_ ⟨(),trivial,?_⟩
  simp only[hQ,eJ_]
  have:=(aL_ (bU_ l))
  exact s_f []
 rintro _ _
 cases hQ:nL l with
 |nil=>
  simp only[hp_]
  refine r_z 4 ?_
  refine af_ (Fin.many ⟨_,_,rfl,rfl,⟨_,_,rfl,rfl,rfl⟩⟩ (nle rfl) ?_)
  exact ai_ (Cv.emp _) (ai_ (Cv.emp _) as_)
 |cons q Q=>
  simp only[eJ_]
  refine r_z 4 ?_
  refine af_ (Fin.many ⟨_,_,rfl,rfl,⟨_,_,rfl,rfl,rfl⟩⟩ (nle rfl) ?_)
  exact ai_ (Cv.sealE aB_ rfl (fun _ _ h=>by cases h) rfl (by simp) (aC_ _)) (ai_ (Cv.sealE aB_ rfl (fun _ _ h=>by cases h) rfl (by simp) (ex_ _)) as_)
theorem fs_BothP(l:List NRow)(hl:l.length≤1099511627776)(hb:okR l):FSpec Tryz.prog 22 [.arr (nR l)] (.tup [.arr (pE (nL l)),.arr (rL (nL l))]):=by
 refine f_n Tryz.func22 ?_ ?_
 exact aa_ (aL_ (bU_ l)) ab_
 refine r_z 2 ?_
 refine r_c 7 (fs_List l hl hb) ?_
 refine a_z ?_
 refine r_z 4 ?_
 refine af_ (Fin.many ⟨_,_,rfl,rfl,⟨_,_,rfl,rfl,rfl⟩⟩ (nle rfl) ?_)
 exact ai_ (aA_ aB_ (aL_ (aC_ _))) (ai_ (aA_ aB_ (aL_ (ex_ _))) as_)
end Go.Proofs.YtdjfjpeoddmamaaGreatDoor
namespace Go.Proofs.YtdjfjpeoddmamaaGreatDoor
open Go.Abs Go.Deep Go.RowKit
set_option maxRecDepth 20000
theorem ess_of{M:Nat→Prop}{β:Nat→Option (Nat×Nat)}{w:World}{b s off:Nat}{f:Nat→List AV}:∀(n j:Nat),(∀i,i< j+n→(f i).length=s∧RVcs M β w b (f i) (off+i* s))→RVess M β w b s ((List.range' j n).map f) (off+j* s)
 |0,_,_=>trivial
 |n+1,j,h=>by
  rw[List.range'_succ,List.map_cons]
  refine⟨(h j (by omega)).1,(h j (by omega)).2,?_⟩
  have:=ess_of (M:=M) (β:=β) (w:=w) (b:=b) (s:=s) (off:=off) n (j+1) (fun i hi=>h i (by omega))
  rwa[Nat.add_mul,Nat.one_mul,←Nat.add_assoc] at this
theorem jG_{w:World}{b o:Nat}{v:Value}(h:w.cell? ⟨b,o,none⟩=some v):∃N,aG_ w b=some N:=by
 unfold World.cell? at h
 unfold aG_
 split at h
 ·rename_i c _ _ e;rw[show w.heap[b]?=_ from e];exact⟨c.size,rfl⟩
 cases h
theorem tyS:(Tryz.prog).underlying 26=some (.slice 23):=by kernel_rfl
theorem tyN:∃f0 f1 f2,(Tryz.prog).underlying 23=some (.struct #[f0,f1,f2])∧f0.type=2∧f0.offset=0∧f1.type=2∧f1.offset=1∧f2.type=5∧f2.offset=2:=
 ⟨{name:= "N",type:=2,offset:=0,embedded:=false,tag:= "",pkgPath:= "",byteOffset:=0},{name:= "D",type:=2,offset:=1,embedded:=false,tag:= "",pkgPath:= "",byteOffset:=8},{name:= "Pow",type:=5,offset:=2,embedded:=false,tag:= "",pkgPath:= "",byteOffset:=16},by kernel_rfl,rfl,rfl,rfl,rfl,rfl,rfl⟩
theorem tyc82:(Tryz.prog).cellsOf 23=3:=by kernel_rfl
theorem tyc2:(Tryz.prog).cellsOf 2=1:=by kernel_rfl
theorem tyc5:(Tryz.prog).cellsOf 5=1:=by kernel_rfl
theorem tyu2:(Tryz.prog).underlying 2=some (.int .i64):=by kernel_rfl
theorem tyu5:(Tryz.prog).underlying 5=some (.int .u8):=by kernel_rfl
theorem oj_{H:Type}{enc:TypeId×Value→H}{W:World}{base n:Nat}{spare:Nat→Bool}{held:Bool}{cs:List Value}{x:DataW H×List MemPlace}(h:DataW.trod enc Tryz.prog W base spare held n 23 cs=some x):
    ∃r:NRow,i64r r.1∧i64r r.2.1∧r.2.2≤255∧cs=[.int .i64 r.1,.int .i64 r.2.1,.int .u8 r.2.2]:=by
 obtain⟨f0,f1,f2,hu,h1,h2,h3,h4,h5,h6⟩:=tyN
 obtain⟨y0,y1,y2,m,_,hl,g0,g1,g2⟩:=trod_struct3 hu h
 rw[h1,h2,tyc2] at g0
 rw[h3,h4,tyc2] at g1
 rw[h5,h6,tyc5] at g2
 rw[tyc82] at hl
 obtain⟨n0,e0,_,w0⟩:=DataW.trod_int tyu2 g0
 obtain⟨n1,e1,_,w1⟩:=DataW.trod_int tyu2 g1
 obtain⟨n2,e2,_,w2⟩:=DataW.trod_int tyu5 g2
 match cs,hl with
 |[c0,c1,c2],_=>
  simp at e0 e1 e2
  subst e0;subst e1;subst e2
  have b2:=bounds_u8 w2
  refine⟨(n0,n1,n2.toNat),bounds_i64 w0,bounds_i64 w1,?_,?_⟩
  show n2.toNat≤255;omega
  show _=[_,_,Value.int .u8 ((n2.toNat:Nat):Int)]
  rw[Int.toNat_of_nonneg b2.1]
theorem rows_of{H:Type}{enc:TypeId×Value→H}{W:World}{a:Option Addr}{len cap:Nat}{d:DataW H}{ps:List MemPlace}(h:DataW.Trod enc Tryz.prog W 0 (fun _=>true) true 26 (.slice a len cap) d ps):
    ∃l:List NRow,okR l∧RV (fun _=>False) (fun _=>none) W (.arr (nR l)) (.slice a len cap):=by
 obtain⟨fuel,hf⟩:=h
 rcases open_slice tyS hf with⟨hcs,_⟩|⟨x,len',cap',m,n,D,Pl,hcs,_,hl,hm,hmm,_,hx⟩
 simp[Value.cells] at hcs
 obtain⟨rfl,rfl,rfl⟩:=hcs
 exact⟨[],(fun r hr=>by cases hr),none,0,rfl,Nat.le_refl _,by decide,.inl rfl⟩
 simp[Value.cells] at hcs
 obtain⟨rfl,rfl,rfl⟩:=hcs
 simp only[if_true] at hmm
 have hmc:m=cap:=hmm
 rw[hmc] at hx
 rw[tyc82] at hx
 have hx':∀i,i< len→∃r:NRow,(i64r r.1∧i64r r.2.1∧r.2.2≤255)∧W.cells? 0 (x.add (i* 3)) 3=some [.int .i64 r.1,.int .i64 r.2.1,.int .u8 r.2.2]:=fun i hi=>by
  obtain⟨cs',g1,g2⟩:=hx i (by omega)
  obtain⟨r,r1,r2,r3,e⟩:=oj_ g2
  exact⟨r,⟨r1,r2,r3⟩,by rw[g1,e]⟩
 obtain⟨R,hR⟩:=choose_lt (α:=NRow) hx'
 refine⟨(List.range len).map R,?_,some x,cap,by simp[nR],by simpa[nR] using hl,hm,?_⟩
 intro r hr
 obtain⟨i,hi,rfl⟩:=List.mem_map.1 hr
 exact(hR i (List.mem_range.1 hi)).1
 by_cases h0:len=0
 subst h0;exact .inl rfl
 right
 have c:∀i,i< len→∀j (v:Value),[.int .i64 (R i).1,.int .i64 (R i).2.1,.int .u8 (R i).2.2][j]?=some v→W.cell? (x.add (i* 3+j))=some v:=fun i hi j v hv=>by
  have hj:j< 3:=by
   have:=(List.getElem?_eq_some_iff.1 hv).1
   simpa using this
  have:=(World.cells?_some (hR i hi).2).2.2 j hj
  rw[hv,Go.Deep.add_add] at this
  exact this
 have c0:=c 0 (by omega) 0 _ rfl
 obtain⟨b,off,spot⟩:=x
 have hspot:spot=none:=by simpa[Addr.add] using World.cell?_spot c0
 subst hspot
 have hadd:∀k,Addr.add ⟨b,off,none⟩ k=⟨b,off+k,none⟩:=fun k=>by
  unfold Addr.add
  by_cases hk:k=0
  simp[hk]
  simp[hk]
 refine⟨b,off,3,rfl,jG_ (by rw[hadd] at c0;exact c0),(fun h=>h),?_⟩
 have:=ess_of (M:=fun _=>False) (β:=fun _=>none) (w:=W) (b:=b) (s:=3) (off:=off) (f:=fun i=>nuC (R i).1 (R i).2.1 (R i).2.2) len 0 (fun i hi=>⟨rfl,?_⟩)
 rw[Nat.zero_mul,Nat.add_zero,←List.range_eq_range'] at this
 rw[nR,List.map_map]
 exact this
 have hi':i< len:=by omega
 refine⟨⟨_,?_,rfl⟩,⟨_,?_,rfl⟩,⟨_,?_,rfl⟩,trivial⟩
 have:=c i hi' 0 _ rfl;rw[hadd] at this;exact this
 have:=c i hi' 1 _ rfl;rw[hadd] at this;rw[Nat.add_assoc];exact this
 have:=c i hi' 2 _ rfl;rw[hadd] at this;rw[Nat.add_assoc,Nat.add_assoc];exact this
end Go.Proofs.YtdjfjpeoddmamaaGreatDoor
namespace Go.Proofs.YtdjfjpeoddmamaaGreatDoor
open Go.Abs Go.Deep Go.RowKit Go.WideShapes
set_option maxRecDepth 20000
def okN(r:NRow):Prop:=i64r r.1∧i64r r.2.1∧r.2.2≤255
end Go.Proofs.YtdjfjpeoddmamaaGreatDoor
namespace Go.Proofs.YtdjfjpeoddmamaaGreatDoor
open Go.Abs
set_option maxRecDepth 20000
def goodN(r:NRow):Bool:=decide (¬((r.2.2:Int) % 4≠0)∧¬r.1> 999999∧¬r.1< -999999∧¬r.2.1> 999999∧¬r.2.1< -999999)
def tameB(l:List NRow)(k:Nat):Bool:=l.all goodN && decide (l.length≤k)
theorem fs_Tame(l:List NRow)(k:Nat)(hl:l.length≤1099511627776)(hk:k≤1000000):FSpec Tryz.prog 10 [.arr (nR l),i64 k] (bln (tameB l k)):=by
 have hnl:(nR l).length=l.length:=by simp[nR]
 refine f_n Tryz.func10 ?_ ?_
 exact aa_ (aL_ (bU_ l)) (aa_ (ad_ _) ab_)
 refine r_z 1 ?_
 refine ac_ (r_z 1 ?_)
 refine aF_ (fun _:Unit=>⟨[(0,.arr (nR l)),(1,i64 k)],[],1,45⟩) (fun _=>l.all goodN=true) ?_ ?_
 refine ag_ (aw_ (fun j:Nat=>⟨[(5,i64 ((j:Nat):Int)),(0,.arr (nR l)),(1,i64 k)],[],1,45⟩) (fun j=>l.length- j) (fun j=>j≤l.length∧(l.take j).all goodN=true) 0 ⟨Nat.zero_le _,rfl⟩ ?_ ?_)
 have:=(aL_ (bU_ l))
 exact s_f []
 rintro j ⟨hj,hg⟩
 by_cases hlt:j< l.length
 obtain⟨r,hr⟩:∃r,l[j]?=some r:=⟨_,List.getElem?_eq_getElem hlt⟩
 have hgt:(nR l)[((j:Nat):Int).toNat]?=some (nuC r.1 r.2.1 r.2.2):=by
  rw[Int.toNat_natCast,nR,List.getElem?_map,hr];rfl
 have hbad:goodN r=false→tameB l k=false:=fun h=>by
  unfold tameB
  rw[Bool.and_eq_false_iff]
  exact .inl (List.all_eq_false.2 ⟨r,List.mem_of_getElem? hr,by rw[h];decide⟩)
 refine ac_ (q_z 4 ?_)
 refine cT (ae_ (ac_ (ag_ (s_r 6 ?_))))
 refine a_2 ?_
 refine i_x hgt ?_
 refine l_x hgt ?_
 refine a_z ?_
 by_cases c0:((r.2.2:Int) % 4≠0)
 have hgd:goodN r=false:=decide_eq_false (by rintro⟨e0,e1,e2,e3,e4⟩;exact e0 c0)
 rw[hbad hgd]
 refine s_r 24 ?_
 refine a_3 ?_
 refine o_0 (.bin rfl rfl (vT bw_ ((by simpa using c0)))) ?_
 refine a_z ?_
 refine cT (r_z 1 ?_)
 exact af_ (t_e (ad_ _))
 by_cases c1:r.1> 999999
 have hgd:goodN r=false:=decide_eq_false (by rintro⟨e0,e1,e2,e3,e4⟩;exact e1 c1)
 rw[hbad hgd]
 refine s_r 24 ?_
 refine a_3 ?_
 refine o_0 (.bin rfl rfl (vF bw_ ((by simpa using c0)))) ?_
 refine d_z ?_
 refine cT (r_z 1 ?_)
 exact af_ (t_e (ad_ _))
 by_cases c2:r.1< -999999
 have hgd:goodN r=false:=decide_eq_false (by rintro⟨e0,e1,e2,e3,e4⟩;exact e2 c2)
 rw[hbad hgd]
 refine s_r 24 ?_
 refine a_3 ?_
 refine o_0 (.bin rfl rfl (vF bw_ ((by simpa using c0)))) ?_
 refine d_z ?_
 refine cT (r_z 1 ?_)
 exact af_ (t_e (ad_ _))
 by_cases c3:r.2.1> 999999
 have hgd:goodN r=false:=decide_eq_false (by rintro⟨e0,e1,e2,e3,e4⟩;exact e3 c3)
 rw[hbad hgd]
 refine s_r 24 ?_
 refine a_3 ?_
 refine o_0 (.bin rfl rfl (vF bw_ ((by simpa using c0)))) ?_
 refine d_z ?_
 refine cT (r_z 1 ?_)
 exact af_ (t_e (ad_ _))
 by_cases c4:r.2.1< -999999
 have hgd:goodN r=false:=decide_eq_false (by rintro⟨e0,e1,e2,e3,e4⟩;exact e4 c4)
 rw[hbad hgd]
 refine s_r 24 ?_
 refine a_3 ?_
 refine o_0 (.bin rfl rfl (vF bw_ ((by simpa using c0)))) ?_
 refine d_z ?_
 refine cT (r_z 1 ?_)
 exact af_ (t_e (ad_ _))
 have hgd:goodN r=true:=decide_eq_true ⟨c0,c1,c2,c3,c4⟩
 refine s_r 24 ?_
 refine a_3 ?_
 refine o_0 (.bin rfl rfl (vF bw_ ((by simpa using c0)))) ?_
 refine d_z ?_
 refine cF (ae_ (r_m 3 ?_))
 refine a_z ?_
 refine⟨j+1,by omega,⟨hlt,?_⟩,?_⟩
 rw[ca_ hr,List.all_append,hg];simp[hgd]
 have:=(aL_ (bU_ l))
 exact s_f []
 have hge:l.take j=l:=List.take_of_length_le (by omega)
 rw[hge] at hg
 refine ac_ (q_z 4 ?_)
 refine cF (at_ ⟨(),hg,?_⟩)
 have:=(aL_ (bU_ l))
 exact s_f []
 rintro _ hg
 have e:tameB l k=decide ((((nR l).length:Nat):Int)≤(k:Int)):=by
  unfold tameB
  rw[hg,Bool.true_and,hnl]
  exact decide_eq_decide.2 (by omega)
 rw[e]
 refine r_z 5 ?_
 exact af_ (t_e (ad_ _))
theorem good_qs{r:NRow}(h:goodN r=true)(hb:i64r r.1)(hd:i64r r.2.1):qs (numV r.1 r.2.1 r.2.2)≤20:=by
 obtain⟨h0,h1,h2,h3,h4⟩:=of_decide_eq_true h
 have hp:r.2.2 % 4=0:=by omega
 have hN:bl r.1.natAbs≤20:=bl_le (by omega)
 unfold numV
 rw[hp]
 show qs (Rat.divInt r.1 (dNum r.2.1))≤20
 obtain⟨d,hde⟩:∃d,d=dNum r.2.1:=⟨_,rfl⟩
 have hd0:d≠0:=by rw[hde];unfold dNum;split <;> omega
 have hdb:bl d.natAbs≤20:=by rw[hde];unfold dNum;split <;> exact bl_le (by omega)
 rw[←hde]
 by_cases hn:d< 0
 rw[eQ_ _ d hn]
 exact cs_ (by omega) (by rw[Int.natAbs_neg];exact hN) (by omega)
 rw[eP_ _ d (by omega)]
 exact cs_ (by omega) hN (by omega)
theorem tame_bd{l:List NRow}{k:Nat}(h:tameB l k=true)(ho:okR l):bdL (nL l) 20∧(nL l).length≤k:=by
 unfold tameB at h
 rw[Bool.and_eq_true,List.all_eq_true] at h
 refine⟨fun q hq=>?_,by simpa[nL] using h.2⟩
 obtain⟨r,hr,rfl⟩:=List.mem_map.1 hq
 exact good_qs (h.1 r hr) (ho r hr).1 (ho r hr).2.1
theorem gw_(N D N' D':Int)(k k':Nat)(hN:i64r N)(hD:i64r D)(hk:k≤255)(hN':i64r N')(hD':i64r D')(hk':k'≤255):
    FSpec Tryz.prog 12 [.agg (nuC N D k++nuC N' D' k')] (.tup [.agg (spC (numV N D k) (numV N' D' k')),.agg (rC (rq (numV N D k))++rC (rq (numV N' D' k')))]):=by
 have b1:=jc_ N D k hN hD hk
 have b2:=jc_ N' D' k' hN' hD' hk'
 obtain⟨v,hv⟩:∃v,v=numV N D k:=⟨_,rfl⟩
 obtain⟨w,hw⟩:∃w,w=numV N' D' k':=⟨_,rfl⟩
 rw[←hv] at b1⊢
 rw[←hw] at b2⊢
 refine f_n Tryz.func12 ?_ ?_
 exact aa_ (al_ fun c hc=>(List.mem_append.1 hc).elim (cz_ _ _ _ c) (cz_ _ _ _ c)) ab_
 refine r_z 3 ?_
 refine r_c 10 (b1) ?_
 refine a_z ?_
 refine r_c 10 (b2) ?_
 refine a_z ?_
 refine ac_ (r_d hmix 8 ?_)
 refine a_8 ?_
 refine ak_ (n_k ?_)
 refine af_ (Fin.many ⟨_,_,rfl,⟨_,_,_,_,_,rfl,rfl,rfl,.inl ⟨tg_37.h,_,ts_37.h,nle rfl,rfl⟩⟩,⟨_,_,rfl,⟨_,_,_,_,_,rfl,rfl,rfl,.inl ⟨tg_44.h,_,ts_44.h,nle rfl,rfl⟩⟩,rfl⟩⟩ (nle rfl) ?_)
 exact ai_ (aA_ aB_ (cl_ _ _)) (ai_ (aA_ aB_ (al_ fun c hc=>(List.mem_append.1 hc).elim (dR_ _ c) (dR_ _ c))) as_)
end Go.Proofs.YtdjfjpeoddmamaaGreatDoor
namespace Go.Proofs.YtdjfjpeoddmamaaGreatDoor
open Go.Abs Go.Deep Go.RowKit Go.WideShapes
set_option maxRecDepth 20000

end Go.Proofs.YtdjfjpeoddmamaaGreatDoor
namespace Go.Proofs.YtdjfjpeoddmamaaGreatDoor
open Go.Abs Go.ChangeShapes Go.Deep Go.RowKit Go.WideShapes
set_option maxRecDepth 20000
theorem tyG:∃f0 f1,(Tryz.prog).underlying 25=some (.struct #[f0,f1])∧f0.type=23∧f0.offset=0∧f1.type=23∧f1.offset=3:=
 ⟨{name:= "Low",type:=23,offset:=0,embedded:=false,tag:= "",pkgPath:= "",byteOffset:=0},{name:= "High",type:=23,offset:=3,embedded:=false,tag:= "",pkgPath:= "",byteOffset:=24},by kernel_rfl,rfl,rfl,rfl,rfl⟩
theorem tycG:(Tryz.prog).cellsOf 25=6:=by kernel_rfl
theorem oF_{H:Type}{enc:TypeId×Value→H}{W:World}{base:Nat}{v:Value}{d:DataW H}{ps:List MemPlace}(hv:Value.okWide Tryz.prog W .any base 25 v)(h:DataW.Trod enc Tryz.prog W 0 (fun _=>true) true 25 v d ps):
    ∃r:NRow×NRow,(okN r.1∧okN r.2)∧RV (fun _=>False) (fun _=>none) W (.agg (nuC r.1.1 r.1.2.1 r.1.2.2++nuC r.2.1 r.2.2.1 r.2.2.2)) v:=by
 obtain⟨f0,f1,hu,h1,h2,h3,h4⟩:=tyG
 obtain⟨cs,rfl,_⟩:∃cs,v= .agg cs∧True:=by
  unfold Value.okWide at hv
  rw[hu] at hv
  obtain⟨cs,h1,_⟩:=hv
  exact⟨cs,h1,trivial⟩
 obtain⟨fuel,hf⟩:=h
 obtain⟨y0,y1,m,_,hl,g0,g1⟩:=trod_struct2 hu hf
 rw[h1,h2,tyc82] at g0
 rw[h3,h4,tyc82] at g1
 rw[tycG] at hl
 obtain⟨r,r1,r2,r3,e⟩:=oj_ g0
 obtain⟨r',r1',r2',r3',e'⟩:=oj_ g1
 have hcs:cs.toList=[.int .i64 r.1,.int .i64 r.2.1,.int .u8 r.2.2,.int .i64 r'.1,.int .i64 r'.2.1,.int .u8 r'.2.2]:=by
  have h0:(Value.agg cs).cells.toList=cs.toList:=by simp[Value.cells]
  rw[h0] at e e' hl
  generalize cs.toList=l at *
  match l,hl with
  |[a0,a1,a2,a3,a4,a5],_=>
   simp at e e'
   obtain⟨rfl,rfl,rfl⟩:=e
   obtain⟨rfl,rfl,rfl⟩:=e'
   rfl
 refine⟨(r,r'),⟨⟨r1,r2,r3⟩,⟨r1',r2',r3'⟩⟩,cs,rfl,?_⟩
 rw[hcs]
 exact⟨_,_,rfl,rfl,_,_,rfl,rfl,_,_,rfl,rfl,_,_,rfl,rfl,_,_,rfl,rfl,_,_,rfl,rfl,rfl⟩
end Go.Proofs.YtdjfjpeoddmamaaGreatDoor
namespace Go.Proofs.YtdjfjpeoddmamaaGreatDoor
open Go.Abs
set_option maxRecDepth 20000
set_option maxHeartbeats 2000000
abbrev gapC(g:NRow×NRow):List AV:=nuC g.1.1 g.1.2.1 g.1.2.2++nuC g.2.1 g.2.2.1 g.2.2.2
theorem hS_(g:NRow×NRow):∀c∈gapC g,Closed c:=fun c hc=>(List.mem_append.1 hc).elim (cz_ _ _ _ c) (cz_ _ _ _ c)
theorem sgZ_le{q:Rat}:sgZ q.num≤0↔¬0< q:=by
 have h1:=sgZ_num_gt (q:=q)
 constructor
 intro h e;have:=h1.2 e;omega
 intro h
 by_cases e:0< sgZ q.num
 exact absurd (h1.1 e) h
 omega
theorem kp_(g h:NRow×NRow)(n:Nat)(lr:List NRow)(hg:okN g.1∧okN g.2)(hh:okN h.1∧okN h.2)(hn:n≤255)(hl:okR lr):
    FSpec Tryz.prog 3 [.agg (gapC g),.agg (gapC h),.v (.int .u8 n),.arr (nR lr)] (.v (.bool true)):=by
 obtain⟨g1,g2⟩:=hg
 obtain⟨h1,h2⟩:=hh
 have cG:=hS_ g
 have cH:=hS_ h
 have hT:=fs_Tame [g.1,g.2,h.1,h.2] 4 (by simp) (by omega)
 have hnl:(nR lr).length=lr.length:=by simp[nR]
 have bG:FSpec Tryz.prog 12 [.agg (gapC g)] (.tup [.agg (spC (nV g.1) (nV g.2)),.agg (rC (rq (nV g.1))++rC (rq (nV g.2)))]):=gw_ _ _ _ _ _ _ g1.1 g1.2.1 g1.2.2 g2.1 g2.2.1 g2.2.2
 have bH:FSpec Tryz.prog 12 [.agg (gapC h)] (.tup [.agg (spC (nV h.1) (nV h.2)),.agg (rC (rq (nV h.1))++rC (rq (nV h.2)))]):=gw_ _ _ _ _ _ _ h1.1 h1.2.1 h1.2.2 h2.1 h2.2.1 h2.2.2
 refine f_n Tryz.func3 ?_ ?_
 exact aa_ (al_ cG) (aa_ (al_ cH) (aa_ (ad_ _) (aa_ (aL_ (bU_ lr)) ab_)))
 refine r_z 3 ?_
 cases ht:tameB [g.1,g.2,h.1,h.2] 4 with
 |false=>
  rw[ht] at hT
  refine ac_ (s_r 16 ?_)
  refine a_8 ?_
  refine o_1 (.buildSlice te_26.h tz_23.h rfl (by decide) rfl rfl rfl (by simp[gapC,nuC])) ?_
  refine o_1 (.callS1 rfl rfl rfl (.shut rfl d_n (.keep (.nil))) rfl (hT)) ?_
  refine a_z ?_
  refine ah_ rfl (fun h=>?_) (fun h=>?_)
  refine r_c 2 (er_) ?_
  refine a_z ?_
  exact af_ (t_e (ad_ _))
  cases h
 |true=>
 rw[ht] at hT
 by_cases hlen:6< lr.length
 refine ac_ (s_r 16 ?_)
 refine a_8 ?_
 refine o_1 (.buildSlice te_26.h tz_23.h rfl (by decide) rfl rfl rfl (by simp[gapC,nuC])) ?_
 refine o_1 (.callS1 rfl rfl rfl (.shut rfl d_n (.keep (.nil))) rfl (hT)) ?_
 refine d_z ?_
 refine ah_ rfl (fun h=>?_) (fun h=>?_)
 refine r_c 2 (er_) ?_
 refine a_z ?_
 exact af_ (t_e (ad_ _))
 cases h
 have okr:okR [g.1,g.2,h.1,h.2]:=fun r hr=>by
  simp only[List.mem_cons,List.not_mem_nil,or_false] at hr
  rcases hr with rfl|rfl|rfl|rfl
  exact g1
  exact g2
  exact h1
  exact h2
 obtain⟨tb,_⟩:=tame_bd ht okr
 have q1:qs (nV g.1)≤20:=tb _ (by simp[nL])
 have q2:qs (nV g.2)≤20:=tb _ (by simp[nL])
 have q3:qs (nV h.1)≤20:=tb _ (by simp[nL])
 have q4:qs (nV h.2)≤20:=tb _ (by simp[nL])
 generalize nV g.1=a at *
 generalize nV g.2=b at *
 generalize nV h.1=a' at *
 generalize nV h.2=b' at *
 have wS:=hA_ a b (by unfold sm;omega) (by unfold sm;omega)
 have wT:=hA_ a' b' (by unfold sm;omega) (by unfold sm;omega)
 have sS:=bJ_ (b- a)
 have sT:=bJ_ (b'- a')
 refine ac_ (s_r 16 ?_)
 refine a_8 ?_
 refine o_1 (.buildSlice te_26.h tz_23.h rfl (by decide) rfl rfl rfl (by simp[gapC,nuC])) ?_
 refine o_1 (.callS1 rfl rfl rfl (.shut rfl d_n (.keep (.nil))) rfl (hT)) ?_
 refine d_z ?_
 refine cF (ae_ (r_c 9 (bG) ?_))
 refine a_z ?_
 refine r_c 9 (bH) ?_
 refine a_z ?_
 by_cases hab:0< b- a
 rotate_left
 refine ac_ (r_c 10 (wS) ?_)
 refine c_s (sS) ?_
 refine o_0 (.bin rfl rfl (vT cw_ (decide_eq_true (sgZ_le.2 hab)))) ?_
 refine a_z ?_
 refine ah_ rfl (fun h=>?_) (fun h=>?_)
 refine r_c 2 (er_) ?_
 refine a_z ?_
 exact af_ (t_e (ad_ _))
 cases h
 by_cases hab':0< b'- a'
 rotate_left
 refine ac_ (r_c 10 (wS) ?_)
 refine c_s (sS) ?_
 refine o_0 (.bin rfl rfl (vF cw_ (decide_eq_false (fun e=>sgZ_le.1 e hab)))) ?_
 refine c_s (wT) ?_
 refine c_s (sT) ?_
 refine bD_ rfl rfl rfl (.bin rfl rfl (vT cw_ (decide_eq_true (sgZ_le.2 hab')))) rfl rfl ?_
 refine a_z ?_
 refine ah_ rfl (fun h=>?_) (fun h=>?_)
 refine r_c 2 (er_) ?_
 refine a_z ?_
 exact af_ (t_e (ad_ _))
 cases h
 have lt:a< b:=by grind
 have lt':a'< b':=by grind
 obtain⟨k,hk⟩:∃k,k=n % 4+1:=⟨_,rfl⟩
 have hk4:1≤k∧k≤4:=by omega
 have lc:(nL lr).length≤6:=by simp[nL];omega
 have bc:bdL (nL lr) 256:=nL_qs hl
 have bP:=fs_BothP lr (by omega) hl
 generalize nL lr=c at *
 have jA:=oT_ lt hk4 q1 q2
 have jB:=oT_ lt' hk4 q3 q4
 have gA:=kk_ lt hk4 q1 q2
 have gB:=kk_ lt' hk4 q3 q4
 obtain⟨z1,z2⟩:=sc_qs q1 q2 q3 q4
 have qd1:=go_ b a
 have qd2:=go_ b' a'
 have hdv:FSpec Tryz.prog 17 [.agg (qC (b'- a')),.agg (qC (b- a))] (.tup [.agg (qC (scT a b a' b')),i64 0]):=mq_ (b'- a') (b- a) (by grind) (by omega)
 have hml:=cX_ (scT a b a' b') a (by omega)
 have qm:=cd_ (scT a b a' b') a
 have hsu:FSpec Tryz.prog 18 [.agg (qC a'),.agg (qC (scT a b a' b'* a))] (.agg (qC (shT a b a' b'))):=kj_ a' (scT a b a' b'* a) (by omega)
 have hmv:=fs_gMove lt lt' hk4 q1 q2 q3 q4
 obtain⟨l1,l2,l3,l4,l5,l6⟩:=g_len lt' hk4
 have bN:=g_N lt' hk4 q3 q4
 have bW:=(g_bd lt' hk4 q3 q4).2
 have wl:=(g_wt lt' hk4).2.2.1
 have s1:=o1_ (gN a' b' k) (gN a' b' k) (cJ_ bN (by omega)) (cJ_ bN (by omega)) (by omega) (by omega)
 rw[show sameP (gN a' b' k) (gN a' b' k)=true from decide_eq_true rfl] at s1
 have s2:=o1_ (gW a' b' k) (gW a' b' k) (cJ_ bW (by omega)) (cJ_ bW (by omega)) (by omega) (by omega)
 rw[show sameP (gW a' b' k) (gW a' b' k)=true from decide_eq_true rfl] at s2
 obtain⟨f1,f2,f3⟩:=fw_comp q1 q2 q3 q4 lc bc
 have hcm:=ga_ c [shT a b a' b',scT a b a' b'] f1 (by omega) (by simp) (by
  have hz:=aD_ [shT a b a' b',scT a b a' b']
  have hz2:[shT a b a' b',scT a b a' b'].length=2:=rfl
  have hz3:=aD_ c
  have e1:0≤(if 0> degP c then 0 else degP c)∧(if 0> degP c then 0 else degP c)≤5:=by unfold degP;split <;> omega
  have e2:(if 0> degP [shT a b a' b',scT a b a' b'] then 0 else degP [shT a b a' b',scT a b a' b'])=0∨(if 0> degP [shT a b a' b',scT a b a' b'] then 0 else degP [shT a b a' b',scT a b a' b'])=1:=by unfold degP;split <;> omega
  rcases e2 with e|e <;> rw[e]<;> omega)
 obtain⟨ap1,ap2⟩:=km_ lt' hk4 q3 q4 lc (bdL_mono' bc (by omega))
 obtain⟨ap3,ap4⟩:=km_ lt hk4 q1 q2 f3 f2
 have htr:=mv_trace lt lt' hk4 c
 have hm2:=cX_ (trP (gN a b k) (mulP (gW a b k) (compP [shT a b a' b',scT a b a' b'] c))) (scT a b a' b') (by omega)
 rw[←htr] at hm2
 have hcp:=hy_ (trP (gN a' b' k) (mulP (gW a' b' k) c)) (trP (gN a' b' k) (mulP (gW a' b' k) c)) (by unfold sm;omega) (by unfold sm;omega)
 rw[show cmpQ (trP (gN a' b' k) (mulP (gW a' b' k) c)) (trP (gN a' b' k) (mulP (gW a' b' k) c))=0 by unfold cmpQ;rw[if_neg (by grind),if_pos rfl]] at hcp
 clear htr
 generalize trP (gN a b k) (mulP (gW a b k) (compP [shT a b a' b',scT a b a' b'] c))=z at *
 generalize trP (gN a' b' k) (mulP (gW a' b' k) c)=y at *
 refine ac_ (r_c 10 (wS) ?_)
 refine c_s (sS) ?_
 refine o_0 (.bin rfl rfl (vF cw_ (decide_eq_false (fun e=>sgZ_le.1 e hab)))) ?_
 refine c_s (wT) ?_
 refine c_s (sT) ?_
 refine bD_ rfl rfl rfl (.bin rfl rfl (vF cw_ (decide_eq_false (fun e=>sgZ_le.1 e hab')))) rfl rfl ?_
 refine a_z ?_
 refine cF (ae_ (r_z 5 ?_))
 rw[show((n:Nat):Int) % 4+1=(k:Int) by omega]
 refine r_c 11 (jA) ?_
 refine a_z ?_
 refine r_c 11 (jB) ?_
 refine a_z ?_
 refine r_c 9 (gA) ?_
 refine a_z ?_
 refine r_c 9 (gB) ?_
 refine a_z ?_
 refine ac_ (r_d hmix 11 ?_)
 refine c_s (wT) ?_
 refine c_s (wS) ?_
 refine c_s (hdv) ?_
 refine a_6 ?_
 refine ak_ (n_k ?_)
 refine ac_ (r_d hmix 9 ?_)
 refine c_s (hml) ?_
 refine c_s (hsu) ?_
 refine a_2 ?_
 refine ak_ (n_k ?_)
 refine r_c 10 (hmv) ?_
 refine a_z ?_
 refine ac_ (s_r 34 ?_)
 refine a_1 ?_
 refine o_0 (.bin rfl rfl (vF bw_ (rfl))) ?_
 refine d_2 ?_
 refine bD_ rfl rfl rfl (.bin rfl rfl (vF bw_ (rfl))) rfl rfl ?_
 refine d_3 ?_
 refine bD_ rfl rfl rfl (.bin rfl rfl (vF bw_ (rfl))) rfl rfl ?_
 refine d_3 ?_
 refine bD_ rfl rfl rfl (.bin rfl rfl (vF bw_ (rfl))) rfl rfl ?_
 refine d_3 ?_
 refine bD_ rfl rfl rfl (.bin rfl rfl (vF bw_ (rfl))) rfl rfl ?_
 refine c_s (s1) ?_
 refine c_s (s2) ?_
 refine a_z ?_
 refine cF (ae_ (r_c 7 (bP) ?_))
 refine a_z ?_
 refine s_r 10 ?_
 refine a_4 ?_
 refine o_1 (.callS1 rfl rfl rfl (.keep (.shut rfl d_n (.nil))) rfl (hcm)) ?_
 refine a_z ?_
 refine r_c 9 (ap1) ?_
 refine a_z ?_
 refine r_c 9 (ap3) ?_
 refine a_z ?_
 refine ac_ (r_d hmix 22 ?_)
 refine a_1 ?_
 refine o_0 (.bin rfl rfl (vT br_ (rfl))) ?_
 refine d_2 ?_
 refine bD_ rfl rfl rfl (.bin rfl rfl (vT br_ (rfl))) rfl rfl ?_
 refine d_3 ?_
 refine bD_ rfl rfl rfl (.bin rfl rfl (vT br_ (rfl))) rfl rfl ?_
 refine c_s (hm2) ?_
 refine c_s (hcp) ?_
 refine bD_ rfl rfl rfl (.bin rfl rfl (vT br_ (rfl))) rfl rfl ?_
 refine c_s (er_) ?_
 refine a_2 ?_
 refine ak_ (n_k ?_)
 exact af_ (t_e (ad_ _))
end Go.Proofs.YtdjfjpeoddmamaaGreatDoor
namespace Go.Proofs.YtdjfjpeoddmamaaGreatDoor
open Go.Abs Go.Deep Go.RowKit Go.WideShapes
set_option maxRecDepth 20000
theorem tyu8:(Tryz.prog).underlying 5=some (.int .u8):=by kernel_rfl
theorem u8P_of{H:Type}{enc:TypeId×Value→H}{W:World}{base:Nat}{v:Value}{d:DataW H}{ps:List MemPlace}(hv:Value.okWide Tryz.prog W .any base 5 v)(h:DataW.Trod enc Tryz.prog W 0 (fun _=>true) true 5 v d ps):
    ∃r:Nat,r≤255∧RV (fun _=>False) (fun _=>none) W (.v (.int .u8 r)) v:=by
 obtain⟨n,rfl⟩:∃n,v= .int .u8 n:=by
  unfold Value.okWide at hv
  rw[tyu8] at hv
  cases v with
  |int k n=>obtain⟨rfl,_⟩:=hv;exact⟨n,rfl⟩
  |_=>exact False.elim hv
 obtain⟨fuel,hf⟩:=h
 obtain⟨n0,e0,_,w0⟩:=DataW.trod_int tyu8 hf
 have e:n=n0:=by simpa[Value.cells] using e0
 subst e
 have b:=bounds_u8 w0
 refine⟨n.toNat,by omega,?_⟩
 show _=Value.int .u8 ((n.toNat:Nat):Int)
 rw[Int.toNat_of_nonneg b.1]
end Go.Proofs.YtdjfjpeoddmamaaGreatDoor
namespace Go.Proofs.YtdjfjpeoddmamaaGreatDoor
open Go
def mkF(P:Program)(fn:Func)(c:OpenClaim):Bool:=(P.make==some c.make) && (c.kinds==(if c.domain.isEmpty then [] else fn.params.toList.map fun t=>match P.underlying t with|some (.int k)=>some k|_=>none)) && (c.pinned==c.pinnedBy)
section
variable {P:Program}{f:FuncId}{fn:Func}{s:ChangeSpec}{c:OpenClaim}
theorem ox_ (h1:c.wf (OpenSpec.ofChange s)=true) (h2:laidOutB P=true) (h3:mapsRowed P=true)
    (h4:fn.params.all (P.readableRec ·)=true) (h5:namedTie P c.named s.vars=true)
    (h6:((c.stops==[]) && (P.stops==[]) && (c.knobs==[]) && (P.stopKnobs==[]))=true)
    (h7:(c.inPlace==P.inPlace f)=true) (h8:(c.unfollowed==P.unfollowed f)=true) (h9:(c.recurses==P.recurses f)=true) (h10:(c.named==P.varsNamed f)=true)
    (h11:((c.maps==(fn.params.toList++s.plain.varTypes P).any (P.mapsRec ·)) && (c.ifaces==(fn.params.toList++s.plain.varTypes P).any (P.ifacesRec ·)) && (c.mapsOut==P.mapsAmong fn.resultTypes.toList))=true)
    (h12:((c.loops==(fn.params.toList++s.plain.varTypes P).any (P.loopsFrom ·)) && (c.wideKeys==(fn.params.toList++s.plain.varTypes P++fn.resultTypes.toList).any (P.wideKeysFrom ·)))=true)
    (h13:(s.vars.all (P.varReadable ·) && fn.resultTypes.all (fun t=>P.readableRec t && decide (t< P.types.size)) && (c.ifacesOut==fn.resultTypes.toList.any (P.ifacesRec ·)) && (c.loopsOut==fn.resultTypes.toList.any (P.loopsFrom ·)) && (c.plainKeys==P.plainKeys) && c.shortTexts.isNone)=true)
    (h14:P.stopsHeard=true) (h15:P.mayEnter=true) (h16:(c.lifted==P.liftsFinal)=true)
    (h17:mkF P fn c=true)
    (h18:((c.veiled==(fn.params.toList++s.plain.varTypes P++fn.resultTypes.toList).any (P.veiledRec ·)) && c.veiledFits P fn.params.toList (fn.params.toList++s.plain.varTypes P++fn.resultTypes.toList))=true):
    joinedFacts P f fn s c=true:=by
 unfold mkF at h17
 simp only[Bool.and_eq_true] at h6 h11 h12 h13 h17 h18
 simp only[joinedFacts,Bool.and_eq_true]
 and_intros
 all_goals first|assumption|exact h6.1.1.1|exact h6.1.1.2|exact h6.1.2|exact h6.2|exact h11.1.1|exact h11.1.2|exact h11.2|exact h12.1|exact h12.2|exact h13.1.1.1.1.1|exact h13.1.1.1.1.2|exact h13.1.1.1.2|exact h13.1.1.2|exact h13.1.2|exact h13.2|exact h17.1.1|exact h17.1.2|exact h17.2|exact h18.1|exact h18.2
end
theorem k2_:laidOutB Tryz.prog=true:=by kernel_rfl
theorem all_mr:mapsRowed Tryz.prog=true:=by kernel_rfl
theorem all_sh:Tryz.prog.stopsHeard=true:=by kernel_rfl
theorem all_me:Tryz.prog.mayEnter=true:=by kernel_rfl
theorem all_lk:false=Tryz.prog.looks []:=by kernel_rfl
theorem all_mi:Tryz.prog.mainIs=some (true,("854b0172178e1658f68fdbd1af1c5e470e78f85c99764663bd0791e63856cf6f" :String).toList):=by kernel_rfl
theorem all_lf:Tryz.prog.liftsFinal=Rows.polyMembersRow.lifted:=by kernel_rfl
theorem jP_:Rows.ruleMovesRow.wf (OpenSpec.ofChange Rows.ruleMovesSpec)=true:=by kernel_rfl
theorem jV_:Tryz.f3.params.all (Tryz.prog.readableRec ·)=true:=by kernel_rfl
theorem jX_:namedTie Tryz.prog Rows.ruleMovesRow.named Rows.ruleMovesSpec.vars=true:=by kernel_rfl
theorem jU_:((Rows.ruleMovesRow.stops==[]) && (Tryz.prog.stops==[]) && (Rows.ruleMovesRow.knobs==[]) && (Tryz.prog.stopKnobs==[]))=true:=by kernel_rfl
theorem j3_:(Rows.ruleMovesRow.inPlace==Tryz.prog.inPlace 3)=true:=by kernel_rfl
theorem jT_:(Rows.ruleMovesRow.unfollowed==Tryz.prog.unfollowed 3)=true:=by kernel_rfl
theorem jW_:(Rows.ruleMovesRow.recurses==Tryz.prog.recurses 3)=true:=by kernel_rfl
theorem jR_:(Rows.ruleMovesRow.named==Tryz.prog.varsNamed 3)=true:=by kernel_rfl
theorem jY_:((Rows.ruleMovesRow.maps==(Tryz.f3.params.toList++Rows.ruleMovesSpec.plain.varTypes Tryz.prog).any (Tryz.prog.mapsRec ·)) && (Rows.ruleMovesRow.ifaces==(Tryz.f3.params.toList++Rows.ruleMovesSpec.plain.varTypes Tryz.prog).any (Tryz.prog.ifacesRec ·)) && (Rows.ruleMovesRow.mapsOut==Tryz.prog.mapsAmong Tryz.f3.resultTypes.toList))=true:=by kernel_rfl
theorem j0_:((Rows.ruleMovesRow.loops==(Tryz.f3.params.toList++Rows.ruleMovesSpec.plain.varTypes Tryz.prog).any (Tryz.prog.loopsFrom ·)) && (Rows.ruleMovesRow.wideKeys==(Tryz.f3.params.toList++Rows.ruleMovesSpec.plain.varTypes Tryz.prog++Tryz.f3.resultTypes.toList).any (Tryz.prog.wideKeysFrom ·)))=true:=by kernel_rfl
theorem jQ_:(Rows.ruleMovesSpec.vars.all (Tryz.prog.varReadable ·) && Tryz.f3.resultTypes.all (fun t=>Tryz.prog.readableRec t && decide (t< Tryz.prog.types.size)) && (Rows.ruleMovesRow.ifacesOut==Tryz.f3.resultTypes.toList.any (Tryz.prog.ifacesRec ·)) && (Rows.ruleMovesRow.loopsOut==Tryz.f3.resultTypes.toList.any (Tryz.prog.loopsFrom ·)) && (Rows.ruleMovesRow.plainKeys==Tryz.prog.plainKeys) && Rows.ruleMovesRow.shortTexts.isNone)=true:=by kernel_rfl
theorem jS_:((Rows.ruleMovesRow.veiled==(Tryz.f3.params.toList++Rows.ruleMovesSpec.plain.varTypes Tryz.prog++Tryz.f3.resultTypes.toList).any (Tryz.prog.veiledRec ·)) && Rows.ruleMovesRow.veiledFits Tryz.prog Tryz.f3.params.toList (Tryz.f3.params.toList++Rows.ruleMovesSpec.plain.varTypes Tryz.prog++Tryz.f3.resultTypes.toList))=true:=by kernel_rfl
theorem jN_:Rows.ruleMovesRow.wfByText (OpenSpec.ofChange Rows.ruleMovesSpec)=true:=by kernel_rfl
theorem j4_:false=Rows.ruleMovesRow.goesBy Tryz.prog:=by kernel_rfl
theorem ruleMoves_fn:Tryz.prog.funcNamed Rows.ruleMovesRow.func=some 3:=by kernel_rfl
theorem j2_:decide (Tryz.f3.isInstance Tryz.prog Rows.ruleMovesRow.origin Rows.ruleMovesRow.targs)=true:=by kernel_rfl
theorem jO_:(Tryz.f3.params.toList.all fun u=>!Tryz.prog.wantsStandIn u)=true:=by kernel_rfl
theorem jZ_:mkF Tryz.prog Tryz.f3 Rows.ruleMovesRow=true:=by kernel_rfl
theorem j1_:(Rows.ruleMovesRow.lifted==Tryz.prog.liftsFinal)=true:=by rw[all_lf];kernel_rfl
theorem gC_:joinedFacts Tryz.prog 3 Tryz.f3 Rows.ruleMovesSpec Rows.ruleMovesRow=true:=
 ox_ jP_ k2_ all_mr jV_ jX_ jU_ j3_ jT_ jW_ jR_ jY_ j0_ jQ_ all_sh all_me j1_ jZ_ jS_
theorem h4_:Tryz.f3.isWrapper Tryz.prog Rows.ruleMovesRow.wrapper Rows.ruleMovesRow.mainSum:=by
 unfold Func.isWrapper;first|(rw[if_pos (by decide+kernel)];kernel_rfl)|(rw[if_neg (by decide+kernel)];exact⟨rfl,rfl⟩)
end Go.Proofs.YtdjfjpeoddmamaaGreatDoor
namespace Go.Proofs.YtdjfjpeoddmamaaGreatDoor
open Go.Abs Go.RowKit
theorem tab_glob:(Tryz.prog).globalNamed "internal/strconv.uint64pow10" =some GT:=by kernel_rfl
theorem tab_of{n1 n2:String}{a b:DataW Unit}{W:World}(h:laidMet Tryz.prog [(n1,a),(n2,b),("internal/strconv.uint64pow10",Lib.tabData .u64 Lib.pow10Tab)] W):TabW W:=by
 obtain⟨ps,⟨g1,t1,c1,u1,p1,q1,_,_,_,_,⟨g2,t2,c2,u2,p2,q2,_,_,_,_,⟨g,t,cs,fuel,p,q,hg,ht,hv,hd,_,_⟩,_⟩,_⟩,_,_⟩:=h
 obtain rfl:=Option.some.inj (tab_glob.symm.trans hg)
 have hT:((Tryz.prog).globals[GT]?).map (·.type)=some 351:=by kernel_rfl
 have hu:(Tryz.prog).underlying 351=some (.array 20 235):=by kernel_rfl
 have he:(Tryz.prog).underlying 235=some (.int .u64):=by kernel_rfl
 have hce:(Tryz.prog).cellsOf 235=1:=by kernel_rfl
 have hct:(Tryz.prog).cellsOf 351=20:=by kernel_rfl
 obtain rfl:=Option.some.inj (hT.symm.trans ht)
 have hc:=Lib.cells_of_tab (zs:=Lib.pow10Tab) hu he hce hct hd
 unfold World.var? at hv
 rw[tab_glob] at hv
 have hv':(match W.heap[GT]? with|some (.cells cs _ _)=>some cs|_=>none)=some cs:=hv
 cases hh:W.heap[GT]? with
 |none=>rw[hh] at hv';cases hv'
 |some o=>
  rw[hh] at hv'
  cases o with
  |cells a b c=>
   obtain rfl:a=cs:=Option.some.inj hv'
   refine⟨b,c,?_⟩
   rw[hh]
   have:a=tabA:=by
    unfold tabA
    rw[←hc]
   rw[this]
  |_=>cases hv'
end Go.Proofs.YtdjfjpeoddmamaaGreatDoor
namespace Go.Proofs.YtdjfjpeoddmamaaGreatDoor
open Go.Abs Go.ChangeAt Go.ChangeShapes Go.RowKit Go.WideShapes
theorem own:ownKnob Tryz.prog.godebug=none:=by kernel_rfl
theorem und4:Tryz.prog.underlying 4=some .bool:=by kernel_rfl
abbrev laid3:List (String×DataW Unit):=Rows.ruleMovesRow.laid
theorem door_met(os:Os)(args:Array Value):laidMetH Tryz.prog laid3 ((World.doorLaid Tryz.prog 24 os).forCall (fun _ _=>0) ⟨#[],args,[]⟩).memory:=
 laidMetH_of_parts3 (fuel:=8) (laidMet_of_run' 8 (by kernel_rfl) (by kernel_rfl)) (by kernel_rfl) (by kernel_rfl)
set_option maxRecDepth 100000 in
theorem gB_(os:Os)(started:os.Started)(H:Type)(enc:TypeId×Value→H):
    ReturnsInHanded {} Tryz.checked os 3 .any (fun w args=>(Rows.ruleMovesSpec.pre enc Tryz.prog Tryz.f3 [] false w args∧laidMetH Tryz.prog laid3 w)∧sizedMet enc Tryz.prog Tryz.f3 (OpenSpec.ofChange Rows.ruleMovesSpec) false w args)
     (Rows.ruleMovesSpec.post enc Tryz.prog Tryz.f3 false true false false):=by
 refine returnsInHanded_of_change_and (C:=Tryz.checked) (X:=fun w _=>laidMetH Tryz.prog laid3 w) (fun _ _ _ hh h=>h.of_heap hh) own started (by kernel_rfl) Tryz.func3
  (ChangeSpec.witness_shaped (enc:=enc) (C:=Tryz.checked) (os:=os) (X:=fun w _=>laidMetH Tryz.prog laid3 w) false (World.doorLaid Tryz.prog 24 os) #[(.agg #[.int .i64 0,.int .i64 0,.int .u8 0,.int .i64 0,.int .i64 0,.int .u8 0]),(.agg #[.int .i64 0,.int .i64 0,.int .u8 0,.int .i64 0,.int .i64 0,.int .u8 0]),(.int .u8 0),.slice none 0 0] 8 rfl (World.shaped_of_RefB (by kernel_rfl) (by kernel_rfl)) (by kernel_rfl) (by kernel_rfl) (by kernel_rfl) (door_met os _)) ?_
 intro W base args ds gs before hval0 hW _ _ hX _
 have hval:∀(j:Nat) t v,Tryz.f3.params[j]?=some t→args[j]?=some v→Value.okWide Tryz.prog W .any base t v:=hval0
 have hW':=hW
 obtain⟨p,q,hA0,hV,rfl,hfz,hnd⟩:=hW
 have hA:DataW.TrodAll enc Tryz.prog W 0 (fun _=>true) true Tryz.f3.params.toList args.toList ds p:=hA0
 rw[Tryz.params3] at hA hval
 obtain⟨v0,vs0,d0,ds0,p0,q0,hargs,rfl,rfl,h0,r0⟩:=trodAll_cons hA
 obtain⟨v1,vs1,d1,ds1,p1,q1,rfl,rfl,rfl,h1,r1⟩:=trodAll_cons r0
 obtain⟨v2,vs2,d2,ds2,p2,q2,rfl,rfl,rfl,h2,r2⟩:=trodAll_cons r1
 obtain⟨v3,vs3,d3,ds3,p3,q3,rfl,rfl,rfl,h3,r3⟩:=trodAll_cons r2
 obtain⟨rfl,rfl,rfl⟩:=trodAll_nil r3
 obtain rfl:args= #[v0,v1,v2,v3]:=by cases args;simp_all
 obtain⟨rfl,rfl⟩:=trodVars_none hV
 obtain⟨a3,len3,cap3,rfl⟩:=okWide_slice tyS (hval 3 26 v3 rfl rfl)
 have lt0:∀x∈p0,x.block< W.heap.size:=by obtain⟨m,hm⟩:=h0;exact DataW.trod_lt m _ _ _ hm
 have lt1:∀x∈p1,x.block< W.heap.size:=by obtain⟨m,hm⟩:=h1;exact DataW.trod_lt m _ _ _ hm
 have lt2:∀x∈p2,x.block< W.heap.size:=by obtain⟨m,hm⟩:=h2;exact DataW.trod_lt m _ _ _ hm
 have lt3:∀x∈p3,x.block< W.heap.size:=by obtain⟨m,hm⟩:=h3;exact DataW.trod_lt m _ _ _ hm
 obtain⟨l0,o0,g0⟩:=oF_ (hval 0 25 v0 rfl rfl) h0
 obtain⟨l1,o1,g1⟩:=oF_ (hval 1 25 v1 rfl rfl) h1
 obtain⟨l2,o2,g2⟩:=u8P_of (hval 2 5 v2 rfl rfl) h2
 obtain⟨l3,o3,g3⟩:=rows_of h3
 clear hA0 hval0
 refine((kp_ l0 l1 l2 l3 o0 o1 o2 o3).calls (fun _=>False) W [v0,v1,v2,.slice a3 len3 cap3] ⟨fun _ h=>h.elim,fun h=>h,tab_of (by rw[MakeChecks.laidMetH_plain _ _ _ (by kernel_rfl)] at hX;exact hX)⟩ ⟨_,_,rfl,g0,⟨_,_,rfl,g1,⟨_,_,rfl,g2,⟨_,_,rfl,g3,rfl⟩⟩⟩⟩).mono fun e W' ⟨y,he,hy,bel⟩=>?_
 have hy':y= .bool true:=hy
 subst he;subst hy'
 exact⟨_,rfl,_,_,_,[],_,[],hW',trodAll_mk1 (shut_bool und4 _),(trodAll_cons_mk (Below.trod k2_ (by kernel_rfl) (of_decide_eq_true (by kernel_rfl)) h0 bel lt0) (trodAll_cons_mk (Below.trod k2_ (by kernel_rfl) (of_decide_eq_true (by kernel_rfl)) h1 bel lt1) (trodAll_cons_mk (Below.trod k2_ (by kernel_rfl) (of_decide_eq_true (by kernel_rfl)) h2 bel lt2) (trodAll_cons_mk (Below.trod k2_ (by kernel_rfl) (of_decide_eq_true (by kernel_rfl)) h3 bel lt3) trodAll_mk0)))),rfl,bel.frame _,fun h=>by cases h⟩
theorem iL_:Rows.RuleMovesSaid:=
 OpenClaim.holds_of_wide 3 Tryz.f3 rfl rfl rfl rfl rfl rfl rfl ⟨rfl,rfl,rfl,rfl,rfl⟩ rfl rfl rfl rfl rfl ruleMoves_fn Tryz.func3 gC_
  (of_decide_eq_true j2_) h4_
  (fun os started H enc _=>gB_ os started H enc)
theorem ruleMoves_card:Rows.RuleMovesCardSaid:=
 Claim7.holds_tied_plain_at .later [] [.data,.data,.data] true (true, "854b0172178e1658f68fdbd1af1c5e470e78f85c99764663bd0791e63856cf6f") false
  iL_ (fun _ h=>by cases h) jN_ (fun _ h=>by cases h) ruleMoves_row_tie rfl ⟨rfl,rfl⟩ all_mi rfl
  (fun f fn hf hfn=>by
   obtain rfl:f=3:=Option.some.inj (ruleMoves_fn.symm.trans hf)|>.symm
   obtain rfl:fn=Tryz.f3:=(Option.some.inj (Tryz.func3.symm.trans hfn)).symm
   exact⟨all_lk,fun j t ht=>by
    have hm:t∈Tryz.f3.params.toList:=by simpa using Array.mem_of_getElem? ht
    exact(show Tryz.prog.wantsStandIn t=false by simpa using List.all_eq_true.1 jO_ t hm)⟩)
  j4_
#print axioms ruleMoves_card
end Go.Proofs.YtdjfjpeoddmamaaGreatDoor
