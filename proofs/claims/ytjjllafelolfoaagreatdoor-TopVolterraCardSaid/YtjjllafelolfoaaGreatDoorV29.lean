/- Part V29 of the proof. -/
import Derived.Test.YtjjllafelolfoaaGreatDoorV28
import Derived.ProofKit
import Derived.OpenShut
import Derived.Carry
import Derived.Deep.Slices
import Derived.Deep.Strs
set_option linter.all false
namespace Go.Proofs.YtjjllafelolfoaaGreatDoor
open Go.Abs
set_option maxRecDepth 100000
set_option maxHeartbeats 4000000
theorem nC_(f:Nat)(p:List Rat)(b:Bool)(hf:f≤1000000)(h:realM f p=some b):FS 200 [.arr (pE p)] (bln b):=by
 unfold realM at h;cases hc:b9_ f p with
 |none=>rw[hc] at h;cases h
 |some c=>
  rw[hc,Option.bind_some] at h;split at h
  ·rename_i ho
   cases h;obtain⟨o1,o2,o3,o4,o5,o6,o7⟩:=ho;have hb1:=gA_ p;refine fs_real1 p _ (by omega) ⟨o6,o7⟩ o4 (fs_Count f p c (-a1_ p,a1_ p) hc hf o1 o2 o3 ?_ ?_ (by omega));show cmpQ (-a1_ p) (a1_ p)≤0;unfold cmpQ;rw[if_pos (by grind)];decide;unfold ih_;rw[if_neg (by omega),if_neg (by omega)]
  cases h
theorem fs_onM(f:Nat)(p m w:List Rat)(l r:Bool)(a b:Rat)(h:onM f p m=some w):FS 201 [.agg (wC m l r (qC a) (qC b)),.arr (pE p)] (.agg (ruC p w)):=by
 unfold onM at h;cases hz:bzL f (ao_ p) p (a0_ ((1:Int):Rat)) [] with
 |none=>rw[hz] at h;cases h
 |some x=>
  rw[hz,Option.bind_some] at h;split at h
  ·rename_i ho
   cases h;obtain⟨o1,o2,o3,o4,o5,o6,o7,o8,o9⟩:=ho;have hp0:trimQ p≠[]:=by rw[o4];intro e;rw[e] at o5;simp at o5
   have hde:=dS_ p o9 (by omega);have hbz:=q3_ f (ao_ p) p x.1 x.2 hp0 (by omega) hz o1;exact fs_on p m l r a b (p.length- 1) (mxL p) (mxL m) _ _ _ (by omega) o4 (by omega) (bB_ p) (bB_ m) (br_ p) (br_ m) (by omega) (by rw[show p.length- 1+2=p.length+1 by omega];exact o8) hde hbz o2 o3
  cases h
theorem fs_apM(p w f:List Rat)(h:okAp p w f):FS 204 [.agg (ruC p w),.arr (pE f)] (.agg (qC (apV p w f))):=by
 obtain⟨o1,o2,o3,o4,o5,o6,o7,o8,o9,o10⟩:=h;have hl:(trimQ p).length=dg p+1:=by unfold dg at o4⊢;omega
 have hp0:trimQ p≠[]:=by intro e;rw[e] at hl;simp at hl
 have hsu:=fs_sums p w (dg p) hl o4 o5 (by omega) o7;exact fs_apply p w f (suP p) (mxL (apR p w f)) (mxL (suP p)) hsu hp0 o1 o2 o3 (bB_ _) (bB_ _) (br_ _) (br_ _) (by omega) (by unfold suP;rw[ej_];omega) o9
theorem t7_0:textQ (mkRat 1 2)=[49,47,50]∧okT (mkRat 1 2):=by decide+kernel
theorem sm_01:sm 0∧sm 1∧(0:Rat)< 1:=by decide+kernel
theorem m7_len:m7.length=2:=by rw[w_m7];rfl
theorem fs_unit7:FS 85 [] (.agg (spC 0 1)):=by
 have n2:=cq_ 1 (by decide);rw[show((1:Int):Rat)=1 by decide] at n2;rw[show spC 0 1=[.arr [],bln false,.arr []]++qC 1 from by unfold spC;rw[qC0]];refine f_c Tryz.func85 ?_;refine r_z 1 ?_;refine r_c 3 (n2) ?_;refine a_z ?_;refine ad_ (⟨.inr rfl,[_],⟨_,[],rfl,⟨_,_,_,_,_,rfl,rfl,rfl,.inl ⟨TG.h,_,TS.h,nle rfl,rfl⟩⟩,rfl⟩,?_⟩);exact Cv.agg (ah_ (Cv.emp _) (ah_ (au_ av_ (af_ _)) (ah_ (Cv.emp _) (CvL.clo av_ (aN_ 1)))))
theorem fs_w7Jac:FS 81 [.agg (spC 0 1),i64 0,i64 0,i64 1] (.tup [.agg (wC m7 true true (qC 0) (qC 1)),i64 0]):=
 mD_ 0 1 1 (by omega) sm_01.2.2 (by decide) (by decide) fun k hk=>w_ok.2 k (by omega)
theorem oA_:FS 86 [.agg (wC m7 true true (qC 0) (qC 1)),i64 1] (.tup [.agg (ruC p7 [1]),i64 0]):=by
 obtain⟨c1,c2,c3,c4,c5,c6⟩:=w_g;have:=fs_Gauss m7 true true 0 1 1 [1] (by omega) (fun j hj=>w_ok.1 j hj) (by rw[m7_len];omega) (fun _ _=>sm_01.2.2) sm_01.1 sm_01.2.1 (by rw[c1];exact nC_ 9 p7 true (by omega) c2) (by rw[c1];exact bdL_mono' c5 (by omega)) (by rw[c1];exact c6) (by rw[c1];decide) (by rw[c1,c4];exact fs_onM 9 p7 m7 [1] _ _ _ _ c3);rw[c1,c4] at this;exact this
theorem oB_:FS 87 [.agg (ruC p7 [1]),.arr [zC,qC ((1:Int):Rat)]] (.tup [.agg (qC (mkRat 1 2)),i64 0]):=by
 have hck:=lB_ p7 [1] (nC_ 9 p7 true (by omega) w_g.2.1) (by decide+kernel) (by decide+kernel) (by decide) (by decide);have hap:=fs_apM p7 [1] [0,((1:Int):Rat)] w_a.1;rw[w_a.2] at hap;have:=fs_Apply p7 [1] [0,((1:Int):Rat)] _ hck hap
 exact this.weak (.cons (Le.refl _) (.cons (Le.arr (.cons le_zC (.cons (LeL.refl _) .nil))) .nil)) (aa_ (aB_ (cV_ _ _)) (aa_ (aL_ fun e he c hc=>by
  rcases List.mem_cons.1 he with rfl|he
  exact dY_ c hc;rw[List.mem_singleton.1 he] at hc;exact aN_ _ c hc) ac_))
theorem fa_:FS 15 [] (.v (.bool true)):=by
 have hj:=fs_w7Jac;have hg:=oA_;have ha:=oB_;have n2:=cq_ 1 (by decide);have q0:=fs_QText (mkRat 1 2) t7_0.2;rw[t7_0.1] at q0;refine f_c Tryz.func15 ?_;refine r_z 1 ?_;refine r_c 8 (fs_unit7) ?_;refine c_s (hj) ?_;refine a_z ?_;refine r_c 8 (hg) ?_;refine a_z ?_;refine ab_ (r_d hmix 11 ?_);refine c_s (n2) ?_;refine a_1 ?_;refine o_1 (.callS1 rfl rfl rfl (.keep (.shut rfl d_n (.nil))) rfl (ha)) ?_;refine a_6 ?_;refine ak_ (n_k ?_);refine s_r 16 ?_;refine a_1 ?_;refine o_0 (.bin rfl rfl (vT bF_ (rfl))) ?_;refine d_2 ?_;refine de_ rfl rfl rfl (.bin rfl rfl (vT bF_ (rfl))) rfl rfl ?_;refine d_3 ?_;refine de_ rfl rfl rfl (.bin rfl rfl (vT bF_ (rfl))) rfl rfl ?_;refine c_s (q0) ?_;refine de_ rfl rfl rfl (.bin rfl rfl (vT binS_eqT rfl)) rfl rfl ?_;refine a_z ?_;exact ad_ (t_e (af_ _))
theorem qy_(n:Int)(h: -9223372036854775808≤n∧n≤9223372036854775807):FS 116 [i64 n] (.agg (qC (n:Rat))):=by
 refine f_c Tryz.func116 ?_;refine r_z 1 ?_;refine r_c 3 (cq_ n h) ?_;refine a_z ?_;exact ad_ (c_e (az_ _))
theorem fs_sover(a b:Rat)(hb:b≠0)(h:qs a+qs b≤549755813888):FS 117 [.agg (qC a),.agg (qC b)] (.agg (qC (a/ b))):=by
 refine f_c Tryz.func117 ?_;refine r_z 3 ?_;refine r_c 9 (ls_ a b hb h) ?_;refine a_z ?_;refine r_z 2 ?_;exact ad_ (c_e (az_ _))
abbrev jtC(x:Rat)(v:List Rat):List AV:=qC x++[.arr (pE v)]
theorem gU_(x:Rat)(v:List Rat):∀c∈jtC x v,Closed c:=dH_ (aN_ x) (aa_ (ap_ v) ac_)
theorem oV_(x:Rat)(v:List Rat):Closed (.arr [jtC x v]):=aL_ fun e he=>by rw[List.mem_singleton.1 he];exact gU_ x v
theorem oL_(g:Nat)(cap:List AV)(hcap:∀c∈cap,Closed c):FS 233 [.arr [],.clos g [] cap] (i64 (-1)):=by
 have hcc:Closed (.clos g [] cap):=aG_ ac_ hcap;have h0:Closed (.arr []):=aL_ fun e he=>by cases he
 refine f_c Tryz.func233 ?_;refine r_z 1 ?_;refine ab_ (r_z 3 ?_);refine ay_ (fun _:Unit=>⟨[],[],1,19⟩) (fun _=>True) ?_ ?_;refine ae_ (as_ (fun _:Unit=>⟨[(7,i64 0),(8,i64 0)],[],1,19⟩) (fun _=>0) (fun _=>True) () trivial ?_ ?_);exact s_e [];rintro _ _;refine s_r 1 ?_;refine o_0 (.bin rfl rfl (vF cF_ (rfl))) ?_;refine ak_ ?_;refine ab_ (cF (ar_ ⟨(),trivial,?_⟩));exact s_e [];rintro _ _;refine r_z 1 ?_;exact ad_ (t_e (af_ _))
theorem kq_(g:Nat)(cap:List AV)(hcap:∀c∈cap,Closed c)(hcap2:cap.map coe=cap):FS 114 [.arr [],.clos g [] cap] (bln false):=by
 have hcc:Closed (.clos g [] cap):=aG_ ac_ hcap;have h0:Closed (.arr []):=aL_ fun e he=>by cases he
 have hi:=oL_ g cap hcap;refine f_c Tryz.func114 ?_;refine r_z 1 ?_;refine r_c 5 (hi) ?_;refine a_z ?_;exact ad_ (t_e (af_ _))
structure OkHe (v:List Rat)(a:Rat)(r:Nat):Prop where
 d1:∀j,j< r→smL (dIt (heT v a r).1 j)∧(dIt (heT v a r).1 j).length≤1099511627776
 d2:∀j,j< r→smL (dIt (heT v a r).2 j)∧(dIt (heT v a r).2 j).length≤1099511627776
 e1:b2_ (dIt (heT v a r).1 r) a
 e2:b2_ (dIt (heT v a r).2 r) a
 nz:evalP (dIt (heT v a r).2 r) a≠0
 q1:qs (coP v r)+qs (evalP (dIt (heT v a r).1 r) a)≤549755813888
 q2:qs (coP v r- evalP (dIt (heT v a r).1 r) a)+qs (evalP (dIt (heT v a r).2 r) a)≤137438953472
 so:smL (heT v a r).1
 lo:(heT v a r).1.length≤1099511627776
 sz:smL (heT v a r).2
 lz:(heT v a r).2.length≤1099511627776
 ss:smL (aw_ (heT v a r).2 ((coP v r- evalP (dIt (heT v a r).1 r) a) / evalP (dIt (heT v a r).2 r) a))
 mz:okMul (heT v a r).2 [-a,((1:Int):Rat)]
def heS(x:Rat)(v:List Rat):Nat→AState
 |r=>⟨[(9,.arr (pE (heT v x r).1)),(10,.arr (pE (heT v x r).2)),(12,.lptr 1 0 0),(56,.arr [jtC x v]),(57,i64 1),(58,i64 0),(63,.arr (pE v)),(64,i64 v.length),(65,i64 r)],[(1,some ⟨68,4,[jtC x v]⟩)],2,105⟩
def hjS(x:Rat)(v:List Rat)(r:Nat):Nat→AState
 |j=>⟨[(9,.arr (pE (heT v x r).1)),(10,.arr (pE (heT v x r).2)),(12,.lptr 1 0 0),(14,.lptr 2 0 0),(15,.arr (pE (dIt (heT v x r).1 j))),(16,.arr (pE (dIt (heT v x r).2 j))),(56,.arr [jtC x v]),(57,i64 1),(58,i64 0),(63,.arr (pE v)),(64,i64 v.length),(65,i64 r),(72,i64 r),(73,i64 j)],[(1,some ⟨68,4,[jtC x v]⟩),(2,some ⟨39,3,[qC (coP v r)]⟩)],3,105⟩
theorem oM_(x:Rat)(v:List Rat)(hv:1≤v.length∧v.length≤6)(hok:∀r,r< v.length→OkHe v x r):FS 30 [.arr [jtC x v]] (.tup [.arr (pE (heT v x v.length).1),i64 0]):=by
 have hcj:=gU_ x v;have hca:=oV_ x v;have hpl:(pE v).length=v.length:=by simp[pE]
 have w1:=qy_ 1 (by decide);have hj0:=kq_ 115 [.aptr [jtC x v] 0 0] (aa_ (bg_ hcj) ac_) rfl;have hg0:([jtC x v]:List (List AV))[((0:Int)).toNat]?=some (jtC x v):=rfl;refine f_c Tryz.func30 ?_;refine r_z 2 ?_;refine r_z 1 ?_;refine ab_ (r_z 3 ?_);refine ay_ (fun _:Unit=>⟨[(0,.arr [jtC x v]),(4,i64 v.length)],[],1,105⟩) (fun _=>True) ?_ ?_;refine ae_ (as_ (fun i:Nat=>⟨[(0,.arr [jtC x v]),(4,i64 ((i* v.length:Nat):Int)),(17,.arr [jtC x v]),(18,i64 1),(19,i64 i)],[],1,105⟩) (fun i=>1- i) (fun i=>i≤1) 0 (Nat.zero_le _) ?_ ?_);exact s_x [] (fun hs=>e_15) (fun hs=>e_16);intro i hi;by_cases h1:i=0;subst h1;refine s_r 1 ?_;refine o_0 (.bin rfl rfl (vT cF_ (rfl))) ?_;refine ak_ ?_;refine ab_ (cT (ag_ (ab_ (ae_ (s_r 4 ?_)))));refine i_x hg0 ?_;refine l_x hg0 ?_;refine a_z ?_;refine ab_ (q_z 10 ?_);refine cF (ag_ (r_m 6 ?_));refine a_z ?_;refine r_m 2 ?_;refine a_z ?_;refine⟨1,by omega,by omega,?_⟩;exact s_x [] (fun hs=>e_15) (fun hs=>e_16);have h2:i=1:=by omega
 subst h2;refine s_r 1 ?_;refine o_0 (.bin rfl rfl (vF cF_ (rfl))) ?_;refine ak_ ?_;refine ab_ (cF (ar_ ⟨(),trivial,?_⟩));exact s_x [] (fun hs=>e_15) (fun hs=>e_16);rintro _ _;refine ab_ (q_z 2 ?_);refine cF (ag_ (ab_ (r_z 3 ?_)));refine ay_ (fun _:Unit=>⟨[(0,.arr [jtC x v])],[],1,105⟩) (fun _=>True) ?_ ?_;refine ae_ (as_ (fun i:Nat=>⟨[(0,.arr [jtC x v]),(41,.arr [jtC x v]),(42,i64 1),(43,i64 i)],[],1,105⟩) (fun i=>1- i) (fun i=>i≤1) 0 (Nat.zero_le _) ?_ ?_);exact s_f [];intro i hi;by_cases h1:i=0;subst h1;refine s_r 1 ?_;refine o_0 (.bin rfl rfl (vT cF_ (rfl))) ?_;refine ak_ ?_;refine ab_ (cT (ag_ (ab_ (ae_ (s_r 6 ?_)))));refine a_1 ?_;refine i_x hg0 ?_;refine l_x hg0 ?_;refine a_z ?_;refine AWp.ent (st':=⟨[(0,.arr [jtC x v]),(7,i64 0),(8,.aptr [jtC x v] 0 0),(41,.arr [jtC x v]),(42,i64 1),(43,i64 0)],[],1,105⟩) ?_ ?_;refine s_x [] (fun hs=>?_) (fun hs=>?_)
 ·repeat' (first|exact a9_|refine aV_ rfl ?_ ?_|exact au_ hs hca|exact Cv.boxp hs rfl (a7_ rfl) rfl hcj|exact au_c)
 ·repeat' (first|exact aC_|refine h_c ?_ ?_|exact au_e|refine aA_ ?_|exact aq_|refine ah_ ?_ ?_|exact au_ hs hca|exact Cv.boxp hs rfl (a7_ rfl) rfl hcj|exact au_c)
 refine s_r 5 ?_;refine a_2 ?_;refine o_0 (.sa_hE (h:=0) (es':=[]) rfl rfl rfl rfl (by simp) te_70.h (fun e he=>by rw[List.mem_singleton.1 he];rfl)) ?_;refine c_s (hj0) ?_;refine ak_ ?_;refine cF (ag_ (r_m 2 ?_));refine a_z ?_;refine⟨1,by omega,by omega,?_⟩;exact s_f [];have h2:i=1:=by omega
 subst h2;refine s_r 1 ?_;refine o_0 (.bin rfl rfl (vF cF_ (rfl))) ?_;refine ak_ ?_;refine ab_ (cF (ar_ ⟨(),trivial,?_⟩));exact s_f [];rintro _ _;refine r_c 4 (w1) ?_;refine a_z ?_;refine ab_ (r_z 3 ?_);refine ay_ (fun _:Unit=>⟨[(9,.arr (pE (heT v x v.length).1))],[],1,105⟩) (fun _=>True) ?_ ?_;refine ae_ (as_ (fun i:Nat=>⟨[(9,.arr (pE (heT v x (i* v.length)).1)),(10,.arr (pE (heT v x (i* v.length)).2)),(56,.arr [jtC x v]),(57,i64 1),(58,i64 i)],[],1,105⟩) (fun i=>1- i) (fun i=>i≤1) 0 (Nat.zero_le _) ?_ ?_);rw[Nat.zero_mul];refine s_x [] (fun hs=>?_) (fun hs=>?_)
 ·repeat' (first|exact a9_|refine aV_ rfl ?_ ?_|exact au_ hs hca|(refine Cv.shut hs rfl (a7_ rfl) (by simp) ?_;exact bt_ hs (aF_ [((1:Int):Rat)]))|exact au_c)
 ·repeat' (first|exact aC_|refine h_c ?_ ?_|exact au_e|refine aA_ ?_|exact aq_|refine ah_ ?_ ?_|exact au_ hs hca|(refine Cv.shut hs rfl (a7_ rfl) (by simp) ?_;exact bt_ hs (aF_ [((1:Int):Rat)]))|exact au_c)
 intro i hi;by_cases h1:i=0;subst h1;rw[Nat.zero_mul];refine s_r 1 ?_;refine o_0 (.bin rfl rfl (vT cF_ (rfl))) ?_;refine ak_ ?_;refine ab_ (cT (ag_ (ab_ (ae_ (s_r 4 ?_)))));refine i_x hg0 ?_;refine l_x hg0 ?_;refine a_z ?_;refine r_z 4 ?_;refine ae_ (as_ (heS x v) (fun r=>v.length- r) (fun r=>r≤v.length) 0 (Nat.zero_le _) ?_ ?_);rw[heS.eq_1];exact s_x [(1,12)] (fun hs=>e_3) (fun hs=>e_4);intro r hr;rw[heS.eq_1];by_cases hlt:r< v.length;have ok:=hok r hlt;have hgt:(pE v)[((r:Nat):Int).toNat]?=some (qC (coP v r)):=bG_ (bd_ hlt);refine q_z 1 ?_;refine ab_ (cT (ag_ (ab_ (ae_ (s_r 6 ?_)))));refine a_1 ?_;refine i_x hgt ?_;refine l_x hgt ?_;refine a_z ?_;refine r_z 4 ?_;refine ab_ (r_z 2 ?_);refine ay_ (fun _:Unit=>hjS x v r r) (fun _=>True) ?_ ?_;refine ae_ (as_ (hjS x v r) (fun j=>r- j) (fun j=>j≤r) 0 (Nat.zero_le _) ?_ ?_);rw[hjS.eq_1,dIt,dIt];exact s_x [(1,12),(2,14)] (fun hs=>e_3) (fun hs=>e_4);intro j hj;rw[hjS.eq_1];by_cases hjr:j< r;have g1:=dS_ _ (ok.d1 j hjr).1 (ok.d1 j hjr).2;have g2:=dS_ _ (ok.d2 j hjr).1 (ok.d2 j hjr).2;refine q_z 1 ?_;refine ab_ (cT (ag_ (ab_ (ae_ (r_m 6 ?_)))));refine c_s (g1) ?_;refine c_s (g2) ?_;refine a_z ?_;refine r_m 2 ?_;refine a_z ?_;refine⟨j+1,by omega,by omega,?_⟩;rw[hjS.eq_1,dIt,dIt];exact s_x [(1,12),(2,14)] (fun hs=>e_3) (fun hs=>e_4);have hge:j=r:=by omega
 subst hge;refine q_z 1 ?_;refine ab_ (cF (ar_ ⟨(),trivial,?_⟩));simp only[hjS.eq_1];exact s_x [(1,12),(2,14)] (fun hs=>e_3) (fun hs=>e_4);rintro _ _;rw[hjS.eq_1];have k1:=c5_ _ x ok.e1;have k2:=g4_ _ _ ok.q1;have k3:=c5_ _ x ok.e2;have k4:=fs_sover _ _ ok.nz (Nat.le_trans ok.q2 (by decide));have qd:=d6_ (coP v r- evalP (dIt (heT v x r).1 r) x) (evalP (dIt (heT v x r).2 r) x);have k5:=cL_ (heT v x r).2 _ ok.sz (show sm ((coP v r- evalP (dIt (heT v x r).1 r) x) / evalP (dIt (heT v x r).2 r) x) from by have:=ok.q2;unfold sm;omega) ok.lz;have k6:=lC_ (heT v x r).1 _ ok.so ok.ss ok.lo (Nat.le_trans (a3_ _ _) ok.lz);have k7:=iv_ (heT v x r).2 [-x,((1:Int):Rat)] ok.mz;refine ab_ (r_d hmix 16 ?_);refine c_s (k1) ?_;refine c_s (k2) ?_;refine c_s (k3) ?_;refine c_s (k4) ?_;refine c_s (k5) ?_;refine c_s (k6) ?_;refine a_1 ?_;refine ak_ (n_k ?_);refine r_m 8 ?_;refine c_s (eX_ x) ?_;refine c_s (w1) ?_;refine a_1 ?_;refine o_1 (.callS1 rfl rfl rfl (.keep (.shut rfl d_n (.nil))) rfl (k7)) ?_;refine a_z ?_;refine r_m 2 ?_;refine a_z ?_;refine⟨r+1,by omega,by omega,?_⟩;rw[heS.eq_1,heT_o,heT_z];exact s_x [(1,12)] (fun hs=>e_3) (fun hs=>e_4);have hge:r=v.length:=by omega
 subst hge;refine q_z 1 ?_;refine ab_ (cF (ar_ (r_m 2 ?_)));refine a_z ?_;refine⟨1,by omega,by omega,?_⟩;rw[Nat.one_mul];exact s_f [];have h2:i=1:=by omega
 subst h2;rw[Nat.one_mul];refine s_r 1 ?_;refine o_0 (.bin rfl rfl (vF cF_ (rfl))) ?_;refine ak_ ?_;refine ab_ (cF (ar_ ⟨(),trivial,?_⟩));exact s_e [];rintro _ _;refine r_z 3 ?_;refine ad_ (Fin.many ⟨_,_,rfl,rfl,⟨_,_,rfl,rfl,rfl⟩⟩ (nle rfl) ?_);exact ah_ (au_ av_ (ap_ _)) (ah_ (au_ av_ (af_ _)) aq_)

abbrev NRow:=Int×Int×Nat
def nV(r:NRow):Rat:=numV r.1 r.2.1 r.2.2
def nR(l:List NRow):List (List AV):=l.map fun r=>nuC r.1 r.2.1 r.2.2
def nL(l:List NRow):List Rat:=l.map nV
abbrev rL(l:List Rat):List (List AV):=rE (l.map rq)
def okR(l:List NRow):Prop:=∀r∈l,i64r r.1∧i64r r.2.1∧r.2.2≤255
theorem bQ_(l:List NRow):∀e∈nR l,∀c∈e,Closed c:=by
 intro e he c hc;obtain⟨r,_,rfl⟩:=List.mem_map.1 he;exact dk_ _ _ _ c hc
theorem fh_(l:List Rat):∀e∈rL l,∀c∈e,Closed c:=gy_ _
def liS(l:List NRow):List Rat→Nat→AState
 |[],i=>⟨[(0,.arr (nR l)),(4,.emp),(5,.emp),(6,i64 i)],[],1,33⟩
 |q::Q,i=>⟨[(0,.arr (nR l)),(4,.lsl 1 0 (Q.length+1) none 3),(5,.lsl 2 0 (Q.length+1) none 4),(6,i64 i)],[(1,some ⟨39,3,pE (q::Q)⟩),(2,some ⟨44,4,rL (q::Q)⟩)],3,33⟩
theorem if_(l:List NRow)(i:Nat):liS l [] i=⟨[(0,.arr (nR l)),(4,.emp),(5,.emp),(6,i64 i)],[],1,33⟩:=rfl
theorem ft_(l:List NRow)(q:Rat)(Q:List Rat)(i:Nat):liS l (q::Q) i=⟨[(0,.arr (nR l)),(4,.lsl 1 0 (Q.length+1) none 3),(5,.lsl 2 0 (Q.length+1) none 4),(6,i64 i)],[(1,some ⟨39,3,pE (q::Q)⟩),(2,some ⟨44,4,rL (q::Q)⟩)],3,33⟩:=rfl
theorem fs_List(l:List NRow)(hl:l.length≤1099511627776)(hb:okR l):FS 50 [.arr (nR l)] (.tup [.arr (pE (nL l)),.arr (rL (nL l))]):=by
 have hcr:∀q:Rat,∀e∈[rC (rq q)],∀c∈e,Closed c:=fun q=>fh_ [q];refine f_n Tryz.func50 ?_ ?_;exact aa_ (aL_ (bQ_ l)) ac_;refine r_z 2 ?_;refine r_z 1 ?_;refine r_z 1 ?_;refine ab_ (r_z 1 ?_);refine ay_ (fun _:Unit=>liS l (nL l) l.length) (fun _=>True) ?_ ?_;refine ae_ (as_ (fun i:Nat=>liS l (nL (l.take i)) i) (fun i=>l.length- i) (fun i=>i≤l.length) 0 (Nat.zero_le _) ?_ ?_);show SEnt _ (liS l [] 0);rw[if_];have:=(aL_ (bQ_ l));exact s_f [];rintro i hi;have hlen:(nR l).length=l.length:=by simp[nR]
 by_cases hlt:i< l.length
 ·obtain⟨n,hn⟩:∃n,l[i]?=some n:=⟨_,List.getElem?_eq_getElem hlt⟩
  have hgt:(nR l)[((i:Nat):Int).toNat]?=some (nuC n.1 n.2.1 n.2.2):=by
   show(nR l)[i]?=_;simp[nR,hn]
  obtain⟨hn1,hn2,hn3⟩:=hb n (List.mem_of_getElem? hn);have hbo:=hw_ n.1 n.2.1 n.2.2 hn1 hn2 hn3;obtain⟨v,hv⟩:∃v,v=numV n.1 n.2.1 n.2.2:=⟨_,rfl⟩;rw[←hv] at hbo;have htk:nL (l.take (i+1))=nL (l.take i)++[v]:=by rw[b5_ hn];simp[nL,nV,hv]
  have hQl:(nL (l.take i)).length=i:=by simp[nL];omega
  cases hQ:nL (l.take i) with
  |nil=>
   simp only[if_];refine ab_ (r_z 4 ?_);refine ai_ rfl (fun h=>?_) (fun h=>?_);rotate_left;exact absurd h (by simp[nR];omega);refine ag_ (ab_ (ae_ (s_r 12 ?_)));refine a_2 ?_;refine i_x hgt ?_;refine l_x hgt ?_;refine c_s (hbo) ?_;refine a_z ?_;refine r_d hmix 10 ?_;refine a_8 ?_;refine a_2 ?_;refine ak_ (n_k ?_);refine r_m 3 ?_;refine a_z ?_;refine⟨i+1,by omega,hlt,?_⟩;simp only[htk,hQ,List.nil_append,ft_];refine s_x [(1,4),(2,5)] (fun hs=>e_36) (fun hs=>?_)
   ·repeat' (first|exact aC_|refine h_c ?_ ?_|exact bt_ hs (aF_ [v])|exact bt_ hs (fh_ [v])|exact au_e|refine aA_ ?_|exact aq_|refine ah_ ?_ ?_|exact au_ hs (aL_ (bQ_ l))|exact au_c)
  |cons q Q=>
   rw[hQ] at hQl;simp at hQl;simp only[ft_];refine ab_ (r_z 4 ?_);refine ai_ rfl (fun h=>?_) (fun h=>?_);rotate_left;exact absurd h (by simp[nR];omega);refine ag_ (ab_ (ae_ (s_r 12 ?_)));refine a_2 ?_;refine i_x hgt ?_;refine l_x hgt ?_;refine c_s (hbo) ?_;refine a_z ?_;refine r_d hmix 10 ?_;refine a_8 ?_;refine a_2 ?_;refine ak_ (n_k ?_);refine r_m 3 ?_;refine a_z ?_;refine⟨i+1,by omega,hlt,?_⟩;simp only[htk,hQ,List.cons_append,ft_];have e:pE (q::Q)++[qC v]=pE (q::(Q++[v])):=by simp[pE]
   have e2:rL (q::Q)++[rC (rq v)]=rL (q::(Q++[v])):=by simp[rE]
   refine s_x [(1,4),(2,5)] (fun hs=>e_36) (fun hs=>?_) e_2
   ·repeat' (first|exact aC_|refine h_c ?_ ?_|exact aJ_ hs e (aF_ _)|exact aJ_ hs e2 (fh_ _)|exact au_e|refine aA_ ?_|exact aq_|refine ah_ ?_ ?_|exact au_ hs (aL_ (bQ_ l))|exact au_c)
 have hge:i=l.length:=by omega
 subst hge;simp only[List.take_length];cases hQ:nL l with
 |nil=>
  simp only[if_];refine ab_ (r_z 4 ?_);refine ai_ rfl (fun h=>?_) (fun h=>?_);exact absurd h (by simp[nR]);refine ar_ ⟨(),trivial,?_⟩;simp only[hQ,if_];have:=(aL_ (bQ_ l));exact s_f []
 |cons q Q=>
  simp only[ft_];refine ab_ (r_z 4 ?_);refine ai_ rfl (fun h=>?_) (fun h=>?_);exact absurd h (by simp[nR]);refine ar_ ⟨(),trivial,?_⟩;simp only[hQ,ft_];have:=(aL_ (bQ_ l));exact s_f []
 rintro _ _;cases hQ:nL l with
 |nil=>
  simp only[if_];refine r_z 4 ?_;refine ad_ (Fin.many ⟨_,_,rfl,rfl,⟨_,_,rfl,rfl,rfl⟩⟩ (nle rfl) ?_);exact ah_ (Cv.emp _) (ah_ (Cv.emp _) aq_)
 |cons q Q=>
  simp only[ft_];refine r_z 4 ?_;refine ad_ (Fin.many ⟨_,_,rfl,rfl,⟨_,_,rfl,rfl,rfl⟩⟩ (nle rfl) ?_);exact ah_ (Cv.sealE av_ rfl (fun _ _ h=>by cases h) rfl (by simp) (aF_ _)) (ah_ (Cv.sealE av_ rfl (fun _ _ h=>by cases h) rfl (by simp) (fh_ _)) aq_)
theorem kr_(l:List NRow)(hl:l.length≤1099511627776)(hb:okR l):FS 16 [.arr (nR l)] (.tup [.arr (pE (nL l)),.arr (rL (nL l))]):=by
 refine f_n Tryz.func16 ?_ ?_;exact aa_ (aL_ (bQ_ l)) ac_;refine r_z 2 ?_;refine r_c 7 (fs_List l hl hb) ?_;refine a_z ?_;refine r_z 4 ?_;refine ad_ (Fin.many ⟨_,_,rfl,rfl,⟨_,_,rfl,rfl,rfl⟩⟩ (nle rfl) ?_);exact ah_ (au_ av_ (aL_ (aF_ _))) (ah_ (au_ av_ (aL_ (fh_ _))) aq_)
end Go.Proofs.YtjjllafelolfoaaGreatDoor
namespace Go.Proofs.YtjjllafelolfoaaGreatDoor
open Go.Abs Go.Deep Go.RowKit
set_option maxRecDepth 20000
theorem ess_of{M:Nat→Prop}{β:Nat→Option (Nat×Nat)}{w:World}{b s off:Nat}{f:Nat→List AV}:∀(n j:Nat),(∀i,i< j+n→(f i).length=s∧RVcs M β w b (f i) (off+i* s))→RVess M β w b s ((List.range' j n).map f) (off+j* s)
 |0,_,_=>trivial
 |n+1,j,h=>by
  rw[List.range'_succ,List.map_cons];refine⟨(h j (by omega)).1,(h j (by omega)).2,?_⟩;have:=ess_of (M:=M) (β:=β) (w:=w) (b:=b) (s:=s) (off:=off) n (j+1) (fun i hi=>h i (by omega));rwa[Nat.add_mul,Nat.one_mul,←Nat.add_assoc] at this
theorem k1_{w:World}{b o:Nat}{v:Value}(h:w.cell? ⟨b,o,none⟩=some v):∃N,aH_ w b=some N:=by
 unfold World.cell? at h;unfold aH_;split at h
 ·rename_i c _ _ e;rw[show w.heap[b]?=_ from e];exact⟨c.size,rfl⟩
 cases h
theorem tyS:(Tryz.prog).underlying 22=some (.slice 24):=by kernel_rfl
theorem tyN:∃f0 f1 f2,(Tryz.prog).underlying 24=some (.struct #[f0,f1,f2])∧f0.type=2∧f0.offset=0∧f1.type=2∧f1.offset=1∧f2.type=5∧f2.offset=2:=
 ⟨{name:= "N",type:=2,offset:=0,embedded:=false,tag:= "",pkgPath:= "",byteOffset:=0},{name:= "D",type:=2,offset:=1,embedded:=false,tag:= "",pkgPath:= "",byteOffset:=8},{name:= "Pow",type:=5,offset:=2,embedded:=false,tag:= "",pkgPath:= "",byteOffset:=16},by kernel_rfl,rfl,rfl,rfl,rfl,rfl,rfl⟩
theorem tyc82:(Tryz.prog).cellsOf 24=3:=by kernel_rfl
theorem tyc2:(Tryz.prog).cellsOf 2=1:=by kernel_rfl
theorem tyc5:(Tryz.prog).cellsOf 5=1:=by kernel_rfl
theorem tyu2:(Tryz.prog).underlying 2=some (.int .i64):=by kernel_rfl
theorem tyu5:(Tryz.prog).underlying 5=some (.int .u8):=by kernel_rfl
theorem num_of{H:Type}{enc:TypeId×Value→H}{W:World}{base n:Nat}{spare:Nat→Bool}{held:Bool}{cs:List Value}{x:DataW H×List MemPlace}(h:DataW.trod enc Tryz.prog W base spare held n 24 cs=some x):
    ∃r:NRow,i64r r.1∧i64r r.2.1∧r.2.2≤255∧cs=[.int .i64 r.1,.int .i64 r.2.1,.int .u8 r.2.2]:=by
 obtain⟨f0,f1,f2,hu,h1,h2,h3,h4,h5,h6⟩:=tyN;obtain⟨y0,y1,y2,m,_,hl,g0,g1,g2⟩:=trod_struct3 hu h;rw[h1,h2,tyc2] at g0;rw[h3,h4,tyc2] at g1;rw[h5,h6,tyc5] at g2;rw[tyc82] at hl;obtain⟨n0,e0,_,w0⟩:=DataW.trod_int tyu2 g0;obtain⟨n1,e1,_,w1⟩:=DataW.trod_int tyu2 g1;obtain⟨n2,e2,_,w2⟩:=DataW.trod_int tyu5 g2
 match cs,hl with
 |[c0,c1,c2],_=>
  simp at e0 e1 e2;subst e0;subst e1;subst e2;have b2:=bounds_u8 w2;refine⟨(n0,n1,n2.toNat),bounds_i64 w0,bounds_i64 w1,?_,?_⟩;show n2.toNat≤255;omega;show _=[_,_,Value.int .u8 ((n2.toNat:Nat):Int)];rw[Int.toNat_of_nonneg b2.1]
theorem mb_{H:Type}{enc:TypeId×Value→H}{W:World}{a:Option Addr}{len cap:Nat}{d:DataW H}{ps:List MemPlace}(h:DataW.Trod enc Tryz.prog W 0 (fun _=>true) true 22 (.slice a len cap) d ps):
    ∃l:List NRow,okR l∧RV (fun _=>False) (fun _=>none) W (.arr (nR l)) (.slice a len cap):=by
 obtain⟨fuel,hf⟩:=h;rcases open_slice tyS hf with⟨hcs,_⟩|⟨x,len',cap',m,n,D,Pl,hcs,_,hl,hm,hmm,_,hx⟩
 simp[Value.cells] at hcs;obtain⟨rfl,rfl,rfl⟩:=hcs;exact⟨[],(fun r hr=>by cases hr),none,0,rfl,Nat.le_refl _,by decide,.inl rfl⟩;simp[Value.cells] at hcs;obtain⟨rfl,rfl,rfl⟩:=hcs;simp only[if_true] at hmm;have hmc:m=cap:=hmm;rw[hmc] at hx;rw[tyc82] at hx
 have hx':∀i,i< len→∃r:NRow,(i64r r.1∧i64r r.2.1∧r.2.2≤255)∧W.cells? 0 (x.add (i* 3)) 3=some [.int .i64 r.1,.int .i64 r.2.1,.int .u8 r.2.2]:=fun i hi=>by
  obtain⟨cs',g1,g2⟩:=hx i (by omega);obtain⟨r,r1,r2,r3,e⟩:=num_of g2;exact⟨r,⟨r1,r2,r3⟩,by rw[g1,e]⟩
 obtain⟨R,hR⟩:=choose_lt (α:=NRow) hx';refine⟨(List.range len).map R,?_,some x,cap,by simp[nR],by simpa[nR] using hl,hm,?_⟩;intro r hr;obtain⟨i,hi,rfl⟩:=List.mem_map.1 hr;exact(hR i (List.mem_range.1 hi)).1;by_cases h0:len=0;subst h0;exact .inl rfl;right
 have c:∀i,i< len→∀j (v:Value),[.int .i64 (R i).1,.int .i64 (R i).2.1,.int .u8 (R i).2.2][j]?=some v→W.cell? (x.add (i* 3+j))=some v:=fun i hi j v hv=>by
  have hj:j< 3:=by
   have:=(List.getElem?_eq_some_iff.1 hv).1;simpa using this
  have:=(World.cells?_some (hR i hi).2).2.2 j hj;rw[hv,Go.Deep.add_add] at this;exact this
 have c0:=c 0 (by omega) 0 _ rfl;obtain⟨b,off,spot⟩:=x;have hspot:spot=none:=by simpa[Addr.add] using World.cell?_spot c0
 subst hspot
 have hadd:∀k,Addr.add ⟨b,off,none⟩ k=⟨b,off+k,none⟩:=fun k=>by
  unfold Addr.add;by_cases hk:k=0;simp[hk];simp[hk]
 refine⟨b,off,3,rfl,k1_ (by rw[hadd] at c0;exact c0),(fun h=>h),?_⟩;have:=ess_of (M:=fun _=>False) (β:=fun _=>none) (w:=W) (b:=b) (s:=3) (off:=off) (f:=fun i=>nuC (R i).1 (R i).2.1 (R i).2.2) len 0 (fun i hi=>⟨rfl,?_⟩);rw[Nat.zero_mul,Nat.add_zero,←List.range_eq_range'] at this;rw[nR,List.map_map];exact this;have hi':i< len:=by omega
 refine⟨⟨_,?_,rfl⟩,⟨_,?_,rfl⟩,⟨_,?_,rfl⟩,trivial⟩;have:=c i hi' 0 _ rfl;rw[hadd] at this;exact this;have:=c i hi' 1 _ rfl;rw[hadd] at this;rw[Nat.add_assoc];exact this;have:=c i hi' 2 _ rfl;rw[hadd] at this;rw[Nat.add_assoc,Nat.add_assoc];exact this
end Go.Proofs.YtjjllafelolfoaaGreatDoor
namespace Go.Proofs.YtjjllafelolfoaaGreatDoor
open Go.Abs Go.Deep Go.RowKit Go.WideShapes
set_option maxRecDepth 20000
def okN(r:NRow):Prop:=i64r r.1∧i64r r.2.1∧r.2.2≤255
theorem mh_{H:Type}{enc:TypeId×Value→H}{W:World}{base:Nat}{v:Value}{d:DataW H}{ps:List MemPlace}(hv:Value.okWide Tryz.prog W .any base 24 v)(h:DataW.Trod enc Tryz.prog W 0 (fun _=>true) true 24 v d ps):
    ∃r:NRow,okN r∧RV (fun _=>False) (fun _=>none) W (.agg (nuC r.1 r.2.1 r.2.2)) v:=by
 obtain⟨f0,f1,f2,hu,_⟩:=tyN
 obtain⟨cs,rfl,_⟩:∃cs,v= .agg cs∧True:=by
  unfold Value.okWide at hv;rw[hu] at hv;obtain⟨cs,h1,_⟩:=hv;exact⟨cs,h1,trivial⟩
 obtain⟨fuel,hf⟩:=h;obtain⟨r,r1,r2,r3,e⟩:=num_of hf;refine⟨r,⟨r1,r2,r3⟩,cs,rfl,?_⟩;have e':cs.toList=[.int .i64 r.1,.int .i64 r.2.1,.int .u8 r.2.2]:=by simpa[Value.cells] using e
 rw[e'];exact⟨_,_,rfl,rfl,_,_,rfl,rfl,_,_,rfl,rfl,rfl⟩
end Go.Proofs.YtjjllafelolfoaaGreatDoor
namespace Go.Proofs.YtjjllafelolfoaaGreatDoor
open Go.Abs
set_option maxRecDepth 20000
set_option maxHeartbeats 4000000
def goodN(r:NRow):Bool:=decide (¬((r.2.2:Int) % 4≠0)∧¬r.1> 999999∧¬r.1< -999999∧¬r.2.1> 999999∧¬r.2.1< -999999)
def tameB(l:List NRow)(k:Nat):Bool:=l.all goodN && decide (l.length≤k)
theorem kp_(l:List NRow)(k:Nat)(hl:l.length≤9223372036854775807)(hk:k≤1000000):FS 14 [.arr (nR l),i64 k] (bln (tameB l k)):=by
 have hnl:(nR l).length=l.length:=by simp[nR]
 refine f_n Tryz.func14 ?_ ?_;exact aa_ (aL_ (bQ_ l)) (aa_ (af_ _) ac_);refine r_z 1 ?_;refine ab_ (r_z 1 ?_);refine ay_ (fun _:Unit=>⟨[(0,.arr (nR l)),(1,i64 k)],[],1,45⟩) (fun _=>l.all goodN=true) ?_ ?_;refine ae_ (as_ (fun j:Nat=>⟨[(5,i64 ((j:Nat):Int)),(0,.arr (nR l)),(1,i64 k)],[],1,45⟩) (fun j=>l.length- j) (fun j=>j≤l.length∧(l.take j).all goodN=true) 0 ⟨Nat.zero_le _,rfl⟩ ?_ ?_);have:=(aL_ (bQ_ l));exact s_f [];rintro j ⟨hj,hg⟩;by_cases hlt:j< l.length;obtain⟨r,hr⟩:∃r,l[j]?=some r:=⟨_,List.getElem?_eq_getElem hlt⟩
 have hgt:(nR l)[((j:Nat):Int).toNat]?=some (nuC r.1 r.2.1 r.2.2):=by
  rw[Int.toNat_natCast,nR,List.getElem?_map,hr];rfl
 have hbad:goodN r=false→tameB l k=false:=fun h=>by
  unfold tameB;rw[Bool.and_eq_false_iff];exact .inl (List.all_eq_false.2 ⟨r,List.mem_of_getElem? hr,by rw[h];decide⟩)
 refine ab_ (q_z 4 ?_);refine cT (ag_ (ab_ (ae_ (s_r 6 ?_))));refine a_2 ?_;refine i_x hgt ?_;refine l_x hgt ?_;refine a_z ?_;by_cases c0:((r.2.2:Int) % 4≠0);have hgd:goodN r=false:=decide_eq_false (by rintro⟨e0,e1,e2,e3,e4⟩;exact e0 c0);rw[hbad hgd];refine s_r 24 ?_;refine a_3 ?_;refine o_0 (.bin rfl rfl (vT b4_ ((by simpa using c0)))) ?_;refine a_z ?_;refine cT (r_z 1 ?_);exact ad_ (t_e (af_ _));by_cases c1:r.1> 999999;have hgd:goodN r=false:=decide_eq_false (by rintro⟨e0,e1,e2,e3,e4⟩;exact e1 c1);rw[hbad hgd];refine s_r 24 ?_;refine a_3 ?_;refine o_0 (.bin rfl rfl (vF b4_ ((by simpa using c0)))) ?_;refine d_z ?_;refine cT (r_z 1 ?_);exact ad_ (t_e (af_ _));by_cases c2:r.1< -999999;have hgd:goodN r=false:=decide_eq_false (by rintro⟨e0,e1,e2,e3,e4⟩;exact e2 c2);rw[hbad hgd];refine s_r 24 ?_;refine a_3 ?_;refine o_0 (.bin rfl rfl (vF b4_ ((by simpa using c0)))) ?_;refine d_z ?_;refine cT (r_z 1 ?_);exact ad_ (t_e (af_ _));by_cases c3:r.2.1> 999999;have hgd:goodN r=false:=decide_eq_false (by rintro⟨e0,e1,e2,e3,e4⟩;exact e3 c3);rw[hbad hgd];refine s_r 24 ?_;refine a_3 ?_;refine o_0 (.bin rfl rfl (vF b4_ ((by simpa using c0)))) ?_;refine d_z ?_;refine cT (r_z 1 ?_);exact ad_ (t_e (af_ _));by_cases c4:r.2.1< -999999;have hgd:goodN r=false:=decide_eq_false (by rintro⟨e0,e1,e2,e3,e4⟩;exact e4 c4);rw[hbad hgd];refine s_r 24 ?_;refine a_3 ?_;refine o_0 (.bin rfl rfl (vF b4_ ((by simpa using c0)))) ?_;refine d_z ?_;refine cT (r_z 1 ?_);exact ad_ (t_e (af_ _))
 have hgd:goodN r=true:=decide_eq_true ⟨c0,c1,c2,c3,c4⟩;refine s_r 24 ?_;refine a_3 ?_;refine o_0 (.bin rfl rfl (vF b4_ ((by simpa using c0)))) ?_;refine d_z ?_;refine cF (ag_ (r_m 3 ?_));refine a_z ?_;refine⟨j+1,by omega,⟨hlt,?_⟩,?_⟩;rw[b5_ hr,List.all_append,hg];simp[hgd];have:=(aL_ (bQ_ l));exact s_f [];have hge:l.take j=l:=List.take_of_length_le (by omega);rw[hge] at hg;refine ab_ (q_z 4 ?_);refine cF (ar_ ⟨(),hg,?_⟩);have:=(aL_ (bQ_ l));exact s_f [];rintro _ hg
 have e:tameB l k=decide ((((nR l).length:Nat):Int)≤(k:Int)):=by
  unfold tameB;rw[hg,Bool.true_and,hnl];exact decide_eq_decide.2 (by omega)
 rw[e];refine r_z 5 ?_;exact ad_ (t_e (af_ _))
theorem good_qs{r:NRow}(h:goodN r=true)(hb:i64r r.1)(hd:i64r r.2.1):qs (numV r.1 r.2.1 r.2.2)≤20:=by
 obtain⟨h0,h1,h2,h3,h4⟩:=of_decide_eq_true h;have hp:r.2.2 % 4=0:=by omega
 have hN:bl r.1.natAbs≤20:=bl_le (by omega);unfold numV;rw[hp];show qs (Rat.divInt r.1 (dNum r.2.1))≤20;obtain⟨d,hde⟩:∃d,d=dNum r.2.1:=⟨_,rfl⟩;have hd0:d≠0:=by rw[hde];unfold dNum;split <;> omega
 have hdb:bl d.natAbs≤20:=by rw[hde];unfold dNum;split <;> exact bl_le (by omega)
 rw[←hde];by_cases hn:d< 0;rw[gP_ _ d hn];exact c2_ (by omega) (by rw[Int.natAbs_neg];exact hN) (by omega);rw[gO_ _ d (by omega)];exact c2_ (by omega) hN (by omega)
theorem jW_{l:List NRow}{k:Nat}(h:tameB l k=true)(ho:okR l):bdL (nL l) 20∧(nL l).length≤k:=by
 unfold tameB at h;rw[Bool.and_eq_true,List.all_eq_true] at h;refine⟨fun q hq=>?_,by simpa[nL] using h.2⟩;obtain⟨r,hr,rfl⟩:=List.mem_map.1 hq;exact good_qs (h.1 r hr) (ho r hr).1 (ho r hr).2.1
theorem ab_p2{x:Rat}(h:qs x≤20):ab x≤p2 22:=by
 obtain⟨h2,h3,h4⟩:=hb_ h
 have hd:(1:Rat)≤(((x.den:Nat):Int):Rat):=by
  rw[show(1:Rat)=((1:Int):Rat) from rfl,Rat.intCast_le_intCast];have:=x.den_pos;omega
 have h5:=h2.ab;rw[bx_,show ab (((x.den:Nat):Int):Rat)=(((x.den:Nat):Int):Rat) from if_neg (by grind)] at h5;have h6:=Rat.mul_le_mul_of_nonneg_left hd (ab_nn x);have h7:=cw_ (show 20≤22 by omega);grind
theorem no_{p q:List Rat}(hp:p.length≤3)(hq:q.length≤3):okKe [(p,q)]:=by
 have h1:=aD_ p;have h2:=aD_ q;refine⟨by simp,?_,fun z hz=>by rw[List.mem_singleton.1 hz];exact⟨by show p.length≤_;omega,by show q.length≤_;omega⟩⟩;rw[List.any_cons,List.any_nil,Bool.or_false];unfold bigP;exact decide_eq_false (by show¬12< if degP q> degP p then degP q else degP p;unfold degP;split <;> omega)
theorem rg_sizes{u p q:List Rat}{a b x:Rat}(hu:u.length≤4)(hp:p.length≤3)(hq:q.length≤3)(bu:bdL u 20)(bp:bdL p 20)(bq:bdL q 20)(ha:qs a≤20)(hb:qs b≤20)(hx:qs x≤20):
    ∀z,z=p∨z=q∨z=rgM u p q a b→∃m:Rat,FS 148 [.agg (spC (minL [a,x]) (maxL [a,x])++[i64 10]),.arr (pE z)] (.agg (qC m))∧qs m≤100000∧∀y,minL [a,x]≤y→y≤maxL [a,x]→ab (evalP z y)≤m:=fun z hz=>by
 obtain⟨⟨KG,HG⟩,hgl,_⟩:=rg_HS hu hp hq bu bp bq ha hb;obtain⟨KP,HP⟩:=d2_ p bp;obtain⟨KQ,HQ⟩:=d2_ q bq
 obtain⟨K,H,hl⟩:∃K,HS z K 2000∧z.length≤9:=by
  rcases hz with rfl|rfl|rfl
  exact⟨_,HP.mono (by omega),by omega⟩;exact⟨_,HQ.mono (by omega),by omega⟩;exact⟨_,HG.mono (by omega),hgl⟩
 obtain⟨m1,m2⟩:=p7_ a x;obtain⟨lo,hlo⟩:∃lo,lo=minL [a,x]:=⟨_,rfl⟩;obtain⟨hi,hhi⟩:∃hi,hi=maxL [a,x]:=⟨_,rfl⟩;rw[←hlo,←hhi] at m1 m2⊢;have q1:qs lo≤20∧qs hi≤20:=by rcases m2 with⟨rfl,rfl⟩|⟨rfl,rfl⟩<;> exact⟨by assumption,by assumption⟩
 have htl:=aD_ z;obtain⟨v,v1,v2,v3,v4⟩:=qT_ (K:=K) (show z.length≤24 by omega) (by omega) (H.bdL (by omega)) H m1 (ab_p2 q1.1) (ab_p2 q1.2) (by omega) (by omega);refine⟨absH v,fs_size z lo hi v v1 (by unfold sm;omega) (by unfold sm;omega),absH_qs v2 v3 (by omega),fun y y1 y2=>?_⟩;obtain⟨w1,w2⟩:=v4 y y1 y2;exact absH_le w1 w2
theorem pH_{u p q:List Rat}{a b:Rat}(hu:u.length≤4)(hp:p.length≤3)(hq:q.length≤3)(bu:bdL u 20)(bp:bdL p 20)(bq:bdL q 20)(ha:qs a≤20)(hb:qs b≤20):
    ∃s,FS 23 [.agg (eqC [(p,q)] b (rgM u p q a b)),.agg (qC a),i64 10] (.tup [.arr (pE s),i64 0])∧FS 25 [.arr (pE u),.agg (qC a)] (.arr (pE (compP [a,1] u)))∧FS 24 [.arr (pE s),.arr (pE (compP [a,1] u))] (bln true):=by
 obtain⟨_,hgl,_⟩:=rg_HS hu hp hq bu bp bq ha hb;obtain⟨s1,s2,s3,s4⟩:=pF_ hu hp hq bu bp bq ha hb;have hke:=no_ hp hq;have lu:=dj_ a u;have lg:=dj_ a (rgM u p q a b)
 have hdg:degP (rgM u p q a b)≤20:=by
  have:=aD_ (rgM u p q a b);unfold degP;omega
 have ok:OkSe [(p,q)] b (rgM u p q a b) a 10:=⟨hke,hdg,fun z hz=>by
  rw[List.mem_singleton.1 hz];exact⟨⟨s1 _ (by simp),by show p.length≤_;omega⟩,s1 _ (by simp),by show q.length≤_;omega⟩,s1 _ (by simp),by omega,by unfold sm;omega,s3,by omega,fun r hr=>(s4 r (by omega)).1,fun r hr=>⟨(s4 r (by omega)).2.1,by have:=(s4 r (by omega)).2.2.1;exact Nat.le_trans this (by decide)⟩,fun r hr=>(s4 r (by omega)).2.2.2.1⟩
 have hS:=qQ_ [(p,q)] b (rgM u p q a b) a 10 (by omega) ok
 have hend:trimQ (seK [(compP [a,1] p,compP [a,1] q)] (compP [a,1] (rgM u p q a b)) b 10 11)=trimQ (compP [a,1] u):=by
  rw[pw_];have htl:=aD_ (compP [a,1] u);exact seM_end (rg_moved u p q a b) (by omega)
 have hsl:=jY_ [(compP [a,1] p,compP [a,1] q)] (compP [a,1] (rgM u p q a b)) b 10 11;have hsa:=qS_ (seK [(compP [a,1] p,compP [a,1] q)] (compP [a,1] (rgM u p q a b)) b 10 11) (compP [a,1] u) (s4 11 (by omega)).2.2.2.2 s2 (by omega) (by omega);rw[show sameP (seK [(compP [a,1] p,compP [a,1] q)] (compP [a,1] (rgM u p q a b)) b 10 11) (compP [a,1] u)=true from decide_eq_true hend] at hsa;exact⟨_,hS,hv_ u a (s1 _ (by simp)) (by omega),hsa⟩
theorem rg_Value{u p q:List Rat}{a b x:Rat}(hu:u.length≤4)(hp:p.length≤3)(hq:q.length≤3)(bu:bdL u 20)(bp:bdL p 20)(bq:bdL q 20)(ha:qs a≤20)(hb:qs b≤20)(hx:qs x≤20):
    FS 26 [.agg (eqC [(p,q)] b (rgM u p q a b)),.agg (qC a),.agg (qC x),.agg (qC (fineQ 20))] (.tup [.agg (spC 0 0),i64 5])∨
    ∃lo hi,FS 26 [.agg (eqC [(p,q)] b (rgM u p q a b)),.agg (qC a),.agg (qC x),.agg (qC (fineQ 20))] (.tup [.agg (spC lo hi),i64 0])∧sm lo∧sm hi∧lo≤evalP u x∧evalP u x≤hi:=by
 obtain⟨_,hgl,_⟩:=rg_HS hu hp hq bu bp bq ha hb;obtain⟨v1,v2⟩:=rg_value hu hp hq bu bp bq ha hb hx;have hsz:=rg_sizes hu hp hq bu bp bq ha hb hx;obtain⟨al,a1,a2,a3⟩:=hsz p (.inl rfl);obtain⟨be,b1,b2,b3⟩:=hsz q (.inr (.inl rfl));obtain⟨ga,g1,g2,g3⟩:=hsz _ (.inr (.inr rfl));obtain⟨m1,m2⟩:=p7_ a x;have q1:qs (minL [a,x])≤20∧qs (maxL [a,x])≤20:=by rcases m2 with⟨e1,e2⟩|⟨e1,e2⟩<;> rw[e1,e2]<;> exact⟨by assumption,by assumption⟩
 have hke:=no_ hp hq
 have hdg:degP (rgM u p q a b)≤20:=by
  have:=aD_ (rgM u p q a b);unfold degP;omega
 have wq:qs (fineQ 20)≤100000:=by decide+kernel
 have wp:0< fineQ 20:=by decide+kernel
 obtain⟨n,ok,s1,s2⟩:=fs_steps [(p,q)] b (rgM u p q a b) a x (fineQ 20) (fun _=>al) (fun _=>be) ga 100000 (by simp) (by unfold sm;omega) (by unfold sm;omega) wq (by omega) (by omega) (by omega) (fun i z hz=>by
  cases i with
  |zero=>cases hz;exact⟨a1,b1,a2,b2⟩
  |succ i=>simp at hz) ⟨g1,g2⟩ (by omega) (by omega)
 cases ok with
 |false=>exact .inl (qP_ [(p,q)] b (rgM u p q a b) a x (fineQ 20) n hke hdg (by omega) wp s1)
 |true=>
  obtain⟨n40,hst⟩:=s2 rfl
  have okv:OkVa [(p,q)] b (rgM u p q a b) a x (fineQ 20) n 90000000000:=⟨hke,hdg,by omega,by unfold sm;omega,wp,fun j hj=>⟨(v1 j (by omega)).1,(v1 j (by omega)).2.1,by have:=(v1 j (by omega)).2.2.1;exact Nat.le_trans this (by decide)⟩,fun j hj=>(v1 j (by omega)).2.2.2.1,fun j hj=>by
   have h1:=v2 j (by omega);have h2:j* 90000001≤41* 90000001:=Nat.mul_le_mul_right _ (by omega);omega,fun j hj=>by have:=(v1 j (by omega)).2.2.2.2;omega,by omega,by omega⟩
  have hV:=fs_Value [(p,q)] b (rgM u p q a b) a x (fineQ 20) n 90000000000 n40 okv s1;have hone:[(p,q)].length=1:=rfl
  have ez:stZ (fun _=>al) (fun _=>be) 1* absQ b* (maxL [a,x]- minL [a,x])=al* be* ab b* (maxL [a,x]- minL [a,x]):=by
   rw[stZ,stZ,kF_];grind
  rw[hone,ez,show((4:Int):Rat)=4 from rfl] at hst;have hS:=v2 (n+1) (by omega);have hS2:(n+1) * 90000001≤41* 90000001:=Nat.mul_le_mul_right _ (by omega);obtain⟨r1,r2⟩:=o2_ (G:=rgM u p q a b) (u:=u) (A:=p) (B:=q) (L:=b) (a:=a) (x:=x) (w:=fineQ 20) (pG_ u p q a b) m1 (m2.imp id id) a3 b3 g3 hst (fun j=>suK [(p,q)] (rgM u p q a b) b a x j) rfl (fun k=>by rw[suK,jV_]);have qd:=d6_ (fineQ 20) 2;have q2:qs (2:Rat)≤2:=by decide
  have t1:=c3_ (suK [(p,q)] (rgM u p q a b) b a x (n+1)) (-(fineQ 20/ 2));rw[cQ_,←Rat.sub_eq_add_neg] at t1;have t2:=c3_ (suK [(p,q)] (rgM u p q a b) b a x (n+1)) (fineQ 20/ 2);exact .inr ⟨_,_,hV,by unfold sm;omega,by unfold sm;omega,r1,r2⟩
end Go.Proofs.YtjjllafelolfoaaGreatDoor
