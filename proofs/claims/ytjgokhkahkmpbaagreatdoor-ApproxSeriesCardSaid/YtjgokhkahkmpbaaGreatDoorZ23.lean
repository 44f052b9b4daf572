/- Part Z23 of the proof. -/
import Derived.Test.YtjgokhkahkmpbaaGreatDoorZ22
set_option linter.all false
namespace Go.Proofs.YtjgokhkahkmpbaaGreatDoor
open Go.Abs
set_option maxRecDepth 20000
set_option maxHeartbeats 2000000
theorem rwL_mR(R:Nat→Lq)(n:Nat):(rwL R n).map (fun e=>([.arr e]:La))=mE ((List.range n).map R):=by simp[rwL,mE]
theorem E8(k:Lw)(a:Nat):(mE k).drop a=mE (k.drop a):=by simp[mE,List.map_drop]
theorem Gp{r:Ren}{hp hp':Hq}{cap:Option Nat}{TS TQ a m n:Nat}{R:Nat→Lq}(hh:∀i∈rzI n,hp' i=hp i)(h1:hp 0=some ⟨TS,1,rwO R (fun x=>x) n⟩)(hr:∀i,i< n→hp (i+2)=some ⟨TQ,3,pE (R i)⟩)(ham:a+m=n):
    Cv r hp' (fun _=>none) (.lsl 0 a m cap 1) (.arr (mE (((List.range n).map R).drop a))):=by
 have e:mE (((List.range n).map R).drop a)=(((rwL R n).map fun e=>([.arr e]:La)).drop a).take m:=by
  rw[rwL_mR,E8,List.take_of_length_le (by simp;omega)]
 rw[e];have hn:(rwL R n).length=n:=iZ R n;have h0:hp' 0=some ⟨TS,1,mzO 3 (fun k=>(R k).length) (fun x=>x) (rwL R n).length⟩:=by rw[hh 0 (List.mem_cons_self ..),h1,hn];rfl
 refine Cv.shut (es:=((rwL R n).map fun e=>([.arr e]:La)).drop a|>.take m) aE (fF h0 (show(1:Nat)≠0 by decide)) (fun j B hj=>by cases hj) (by show a+m≤(mzO 3 _ (fun x=>x) (rwL R n).length).length;rw[sT,hn];omega) (vp m (vr a (DV (sz:=3) (TQ:=TQ) (w:=fun k=>(R k).length) (by decide) (fun i x hx=>?_) (fun i x hx=>by rw[(vK hx).2];simp[pE]) (fun x hx y hy c hc=>?_))));obtain⟨h2,rfl⟩:=vK hx;rw[hh (i+2) (List.mem_cons_of_mem _ (List.mem_map.2 ⟨i,List.mem_range.2 h2,rfl⟩)),hr i h2];obtain⟨k,_,rfl⟩:=List.mem_map.1 hx;exact aF _ y hy c hc
theorem Fv(R:Nat→Lq)(n r c:Nat)(hn:n≤1000)(hl:∀i,i< n→c< (R i).length):
    FS 125 [.arr (mE (((List.range n).map R).drop r)),.clos 126 [] [.aptr [[i64 c]] 0 0]] (i64 (ui (fun e:Lq=>decide (coP e c≠0)) (((List.range n).map R).drop r) 0)):=
 DB _ 126 [.aptr [[i64 c]] 0 0] _ (ac (aX (ac (ag _) ai)) ai) (by simp;omega) fun e he=>by
  obtain⟨i,hi,rfl⟩:=List.mem_map.1 (List.mem_of_mem_drop he);exact AG _ c _ (bm (hl i (List.mem_range.1 hi)))
theorem kY{r:Ren}{hp hp':Hq}{fr fr':Fr}(hs:Shr r hp hp')(h:CvF r hp hp' fr fr':=by repeat' (first|exact aG|refine aj rfl ?_ ?_|exact ah hs (ag _)|exact ah hs (aO _)|exact ah hs (aX (ac (ag _) ai))|exact Cv.sl rfl rfl rfl|exact Cv.sl (Nat.ble_eq_true_of_le (by show _+1≤40;omega)) rfl (by rw[cP (by assumption)];rfl)|exact Cv.boxp hs rfl (yY hs (by decide)) rfl (ac (ag _) ai)|exact Cv.boxp hs rfl (yY hs (by decide)) rfl (aU _)|(refine Cv.loE hs ?_ (ag _);simp[i64];done))):CvF r hp hp' fr fr':=h
def rcS(M:Mx)(n:Nat):Nat→AState
 |c=>⟨[(0,.lsl 0 0 n none 1),(2,bln false),(12,i64 n),(13,i64 c)],rzH 29 42 (fun k=>aL (n+1) ((slM M n c).1 k)) n,40,118⟩
def rcK(X:Mx)(n c:Nat)(f:Rat):Nat→AState
 |j=>⟨[(0,.lsl 0 0 n none 1),(2,bln false),(3,.aptr [[i64 c]] 0 0),(5,bQ f),(12,i64 n),(13,i64 c),(54,i64 ((n+1:Nat):Int)),(55,i64 j)],rzH 29 42 (fun k=>aL (n+1) (scJ X c f j k)) n,40,118⟩
def rcI(Y:Mx)(n c:Nat):Nat→AState
 |i=>⟨[(0,.lsl 0 0 n none 1),(2,bln false),(3,.aptr [[i64 c]] 0 0),(12,i64 n),(13,i64 c),(74,.lsl 0 0 n none 1),(75,i64 n),(76,i64 i)],rzH 29 42 (fun k=>aL (n+1) (rdJ Y c c i 0 k)) n,40,118⟩
def rcJ(Y:Mx)(n c i:Nat):Nat→AState
 |j=>⟨[(0,.lsl 0 0 n none 1),(2,bln false),(3,.aptr [[i64 c]] 0 0),(7,i64 i),(8,.lsl (i+2) 0 (n+1) none 3),(9,bQ (Y i c)),(12,i64 n),(13,i64 c),(74,.lsl 0 0 n none 1),(75,i64 n),(76,i64 i),(94,i64 ((n+1:Nat):Int)),(95,i64 j)],rzH 29 42 (fun k=>aL (n+1) (rdJ Y c c i j k)) n,40,118⟩
theorem CP(M:Mx)(n B:Nat)(hn:n≤25)(hfull:n≤(slM M n n).2.length)(hB:B≤100000000000)(hq:∀c,c≤n→∀i j,i< n→j≤n→qs ((slM M n c).1 i j)≤B):
    XSpec Tryz.prog 70 [.lsl 0 0 n none 1] (rzH 29 42 (fun k=>aL (n+1) (M k)) n) 40 (bln true) (rzH 29 42 (fun k=>aL (n+1) ((slM M n n).1 k)) n) 40:=by
 refine XSpec.enter Tryz.func70 rfl (by kernel_rfl) rfl rfl rfl rfl rfl ?_;refine r_z 1 ?_;refine ae (r_z 3 ?_);refine aH (fun _:Unit=>rcS M n n) (fun _=>True) ?_ ?_
 ·refine ak (aC (rcS M n) (fun c=>n- c) (fun c=>c≤n) 0 (Nat.zero_le _) ?_ ?_)
  rw[rcS.eq_1];exact(SEntT.rz1 (by omega) cW (fun i hi=>cP hi) fun hs=>kY hs).ent;intro c hc;rw[rcS.eq_1];by_cases hlt:c< n;rotate_left;have hge:c=n:=by omega
  subst hge;refine q_z 1 ?_;refine ae (cF (aB ⟨(),trivial,?_⟩));exact(SEntT.rz1 (by omega) cW (fun i hi=>cP hi) fun hs=>kY hs).ent;refine q_z 1 ?_;refine ae (cT (an (ae (ak ?_))));have hqc:=hq c hc;obtain⟨p,hp,hn1⟩:=Ei hfull hlt;have hqn:=hq (c+1) hlt;rw[hn1] at hqn;obtain⟨A,hA⟩:∃A,A=(slM M n c).1:=⟨_,rfl⟩;rw[←hA] at hqc hp hn1 hqn⊢;obtain⟨p1,p2,p3⟩:=lr hp;refine r_z 3 ?_;refine AWp.ent (st':=⟨[(0,.lsl 0 0 n none 1),(2,bln false),(3,.aptr [[i64 c]] 0 0),(12,i64 n),(13,i64 c)],rzH 29 42 (fun k=>aL (n+1) (A k)) n,40,118⟩) ?_ ?_;refine(SEntT.rz1 (by omega) ?_ ?_ fun hs=>kY hs).ent
  ·repeat rw[bi (by decide)]
   exact cW
  ·intro k hk
   repeat rw[bi (by omega)]
   exact cP hk
  have hcl:Closed (.clos 126 [] [.aptr [[i64 c]] 0 0]):=aT ai (ac (aX (ac (ag _) ai)) ai);have hlead:=Fv (fun k=>aL (n+1) (A k)) n (0+c) c (by omega) (fun i hi=>by simp;omega);rw[idxR_pv (p:=p) (by omega) (by rw[Nat.zero_add];exact hp)] at hlead;refine s_r 6 ?_;refine a_2 ?_;refine o_0 (.slice_l (l:=c) (h:=n) rfl ⟨⟨_,rfl,.inr ⟨_,_,rfl,rfl⟩⟩,⟨_,rfl,.inl ⟨rfl,rfl,rfl⟩⟩,⟨_,rfl,.inl ⟨rfl,rfl⟩⟩⟩ (by omega) (Nat.le_refl _) (.inr (by omega)) te_117.h) ?_;refine a_1 ?_;refine o_0 (.callV (rd:=rzI n) (rr:=⟨0,fun i=>i⟩) rfl rfl rfl (fun hp' hh=>af (Gp hh cW (fun i hi=>cP hi) (by omega)) (af (ah aE hcl) ay)) hlead) ?_;refine a_z ?_;refine ae (q_z 2 ?_);refine cF (an ?_);have hgp:∀e,e=p→(rwO (fun k=>aL (n+1) (A k)) (fun x=>x) n)[e]?=some [.lsl (p+2) 0 (n+1) none 3]:=fun e he=>by rw[eU p1 e he];simp
  have hgr:∀e,e=c→(rwO (fun k=>aL (n+1) (A k)) (fun x=>x) n)[e]?=some [.lsl (c+2) 0 (n+1) none 3]:=fun e he=>by rw[eU hlt e he];simp
  have hst:∀a b,a=c→b=p→((rwO (fun k=>aL (n+1) (A k)) (fun x=>x) n).set a [.lsl (p+2) 0 (n+1) none 3])[b]?=some [.lsl (p+2) 0 (n+1) none 3]:=fun a b ha hb=>by
   rw[List.getElem?_set];split;rw[if_pos (by rw[ku];omega)];exact hgp b hb
  have ho:=fF (cW (TS:=29) (TQ:=42) (n:=n) (R:=fun k=>aL (n+1) (A k))) (show(1:Nat)≠0 by decide);refine ae (r_d hmix 20 ?_);refine a_8 ?_;refine a_3 ?_;refine o_0 (.load_l1 rfl ho (hgp _ (by omega)) TG.h rfl) ?_;refine a_3 ?_;refine o_0 (.load_l1 rfl ho (hgr _ (by omega)) TG.h rfl) ?_;refine a_1 ?_;refine ep (.store rfl ho (hgr _ (by omega)) rfl rfl rfl TS.h (nle rfl)) ?_;refine a_1 ?_;refine ep (.store rfl rfl (hst _ _ (by omega) (by omega)) rfl rfl rfl TS.h (nle rfl)) ?_;refine aq (n_k ?_);refine AWp.ent (st':=⟨[(0,.lsl 0 0 n none 1),(2,bln false),(3,.aptr [[i64 c]] 0 0),(12,i64 n),(13,i64 c)],rzH 29 42 (fun k=>aL (n+1) (swM A c p k)) n,40,118⟩) ?_ ?_;have q0:swx (p+2) (c+2) 0=0:=vx (by omega) (by omega);have hinj:∀i j,InZ n i→InZ n j→swx (p+2) (c+2) i=swx (p+2) (c+2) j→i=j:=fun _ _ _ _ e=>swx_inj e;refine(SEntT.rz (swx (p+2) (c+2)) (by omega) (vx (by omega) (by omega)) hinj ?_ ?_ fun hs=>?_).ent;rw[iP (R':=fun i=>aL (n+1) (A (swx p c i))) (s':=swx (p+2) (c+2)) (fun k hk=>⟨by simp,rfl⟩),←Er (R:=fun k=>aL (n+1) (A k)) p1 hlt (0+((c:Nat):Int).toNat) (0+(((c:Nat):Int)+((p- (0+c):Nat):Int)).toNat) (by omega) (by omega)];simp only[ld];rfl
  ·intro i hi
   rw[swx2,swM_at]
   repeat rw[bi (by omega)]
   exact cP (R:=fun k=>aL (n+1) (A k)) (swx_in p1 hlt hi)
  exact aj rfl (Cv.sl rfl q0 rfl) (aj rfl (ah hs (ag _)) (aj rfl (ah hs (aX (ac (ag _) ai))) (aj rfl (ah hs (ag _)) (aj rfl (ah hs (ag _)) aG))));have hrow:=lj (TS:=29) (TQ:=42) (R:=fun k=>aL (n+1) (swM A c p k)) hlt;have ho2:=fF (cW (TS:=29) (TQ:=42) (n:=n) (R:=fun k=>aL (n+1) (swM A c p k))) (show(1:Nat)≠0 by decide);have hg2:∀e,e=c→(rwO (fun k=>aL (n+1) (swM A c p k)) (fun x=>x) n)[e]?=some [.lsl (c+2) 0 (n+1) none 3]:=fun e he=>by rw[eU hlt e he];simp
  have hx:swM A c p c c=A p c:=by simp[swM]
  have hge:∀e,e=c→(pE (aL (n+1) (swM A c p c)))[e]?=some (qC (A p c)):=fun e he=>by
   subst he;simp[pE,aL,show e< n+1 by omega,hx]
  have hi1:=cN 1 (by decide);have hq1:qs ((1:Int):Rat)≤1:=by decide
  have hov:=gz ((1:Int):Rat) (A p c) p3 (by have:=hqc p c p1 (by omega);omega);refine ae (r_d hmix 11 ?_);refine c_s (hi1) ?_;refine a_3 ?_;refine o_0 (.load_l1 rfl ho2 (hg2 _ (by omega)) TG.h rfl) ?_;refine a_2 ?_;refine o_0 (.load_l rfl hrow (hge _ (by omega)) TG.h TS.h (nle rfl)) ?_;refine c_s (hov) ?_;refine a_2 ?_;refine aq ⟨Ah (fps0:=[([],[]),([],[]),([],[]),([],[]),([],[]),([],[]),([],[]),([],[]),([],[]),([49],[]),([49],[49])]) (by kernel_rfl) (lessF.zz (lessF.zz (lessF.zz (lessF.zz (lessF.rd (by omega) (lessF.zz (lessF.zz (lessF.rd (by omega) (lessF.zz (lessF.al rfl (show 40≤49 by decide) (lessF.st rfl (show 40≤49 by decide) lessF.nil))))))))))),?_⟩;refine AWp.ent (st':=⟨[(0,.lsl 0 0 n none 1),(2,bln false),(3,.aptr [[i64 c]] 0 0),(5,bQ (((1:Int):Rat) / A p c)),(12,i64 n),(13,i64 c)],rzH 29 42 (fun k=>aL (n+1) (swM A c p k)) n,40,118⟩) ?_ ?_;refine(SEntT.rz1 (by omega) ?_ ?_ fun hs=>kY hs).ent
  ·repeat rw[bi (by decide)]
   exact cW
  ·intro k hk
   repeat rw[bi (by omega)]
   exact cP (R:=fun k=>aL (n+1) (swM A c p k)) hk
  refine ae (s_r 6 ?_);refine a_3 ?_;refine o_0 (.load_l1 rfl ho2 (hg2 _ (by omega)) TG.h rfl) ?_;refine a_z ?_;obtain⟨X,hX⟩:∃X,X=swM A c p:=⟨_,rfl⟩;obtain⟨f,hf⟩:∃f,f=((1:Int):Rat) / A p c:=⟨_,rfl⟩;rw[←hX,←hf];have hqX:∀i j,i< n→j≤n→qs (X i j)≤B:=by rw[hX];exact bd_sw hqc hlt p1
  have hqf:qs f≤B+1:=by
   rw[hf];have h1:=gi ((1:Int):Rat) (A p c);have h2:=hqc p c p1 (by omega);omega
  rw[←hX,show(1:Rat) / A p c=f by rw[hf,show((1:Int):Rat)=1 by decide]] at hn1 hqn;clear hrow ho2 hg2 hx hge hi1 hq1 hov hgp hgr hst ho hlead;refine aH (fun _:Unit=>rcK X n c f (n+1)) (fun _=>True) ?_ ?_
  ·refine ak (aC (rcK X n c f) (fun j=>n+1- j) (fun j=>j≤n+1) 0 (Nat.zero_le _) ?_ ?_)
   rw[rcK.eq_1,scJ_0];exact(SEntT.rz1 (by omega) cW (fun i hi=>cP hi) fun hs=>kY hs).ent;intro j hj;rw[rcK.eq_1];by_cases hjn:j< n+1;rotate_left;have hge:j=n+1:=by omega
   subst hge;refine q_z 1 ?_;refine ae (cF (aB ⟨(),trivial,?_⟩));exact(SEntT.rz1 (by omega) cW (fun i hi=>cP hi) fun hs=>kY hs).ent;refine q_z 1 ?_;refine ae (cT (an (ae (ak (r_z 2 ?_)))));have hmu:=c7 (X c j) f (by have:=hqX c j hlt (by omega);omega);have hce:=lj (TS:=29) (TQ:=42) (R:=fun k=>aL (n+1) (scJ X c f j k)) hlt;have ho3:=fF (cW (TS:=29) (TQ:=42) (n:=n) (R:=fun k=>aL (n+1) (scJ X c f j k))) (show(1:Nat)≠0 by decide);have hg3:∀e,e=c→(rwO (fun k=>aL (n+1) (scJ X c f j k)) (fun x=>x) n)[e]?=some [.lsl (c+2) 0 (n+1) none 3]:=fun e he=>by rw[eU hlt e he];simp
   have hgj:∀e,e=j→(pE (aL (n+1) (scJ X c f j c)))[e]?=some (qC (X c j)):=fun e he=>by rw[ky hjn e he,scJ_at]
   refine r_d hmix 16 ?_;refine a_3 ?_;refine o_0 (.load_l1 rfl ho3 (hg3 _ (by omega)) TG.h rfl) ?_;refine a_4 ?_;refine o_0 (.load_l1 rfl ho3 (hg3 _ (by omega)) TG.h rfl) ?_;refine a_2 ?_;refine o_0 (.load_l rfl hce (hgj _ (by omega)) TG.h TS.h (nle rfl)) ?_;refine c_s (hmu) ?_;refine a_1 ?_;refine ep (.store rfl hce (hgj _ (by omega)) rfl rfl rfl TS.h (nle rfl)) ?_;refine aq (n_k ?_);refine r_m 2 ?_;refine a_z ?_;refine⟨j+1,by omega,by omega,?_⟩;rw[rcK.eq_1,scJ_s];exact(Ep (by omega) hlt hjn (by omega) fun hs=>kY hs).ent
  rintro _ _;show AWp _ _ _ _ (rcK X n c f (n+1));rw[rcK.eq_1,show(fun k=>aL (n+1) (scJ X c f (n+1) k))=fun k=>aL (n+1) (scM X c f k) from funext fun k=>sw fun j hj=>scJ_n k j hj];obtain⟨Y,hY⟩:∃Y,Y=scM X c f:=⟨_,rfl⟩
  have hqS:∀i j,i< n→j≤n→qs (Y i j)≤B:=fun i j hi hj=>by
   rw[hY];by_cases e:i=c;subst e;have:=hqn i j hi hj;rwa[show rdM (scM X i f) i i i j=scM X i f i j from if_pos rfl] at this;rw[show scM X c f i j=X i j from if_neg e];exact hqX i j hi hj
  rw[←hY] at hn1⊢;refine r_z 3 ?_;refine AWp.cutB (fun _:Unit=>rcI Y n c n) (fun _=>True) ?_ ?_
  ·refine ak (aC (rcI Y n c) (fun i=>n- i) (fun i=>i≤n) 0 (Nat.zero_le _) ?_ ?_)
   rw[rcI.eq_1,rdJ_0];exact(SEntT.rz1 (by omega) cW (fun i hi=>cP hi) fun hs=>kY hs).ent;intro i hi;rw[rcI.eq_1];by_cases hin:i< n;rotate_left;have hge:i=n:=by omega
   rw[hge];refine q_z 1 ?_;refine ae (cF (aB ⟨(),trivial,?_⟩));exact(SEntT.rz1 (by omega) cW (fun i hi=>cP hi) fun hs=>kY hs).ent;refine q_z 1 ?_;refine ae (cT (an (ae (ak ?_))));have hce:=lj (TS:=29) (TQ:=42) (R:=fun k=>aL (n+1) (rdJ Y c c i 0 k)) hin;have ho3:=fF (cW (TS:=29) (TQ:=42) (n:=n) (R:=fun k=>aL (n+1) (rdJ Y c c i 0 k))) (show(1:Nat)≠0 by decide);have hg3:∀e,e=i→(rwO (fun k=>aL (n+1) (rdJ Y c c i 0 k)) (fun x=>x) n)[e]?=some [.lsl (i+2) 0 (n+1) none 3]:=fun e he=>by rw[eU hin e he];simp
   have hgc:∀e,e=c→(pE (aL (n+1) (rdJ Y c c i 0 i)))[e]?=some (qC (Y i c)):=fun e he=>by rw[rdJ_c];exact ky (by omega) e he
   refine s_r 5 ?_;refine a_2 ?_;refine o_0 (.load_l1 rfl ho3 (hg3 _ (by omega)) TG.h rfl) ?_;refine a_z ?_;refine s_r 6 ?_;refine a_3 ?_;refine o_0 (.load_l rfl hce (hgc _ (by omega)) TG.h TS.h (nle rfl)) ?_;refine a_z ?_;refine AWp.ent (st':=⟨[(0,.lsl 0 0 n none 1),(2,bln false),(3,.aptr [[i64 c]] 0 0),(7,i64 i),(8,.lsl (i+2) 0 (n+1) none 3),(9,bQ (Y i c)),(12,i64 n),(13,i64 c),(74,.lsl 0 0 n none 1),(75,i64 n),(76,i64 i)],rzH 29 42 (fun k=>aL (n+1) (rdJ Y c c i 0 k)) n,40,118⟩) ?_ ?_;refine(SEntT.rz1 (by omega) ?_ ?_ fun hs=>kY hs).ent
   ·repeat rw[bi (by decide)]
    exact cW
   ·intro k hk
    repeat rw[bi (by omega)]
    exact cP (R:=fun k=>aL (n+1) (rdJ Y c c i 0 k)) hk
   by_cases hir:i=c;refine s_r 8 ?_;refine a_2 ?_;refine o_0 (.bin rfl rfl (vF cu (ntF (by omega)))) ?_;refine a_1 ?_;refine n_g rfl d_f ?_;refine n_g rfl d_f ?_;refine n_g rfl d_f ?_;refine o_0 (.pickF rfl d_f rfl) ?_;refine aq ?_;refine cF (an (r_m 2 ?_));refine a_z ?_;refine⟨i+1,by omega,by omega,?_⟩;rw[rcI.eq_1,xK (.inl hir)];exact(SEntT.rz1 (by omega) cW (fun i hi=>cP hi) fun hs=>kY hs).ent;by_cases hic:Y i c=0;refine s_r 8 ?_;refine a_2 ?_;refine o_0 (.bin rfl rfl (vT cu (ntT (by omega)))) ?_;refine a_1 ?_
   first|refine y_g rfl d_t (.load_l rfl rfl rfl TG.h TS.h (nle rfl)) ?_|refine y_g rfl d_t (.load_a rfl rfl TG.h TS.h (nle rfl)) ?_
   refine y_g rfl d_t (.call rfl rfl rfl (b6 (Y i c))) ?_;refine y_g rfl d_t (.bin rfl rfl (vF cu (ntF (sgZ_num_eq.2 hic)))) ?_;refine o_0 (.pickT rfl d_t rfl) ?_;refine aq ?_;refine cF (an (r_m 2 ?_));refine a_z ?_;refine⟨i+1,by omega,by omega,?_⟩;rw[rcI.eq_1,xK (.inr hic)];exact(SEntT.rz1 (by omega) cW (fun i hi=>cP hi) fun hs=>kY hs).ent;refine s_r 8 ?_;refine a_2 ?_;refine o_0 (.bin rfl rfl (vT cu (ntT (by omega)))) ?_;refine a_1 ?_
   first|refine y_g rfl d_t (.load_l rfl rfl rfl TG.h TS.h (nle rfl)) ?_|refine y_g rfl d_t (.load_a rfl rfl TG.h TS.h (nle rfl)) ?_
   refine y_g rfl d_t (.call rfl rfl rfl (b6 (Y i c))) ?_;refine y_g rfl d_t (.bin rfl rfl (vT cu (ntT (mt sgZ_num_eq.1 hic)))) ?_;refine o_0 (.pickT rfl d_t rfl) ?_;refine aq ?_;refine cT (r_z 3 ?_);refine AWp.cutB (fun _:Unit=>rcJ Y n c i (n+1)) (fun _=>True) ?_ ?_
   ·refine ak (aC (rcJ Y n c i) (fun j=>n+1- j) (fun j=>j≤n+1) 0 (Nat.zero_le _) ?_ ?_)
    rw[rcJ.eq_1];exact(SEntT.rz1 (by omega) cW (fun i hi=>cP hi) fun hs=>kY hs).ent;intro j hj;rw[rcJ.eq_1];by_cases hjn:j< n+1;rotate_left;have hge:j=n+1:=by omega
    subst hge;refine q_z 1 ?_;refine ae (cF (aB ⟨(),trivial,?_⟩));exact(SEntT.rz1 (by omega) cW (fun i hi=>cP hi) fun hs=>kY hs).ent;refine q_z 1 ?_;refine ae (cT (an (ae (ak (r_z 2 ?_)))));have hmu:=c7 (Y i c) (Y c j) (by have:=hqS i c hin (by omega);have:=hqS c j hlt (by omega);omega);have hsu:=gx (Y i j) (Y i c* Y c j) (by have:=hqS i c hin (by omega);have:=hqS c j hlt (by omega);have:=hqS i j hin (by omega);have:=e8 (Y i c) (Y c j);omega);have hcei:=lj (TS:=29) (TQ:=42) (R:=fun k=>aL (n+1) (rdJ Y c c i j k)) hin;have hcer:=lj (TS:=29) (TQ:=42) (R:=fun k=>aL (n+1) (rdJ Y c c i j k)) hlt;have ho5:=fF (cW (TS:=29) (TQ:=42) (n:=n) (R:=fun k=>aL (n+1) (rdJ Y c c i j k))) (show(1:Nat)≠0 by decide);have hg6:∀e,e=c→(rwO (fun k=>aL (n+1) (rdJ Y c c i j k)) (fun x=>x) n)[e]?=some [.lsl (c+2) 0 (n+1) none 3]:=fun e he=>by rw[eU hlt e he];simp
    have hgi:∀e,e=j→(pE (aL (n+1) (rdJ Y c c i j i)))[e]?=some (qC (Y i j)):=fun e he=>by rw[ky hjn e he,rdJ_at]
    have hgr:∀e,e=j→(pE (aL (n+1) (rdJ Y c c i j c)))[e]?=some (qC (Y c j)):=fun e he=>by rw[ky hjn e he,rdJ_r]
    refine r_d hmix 18 ?_;refine a_5 ?_;refine o_0 (.load_l rfl hcei (hgi _ (by omega)) TG.h TS.h (nle rfl)) ?_;refine a_4 ?_;refine o_0 (.load_l1 rfl ho5 (hg6 _ (by omega)) TG.h rfl) ?_;refine a_2 ?_;refine o_0 (.load_l rfl hcer (hgr _ (by omega)) TG.h TS.h (nle rfl)) ?_;refine c_s (hmu) ?_;refine c_s (hsu) ?_;refine a_1 ?_;refine ep (.store rfl hcei (hgi _ (by omega)) rfl rfl rfl TS.h (nle rfl)) ?_;refine aq (n_k ?_);refine r_m 2 ?_;refine a_z ?_;refine⟨j+1,by omega,by omega,?_⟩;rw[rcJ.eq_1,rdJ_s hir];exact(Ep (by omega) hin hjn (by omega) fun hs=>kY hs).ent
   rintro _ _;show AWp _ _ _ _ (rcJ Y n c i (n+1));rw[rcJ.eq_1,show(fun k=>aL (n+1) (rdJ Y c c i (n+1) k))=fun k=>aL (n+1) (rdJ Y c c (i+1) 0 k) from funext fun k=>sw fun j hj=>rdJ_n i k j hj];refine r_m 2 ?_;refine a_z ?_;refine⟨i+1,by omega,by omega,?_⟩;rw[rcI.eq_1];exact(SEntT.rz1 (by omega) cW (fun i hi=>cP hi) fun hs=>kY hs).ent
  rintro _ _;show AWp _ _ _ _ (rcI Y n c n);rw[rcI.eq_1,CZ (R:=fun k=>aL (n+1) (rdJ Y c c n 0 k)) (R':=fun k=>aL (n+1) (rdM Y c c k)) fun k hk=>(sw fun j _=>rdJ_end hk j:rT n (rdJ Y c c n 0) k=rT n (rdM Y c c) k),←hn1];refine r_m 2 ?_;refine a_z ?_;refine⟨c+1,by omega,by omega,?_⟩;rw[rcS.eq_1];exact(SEntT.rz1 (by omega) cW (fun i hi=>cP hi) fun hs=>kY hs).ent
 rintro _ _;rw[rcS.eq_1];refine r_z 1 ?_;refine am (FinX.of ?_);exact(SEntT.rz1 (by omega) cW (fun i hi=>cP hi) fun hs=>kY hs).ent
def atZ(c:Lq)(z:Int):Rat:=if z< 0 then 0 else coP c z.toNat
theorem atZ_at(c:Lq)(s j:Nat)(z:Int)(h:z=(s:Int)- (j:Int)):atZ c z=atQ c s j:=by
 subst h;unfold atZ atQ;by_cases h:j≤s;rw[if_neg (by omega),if_pos h,show((s:Int)- (j:Int)).toNat=s- j by omega];rw[if_pos (by omega),if_neg h]
theorem cC(c:Lq):Closed (.aptr [[.arr (pE c)]] 0 0):=aX (ac (ao c) ai)
theorem Ft(c:Lq)(z:Int)(h1: -1000≤z)(h2:z< c.length)(hl:c.length≤1000):FS 69 [i64 z,.aptr [[.arr (pE c)]] 0 0] (.agg (qC (atZ c z))):=by
 have hcl:(pE c).length=c.length:=by simp[pE]
 refine f_n Tryz.func69 ?_ ?_;exact ac (ag _) (ac (cC c) ai);refine r_z 1 ?_;by_cases hz:z< 0;refine ae (q_z 2 ?_);refine cT (r_z 2 ?_);refine am ?_;unfold atZ;rw[if_pos hz,qC0];exact Fin.cell rfl rfl rfl TG.h TS.h (nle rfl) (Cv.agg (af (Cv.emp _) (af (ah aE (ag _)) (af (Cv.emp _) ay))));refine ae (q_z 2 ?_);refine cF (an ?_);have hg:(pE c)[z.toNat]?=some (qC (coP c z.toNat)):=bK (bm (by omega));refine s_r 5 ?_;refine a_2 ?_;refine i_x hg ?_;refine l_x hg ?_;refine a_z ?_;refine am (dG rfl rfl rfl TG.h TS.h (nle rfl) ?_ ?_);unfold atZ;rw[if_neg hz];rfl;exact aK (aU _)
theorem jl(c:Lq):Closed (.clos 69 [] [.aptr [[.arr (pE c)]] 0 0]):=aT ai (ac (cC c) ai)
def quR(c:Lq)(m n k:Nat):Lq:=aL (n+1) (quM c m n k)
def quO(c:Lq)(m n:Nat):Nat→AState
 |i=>⟨[(1,i64 m),(2,i64 n),(3,.aptr [[.arr (pE c)]] 0 0),(9,.clos 69 [] [.aptr [[.arr (pE c)]] 0 0]),(10,oV i),(11,i64 ((m+1+i:Nat):Int))],hI 29 42 (quR c m n) i (fun _=>0) 0,40,116⟩
def quI(c:Lq)(m n i:Nat):Nat→AState
 |j=>⟨[(1,i64 m),(2,i64 n),(3,.aptr [[.arr (pE c)]] 0 0),(9,.clos 69 [] [.aptr [[.arr (pE c)]] 0 0]),(10,oV i),(11,i64 ((m+1+i:Nat):Int)),(12,rV j),(13,i64 ((j+1:Nat):Int))],hI 29 42 (quR c m n) i (quM c m n i) j,40,116⟩
theorem EG{r:Ren}{hp hp':Hq}{fr fr':Fr}{c:Lq}(hs:Shr r hp hp')(h:CvF r hp hp' fr fr':=by repeat' (first|exact aG|refine aj rfl ?_ ?_|exact ah hs (cC c)|exact ah hs (jl c)|exact ah hs (ag _)|exact ah hs aN|exact Gq hs rfl|exact Cv_rV hs rfl|exact Cv.sl rfl rfl rfl|(refine Cv.loE hs ?_ (ag _);simp[i64];done)|(refine Cv.loE hs ?_ (ag _);simp[i64];omega))):CvF r hp hp' fr fr':=h
noncomputable def quRest:Code:=match Tryz.f18.body with|some (.seq _ (.seq _ (.seq _ (.seq _ (.seq _ y)))))=>y|_=> .skip
theorem qu_rows (c:Lq) (m n:Nat) (hn:n≤19) (hm:m≤19) (hmn:m+n+1≤20) (hl:m+n+1≤c.length) (hc:c.length≤1000) (v:AV)
    (hrest:AWp none Tryz.prog quRest (Fin Tryz.prog Tryz.f18.results.toList v) ⟨[(1,i64 m),(2,i64 n),(3,.aptr [[.arr (pE c)]] 0 0),(10,oV n)],hI 29 42 (quR c m n) n (fun _=>0) 0,40,116⟩):
    FS 18 [.arr (pE c),i64 m,i64 n] v:=by
 have hcl:(pE c).length=c.length:=by simp[pE]
 refine f_c Tryz.func18 ?_;refine r_z 4 ?_;refine aZ (fun _:Unit=>⟨[(1,i64 m),(2,i64 n),(3,.aptr [[.arr (pE c)]] 0 0)],[],1,116⟩) (fun _=>True) ?_ ?_;refine ak (q_z 22 ?_);refine cF (q_z 8 ?_);refine cF (an (⟨(),trivial,?_⟩));have:=cC c;exact s_f [];rintro _ _;refine r_z 2 ?_;refine r_z 1 ?_;refine ae (r_z 3 ?_);refine aH (fun _:Unit=>quO c m n n) (fun _=>True) ?_ ?_
 ·refine ak (aC (quO c m n) (fun i=>n- i) (fun i=>i≤n) 0 (Nat.zero_le _) ?_ ?_)
  rw[quO.eq_1];exact(SEntT.hi1 (by omega) (fun h=>absurd rfl h) (fun k hk=>by omega) (fun h=>absurd rfl h) fun hs=>EG (c:=c) hs).ent;intro i hi;rw[quO.eq_1];by_cases hin:i< n;rotate_left;have hge:i=n:=by omega
  rw[hge];refine ae (q_z 5 ?_);refine cF (aB ⟨(),trivial,?_⟩);exact(SEntT.hi1 (by omega) (fun h=>lI h) (fun k hk=>kI (by omega) hk) (fun h=>absurd rfl h) fun hs=>EG (c:=c) hs).ent;refine ae (q_z 5 ?_);refine cT (an (ae (ak (r_z 1 ?_))));refine ae (r_z 1 ?_);refine aH (fun _:Unit=>quI c m n i n) (fun _=>True) ?_ ?_
  ·refine ak (aC (quI c m n i) (fun j=>n- j) (fun j=>j≤n) 0 (Nat.zero_le _) ?_ ?_)
   rw[quI.eq_1];exact(SEntT.hi1 (by omega) (fun h=>lI h) (fun k hk=>kI (by omega) hk) (fun h=>absurd rfl h) fun hs=>EG (c:=c) hs).ent;intro j hj;rw[quI.eq_1];by_cases hjn:j< n;rotate_left;have hge:j=n:=by omega
   rw[hge];refine ae (q_z 3 ?_);refine cF (aB ⟨(),trivial,?_⟩);refine(SEntT.hi1 (by omega) (fun h=>lI h) (fun k hk=>kI (by omega) hk) (fun h=>?_) fun hs=>EG (c:=c) hs).ent;obtain⟨n',rfl⟩:∃n',n=n'+1:=⟨n- 1,by omega⟩;rfl;have hat:=Ft c (((m+1+i:Nat):Int)- ((j+1:Nat):Int)) (by omega) (by omega) hc;rw[atZ_at c (m+i) j _ (by omega)] at hat;have hrow:quM c m n i j=atQ c (m+i) j:=if_neg (by omega);have hnew:pE (aL (j+1) (quM c m n i))=pE (aL j (quM c m n i))++[qC (atQ c (m+i) j)]:=by rw[←hrow];simp[pE,aL,List.range_succ]
   refine ae (q_z 3 ?_);refine cT (an (ae (ak ?_)));cases j with
   |zero=>
    refine r_m 9 ?_;refine c_s (hat) ?_;refine a_z ?_;refine r_m 3 ?_;refine a_z ?_;refine⟨0+1,by omega,by omega,?_⟩;rw[quI.eq_1];refine(SEntT.hi (sG 50) (by omega) rfl (fun x y=>En (by omega) (by omega) x y) ?_ ?_ ?_ ?_).ent
    ·intro h
     rw[mC (by decide)]
     repeat rw[bi (by decide)]
     rw[lI h,iP (R':=quR c m n) (s':=sG 50)];exact fun k hk=>⟨rfl,(mC (by omega)).symm⟩
    ·intro k hk
     rw[mC (by omega)]
     repeat rw[bi (by omega)]
     exact kI (by omega) hk
    intro _;rw[hnew];rfl;intro hs;exact aj rfl (ah hs (ag _)) (aj rfl (ah hs (ag _)) (aj rfl (ah hs (cC c)) (aj rfl (ah hs (jl c)) (aj rfl (Gq hs rfl) (aj rfl (ah hs (ag _)) (aj rfl (Cv.sl rfl rfl rfl) (aj rfl (Cv.loE hs (by simp[i64]) (ag _)) aG)))))))
   |succ j=>
    have hlen:(pE (aL (j+1) (quM c m n i))).length=j+1:=by simp[pE]
    have hone:=cL (aL (j+1) (quM c m n i));refine r_m 9 ?_;refine c_s (hat) ?_;refine a_z ?_;refine r_m 3 ?_;refine a_z ?_;refine⟨j+1+1,by omega,by omega,?_⟩;rw[quI.eq_1];refine(SEntT.hi (sG 50) (by omega) rfl (fun x y=>En (by omega) (by omega) x y) ?_ ?_ ?_ ?_).ent
    ·intro h
     rw[mC (by decide)]
     repeat rw[bi (by decide)]
     rw[lI h,iP (R':=quR c m n) (s':=sG 50)];exact fun k hk=>⟨rfl,(mC (by omega)).symm⟩
    ·intro k hk
     rw[mC (by omega)]
     repeat rw[bi (by omega)]
     exact kI (by omega) hk
    intro _;rw[hnew];rfl;intro hs;exact aj rfl (ah hs (ag _)) (aj rfl (ah hs (ag _)) (aj rfl (ah hs (cC c)) (aj rfl (ah hs (jl c)) (aj rfl (Gq hs rfl) (aj rfl (ah hs (ag _)) (aj rfl (Cv.sl rfl rfl rfl) (aj rfl (Cv.loE hs (by simp[i64];try omega) (ag _)) aG)))))))
  rintro _ _;show AWp _ _ _ _ (quI c m n i n);rw[quI.eq_1];obtain⟨n',rfl⟩:∃n',n=n'+1:=⟨n- 1,by omega⟩;have hat:=Ft c ((m+1+i:Nat):Int) (by omega) (by omega) hc;have haz:atZ c ((m+1+i:Nat):Int)=coP c (m+1+i):=by unfold atZ;rw[if_neg (by omega)];rfl
  rw[haz] at hat;have hne:=jf (coP c (m+1+i));have hlast:quM c m (n'+1) i (n'+1)= -coP c (m+1+i):=if_pos rfl
  have hnew:pE (quR c m (n'+1) i)=pE (aL (n'+1) (quM c m (n'+1) i))++[qC (-coP c (m+1+i))]:=by
   unfold quR;rw[←hlast];simp[pE,aL,List.range_succ]
  have hlen:(pE (aL (n'+1) (quM c m (n'+1) i))).length=n'+1:=by simp[pE]
  have hone:=cL (aL (n'+1) (quM c m (n'+1) i));cases i with
  |zero=>
   refine r_m 11 ?_;refine c_s (hat) ?_;refine c_s (hne) ?_;refine a_z ?_;refine r_m 3 ?_;refine a_z ?_;refine⟨0+1,by omega,by omega,?_⟩;rw[quO.eq_1];refine(SEntT.hi (sD 0 49 47) (by omega) rfl (fun x y=>Eo (by omega) (by omega) (by omega) (by omega) x y) ?_ ?_ (fun h=>absurd rfl h) ?_).ent;intro _;rw[←xG (m:=n'+1+1) (by simp[quR])];rfl;intro k hk;obtain rfl:k=0:=by omega
   rw[hnew];rfl;intro hs;exact aj rfl (ah hs (ag _)) (aj rfl (ah hs (ag _)) (aj rfl (ah hs (cC c)) (aj rfl (ah hs (jl c)) (aj rfl (Cv.sl rfl rfl rfl) (aj rfl (Cv.loE hs (by simp[i64];try omega) (ag _)) aG)))))
  |succ i=>
   have hlo:(rwO (quR c m (n'+1)) (fun x=>x) (i+1)).length=i+1:=by simp
   have hoo:=rwO_one (quR c m (n'+1)) (fun x=>x) (i+1);refine r_m 11 ?_;refine c_s (hat) ?_;refine c_s (hne) ?_;refine o_1 (.buildSlice te_29.h TZ.h rfl (by decide) rfl rfl rfl (by first|(simp;done)|(simp[cK,ofV];done)|rfl)) ?_;refine o_2 (.append_l rfl rfl rfl te_29.h rfl rfl rfl rfl rfl d_o (by first|exact dh _|exact df _|exact cL _|exact di _|exact de _|assumption|rfl|simp) (by first|rfl|exact dh _|exact df _|exact cL _|exact di _|exact de _|simp) rfl (.lsl rfl (nle rfl)) TZ.h rfl TB.h d_o (by first|(simp[maxLen];done)|(simp[maxLen];omega))) ?_;refine o_1 (.buildSlice te_117.h TZ.h rfl (by decide) rfl rfl rfl (by first|(simp;done)|(simp[cK,ofV];done)|rfl)) ?_;refine o_2 (.append_l rfl rfl rfl te_117.h rfl rfl rfl rfl rfl d_o (by first|exact dh _|exact df _|exact cL _|exact di _|exact de _|assumption|rfl|simp) (by first|rfl|exact dh _|exact df _|exact cL _|exact di _|exact de _|simp) rfl (.lsl rfl (nle rfl)) TZ.h rfl TB.h d_o (by first|(simp[maxLen];done)|(simp[maxLen];omega))) ?_;refine o_0 (.assign rfl) ?_;refine aq ?_;refine r_m 3 ?_;refine a_z ?_;refine⟨i+1+1,by omega,by omega,?_⟩;rw[quO.eq_1];refine(SEntT.hi (sD (i+1) 49 47) (by omega) rfl (fun x y=>Eo (by omega) (by omega) (by omega) (by omega) x y) ?_ ?_ (fun h=>absurd rfl h) ?_).ent;intro _;rw[←xG (m:=n'+1+1) (by simp[quR])];rfl;intro k hk;by_cases hki:k=i+1;subst hki;rw[CY,hnew];rfl
   ·rw[qf (by omega) (by omega)]
    repeat rw[bi (by omega)]
    exact kI (by omega) (by omega)
   intro hs;exact aj rfl (ah hs (ag _)) (aj rfl (ah hs (ag _)) (aj rfl (ah hs (cC c)) (aj rfl (ah hs (jl c)) (aj rfl (Cv.sl rfl rfl rfl) (aj rfl (Cv.loE hs (by simp[i64];try omega) (ag _)) aG)))))
 rintro _ _;show AWp _ _ _ _ (quO c m n n);rw[quO.eq_1];refine AWp.ent ?_ hrest;exact(SEntT.hi1 (by omega) (fun h=>lI h) (fun k hk=>kI (by omega) hk) (fun h=>absurd rfl h) fun hs=>EG (c:=c) hs).ent
def nE(L:Ln):Lc:=L.map fun(k:Nat)=>[i64 (k:Int)]
@[simp] theorem iQ (L:Ln):(nE L).length=L.length:=by simp[nE]
theorem dm(L:Ln):∀e∈nE L,∀c∈e,Closed c:=fun e he=>by
 obtain⟨k,_,rfl⟩:=List.mem_map.1 he;exact ac (ag _) ai
theorem ce(L:Ln):Closed (.arr (nE L)):=aP (dm L)
theorem kz{L:Ln}{k e:Nat}(h:k< L.length)(he:e=k):(nE L)[e]?=some [i64 (L.getD k 0:Nat)]:=by
 subst he;rw[nE,List.getElem?_map,List.getElem?_eq_getElem h,List.getD_eq_getElem?_getD,List.getElem?_eq_getElem h];rfl
theorem sS(L:Ln):(nE L).all (·.all AV.one)=true:=by
 simp only[nE,List.all_map,List.all_eq_true];intro q _;rfl
theorem wa(L:Ln):∀e∈nE L,e.length=1:=fun e he=>by
 obtain⟨k,_,rfl⟩:=List.mem_map.1 he;rfl
theorem nE_take(L:Ln)(k:Nat):(nE L).take k=nE (L.take k):=by simp[nE,List.map_take]
theorem nE_drop(L:Ln)(k:Nat):(nE L).drop k=nE (L.drop k):=by simp[nE,List.map_drop]
theorem po(L M:Ln):nE (L++M)=nE L++nE M:=by simp[nE]
theorem E2(L:Ln)(k x e:Nat)(he:e=k):(nE L).set e [i64 (x:Int)]=nE (L.set k x):=by
 subst he;simp[nE,List.map_set]
theorem C4(L:Ln)(h0:L≠[])(hl:L.length≤1000000):OSpec Tryz.prog 193 [.arr (nE L)] 3 1 (nE L):=by
 have hne:nE L≠[]:=by
  intro e;exact h0 (List.length_eq_zero_iff.1 (by rw[←iQ,e];rfl))
 have hll:(nE L).length=L.length:=iQ L;have hon:=sS L;refine OSpec.enter Tryz.func193 rfl (by kernel_rfl) rfl rfl rfl ?_ ?_ rfl ?_;exact ac (ce L) ai;exact dm L;refine r_z 1 ?_;refine ae (s_r 2 ?_);refine a_1 ?_
 first|refine ax (.nilq_v rfl rfl te_45.h) rfl rfl ?_|refine ax (.nilq_arr rfl (hne) rfl te_45.h) rfl rfl ?_
 refine aq ?_;refine cF ?_
 ·refine an (s_r 4 ?_)
  refine a_2 ?_;refine o_2 (.append_l rfl rfl rfl te_45.h rfl rfl rfl rfl rfl d_o (by first|exact dh _|exact df _|exact cL _|exact di _|exact de _|assumption|rfl|simp) (by first|rfl|exact dh _|exact df _|exact cL _|exact di _|exact de _|simp) rfl (.arr (wa _)) TZ.h rfl TB.h d_o (by first|(simp[maxLen];done)|(simp[maxLen];omega))) ?_;refine a_z ?_;exact am (FinO.tmp rfl rfl rfl (by simp))
theorem xg(t:Nat→Bool):∀(f i j:Nat),i≤j→i≤bsM t f i j∧bsM t f i j≤j
 |0,i,j,h=>⟨Nat.le_refl _,h⟩
 |f+1,i,j,h=>by
  rw[bsM];by_cases hlt:i< j;rw[if_pos hlt];split;have:=xg t f ((i+j) / 2+1) j (by omega);omega;have:=xg t f i ((i+j) / 2) (by omega);omega;rw[if_neg hlt];omega
def bsS(L:Ln)(x g:Nat):Nat×Nat→AState
 |(i,j)=>⟨[(0,.arr (nE L)),(1,i64 x),(2,.clos g [] []),(8,i64 L.length),(9,i64 i),(10,i64 j)],[],1,49⟩
theorem A1(L:Ln)(x g:Nat)(hl:L.length≤1000000)(hL:∀a∈L,a≤1000000)(hx:x≤1000000)(hg:∀a:Nat,a≤1000000→FS g [i64 a,i64 x] (i64 ((a:Int)- (x:Int)))):
    FS 191 [.arr (nE L),i64 x,.clos g [] []] (.tup [i64 (bsL L x:Nat),bln (decide (bsL L x< L.length) && decide (L.getD (bsL L x) 0=x))]):=by
 have hll:(nE L).length=L.length:=iQ L;have hcc:Closed (.clos g [] []):=aT ai ai;obtain⟨R,hR⟩:∃R,R=bsL L x:=⟨_,rfl⟩;have hRle:R≤L.length:=by rw[hR];exact(xg _ _ 0 L.length (Nat.zero_le _)).2
 rw[←hR]
 have hgd:∀k,L.getD k 0≤1000000:=fun k=>by
  rw[List.getD_eq_getElem?_getD];cases h:L[k]? with
  |none=>decide
  |some v=>exact hL v (List.mem_of_getElem? h)
 refine f_n Tryz.func191 ?_ ?_;exact ac (ce L) (ac (ag _) (ac hcc ai));refine r_z 2 ?_;refine r_z 3 ?_;refine r_z 3 ?_;refine aZ (fun _:Unit=>⟨[(0,.arr (nE L)),(1,i64 x),(2,.clos g [] []),(8,i64 L.length),(9,i64 R)],[],1,49⟩) (fun _=>True) ?_ ?_;refine ak (aC (fun p:Nat×Nat=>bsS L x g p) (fun p=>p.2- p.1) (fun p=>p.1≤p.2∧p.2≤L.length∧∃f,p.2- p.1≤f∧bsM (fun h=>decide (L.getD h 0< x)) f p.1 p.2=R) (0,L.length) ⟨Nat.zero_le _,Nat.le_refl _,L.length,by simp,by rw[hR];rfl⟩ ?_ ?_);simp only[bsS.eq_1];exact s_x [] (fun hs=>e_11) (fun hs=>e_12);rintro⟨i,j⟩ ⟨h1,h2,f,h3,h4⟩;simp only at h1 h2 h3 h4;rw[bsS.eq_1];by_cases hlt:i< j;refine ae (q_z 3 ?_);refine cT (an ?_);obtain⟨f,rfl⟩:∃f',f=f'+1:=⟨f- 1,by omega⟩;rw[bsM,if_pos hlt] at h4;obtain⟨m,hm⟩:∃m,m=(i+j) / 2:=⟨_,rfl⟩;rw[←hm] at h4;have hmj:m< j:=by omega
 have hge:∀e:Nat,e=m→(nE L)[e]?=some [i64 (L.getD m 0:Nat)]:=fun e he=>kz (by omega) he;have hgm:=hg (L.getD m 0) (hgd m);refine ak (s_r 7 ?_);refine a_4 ?_;refine o_0 (.bin rfl rfl (DR (by omega))) ?_;refine a_z ?_;rw[show(((i:Nat):Int)+((j:Nat):Int)) / 2=((m:Nat):Int) by omega];have hd1:=hgd m;by_cases hc:L.getD m 0< x;rw[if_pos (decide_eq_true hc)] at h4;refine s_r 8 ?_;refine a_3 ?_
 first|refine ax (.index_l rfl rfl (by omega) (by omega) te_45.h) rfl rfl ?_|refine ax (.index_a rfl rfl (by omega) (hge _ (by omega)) rfl te_45.h) rfl rfl ?_
 first|refine ax (.load_l1 rfl rfl (hge _ (by omega)) TG.h rfl) rfl rfl ?_|refine ax (.load_a1 rfl (hge _ (by omega)) TG.h rfl) rfl rfl ?_
 refine c_s (hgm) ?_;refine d_z ?_;refine cT (r_m 3 ?_);refine a_z ?_;refine⟨(m+1,j),by simp only;omega,⟨by simp only;omega,h2,f,by simp only;omega,h4⟩,?_⟩;rw[bsS.eq_1];exact s_x [] (fun hs=>e_11) (fun hs=>e_12);rw[if_neg (by simpa using hc)] at h4;refine s_r 8 ?_;refine a_3 ?_
 first|refine ax (.index_l rfl rfl (by omega) (by omega) te_45.h) rfl rfl ?_|refine ax (.index_a rfl rfl (by omega) (hge _ (by omega)) rfl te_45.h) rfl rfl ?_
 first|refine ax (.load_l1 rfl rfl (hge _ (by omega)) TG.h rfl) rfl rfl ?_|refine ax (.load_a1 rfl (hge _ (by omega)) TG.h rfl) rfl rfl ?_
 refine c_s (hgm) ?_;refine d_z ?_;refine cF (r_m 2 ?_);refine a_z ?_;refine⟨(i,m),by simp only;omega,⟨by simp only;omega,by simp only;omega,f,by simp only;omega,h4⟩,?_⟩;rw[bsS.eq_1];exact s_x [] (fun hs=>e_11) (fun hs=>e_12)
 have hge:i=R:=by
  rw[←h4];cases f with
  |zero=>rfl
  |succ f=>rw[bsM,if_neg hlt]
 subst hge;refine ae (q_z 3 ?_);refine cF (aB ⟨(),trivial,?_⟩);exact s_x [] (fun hs=>e_11) (fun hs=>e_12);rintro _ _;by_cases hlt:R< L.length;have hge:∀e:Nat,e=R→(nE L)[e]?=some [i64 (L.getD R 0:Nat)]:=fun e he=>kz hlt he;have hgm:=hg (L.getD R 0) (hgd R);have hd1:=hgd R;rw[decide_eq_true hlt,Bool.true_and];by_cases hc:L.getD R 0=x;refine s_r 16 ?_;refine d_8 ?_
 first|refine bv rfl rfl rfl (.index_l rfl rfl (by omega) (by omega) te_45.h) rfl rfl ?_|refine bv rfl rfl rfl (.index_a rfl rfl (by omega) (hge _ (by omega)) rfl te_45.h) rfl rfl ?_
 first|refine bv rfl rfl rfl (.load_l1 rfl rfl (hge _ (by omega)) TG.h rfl) rfl rfl ?_|refine bv rfl rfl rfl (.load_a1 rfl (hge _ (by omega)) TG.h rfl) rfl rfl ?_
 refine e_s (hgm) ?_;refine bv rfl rfl rfl (.bin rfl rfl (vT aV (eqI (by omega)))) rfl rfl ?_;refine a_z ?_;refine am ?_;rw[decide_eq_true hc];refine Fin.many ⟨_,_,rfl,rfl,⟨_,_,rfl,rfl,rfl⟩⟩ (nle rfl) ?_;exact af (ah aE (ag _)) (af (ah aE (ag _)) ay);refine s_r 16 ?_;refine d_8 ?_
 first|refine bv rfl rfl rfl (.index_l rfl rfl (by omega) (by omega) te_45.h) rfl rfl ?_|refine bv rfl rfl rfl (.index_a rfl rfl (by omega) (hge _ (by omega)) rfl te_45.h) rfl rfl ?_
 first|refine bv rfl rfl rfl (.load_l1 rfl rfl (hge _ (by omega)) TG.h rfl) rfl rfl ?_|refine bv rfl rfl rfl (.load_a1 rfl (hge _ (by omega)) TG.h rfl) rfl rfl ?_
 refine e_s (hgm) ?_;refine bv rfl rfl rfl (.bin rfl rfl (vF aV (neI (by omega)))) rfl rfl ?_;refine a_z ?_;refine am ?_;rw[decide_eq_false hc];refine Fin.many ⟨_,_,rfl,rfl,⟨_,_,rfl,rfl,rfl⟩⟩ (nle rfl) ?_;exact af (ah aE (ag _)) (af (ah aE (ag _)) ay);refine q_z 16 ?_;refine am ?_;rw[decide_eq_false hlt,Bool.false_and];refine Fin.many ⟨_,_,rfl,rfl,⟨_,_,rfl,rfl,rfl⟩⟩ (nle rfl) ?_;exact af (ah aE (ag _)) (af (ah aE (ag _)) ay)
theorem Fu(a b:Nat)(ha:a≤1000000)(hb:b≤1000000):FS 142 [i64 a,i64 b] (i64 ((a:Int)- (b:Int))):=by
 refine f_c Tryz.func142 ?_;refine r_z 1 ?_;refine r_z 4 ?_;exact am (t_e (ag _))
abbrev bS1(sg:Int):AV:= .aptr [[i64 sg]] 0 0
theorem bO(sg:Int):Closed (bS1 sg):=aX (ac (ag _) ai)
theorem wu(k:Nat)(sg:Int)(hs: -1≤sg∧sg≤1)(hk:k≤1000000):FS 192 [i64 k,bS1 sg] (i64 (sdE sg k)):=by
 refine f_n Tryz.func192 ?_ ?_;exact ac (ag _) (ac (bO sg) ai);refine r_z 1 ?_;by_cases h1:k % 2=1;rw[show sdE sg k= -sg from if_pos h1];refine ae (s_r 3 ?_);refine a_2 ?_;refine o_0 (.bin rfl rfl (vT aV (eqI (by omega)))) ?_;refine aq ?_;refine cT (r_z 3 ?_);exact am (t_e (ag _));rw[show sdE sg k=sg from if_neg h1];refine ae (s_r 3 ?_);refine a_2 ?_;refine o_0 (.bin rfl rfl (vF aV (neI (by omega)))) ?_;refine aq ?_;refine cF (an (r_z 2 ?_));exact am (t_e (ag _))
def exS(u:Unit):Ln→AState
 |L=>⟨[(14,.lsl 1 0 L.length none 1)],[(1,some ⟨3,1,nE L⟩)],2,85⟩
theorem yA(L:Ln)(x:Nat)(sg own:Int)(hl:2≤L.length∧L.length≤1000)(hL:∀a∈L,a≤1000000)(hx:x≤1000000)(hs: -1≤sg∧sg≤1):
    FS 141 [.arr (nE L),i64 x,.clos 142 [] [],i64 sg,i64 own] (.arr (nE (exM L x sg own))):=by
 have hll:(nE L).length=L.length:=iQ L;have hon:=sS L;have hcc:Closed (.clos 142 [] []):=aT ai ai;have hbs:=A1 L x 142 (by omega) hL hx fun a ha=>Fu a x ha hx;obtain⟨i,hi⟩:∃i,i=bsL L x:=⟨_,rfl⟩;have hile:i≤L.length:=by rw[hi];exact(xg _ _ 0 L.length (Nat.zero_le _)).2
 rw[←hi] at hbs;obtain⟨l,hll2⟩:∃l,L.length=l+1:=⟨L.length- 1,by omega⟩;have hcl:=C4 L (by intro e;rw[e] at hll2;cases hll2) (by omega);have hs0:=wu 0 sg hs (by decide);have hsl:=wu l sg hs (by omega);have hsi:=wu i sg hs (by omega);have hclc:Closed (.clos 192 [] [bS1 sg]):=aT ai (ac (bO sg) ai);refine f_n Tryz.func141 ?_ ?_;exact ac (ce L) (ac (ag _) (ac hcc (ac (ag _) (ac (ag _) ai))));refine r_z 2 ?_;refine r_c 9 (hbs) ?_;refine a_z ?_;refine AWp.ent (st':=⟨[(0,.arr (nE L)),(1,i64 x),(4,i64 own),(8,bS1 sg),(11,i64 i)],[],1,85⟩) ?_ ?_;refine s_x [] (fun hs=>?_) (fun hs=>?_)
 ·repeat' (first|exact aG|refine aj rfl ?_ ?_|exact ah hs (ce L)|exact Cv.boxp hs rfl (aQ rfl) rfl (ac (ag _) ai)|exact aW)
 ·repeat' (first|exact aD|refine h_c ?_ ?_|exact bC|refine aw ?_|exact ay|refine af ?_ ?_|exact ah hs (ce L)|exact Cv.boxp hs rfl (aQ rfl) rfl (ac (ag _) ai)|exact aW)
 refine r_z 2 ?_;refine s_r 3 ?_;refine a_1 ?_;refine o_1 (.callO rfl rfl rfl (hcl)) ?_;refine a_z ?_;refine AWp.ent (st':=⟨[(0,.arr (nE L)),(1,i64 x),(4,i64 own),(11,i64 i),(13,.clos 192 [] [bS1 sg]),(14,.lsl 1 0 L.length none 1)],[(1,some ⟨3,1,nE L⟩)],2,85⟩) ?_ ?_;rw[hll];refine s_x [(1,14)] (fun hs=>?_) (fun hs=>?_)
 ·repeat' (first|exact aG|refine aj rfl ?_ ?_|exact ah hs (ce L)|exact ah hs hclc|exact aW)
 ·repeat' (first|exact aD|refine h_c ?_ ?_|exact b9 hs (dm L)|exact bC|refine aw ?_|exact ay|refine af ?_ ?_|exact ah hs (ce L)|exact ah hs hclc|exact aW)
 refine ae (r_z 4 ?_);rw[show((L.length:Nat):Int)- 1=((l:Nat):Int) by omega];refine aH (exS ()) (fun M=>M=exM L x sg own) ?_ ?_;refine ak ?_;by_cases h0:i=0;by_cases h1:sdE sg 0=own
 have hr:exM L x sg own=L.set i x:=by
  unfold exM;rw[←hi,if_neg (fun e=>e.2 h1),if_neg (fun e=>by have:=e.1;omega),if_pos (.inl h0)]
 refine s_r 9 ?_;refine a_1 ?_;refine o_0 (.bin rfl rfl (vT aV (eqI (by omega)))) ?_;refine e_s (hs0) ?_;refine m_1 ?_;refine bv rfl rfl rfl (.bin rfl rfl (vF cu ((by rw[h1];simp)))) rfl rfl ?_;refine a_z ?_;refine cF (q_z 11 ?_);refine cF (s_r 15 ?_);refine a_1 ?_;refine o_0 (.bin rfl rfl (vT aV (eqI (by omega)))) ?_;refine d_z ?_;refine cT ?_;have hgt:=kz (L:=L) (k:=i) (e:=0+((i:Nat):Int).toNat) (by omega) (by omega);refine r_m 5 ?_;refine a_4 ?_;refine ep (.store rfl rfl hgt rfl rfl rfl TS.h (nle rfl)) ?_;refine aq ?_;refine⟨L.set i x,hr.symm,?_⟩;rw[exS.eq_1,List.length_set];exact s_x [] (fun hs=>dj) (fun hs=>e_29)
 ·have hr:exM L x sg own=x::L.take l:=by
   unfold exM;rw[←hi,if_pos ⟨h0,h1⟩,show L.length- 1=l by omega]
  refine s_r 9 ?_;refine a_1 ?_;refine o_0 (.bin rfl rfl (vT aV (eqI (by omega)))) ?_;refine e_s (hs0) ?_;refine m_1 ?_;refine bv rfl rfl rfl (.bin rfl rfl (vT cu ((by simpa using h1)))) rfl rfl ?_;refine a_z ?_;refine cT (AWp.ent (st':=⟨[(1,i64 x),(14,.arr (nE L)),(15,i64 l)],[],1,85⟩) ?_ ?_);refine s_x [] (fun hs=>?_) (fun hs=>?_)
  ·repeat' (first|exact aG|refine aj rfl ?_ ?_|(refine Cv.shut hs rfl (aQ rfl) (by simp) ?_;exact aI hs (by rw[List.drop_zero];exact List.take_of_length_le (by simp)) (dm _))|exact aW)
  ·repeat' (first|exact aD|refine h_c ?_ ?_|exact bC|refine aw ?_|exact ay|refine af ?_ ?_|(refine Cv.shut hs rfl (aQ rfl) (by simp) ?_;exact aI hs (by rw[List.drop_zero];exact List.take_of_length_le (by simp)) (dm _))|exact aW)
  have hc1:[[i64 x]]++nE (L.take l)=nE (x::L.take l):=rfl;have hc2:(nE (L.take l)).length=l:=by rw[iQ,List.length_take];omega
  have hon2:=sS (L.take l);refine s_r 7 ?_;refine a_4 ?_;refine o_0 (.sa_hE (h:=l) (nE_take L l) rfl rfl (by omega) (by omega) te_45.h (wa _)) ?_;refine o_2 (.append_l rfl rfl rfl te_45.h rfl rfl rfl rfl rfl d_o (by first|exact dh _|exact df _|exact cL _|exact di _|exact de _|assumption|rfl|simp) (by first|rfl|exact dh _|exact df _|exact cL _|exact di _|exact de _|simp) rfl (.arr (wa _)) TZ.h rfl TB.h d_o (by first|(simp[maxLen];done)|(simp[maxLen];omega))) ?_;refine a_z ?_;refine am ?_;rw[hr];exact Fin.tmpS rfl rfl rfl (by simp;omega) (dm _)
 by_cases h1:l< i;by_cases h2:sdE sg l=own
 have hr:exM L x sg own=L.set (i- 1) x:=by
  unfold exM;rw[←hi,show L.length- 1=l by omega,if_neg (fun e=>h0 e.1),if_neg (fun e=>e.2 h2),if_neg (fun e=>by rcases e with e|e;exact h0 e;have:=e.1;omega)]
 refine s_r 9 ?_;refine a_1 ?_;refine o_0 (.bin rfl rfl (vF aV (neI (by omega)))) ?_;refine d_z ?_;refine cF (q_c 11 (hsl) ?_);refine m_1 ?_;refine bv rfl rfl rfl (.bin rfl rfl (vF cu ((by rw[h2];simp)))) rfl rfl ?_;refine a_z ?_;refine cF (s_r 15 ?_);refine a_1 ?_;refine o_0 (.bin rfl rfl (vF aV (neI (by omega)))) ?_;refine d_z ?_;refine cF ?_;have hgt:=kz (L:=L) (k:=i- 1) (e:=0+(((i:Nat):Int)- 1).toNat) (by omega) (by omega);refine r_m 6 ?_;refine a_5 ?_;refine ep (.store rfl rfl hgt rfl rfl rfl TS.h (nle rfl)) ?_;refine aq ?_;refine⟨L.set (i- 1) x,hr.symm,?_⟩;rw[exS.eq_1,List.length_set];exact s_x [] (fun hs=>dj) (fun hs=>e_30)
 have hr:exM L x sg own=L.drop 1++[x]:=by
  unfold exM;rw[←hi,show L.length- 1=l by omega,if_neg (fun e=>h0 e.1),if_pos ⟨h1,h2⟩]
 refine s_r 9 ?_;refine a_1 ?_;refine o_0 (.bin rfl rfl (vF aV (neI (by omega)))) ?_;refine d_z ?_;refine cF (q_c 11 (hsl) ?_);refine m_1 ?_;refine bv rfl rfl rfl (.bin rfl rfl (vT cu ((by simpa using h2)))) rfl rfl ?_;refine a_z ?_;refine cT (s_r 6 ?_);refine a_1 ?_;refine o_0 (.slice_l (l:=1) (h:=L.length) rfl ⟨⟨_,rfl,.inr ⟨_,_,rfl,rfl⟩⟩,⟨_,rfl,.inl ⟨rfl,rfl,rfl⟩⟩,⟨_,rfl,.inl ⟨rfl,rfl⟩⟩⟩ (by omega) (Nat.le_refl _) (.inr (by omega)) te_45.h) ?_;refine a_2 ?_;refine o_1 (.append_oS rfl rfl rfl te_45.h rfl rfl rfl rfl rfl (by rw[hll];omega) rfl rfl (.lsl rfl (nle rfl)) TZ.h rfl TB.h (by simp;omega) (by simp[maxLen];omega)) ?_;refine a_z ?_;refine am ?_;rw[hr];exact aR rfl (by rw[po,nE_drop];rfl) (ce _);by_cases h2:sdE sg i=own
 have hr:exM L x sg own=L.set i x:=by
  unfold exM;rw[←hi,show L.length- 1=l by omega,if_neg (fun e=>h0 e.1),if_neg (fun e=>h1 e.1),if_pos (.inr ⟨by omega,h2⟩)]
 refine s_r 9 ?_;refine a_1 ?_;refine o_0 (.bin rfl rfl (vF aV (neI (by omega)))) ?_;refine d_z ?_;refine cF (q_z 11 ?_);refine cF (s_r 15 ?_);refine a_1 ?_;refine o_0 (.bin rfl rfl (vF aV (neI (by omega)))) ?_;refine e_s (hsi) ?_;refine m_1 ?_;refine bv rfl rfl rfl (.bin rfl rfl (vT aV (eqI h2))) rfl rfl ?_;refine d_z ?_;refine cT ?_;have hgt:=kz (L:=L) (k:=i) (e:=0+((i:Nat):Int).toNat) (by omega) (by omega);refine r_m 5 ?_;refine a_4 ?_;refine ep (.store rfl rfl hgt rfl rfl rfl TS.h (nle rfl)) ?_;refine aq ?_;refine⟨L.set i x,hr.symm,?_⟩;rw[exS.eq_1,List.length_set];exact s_x [] (fun hs=>dj) (fun hs=>e_29)
 have hr:exM L x sg own=L.set (i- 1) x:=by
  unfold exM;rw[←hi,show L.length- 1=l by omega,if_neg (fun e=>h0 e.1),if_neg (fun e=>h1 e.1),if_neg (fun e=>by rcases e with e|e;exact h0 e;exact h2 e.2)]
 refine s_r 9 ?_;refine a_1 ?_;refine o_0 (.bin rfl rfl (vF aV (neI (by omega)))) ?_;refine d_z ?_;refine cF (q_z 11 ?_);refine cF (s_r 15 ?_);refine a_1 ?_;refine o_0 (.bin rfl rfl (vF aV (neI (by omega)))) ?_;refine e_s (hsi) ?_;refine m_1 ?_;refine bv rfl rfl rfl (.bin rfl rfl (vF aV (neI h2))) rfl rfl ?_;refine d_z ?_;refine cF ?_;have hgt:=kz (L:=L) (k:=i- 1) (e:=0+(((i:Nat):Int)- 1).toNat) (by omega) (by omega);refine r_m 6 ?_;refine a_5 ?_;refine ep (.store rfl rfl hgt rfl rfl rfl TS.h (nle rfl)) ?_;refine aq ?_;refine⟨L.set (i- 1) x,hr.symm,?_⟩;rw[exS.eq_1,List.length_set];exact s_x [] (fun hs=>dj) (fun hs=>e_30);rintro M rfl;rw[exS.eq_1];refine r_z 2 ?_;exact am (Fin.tmpS rfl rfl rfl (by simp) (dm _))
end Go.Proofs.YtjgokhkahkmpbaaGreatDoor
