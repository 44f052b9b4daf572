/- Part W30 of the proof. -/
import Derived.Test.YtjkddcfoolilbaaGreatDoorW29
set_option linter.all false
namespace Go.Proofs.YtjkddcfoolilbaaGreatDoor
open Go.Abs
set_option maxRecDepth 20000
set_option maxHeartbeats 2000000
theorem sv_f2{r:Ren}{hp hp':Nat→Option ABlk}{fr fr':Fr}(hs:Shr r hp hp')(h:CvF r hp hp' fr fr':=by repeat' (first|exact aD_|refine an_ rfl ?_ ?_|exact ai_ hs (ad_ _)|exact Cv.sl rfl rfl rfl|exact Cv.sl rfl rfl (by rw[bh_ bs_];rfl)|exact Cv.ptr rfl rfl rfl|exact Cv.ptr rfl (by assumption) rfl|(refine Cv.loE hs ?_ (ad_ _);simp[i64];done))):CvF r hp hp' fr fr':=h
def scS(M:Mx)(n:Nat):Nat→AState
 |c=>⟨[(0,.lsl 1 0 n (some n) 1),(6,.lptr 35 0 0),(7,i64 n),(10,.lptr 36 0 0),(83,i64 n),(84,i64 c)],rwH 32 46 (fun k=>tabP (n+1) ((slM M n c).1 k)) n (sx1 n (slM M n c).2),40,209⟩
theorem eV_{fr fr':Fr}{nx N n:Nat}{R:Nat→List Rat}{L:List Nat}(hn:n≤30)(hF:Shr ⟨40,fun x=>x⟩ (lookB (rwH 32 46 R n (sx1 n L))) (lookB (rwH 32 46 R n (sx1 n L)))→CvF ⟨40,fun x=>x⟩ (lookB (rwH 32 46 R n (sx1 n L))) (lookB (rwH 32 46 R n (sx1 n L))) fr fr'):
    SEnt ⟨fr,rwH 32 46 R n (sx1 n L),nx,N⟩ ⟨fr',rwH 32 46 R n (sx1 n L),40,N⟩:=
 ew_ (x:=lvA L) (fun x=>x) hn rfl (fun _ _ _ _ e=>e) (bh_ bs_) (fun i hi=>bQ_ bs_ hn hi) rfl rfl (by
  cases L with
  |nil=>exact .inl ⟨rfl,rfl⟩
  |cons l L=>exact .inr ⟨by simp,rfl,rfl⟩) hF
theorem swx_two(a b i:Nat):swx (a+2) (b+2) (i+2)=swx a b i+2:=by
 unfold swx;by_cases h1:i=a;rw[if_pos (by omega),if_pos h1];rw[if_neg (by omega),if_neg h1];by_cases h2:i=b;rw[if_pos (by omega),if_pos h2];rw[if_neg (by omega),if_neg h2]
theorem swx_lt{a b i n:Nat}(ha:a< n)(hb:b< n)(hi:i< n):swx a b i< n:=by unfold swx;split <;>(try split)<;> omega
theorem swM_row(A:Mx)(r p i:Nat):swM A r p i=A (swx p r i):=by
 funext j;unfold swM swx;by_cases h1:i=r;subst h1;by_cases h2:i=p;subst h2;simp;simp[h2];by_cases h2:i=p;subst h2;simp[h1];simp[h1,h2]
theorem lenA_lv(L:List Nat):lenA (lvA L)=some L.length:=by cases L <;> rfl
theorem neT{a b:Int}(h:a≠b):(a !=b)=true:=by simpa using h
theorem neF{a b:Int}(h:a=b):(a !=b)=false:=by simp[h]
theorem sv_f3{r:Ren}{hp hp':Nat→Option ABlk}{fr fr':Fr}(hs:Shr r hp hp')(h:CvF r hp hp' fr fr':=by repeat' (first|exact aD_|refine an_ rfl ?_ ?_|exact ai_ hs (ad_ _)|exact ai_ hs (bf_ _)|exact ai_ hs (aM_ (aa_ (ad_ _) ac_))|exact Cv.sl rfl rfl rfl|exact Cv.sl rfl rfl (by rw[bh_ bs_];rfl)|exact Cv.ptr rfl rfl rfl|exact Cv.ptr rfl (by assumption) rfl|(refine Cv.loE hs ?_ (ad_ _);simp[i64];done))):CvF r hp hp' fr fr':=h
def scK(X:Mx)(n r c:Nat)(f:Rat)(L:List Nat):Nat→AState
 |j=>⟨[(0,.lsl 1 0 n (some n) 1),(6,.lptr 35 0 0),(7,i64 n),(10,.lptr 36 0 0),(11,.aptr [[i64 c]] 0 0),(12,i64 r),(14,bQ f),(83,i64 n),(84,i64 c),(128,i64 ((n+1:Nat):Int)),(129,i64 j)],rwH 32 46 (fun k=>tabP (n+1) (scJ X r f j k)) n (sx1 n L),40,209⟩
def rdK(Y:Mx)(n r c:Nat)(L:List Nat):Nat→AState
 |i=>⟨[(0,.lsl 1 0 n (some n) 1),(6,.lptr 35 0 0),(7,i64 n),(10,.lptr 36 0 0),(11,.aptr [[i64 c]] 0 0),(12,i64 r),(83,i64 n),(84,i64 c),(149,i64 n),(150,i64 i)],rwH 32 46 (fun k=>tabP (n+1) (rdJ Y r c i 0 k)) n (sx1 n L),40,209⟩
def rdI(Y:Mx)(n r c:Nat)(L:List Nat)(i:Nat):Nat→AState
 |j=>⟨[(0,.lsl 1 0 n (some n) 1),(6,.lptr 35 0 0),(7,i64 n),(10,.lptr 36 0 0),(11,.aptr [[i64 c]] 0 0),(12,i64 r),(16,i64 i),(17,bQ (Y i c)),(83,i64 n),(84,i64 c),(149,i64 n),(150,i64 i),(172,i64 ((n+1:Nat):Int)),(173,i64 j)],rwH 32 46 (fun k=>tabP (n+1) (rdJ Y r c i j k)) n (sx1 n L),40,209⟩
theorem qw_{TS TQ n:Nat}{R R':Nat→List Rat}{ex:Hp}(h:∀k,k< n→R k=R' k):rwH TS TQ R n ex=rwH TS TQ R' n ex:=by
 unfold rwH;rw[cY_ (R':=R') (s':=fun x=>x) fun k hk=>⟨by rw[h k hk],rfl⟩,show rwL R n=rwL R' n from List.map_congr_left fun k hk=>by rw[h k (List.mem_range.1 hk)]]
theorem qx_{fr fr':Fr}{nx N n i j e:Nat}{X:Mx}{v:Rat}{L:List Nat}(hn:n≤30)(hi:i< n)(hj:j< n+1)(he:e=j)(hF:Shr ⟨40,fun x=>x⟩ (lookB ((i+2,some ⟨46,3,(pE (tabP (n+1) (X i))).set e (qC v)⟩)::rwH 32 46 (fun k=>tabP (n+1) (X k)) n (sx1 n L))) (lookB (rwH 32 46 (fun k=>tabP (n+1) (puM X i j v k)) n (sx1 n L)))→CvF ⟨40,fun x=>x⟩ (lookB ((i+2,some ⟨46,3,(pE (tabP (n+1) (X i))).set e (qC v)⟩)::rwH 32 46 (fun k=>tabP (n+1) (X k)) n (sx1 n L))) (lookB (rwH 32 46 (fun k=>tabP (n+1) (puM X i j v k)) n (sx1 n L))) fr fr'):
    SEnt ⟨fr,(i+2,some ⟨46,3,(pE (tabP (n+1) (X i))).set e (qC v)⟩)::rwH 32 46 (fun k=>tabP (n+1) (X k)) n (sx1 n L),nx,N⟩ ⟨fr',rwH 32 46 (fun k=>tabP (n+1) (puM X i j v k)) n (sx1 n L),40,N⟩:=by
 refine ew_ (x:=lvA L) (fun x=>x) hn rfl (fun _ _ _ _ e=>e) ?_ ?_ ?_ ?_ ?_ hF;rw[aV_ (by omega),bh_ bs_,cY_ (R':=fun k=>tabP (n+1) (puM X i j v k)) (s':=fun x=>x)];exact fun k hk=>⟨by simp,rfl⟩;intro k hk;by_cases h:k=i;subst h;rw[←puM_set hj e he,bk_,aL_];rw[aV_ (by omega),bQ_ bs_ (by omega) hk,puM_ne h];rw[aV_ (by omega)];rfl;rw[aV_ (by omega)];rfl;cases L with
 |nil=>exact .inl ⟨rfl,rfl⟩
 |cons l L=>exact .inr ⟨by simp,rfl,by rw[aV_ (by omega)];rfl⟩
def syV(n:Nat)(p:Mx×List Nat):AV:= .agg [.arr (mE ((List.range n).map fun k=>tabP (n+1) (p.1 k))),.arr (lvE p.2),i64 n]
theorem kZ_{r:Ren}{hp:Nat→Option ABlk}{l:List (List AV)}{n:Nat}(hn:n=l.length)(hc:∀e∈l,∀c∈e,Closed c):CvLL r hp (fun _=>none) ((l.drop 0).take n) l:=by
 rw[List.drop_zero,hn,List.take_length];exact aU_ as_ hc
theorem fB_{x:Nat}(h:x≠37):cond (Nat.beq x 37) 44 x=x:=by
 cases e:Nat.beq x 37 with
 |false=>rfl
 |true=>exact absurd (Nat.eq_of_beq_eq_true e) h
theorem qs_{n:Nat}(hn:n≤30)(i j:Nat)(h1:InX n i)(h2:InX n j)(e:cond (Nat.beq i 37) 44 i=cond (Nat.beq j 37) 44 j):i=j:=by
 unfold InX at h1 h2;by_cases a:i=37;by_cases b:j=37;rw[a,b];rw[a,fB_ b] at e;have e:(44:Nat)=j:=e;omega;by_cases b:j=37;rw[b,fB_ a] at e;have e:i=(44:Nat):=e;omega;rw[fB_ a,fB_ b] at e;exact e
theorem sv_cols(M:Mx)(n B:Nat)(hn:n≤25)(hB:B≤100000000000)(hq:∀c,c≤n→∀i j,i< n→j≤n→qs ((slM M n c).1 i j)≤B):
    AWp none Tryz.prog svRest (Fin Tryz.prog Tryz.f57.results.toList (syV n (slM M n n))) ⟨[(0,.lsl 1 0 n (some n) 1),(6,.lptr 35 0 0),(7,i64 n)],rwH 32 46 (fun k=>tabP (n+1) (M k)) n sx0,40,209⟩:=by
 unfold svRest;refine r_z 5 ?_;refine ab_ (r_z 2 ?_);refine av_ (fun _:Unit=>scS M n n) (fun _=>True) ?_ ?_
 ·refine af_ (aq_ (scS M n) (fun c=>n- c) (fun c=>c≤n) 0 (Nat.zero_le _) ?_ ?_)
  rw[scS.eq_1];refine ew_ (L:=[]) (x:= .emp) (fiR 34 43) (by omega) (fiR_0 _ _) (fun x y hx hy e=>i3_ (m:=40) (Nat.le_refl _) (by decide) x y (j6_ (by omega) hx) (j6_ (by omega) hy) e) ?_ ?_ rfl rfl (.inl ⟨rfl,rfl⟩) fun hs=>sv_f2 hs
  ·rw[fiR_1]
   repeat rw[aV_ (by decide)]
   rw[bh_ cz_,cY_ (R':=fun k=>tabP (n+1) ((slM M n 0).1 k)) (s':=fiR 34 43)];exact fun k hk=>⟨by simp,(eb_ (by omega)).symm⟩
  ·intro k hk
   rw[eb_ (by omega)]
   repeat rw[aV_ (by omega)]
   exact bQ_ cz_ (by omega) hk
  intro c hc;rw[scS.eq_1];by_cases hlt:c< n;rotate_left;have hge:c=n:=by omega
  subst hge;refine q_z 1 ?_;refine ab_ (cF (ao_ ⟨(),trivial,?_⟩));exact eV_ (by omega) fun hs=>sv_f2 hs;refine q_z 1 ?_;refine ab_ (cT (ah_ (ab_ (af_ (r_z 3 ?_)))));have hE:=da_ M n c;have hqc:=hq c hc;obtain⟨⟨A,L⟩,hAL⟩:∃p,p=slM M n c:=⟨_,rfl⟩;rw[←hAL] at hE hqc⊢;simp only at hE hqc⊢;have hLl:L.length≤c:=hE.len;refine AWp.ent (st':=⟨[(0,.lsl 1 0 n (some n) 1),(6,.lptr 35 0 0),(7,i64 n),(10,.lptr 36 0 0),(11,.aptr [[i64 c]] 0 0),(83,i64 n),(84,i64 c)],rwH 32 46 (fun k=>tabP (n+1) (A k)) n (sx1 n L),40,209⟩) ?_ ?_;refine ew_ (x:=lvA L) (fun x=>x) (by omega) rfl (fun _ _ _ _ e=>e) ?_ ?_ rfl rfl ?_ ?_
  ·repeat rw[aV_ (by decide)]
   exact bh_ bs_
  ·intro k hk
   repeat rw[aV_ (by omega)]
   exact bQ_ bs_ (by omega) hk
  cases L with
  |nil=>exact .inl ⟨rfl,rfl⟩
  |cons l L=>exact .inr ⟨by simp,rfl,rfl⟩
  intro hs
  have hd:Dead ⟨40,fun x=>x⟩ (lookB (rwH 32 46 (fun k=>tabP (n+1) (A k)) n (sx1 n L))) 42:=fun j B hj e=>by
   obtain⟨h0⟩:=hs;have h1:j< 40:=(h0 j B hj).1;have e:j=42:=e;omega
  exact an_ rfl (Cv.sl rfl rfl (by rw[bh_ bs_];rfl)) (an_ rfl (Cv.ptr rfl rfl rfl) (an_ rfl (ai_ hs (ad_ _)) (an_ rfl (Cv.ptr rfl rfl rfl) (an_ rfl (Cv.boxp hs rfl hd rfl (aa_ (ad_ _) ac_)) (an_ rfl (ai_ hs (ad_ _)) (an_ rfl (ai_ hs (ad_ _)) aD_))))));have hc36:cellF (lookB (rwH 32 46 (fun k=>tabP (n+1) (A k)) n (sx1 n L))) 36=some ⟨131,3,[[.lsl 1 0 n (some n) 1,lvA L,i64 n]]⟩:=rfl;refine s_r 4 ?_;refine a_1 ?_;refine o_0 (.load_l1 rfl hc36 rfl TG.h rfl) ?_;refine o_0 (.len rfl rfl rfl rfl (lenA_lv L) te_47.h) ?_;refine a_z ?_;have hcl:Closed (.clos 128 [] [.aptr [[i64 c]] 0 0]):=aE_ ac_ (aa_ (aM_ (aa_ (ad_ _) ac_)) ac_);have hlead:=fs_lead (fun k=>tabP (n+1) (A k)) n (0+L.length) c (by omega) (fun i hi=>by simp;omega);rw[idx_pv A n (0+L.length) c (by omega) (by omega)] at hlead;refine s_r 6 ?_;refine a_2 ?_;refine o_0 (.slice_l (l:=L.length) (h:=n) rfl ⟨⟨_,rfl,.inr ⟨_,_,rfl,rfl⟩⟩,⟨_,rfl,.inl ⟨rfl,rfl,rfl⟩⟩,⟨_,rfl,.inl ⟨rfl,rfl⟩⟩⟩ (by omega) (Nat.le_refl _) (.inr (by omega)) te_126.h) ?_;refine a_1 ?_;refine o_0 (.callV (rd:=rwI n) (rr:=⟨0,fun i=>i⟩) rfl rfl rfl (fun hp' hh=>ae_ (Cv_rwV hh (bh_ bs_) (fun i hi=>bQ_ bs_ (by omega) hi) (by omega)) (ae_ (ai_ as_ hcl) am_)) hlead) ?_;refine a_z ?_;have e0:0+L.length=L.length:=by omega
  cases hp:pvR A n (0+L.length) c with
  |none=>
   simp only[hp];refine ab_ (s_r 2 ?_);refine a_1 ?_;refine o_0 (.bin rfl rfl (vT aT_ (decide_eq_true (by decide)))) ?_;refine ak_ ?_;refine cT (ao_ (r_m 2 ?_));refine a_z ?_;refine⟨c+1,by omega,by omega,?_⟩
   have hn1:slM M n (c+1)=(A,L):=by
    rw[e0] at hp;rw[slM,←hAL];show slC A n L c=_;unfold slC;rw[hp]
   rw[scS.eq_1,hn1];exact eV_ (by omega) fun hs=>sv_f2 hs
  |some p=>
   simp only[hp];refine ab_ (q_z 2 ?_);refine cF (ah_ ?_);obtain⟨p1,p2,p3⟩:=ga_ hp;have hgp:∀e,e=p→(rwO (fun k=>tabP (n+1) (A k)) (fun x=>x) n)[e]?=some [.lsl (p+2) 0 (n+1) none 3]:=fun e he=>by rw[ce_ p1 e he];simp
   have hgr:∀e,e=L.length→(rwO (fun k=>tabP (n+1) (A k)) (fun x=>x) n)[e]?=some [.lsl (L.length+2) 0 (n+1) none 3]:=fun e he=>by rw[ce_ (by omega:L.length< n) e he];simp
   have hst:∀a b,a=L.length→b=p→((rwO (fun k=>tabP (n+1) (A k)) (fun x=>x) n).set a [.lsl (p+2) 0 (n+1) none 3])[b]?=some [.lsl (p+2) 0 (n+1) none 3]:=fun a b ha hb=>by
    rw[List.getElem?_set];split;rw[if_pos (by rw[ee_];omega)];exact hgp b hb
   have ho:=b2_ (bh_ (TS:=32) (TQ:=46) (n:=n) (R:=fun k=>tabP (n+1) (A k)) (bs_ (n:=n) (L:=L))) (show(1:Nat)≠0 by decide);refine ab_ (r_d hmix 20 ?_);refine a_8 ?_;refine a_3 ?_;refine o_0 (.load_l1 rfl ho (hgp _ (by omega)) TG.h rfl) ?_;refine a_3 ?_;refine o_0 (.load_l1 rfl ho (hgr _ (by omega)) TG.h rfl) ?_;refine a_1 ?_;refine o_1n (.store rfl ho (hgr _ (by omega)) rfl rfl rfl TS.h (nle rfl)) ?_;refine a_1 ?_;refine o_1n (.store rfl rfl (hst _ _ (by omega) (by omega)) rfl rfl rfl TS.h (nle rfl)) ?_;refine ak_ (n_k ?_);refine AWp.ent (st':=⟨[(0,.lsl 1 0 n (some n) 1),(6,.lptr 35 0 0),(7,i64 n),(10,.lptr 36 0 0),(11,.aptr [[i64 c]] 0 0),(12,i64 L.length),(83,i64 n),(84,i64 c)],rwH 32 46 (fun k=>tabP (n+1) (swM A L.length p k)) n (sx1 n L),40,209⟩) ?_ ?_;have q0:swx (p+2) (L.length+2) 0=0:=if_ (by omega) (by omega);have q1:swx (p+2) (L.length+2) 1=1:=if_ (by omega) (by omega);have q35:swx (p+2) (L.length+2) 35=35:=if_ (by omega) (by omega);have q36:swx (p+2) (L.length+2) 36=36:=if_ (by omega) (by omega);have q37:swx (p+2) (L.length+2) 37=37:=if_ (by omega) (by omega);refine ew_ (x:=lvA L) (swx (p+2) (L.length+2)) (by omega) q0 (fun _ _ _ _ e=>swx_inj e) ?_ ?_ ?_ ?_ ?_ ?_;rw[q1,cY_ (R':=fun i=>tabP (n+1) (A (swx p L.length i))) (s':=swx (p+2) (L.length+2)) (fun k hk=>⟨by simp,rfl⟩),←rwO_swap (R:=fun k=>tabP (n+1) (A k)) p1 (by omega:L.length< n) (0+((L.length:Nat):Int).toNat) (0+(((L.length:Nat):Int)+((p- (0+L.length):Nat):Int)).toNat) (by omega) (by omega)];simp only[dM_];rfl
   ·intro i hi
    rw[swx_two,swM_row]
    repeat rw[aV_ (by omega)]
    exact bQ_ (R:=fun k=>tabP (n+1) (A k)) bs_ (by omega) (swx_lt p1 (by omega) hi)
   rw[q35];rfl;rw[q36,q1];rfl;cases L with
   |nil=>exact .inl ⟨rfl,rfl⟩
   |cons l L=>exact .inr ⟨by simp,by rw[q37];rfl,by rw[q37];rfl⟩
   intro hs;exact an_ rfl (Cv.sl rfl q1 (by rw[bh_ bs_];rfl)) (an_ rfl (Cv.ptr rfl q35 rfl) (an_ rfl (ai_ hs (ad_ _)) (an_ rfl (Cv.ptr rfl q36 rfl) (an_ rfl (ai_ hs (aM_ (aa_ (ad_ _) ac_))) (an_ rfl (Cv.loE hs (by simp[i64]) (ad_ _)) (an_ rfl (ai_ hs (ad_ _)) (an_ rfl (ai_ hs (ad_ _)) aD_)))))));have hrow:=ev_ (TS:=32) (TQ:=46) (R:=fun k=>tabP (n+1) (swM A L.length p k)) (bs_ (n:=n) (L:=L)) (by omega:n≤30) (by omega:L.length< n);have ho2:=b2_ (bh_ (TS:=32) (TQ:=46) (n:=n) (R:=fun k=>tabP (n+1) (swM A L.length p k)) (bs_ (n:=n) (L:=L))) (show(1:Nat)≠0 by decide);have hg2:∀e,e=L.length→(rwO (fun k=>tabP (n+1) (swM A L.length p k)) (fun x=>x) n)[e]?=some [.lsl (L.length+2) 0 (n+1) none 3]:=fun e he=>by rw[ce_ (by omega:L.length< n) e he];simp
   have hx:swM A L.length p L.length c=A p c:=by simp[swM]
   have hge:∀e,e=c→(pE (tabP (n+1) (swM A L.length p L.length)))[e]?=some (qC (A p c)):=fun e he=>by
    subst he;simp[pE,tabP,show e< n+1 by omega,hx]
   have hi1:=cV_ 1 (by decide);have hq1:qs ((1:Int):Rat)≤1:=by decide
   have hov:=kH_ ((1:Int):Rat) (A p c) p3 (by have:=hqc p c p1 (by omega);omega);refine ab_ (r_d hmix 11 ?_);refine c_s (hi1) ?_;refine a_3 ?_;refine o_0 (.load_l1 rfl ho2 (hg2 _ (by omega)) TG.h rfl) ?_;refine a_2 ?_;refine o_0 (.load_l rfl hrow (hge _ (by omega)) TG.h TS.h (nle rfl)) ?_;refine c_s (hov) ?_;refine a_2 ?_;refine ak_ ⟨gQ_ (fps0:=[([],[]),([],[]),([],[]),([],[]),([],[]),([],[]),([],[]),([],[]),([],[]),([49],[]),([49],[49])]) (by kernel_rfl) (lessF.zz (lessF.zz (lessF.zz (lessF.zz (lessF.rd (by omega) (lessF.zz (lessF.zz (lessF.rd (by omega) (lessF.zz (lessF.al rfl (show 40≤49 by decide) (lessF.st rfl (show 40≤49 by decide) lessF.nil))))))))))),?_⟩;refine AWp.ent (st':=⟨[(0,.lsl 1 0 n (some n) 1),(6,.lptr 35 0 0),(7,i64 n),(10,.lptr 36 0 0),(11,.aptr [[i64 c]] 0 0),(12,i64 L.length),(14,bQ (((1:Int):Rat) / A p c)),(83,i64 n),(84,i64 c)],rwH 32 46 (fun k=>tabP (n+1) (swM A L.length p k)) n (sx1 n L),40,209⟩) ?_ ?_;refine ew_ (x:=lvA L) (fun x=>x) (by omega) rfl (fun _ _ _ _ e=>e) ?_ ?_ rfl rfl ?_ ?_
   ·repeat rw[aV_ (by decide)]
    exact bh_ bs_
   ·intro k hk
    repeat rw[aV_ (by omega)]
    exact bQ_ (R:=fun k=>tabP (n+1) (swM A L.length p k)) bs_ (by omega) hk
   cases L with
   |nil=>exact .inl ⟨rfl,rfl⟩
   |cons l L=>exact .inr ⟨by simp,rfl,rfl⟩
   intro hs
   have hd:Dead ⟨40,fun x=>x⟩ (lookB (rwH 32 46 (fun k=>tabP (n+1) (swM A L.length p k)) n (sx1 n L))) 49:=fun j B hj e=>by
    obtain⟨h0⟩:=hs;have h1:j< 40:=(h0 j B hj).1;have e:j=49:=e;omega
   exact an_ rfl (Cv.sl rfl rfl (by rw[bh_ bs_];rfl)) (an_ rfl (Cv.ptr rfl rfl rfl) (an_ rfl (ai_ hs (ad_ _)) (an_ rfl (Cv.ptr rfl rfl rfl) (an_ rfl (ai_ hs (aM_ (aa_ (ad_ _) ac_))) (an_ rfl (ai_ hs (ad_ _)) (an_ rfl (Cv.boxp hs rfl hd rfl (aN_ _)) (an_ rfl (ai_ hs (ad_ _)) (an_ rfl (ai_ hs (ad_ _)) aD_))))))));refine ab_ (s_r 6 ?_);refine a_3 ?_;refine o_0 (.load_l1 rfl ho2 (hg2 _ (by omega)) TG.h rfl) ?_;refine a_z ?_;obtain⟨X,hX⟩:∃X,X=swM A L.length p:=⟨_,rfl⟩;obtain⟨f,hf⟩:∃f,f=((1:Int):Rat) / A p c:=⟨_,rfl⟩;rw[←hX,←hf];have hqX:∀i j,i< n→j≤n→qs (X i j)≤B:=by rw[hX];exact bd_sw hqc (by omega) p1
   have hqf:qs f≤B+1:=by
    rw[hf];have h1:=eM_ ((1:Int):Rat) (A p c);have h2:=hqc p c p1 (by omega);omega
   have hn1:slM M n (c+1)=(rdM (scM X L.length f) L.length c,L++[c]):=by
    rw[slM,←hAL];show slC A n L c=_;unfold slC;rw[e0] at hp;rw[hp,hX,hf,show((1:Int):Rat)=1 by decide]
   have hqY:∀i j,i< n→j≤n→qs (rdM (scM X L.length f) L.length c i j)≤B:=by
    have:=hq (c+1) (by omega);rw[hn1] at this;exact this
   have hrn:L.length< n:=by omega
   clear hrow ho2 hg2 hx hge hi1 hq1 hov hgp hgr hst ho hE hlead;refine av_ (fun _:Unit=>scK X n L.length c f L (n+1)) (fun _=>True) ?_ ?_
   ·refine af_ (aq_ (scK X n L.length c f L) (fun j=>n+1- j) (fun j=>j≤n+1) 0 (Nat.zero_le _) ?_ ?_)
    rw[scK.eq_1,scJ_0];exact eV_ (by omega) fun hs=>sv_f3 hs;intro j hj;rw[scK.eq_1];by_cases hjn:j< n+1;rotate_left;have hge:j=n+1:=by omega
    subst hge;refine q_z 1 ?_;refine ab_ (cF (ao_ ⟨(),trivial,?_⟩));exact eV_ (by omega) fun hs=>sv_f3 hs;refine q_z 1 ?_;refine ab_ (cT (ah_ (ab_ (af_ (r_z 2 ?_)))));have hmu:=bE_ (X L.length j) f (by have:=hqX L.length j (by omega) (by omega);omega);have hce:=ev_ (TS:=32) (TQ:=46) (R:=fun k=>tabP (n+1) (scJ X L.length f j k)) (bs_ (n:=n) (L:=L)) (by omega:n≤30) hrn;have ho3:=b2_ (bh_ (TS:=32) (TQ:=46) (n:=n) (R:=fun k=>tabP (n+1) (scJ X L.length f j k)) (bs_ (n:=n) (L:=L))) (show(1:Nat)≠0 by decide);have hg3:∀e,e=L.length→(rwO (fun k=>tabP (n+1) (scJ X L.length f j k)) (fun x=>x) n)[e]?=some [.lsl (L.length+2) 0 (n+1) none 3]:=fun e he=>by rw[ce_ hrn e he];simp
    have hgj:∀e,e=j→(pE (tabP (n+1) (scJ X L.length f j L.length)))[e]?=some (qC (X L.length j)):=fun e he=>by rw[dc_ hjn e he,scJ_at]
    refine r_d hmix 16 ?_;refine a_3 ?_;refine o_0 (.load_l1 rfl ho3 (hg3 _ (by omega)) TG.h rfl) ?_;refine a_4 ?_;refine o_0 (.load_l1 rfl ho3 (hg3 _ (by omega)) TG.h rfl) ?_;refine a_2 ?_;refine o_0 (.load_l rfl hce (hgj _ (by omega)) TG.h TS.h (nle rfl)) ?_;refine c_s (hmu) ?_;refine a_1 ?_;refine o_1n (.store rfl hce (hgj _ (by omega)) rfl rfl rfl TS.h (nle rfl)) ?_;refine ak_ (n_k ?_);refine r_m 2 ?_;refine a_z ?_;refine⟨j+1,by omega,by omega,?_⟩;rw[scK.eq_1,scJ_s];exact qx_ (by omega) hrn hjn (by omega) fun hs=>sv_f3 hs
   rintro _ _;show AWp _ _ _ _ (scK X n L.length c f L (n+1));rw[scK.eq_1,show(fun k=>tabP (n+1) (scJ X L.length f (n+1) k))=fun k=>tabP (n+1) (scM X L.length f k) from funext fun k=>kk_ fun j hj=>scJ_n k j hj];obtain⟨Y,hY⟩:∃Y,Y=scM X L.length f:=⟨_,rfl⟩
   have hqS:∀i j,i< n→j≤n→qs (Y i j)≤B:=fun i j hi hj=>by
    rw[hY];by_cases e:i=L.length;subst e;have:=hqY L.length j hi hj;rwa[show rdM (scM X L.length f) L.length c L.length j=scM X L.length f L.length j from if_pos rfl] at this;rw[show scM X L.length f i j=X i j from if_neg e];exact hqX i j hi hj
   rw[←hY] at hn1⊢;refine ab_ (r_z 3 ?_);refine av_ (fun _:Unit=>rdK Y n L.length c L n) (fun _=>True) ?_ ?_
   ·refine af_ (aq_ (rdK Y n L.length c L) (fun i=>n- i) (fun i=>i≤n) 0 (Nat.zero_le _) ?_ ?_)
    rw[rdK.eq_1,rdJ_0];exact eV_ (by omega) fun hs=>sv_f3 hs;intro i hi;rw[rdK.eq_1];by_cases hin:i< n;rotate_left;have hge:i=n:=by omega
    rw[hge];refine q_z 1 ?_;refine ab_ (cF (ao_ ⟨(),trivial,?_⟩));exact eV_ (by omega) fun hs=>sv_f3 hs;refine q_z 1 ?_;refine ab_ (cT (ah_ (ab_ (af_ (r_z 2 ?_)))));have hce:=ev_ (TS:=32) (TQ:=46) (R:=fun k=>tabP (n+1) (rdJ Y L.length c i 0 k)) (bs_ (n:=n) (L:=L)) (by omega:n≤30) hin;have ho3:=b2_ (bh_ (TS:=32) (TQ:=46) (n:=n) (R:=fun k=>tabP (n+1) (rdJ Y L.length c i 0 k)) (bs_ (n:=n) (L:=L))) (show(1:Nat)≠0 by decide);have hg3:∀e,e=i→(rwO (fun k=>tabP (n+1) (rdJ Y L.length c i 0 k)) (fun x=>x) n)[e]?=some [.lsl (i+2) 0 (n+1) none 3]:=fun e he=>by rw[ce_ hin e he];simp
    have hgc:∀e,e=c→(pE (tabP (n+1) (rdJ Y L.length c i 0 i)))[e]?=some (qC (Y i c)):=fun e he=>by rw[rdJ_c];exact dc_ (by omega) e he
    refine ab_ (r_d hmix 9 ?_);refine a_3 ?_;refine o_0 (.load_l1 rfl ho3 (hg3 _ (by omega)) TG.h rfl) ?_;refine a_2 ?_;refine o_0 (.load_l rfl hce (hgc _ (by omega)) TG.h TS.h (nle rfl)) ?_;refine a_2 ?_;refine ak_ ⟨gQ_ (fps0:=[([],[]),([],[]),([],[]),([],[]),([],[]),([],[]),([],[]),([50],[]),([50],[50])]) (by kernel_rfl) (lessF.zz (lessF.zz (lessF.zz (lessF.rd (by omega) (lessF.zz (lessF.zz (lessF.rd (by omega) (lessF.al rfl (show 40≤50 by decide) (lessF.st rfl (show 40≤50 by decide) lessF.nil))))))))),?_⟩;refine AWp.ent (st':=⟨[(0,.lsl 1 0 n (some n) 1),(6,.lptr 35 0 0),(7,i64 n),(10,.lptr 36 0 0),(11,.aptr [[i64 c]] 0 0),(12,i64 L.length),(16,i64 i),(17,bQ (Y i c)),(83,i64 n),(84,i64 c),(149,i64 n),(150,i64 i)],rwH 32 46 (fun k=>tabP (n+1) (rdJ Y L.length c i 0 k)) n (sx1 n L),40,209⟩) ?_ ?_;refine ew_ (x:=lvA L) (fun x=>x) (by omega) rfl (fun _ _ _ _ e=>e) ?_ ?_ rfl rfl ?_ ?_
    ·repeat rw[aV_ (by decide)]
     exact bh_ bs_
    ·intro k hk
     repeat rw[aV_ (by omega)]
     exact bQ_ bs_ (by omega) hk
    cases L with
    |nil=>exact .inl ⟨rfl,rfl⟩
    |cons l L=>exact .inr ⟨by simp,rfl,rfl⟩
    intro hs
    have hd:Dead ⟨40,fun x=>x⟩ (lookB (rwH 32 46 (fun k=>tabP (n+1) (rdJ Y L.length c i 0 k)) n (sx1 n L))) 50:=fun j B hj e=>by
     obtain⟨h0⟩:=hs;have h1:j< 40:=(h0 j B hj).1;have e:j=50:=e;omega
    exact an_ rfl (Cv.sl rfl rfl (by rw[bh_ bs_];rfl)) (an_ rfl (Cv.ptr rfl rfl rfl) (an_ rfl (ai_ hs (ad_ _)) (an_ rfl (Cv.ptr rfl rfl rfl) (an_ rfl (ai_ hs (aM_ (aa_ (ad_ _) ac_))) (an_ rfl (ai_ hs (ad_ _)) (an_ rfl (ai_ hs (ad_ _)) (an_ rfl (Cv.boxp hs rfl hd rfl (aN_ _)) (an_ rfl (ai_ hs (ad_ _)) (an_ rfl (ai_ hs (ad_ _)) (an_ rfl (ai_ hs (ad_ _)) (an_ rfl (ai_ hs (ad_ _)) aD_)))))))))));by_cases hir:i=L.length;refine s_r 8 ?_;refine a_2 ?_;refine o_0 (.bin rfl rfl (vF bu_ (neF (by omega)))) ?_;refine a_1 ?_;refine n_g rfl d_f ?_;refine n_g rfl d_f ?_;refine n_g rfl d_f ?_;refine o_0 (.pickF rfl d_f rfl) ?_;refine ak_ ?_;refine cF (ah_ (r_m 2 ?_));refine a_z ?_;refine⟨i+1,by omega,by omega,?_⟩;rw[rdK.eq_1,nU_ (.inl hir)];exact eV_ (by omega) fun hs=>sv_f3 hs;by_cases hic:Y i c=0;refine s_r 8 ?_;refine a_2 ?_;refine o_0 (.bin rfl rfl (vT bu_ (neT (by omega)))) ?_;refine a_1 ?_;refine y_g rfl d_t (.load_a rfl rfl TG.h TS.h (nle rfl)) ?_;refine y_g rfl d_t (.call rfl rfl rfl (bt_ (Y i c))) ?_;refine y_g rfl d_t (.bin rfl rfl (vF bu_ (neF (sgZ_num_eq.2 hic)))) ?_;refine o_0 (.pickT rfl d_t rfl) ?_;refine ak_ ?_;refine cF (ah_ (r_m 2 ?_));refine a_z ?_;refine⟨i+1,by omega,by omega,?_⟩;rw[rdK.eq_1,nU_ (.inr hic)];exact eV_ (by omega) fun hs=>sv_f3 hs;refine s_r 8 ?_;refine a_2 ?_;refine o_0 (.bin rfl rfl (vT bu_ (neT (by omega)))) ?_;refine a_1 ?_;refine y_g rfl d_t (.load_a rfl rfl TG.h TS.h (nle rfl)) ?_;refine y_g rfl d_t (.call rfl rfl rfl (bt_ (Y i c))) ?_
    refine y_g rfl d_t (.bin rfl rfl (vT bu_ (neT (mt sgZ_num_eq.1 hic)))) ?_;refine o_0 (.pickT rfl d_t rfl) ?_;refine ak_ ?_;refine cT (s_r 6 ?_);refine a_3 ?_;refine o_0 (.load_l1 rfl ho3 (hg3 _ (by omega)) TG.h rfl) ?_;refine a_z ?_;refine AWp.cutB (fun _:Unit=>rdI Y n L.length c L i (n+1)) (fun _=>True) ?_ ?_
    ·refine af_ (aq_ (rdI Y n L.length c L i) (fun j=>n+1- j) (fun j=>j≤n+1) 0 (Nat.zero_le _) ?_ ?_)
     rw[rdI.eq_1];exact eV_ (by omega) fun hs=>sv_f3 hs;intro j hj;rw[rdI.eq_1];by_cases hjn:j< n+1;rotate_left;have hge:j=n+1:=by omega
     subst hge;refine q_z 1 ?_;refine ab_ (cF (ao_ ⟨(),trivial,?_⟩));exact eV_ (by omega) fun hs=>sv_f3 hs;refine q_z 1 ?_;refine ab_ (cT (ah_ (ab_ (af_ (r_z 2 ?_)))));have hmu:=bE_ (Y i c) (Y L.length j) (by have:=hqS i c hin (by omega);have:=hqS L.length j hrn (by omega);omega);have hsu:=gm_ (Y i j) (Y i c* Y L.length j) (by have:=hqS i c hin (by omega);have:=hqS L.length j hrn (by omega);have:=hqS i j hin (by omega);have:=bH_ (Y i c) (Y L.length j);omega);have hcei:=ev_ (TS:=32) (TQ:=46) (R:=fun k=>tabP (n+1) (rdJ Y L.length c i j k)) (bs_ (n:=n) (L:=L)) (by omega:n≤30) hin;have hcer:=ev_ (TS:=32) (TQ:=46) (R:=fun k=>tabP (n+1) (rdJ Y L.length c i j k)) (bs_ (n:=n) (L:=L)) (by omega:n≤30) hrn;have ho5:=b2_ (bh_ (TS:=32) (TQ:=46) (n:=n) (R:=fun k=>tabP (n+1) (rdJ Y L.length c i j k)) (bs_ (n:=n) (L:=L))) (show(1:Nat)≠0 by decide);have hg5:∀e,e=i→(rwO (fun k=>tabP (n+1) (rdJ Y L.length c i j k)) (fun x=>x) n)[e]?=some [.lsl (i+2) 0 (n+1) none 3]:=fun e he=>by rw[ce_ hin e he];simp
     have hg6:∀e,e=L.length→(rwO (fun k=>tabP (n+1) (rdJ Y L.length c i j k)) (fun x=>x) n)[e]?=some [.lsl (L.length+2) 0 (n+1) none 3]:=fun e he=>by rw[ce_ hrn e he];simp
     have hgi:∀e,e=j→(pE (tabP (n+1) (rdJ Y L.length c i j i)))[e]?=some (qC (Y i j)):=fun e he=>by rw[dc_ hjn e he,rdJ_at]
     have hgr:∀e,e=j→(pE (tabP (n+1) (rdJ Y L.length c i j L.length)))[e]?=some (qC (Y L.length j)):=fun e he=>by rw[dc_ hjn e he,rdJ_r]
     refine r_d hmix 24 ?_;refine a_3 ?_;refine o_0 (.load_l1 rfl ho5 (hg5 _ (by omega)) TG.h rfl) ?_;refine a_4 ?_;refine o_0 (.load_l1 rfl ho5 (hg5 _ (by omega)) TG.h rfl) ?_;refine a_2 ?_;refine o_0 (.load_l rfl hcei (hgi _ (by omega)) TG.h TS.h (nle rfl)) ?_;refine a_4 ?_;refine o_0 (.load_l1 rfl ho5 (hg6 _ (by omega)) TG.h rfl) ?_;refine a_2 ?_;refine o_0 (.load_l rfl hcer (hgr _ (by omega)) TG.h TS.h (nle rfl)) ?_;refine c_s (hmu) ?_;refine c_s (hsu) ?_;refine a_1 ?_;refine o_1n (.store rfl hcei (hgi _ (by omega)) rfl rfl rfl TS.h (nle rfl)) ?_;refine ak_ (n_k ?_);refine r_m 2 ?_;refine a_z ?_;refine⟨j+1,by omega,by omega,?_⟩;rw[rdI.eq_1,rdJ_s hir];exact qx_ (by omega) hin hjn (by omega) fun hs=>sv_f3 hs
    rintro _ _;show AWp _ _ _ _ (rdI Y n L.length c L i (n+1));rw[rdI.eq_1,show(fun k=>tabP (n+1) (rdJ Y L.length c i (n+1) k))=fun k=>tabP (n+1) (rdJ Y L.length c (i+1) 0 k) from funext fun k=>kk_ fun j hj=>rdJ_n i k j hj];refine r_m 2 ?_;refine a_z ?_;refine⟨i+1,by omega,by omega,?_⟩;rw[rdK.eq_1];exact eV_ (by omega) fun hs=>sv_f3 hs
   rintro _ _;show AWp _ _ _ _ (rdK Y n L.length c L n);rw[rdK.eq_1,qw_ (R:=fun k=>tabP (n+1) (rdJ Y L.length c n 0 k)) (R':=fun k=>tabP (n+1) (rdM Y L.length c k)) fun k hk=>(kk_ fun j _=>rdJ_end hk j:rT n (rdJ Y L.length c n 0) k=rT n (rdM Y L.length c) k)];have hc36:cellF (lookB (rwH 32 46 (fun k=>tabP (n+1) (rdM Y L.length c k)) n (sx1 n L))) 36=some ⟨131,3,[[.lsl 1 0 n (some n) 1,lvA L,i64 n]]⟩:=rfl;cases L with
   |nil=>
    refine r_m 7 ?_;refine a_1 ?_;refine o_0 (.load_l1 rfl hc36 rfl TG.h rfl) ?_;refine a_2 ?_;refine AR.op1 (.append_e rfl rfl rfl te_47.h rfl rfl rfl (.lsl rfl (nle rfl)) (by first|assumption|(simp;done)) TZ.h rfl TB.h d_o (by first|(simp[maxLen];done)|(simp[maxLen];omega))) rfl rfl ?_;refine a_z ?_;refine r_m 2 ?_;refine a_z ?_;refine⟨c+1,by omega,by omega,?_⟩;rw[scS.eq_1,hn1];refine ew_ (x:= .lsl 44 0 1 none 1) (fun x=>cond (Nat.beq x 37) 44 x) (by omega) rfl (qs_ (by omega)) ?_ ?_ rfl rfl (.inr ⟨by simp,rfl,rfl⟩) fun hs=>sv_f3 hs
    ·rw[fB_ (by decide)]
     repeat rw[aV_ (by decide)]
     rw[bh_ bs_,cY_ (R':=fun k=>tabP (n+1) (rdM Y ([]:List Nat).length c k)) (s':=fun x=>cond (Nat.beq x 37) 44 x)];exact fun k hk=>⟨rfl,(fB_ (by omega)).symm⟩
    ·intro k hk
     rw[fB_ (by omega)]
     repeat rw[aV_ (by omega)]
     exact bQ_ (R:=fun k=>tabP (n+1) (rdM Y ([]:List Nat).length c k)) bs_ (by omega) hk
   |cons l L=>
    have hLs:L.length+1< n:=hrn;refine r_m 7 ?_;refine a_1 ?_;refine o_0 (.load_l1 rfl hc36 rfl TG.h rfl) ?_;refine a_z ?_;refine r_m 2 ?_;refine a_z ?_;refine⟨c+1,by omega,by omega,?_⟩;rw[scS.eq_1,hn1];refine ew_ (x:= .lsl 44 0 (L.length+1+1) none 1) (fun x=>cond (Nat.beq x 37) 44 x) (by omega) rfl (qs_ (by omega)) ?_ ?_ rfl rfl (.inr ⟨by simp,by simp,by rw[lvE_snoc];rfl⟩) fun hs=>sv_f3 hs
    ·rw[fB_ (by decide)]
     repeat rw[aV_ (by decide)]
     rw[bh_ bs_,cY_ (R':=fun k=>tabP (n+1) (rdM Y (l::L).length c k)) (s':=fun x=>cond (Nat.beq x 37) 44 x)];exact fun k hk=>⟨rfl,(fB_ (by omega)).symm⟩
    ·intro k hk
     rw[fB_ (by omega)]
     repeat rw[aV_ (by omega)]
     exact bQ_ (R:=fun k=>tabP (n+1) (rdM Y (l::L).length c k)) bs_ (by omega) hk
 rintro _ _;show AWp _ _ _ _ (scS M n n);rw[scS.eq_1];obtain⟨⟨A,L⟩,hAL⟩:∃p,p=slM M n n:=⟨_,rfl⟩;rw[←hAL];have hrows:∀hp:Nat→Option ABlk,hp 1=some ⟨32,1,rwO (fun k=>tabP (n+1) (A k)) (fun x=>x) n⟩→(∀i,i< n→hp (i+2)=some ⟨46,3,pE (tabP (n+1) (A i))⟩)→Cv (Ren.id 0) hp (fun _=>none) (.lsl 1 0 n (some n) 1) (.arr (mE ((List.range n).map fun k=>tabP (n+1) (A k)))):=fun hp h1 h2=>Cv_rwV (fun _ _=>rfl) h1 h2 (Nat.zero_add n);cases L with
 |nil=>
  refine r_z 2 ?_;refine ag_ (Fin.cell (t:=6) rfl rfl rfl TG.h TS.h (nle rfl) (Cv.agg (ae_ (hrows _ ?_ ?_) (ae_ (Cv.emp _) (ae_ (ai_ as_ (ad_ _)) am_)))));rw[aV_ (by decide)];exact bh_ bs_;intro k hk;rw[aV_ (by omega)];exact bQ_ (R:=fun k=>tabP (n+1) (A k)) bs_ (by omega) hk
 |cons l L=>
  refine r_z 2 ?_;refine ag_ (Fin.cell (t:=6) rfl rfl rfl TG.h TS.h (nle rfl) (Cv.agg (ae_ (hrows _ ?_ ?_) (ae_ (Cv.shut (es:=lvE (l::L)) (B:=⟨3,1,lvE (l::L)⟩) as_ rfl (fun j B hj=>by cases hj) (by simp) (kZ_ (by simp) (co_ _))) (ae_ (ai_ as_ (ad_ _)) am_)))));rw[aV_ (by decide)];exact bh_ bs_;intro k hk;rw[aV_ (by omega)];exact bQ_ (R:=fun k=>tabP (n+1) (A k)) bs_ (by omega) hk
theorem lk_ (A:Nat→Nat→Rat) (l:Rat) (b:List Rat) (n B:Nat) (hn:n≤25) (hb:b.length=n) (hB:B≤100000000000)
    (hm:∀i j:Nat,i< n→j< n→qs (A i j)+qs l≤549755813888) (ha:∀i:Nat,i< n→qs (-(A i i* l))+1≤549755813887) (hq:∀c,c≤n→∀i j,i< n→j≤n→qs ((slM (svM A l (fun t=>coP b t) n) n c).1 i j)≤B):
    XSpec Tryz.prog 57 [.lsl 1 0 n (some n) 1,.agg (qC l),.arr (pE b)] (mzH 3 32 46 (mzO 3 (fun _=>n) (fun x=>x) n) (fiL A n n)) 40 (syV n (slM (svM A l (fun t=>coP b t) n) n n)) [] 1:=
 sv_rows A l b n hn hb _ hm ha (sv_cols _ n B hn hB hq)
end Go.Proofs.YtjkddcfoolilbaaGreatDoor
