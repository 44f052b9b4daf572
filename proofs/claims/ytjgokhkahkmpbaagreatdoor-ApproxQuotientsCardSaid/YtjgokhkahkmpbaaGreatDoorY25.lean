/- Part Y25 of the proof. -/
import Derived.Test.YtjgokhkahkmpbaaGreatDoorY24
set_option linter.all false
namespace Go.Proofs.YtjgokhkahkmpbaaGreatDoor
open Go.Abs
set_option maxRecDepth 20000
set_option maxHeartbeats 2000000
theorem E1(l:Lq)(h0:l≠[])(hl:l.length<=1099511627776):FS 71 [.arr (pE l)] (.arr (pE l)):=by
 have hne:pE l≠[]:=by
  intro e;exact h0 (List.length_eq_zero_iff.1 (by rw[<-nj,e];rfl))
 refine f_c Tryz.func71 ?_;refine r_z 1 ?_;refine ac (s_r 2 ?_);refine a_1 ?_
 first|refine av (.nilq_v rfl rfl te_29.h) rfl rfl ?_|refine av (.nilq_arr rfl (hne) rfl te_29.h) rfl rfl ?_
 refine ao ?_;refine cF ?_
 ·refine am (s_r 4 ?_)
  refine a_2 ?_;refine o_2 (.append_l rfl rfl rfl te_29.h rfl rfl rfl rfl rfl d_o η ξ rfl (.arr (fl _)) TZ.h rfl TB.h d_o μ) ?_;refine a_z ?_;exact an (Fin.tmpS rfl rfl rfl ψ (aJ _))
theorem fs_MulQ(p q:Lq)(o:nT p q):FS 72 [.arr (pE p),.arr (pE q)] (.arr (pE (ep p q))):=
 xP p q (mxL p) (mxL q) (eb p) (eb q) (dR p) (dR q) o.1 o.2.1 o.2.2.1 o.2.2.2
def quC:Nat->Option Nat
 |0=>some 1
 |_+1=>none
def quV(A:Mx):Nat->AV
 |0=> .emp
 |n+1=> .arr (mE ((List.range (n+1)).map λk=>aH (n+1+1) (A k)))
theorem u6(A:Mx)(n:Nat):Closed (quV A n):=by
 cases n with
 |zero=>exact aK
 |succ n=>exact closed_mA _
def qeS(c:Lq)(A:Mx)(m n:Nat):Nat->AState
 |i=>⟨[(1,i64 m),(2,i64 n),(3,.aptr [[.arr (pE c)]] 0 0),(7,.lsl 1 0 (i+1) (quC i) 3),(84,quV A n),(85,i64 n),(86,i64 i)],[(1,some ⟨42,3,pE (quQ A n i)⟩)],2,116⟩
noncomputable def quEnd:Code:=match quRest with| .seq _ y=>y|_=> .skip
theorem Gh (c:Lq) (A:Mx) (m n:Nat) (hn:n<=19) (hm:m<=19) (hl:m+n+1<=c.length) (hc:c.length<=1000) (o:nT (c.take (m+1)) (quD A n)) (Q:Exit->AState->Prop)
    (hQ:Q .ret ⟨[(6,.arr (pE (quN c A m n))),(7,.arr (pE (quD A n))),(8,i64 0)],[],1,116⟩):AWp none Tryz.prog quEnd Q ⟨[(1,i64 m),(2,i64 n),(3,.aptr [[.arr (pE c)]] 0 0),(10,quV A n)],[],1,116⟩:=by
 unfold quEnd;have hi1:=df 1 δ;have hcl:(pE c).length=c.length:=by simp[pE]
 have hlenV:qN (quV A n)=some n:=by
  cases n with
  |zero=>rfl
  |succ n=>show some (mE _).length=_;simp
 refine r_c 3 (hi1) ?_;refine a_z ?_;refine ac (s_r 3 ?_);refine a_1 ?_;refine o_0 (.len rfl rfl rfl rfl hlenV te_117.h) ?_;refine a_z ?_;refine aG (λ_:Unit=>⟨[(1,i64 m),(2,i64 n),(3,.aptr [[.arr (pE c)]] 0 0),(7,.arr (pE (quQ A n n)))],[],1,116⟩) (λ_=>True) ?_ ?_
 ·refine ak (aC (qeS c A m n) (λi=>n- i) (λi=>i<=n) 0 (Nat.zero_le _) ?_ ?_)
  rw[qeS.eq_1];have e0:pE (quQ A n 0)=[qC ((1:Int):Rat)]:=by show [qC 1]=_;rw[show((1:Int):Rat)=1 by decide]
  refine s_x [(1,7)] (λhs=>?_) (λhs=>?_)
  ·repeat' (first|exact aF|refine aj rfl ?_ ?_|exact ah hs (cC c)|exact ah hs (u6 A n)|exact aX)
  ·repeat' (first|exact aD|refine h_c ?_ ?_|exact aI hs e0.symm (aJ _)|exact bG|refine ay ?_|exact ax|refine af ?_ ?_|exact ah hs (cC c)|exact ah hs (u6 A n)|exact aX)
  intro i hi;rw[qeS.eq_1];have hql:(pE (quQ A n i)).length=i+1:=by simp[quQ]
  by_cases hin:i< n;rotate_left;have hge:i=n:=ω
  subst hge;refine q_z 1 ?_;refine ac (cF (aB ⟨(),trivial,?_⟩));refine s_x [] (λhs=>?_) (λhs=>?_)
  ·repeat' (first|exact aF|refine aj rfl ?_ ?_|exact ah hs (cC c)|(refine Cv.shut hs rfl (aP rfl) (by simp[quQ]) ?_;exact aI hs (by rw[List.drop_zero];exact List.take_of_length_le (by simp[quQ])) (aJ _))|exact aX)
  ·repeat' (first|exact aD|refine h_c ?_ ?_|exact bG|refine ay ?_|exact ax|refine af ?_ ?_|exact ah hs (cC c)|(refine Cv.shut hs rfl (aP rfl) (by simp[quQ]) ?_;exact aI hs (by rw[List.drop_zero];exact List.take_of_length_le (by simp[quQ])) (aJ _))|exact aX)
  obtain⟨n',rfl⟩:∃n',n=n'+1:=⟨n- 1,ω⟩;have hgr:∀e,e=i->(mE ((List.range (n'+1)).map λk=>aH (n'+1+1) (A k)))[e]?=some [.arr (pE (aH (n'+1+1) (A i)))]:=GS (by simp[hin]);have hgc:(pE (aH (n'+1+1) (A i)))[((n'+1:Nat):Int).toNat]?=some (qC (A i (n'+1))):=sv (A i) ω _ ψ;have hnew:pE (quQ A (n'+1) i)++[qC (A i (n'+1))]=pE (quQ A (n'+1) (i+1)):=by simp[quQ,pE,aH,List.range_succ]
  have hone:=cy (quQ A (n'+1) i);refine q_z 1 ?_;refine ac (cT (am (ac (ak ?_))));simp only[quV];refine s_r 3 ?_
  first|refine av (.index_l rfl rfl ω ω te_117.h) rfl rfl ?_|refine av (.index_a rfl rfl ω (hgr _ ψ) rfl te_117.h) rfl rfl ?_
  first|refine av (.load_l1 rfl rfl (hgr _ ψ) TG.h rfl) rfl rfl ?_|refine av (.load_a1 rfl (hgr _ ψ) TG.h rfl) rfl rfl ?_
  refine a_z ?_;refine r_m 8 ?_;refine a_3 ?_;refine i_x hgc ?_;refine l_x hgc ?_;refine a_z ?_;refine r_m 2 ?_;refine a_z ?_;refine⟨i+1,ω,ω,?_⟩;rw[qeS.eq_1];simp only[quV,quC];refine s_x [(1,7)] (λhs=>?_) (λhs=>?_) ?_
  ·repeat' (first|exact aF|refine aj rfl ?_ ?_|exact ah hs (cC c)|exact ah hs (closed_mA _)|exact aX)
  ·repeat' (first|exact aD|refine h_c ?_ ?_|exact aI hs hnew (aJ _)|exact bG|refine ay ?_|exact ax|refine af ?_ ?_|exact ah hs (cC c)|exact ah hs (closed_mA _)|exact aX)
  ·repeat' (first|exact ShrL.nil|refine ShrL.cons rfl rfl rfl rfl (by first|(simp[quQ])|rfl|(simp;done)|(simp <;> omega)) ?_)
 rintro _ _;have htr:=dT (quQ A n n) (by simp[quQ];omega);have hml:=fs_MulQ (c.take (m+1)) (quD A n) o;have hck:=E1 (c.take (m+1)) (by intro e;have:=congrArg List.length e;rw[List.length_take,List.length_nil] at this;omega) (by rw[List.length_take];omega);obtain⟨w,hw⟩:∃w,w=ep (c.take (m+1)) (quD A n):=⟨_,rfl⟩;rw[<-hw] at hml
 have hwl:w.length<=1000:=by
  rw[hw];have h1:(ep (c.take (m+1)) (quD A n)).length<=(c.take (m+1)).length+(quD A n).length:=GN _ _
  have h2:(quD A n).length<=n+1:=by
   have:=cv (quQ A n n);unfold quD;simp[quQ] at this⊢;omega
  rw[List.length_take] at h1;omega
 have hwp:(pE w).length=w.length:=by simp[pE]
 obtain⟨k,hk⟩:∃k,k=min w.length (m+1):=⟨_,rfl⟩
 have ht:w.take k=w.take (m+1):=by
  rw[hk];by_cases g:w.length<=m+1;rw[Nat.min_eq_left g,List.take_of_length_le (Nat.le_refl _),List.take_of_length_le g];rw[Nat.min_eq_right ω]
 have e:(pE w).take k=pE (w.take (m+1)):=by rw[<-ht];simp[pE,List.map_take]
 have ht2:=dT (w.take (m+1)) (by rw[List.length_take];omega);have ec:(pE c).take (m+1)=pE (c.take (m+1)):=by simp[pE,List.map_take]
 refine r_c 3 (htr) ?_;refine a_z ?_;refine s_r 8 ?_;refine a_3 ?_;refine o_0 (.sa_hE (h:=m+1) ec rfl rfl ψ ω te_29.h (fl _)) ?_;refine c_s (hck) ?_;refine c_s (hml) ?_;refine a_z ?_;refine s_r 12 ?_;refine a_6 ?_;refine o_0 (.sa_hE (h:=k) e rfl rfl (by rw[hk];split <;> omega) ω te_30.h (fl _)) ?_;refine c_s (ht2) ?_;refine a_z ?_;have eN:quN c A m n=aA (w.take (m+1)):=by rw[hw];rfl
 refine AWp.ent (st':=⟨[(6,.arr (pE (quN c A m n))),(7,.arr (pE (quD A n))),(8,i64 0)],[],1,116⟩) ?_ ?_;rw[eN];exact s_f [];exact an hQ
theorem BY:FS 70 [.arr []] (bln true):=by
 refine f_n Tryz.func70 ?_ ?_;exact ae (aU (λ_ h=>by cases h)) ai;refine r_z 1 ?_;refine ac (r_z 3 ?_);refine aG (λ_:Unit=>⟨[(2,bln false)],[],1,118⟩) (λ_=>True) ?_ ?_;refine ak (aC (λ_:Nat=>⟨[(2,bln false),(12,i64 0),(13,i64 0)],[],1,118⟩) (λ_=>0) (λ_=>True) 0 trivial ?_ ?_);exact s_e [];intro i _;refine q_z 1 ?_;refine ac (cF (aB ⟨(),trivial,?_⟩));exact s_e [];rintro _ _;refine r_z 1 ?_;exact an (t_e (ag _))
theorem Ag (c:Lq) (m n B:Nat) (hn:n<=19) (hm:m<=19) (hmn:m+n+1<=20) (hl:m+n+1<=c.length) (hc:c.length<=1000) (hfull:n<=(slM (quM c m n) n n).2.length) (hB:B<=100000000000) (hq:∀k,k<=n->∀i j,i< n->j<=n->qs ((slM (quM c m n) n k).1 i j)<=B)
    (o:nT (c.take (m+1)) (quD (slM (quM c m n) n n).1 n)):FS 18 [.arr (pE c),i64 m,i64 n] (.tup [.arr (pE (quN c (slM (quM c m n) n n).1 m n)),.arr (pE (quD (slM (quM c m n) n n).1 n)),i64 0]):=by
 refine Dm c m n hn hm hmn hl hc _ ?_
 have hfin:∀(Ap:Lq) (Bp:Lq),Fin Tryz.prog Tryz.f18.results.toList (.tup [.arr (pE Ap),.arr (pE Bp),i64 0]) .ret ⟨[(6,.arr (pE Ap)),(7,.arr (pE Bp)),(8,i64 0)],[],1,116⟩:=λAp Bp=>by
  refine Fin.many ⟨_,_,rfl,rfl,⟨_,_,rfl,rfl,⟨_,_,rfl,rfl,rfl⟩⟩⟩ (nle rfl) ?_;exact CvL.clo aE (ae (aq _) (ae (aq _) (ae (ag _) ai)))
 cases n with
 |zero=>
  unfold quRest;simp only[oV];refine ac (r_c 3 (BY) ?_);refine a_z ?_;refine cF (am (AWp.ent (st':=⟨[(1,i64 m),(2,i64 (0:Nat)),(3,.aptr [[.arr (pE c)]] 0 0),(10,quV (slM (quM c m 0) 0 0).1 0)],[],1,116⟩) ?_ (Gh c (slM (quM c m 0) 0 0).1 m 0 hn hm hl hc o _ (hfin _ _))));refine s_x [] (λhs=>?_) (λhs=>?_)
  ·repeat' (first|exact aF|refine aj rfl ?_ ?_|exact ah hs (cC c)|exact ah hs aK|exact aX)
  ·repeat' (first|exact aD|refine h_c ?_ ?_|exact bG|refine ay ?_|exact ax|refine af ?_ ?_|exact ah hs (cC c)|exact ah hs aK|exact aX)
 |succ n=>
  unfold quRest;refine AWp.pinned (st':=⟨[(1,i64 m),(2,i64 (n+1:Nat)),(3,.aptr [[.arr (pE c)]] 0 0),(10,.lsl 0 0 (n+1) none 1)],rzH 29 42 (λk=>aH (n+1+1) (quM c m (n+1) k)) (n+1),40,116⟩) ?_ ?_;refine SEntP.rz s01 ω (λx y=>C7 x y) ?_ ?_ ?_;show au _ 1=_;rw[lD ω,gi (R':=λk=>aH (n+1+1) (quM c m (n+1) k)) (s':=s01)];exact λk hk=>⟨rfl,(l7 ω).symm⟩;intro k hk;rw[l7 ω];exact j9 ω hk;intro hs;exact aj rfl (ah hs (ag _)) (aj rfl (ah hs (ag _)) (aj rfl (ah hs (cC c)) (aj rfl (Cv.sl rfl rfl rfl) aF)));have hX:=D9 (quM c m (n+1)) (n+1) B ω hfull hB hq;obtain⟨A,hA⟩:∃A,A=(slM (quM c m (n+1)) (n+1) (n+1)).1:=⟨_,rfl⟩;rw[<-hA] at hX o⊢;refine ac (ac (AWp.regF (fr2:=[(79,.lsl 0 0 (n+1) none 1),(1,i64 m),(2,i64 (n+1:Nat)),(3,.aptr [[.arr (pE c)]] 0 0),(10,.lsl 0 0 (n+1) none 1)]) (hp2:=rzH 29 42 (λk=>aH (n+1+1) (quM c m (n+1) k)) (n+1)) (nx2:=40) (k:=40) (hpc:=rzH 29 42 (λk=>aH (n+1+1) (quM c m (n+1) k)) (n+1)) (hpd:=rzH 29 42 (λk=>aH (n+1+1) (A k)) (n+1)) (hp3:=rzH 29 42 (λk=>aH (n+1+1) (A k)) (n+1)) (fr3:=[(1,i64 m),(2,i64 (n+1:Nat)),(3,.aptr [[.arr (pE c)]] 0 0),(10,.lsl 0 0 (n+1) none 1)]) 1 rfl rfl rfl rfl rfl ?_ (λd h=>by cases h;rfl) rfl rfl hX δ (Nat.le_refl _) ?_ (λi hi=>rfl) (λi hi=>fM ω) (F0 λk hk=>⟨ω,by rw[bH hk];rfl⟩) ?_ ?_ (λi hi=>fM ω) rfl rfl ?_ ?_));refine o_0 (.move rfl) ?_;refine ao ?_;refine SEntT.rz1 ω bv (λi hi=>bH hi) λhs=>?_
  exact aj rfl (Cv.sl rfl rfl rfl) (aj rfl (ah hs (ag _)) (aj rfl (ah hs (ag _)) (aj rfl (ah hs (cC c)) (aj rfl (Cv.sl rfl rfl rfl) aF))));intro x hx;rw[List.append_nil,List.mem_singleton] at hx;rw[hx];exact .sl ⟨ω,rfl⟩;intro i X hi hX;rw[fM ω] at hX;cases hX;intro i;by_cases h:i< 40;rw[if_pos h];rw[if_neg h,fM ω,fM ω];intro t x hx;have hm:=look_mem' hx;simp only[List.mem_cons,Prod.mk.injEq,List.not_mem_nil,or_false] at hm;rcases hm with⟨rfl,rfl⟩|⟨rfl,rfl⟩|⟨rfl,rfl⟩|⟨rfl,rfl⟩
  exact⟨rfl,.clo (ag _)⟩;exact⟨rfl,.clo (ag _)⟩;exact⟨rfl,.clo (cC c)⟩;exact⟨rfl,.sl (.inl rfl)⟩;refine o_0 (.un rfl iN) ?_;refine ao ?_;refine cF (am (AWp.ent (st':=⟨[(1,i64 m),(2,i64 (n+1:Nat)),(3,.aptr [[.arr (pE c)]] 0 0),(10,quV A (n+1))],[],1,116⟩) ?_ (Gh c A m (n+1) hn hm hl hc o _ ⟨rfl,hfin _ _⟩)));refine(SEntT.to [] rfl rfl rfl ShrL.nil (λhs=>?_) (λhs=>aD)).ent;have e0:au []=λ_=>none:=by funext i;rfl
  exact aj rfl (ah hs (ag _)) (aj rfl (ah hs (ag _)) (aj rfl (ah hs (cC c)) (aj rfl (by rw[e0];exact yD (λ_ _=>rfl) bv (λi hi=>bH hi) (Nat.zero_add _)) aF)))
theorem A0(M:Mx)(n B k:Nat)(hn:n<=25)(hU:Upto M n k)(hB:B<=100000000000)(hq:∀c,c<=k->∀i j,i< n->j<=n->qs ((slM M n c).1 i j)<=B):
    XSpec Tryz.prog 70 [.lsl 0 0 n none 1] (rzH 29 42 (λk=>aH (n+1) (M k)) n) 40 (bln (decide (k=n))) (rzH 29 42 (λi=>aH (n+1) ((slM M n k).1 i)) n) 40:=by
 refine XSpec.enter Tryz.func70 rfl κ rfl rfl rfl rfl rfl ?_;have hkn:=hU.le;refine r_z 1 ?_;refine ac (r_z 3 ?_);refine aG (λ_:Unit=>rcS M n n) (λ_=>k=n) ?_ ?_
 ·refine ak (aC (rcS M n) (λc=>k- c) (λc=>c<=k) 0 (Nat.zero_le _) ?_ ?_)
  rw[rcS.eq_1];exact(SEntT.rz1 ω bv (λi hi=>bH hi) λhs=>fh hs).ent;intro c hc;rw[rcS.eq_1];by_cases hlt:c< n;rotate_left;have hge:c=n:=ω
  have hkc:k=n:=ω
  subst hge;refine s_r 1 ?_;refine o_0 (.bin rfl rfl (vF aZ (decide_eq_false ω))) ?_;refine ao ?_;refine ac (cF (aB ⟨(),hkc,?_⟩));exact(SEntT.rz1 ω bv (λi hi=>bH hi) λhs=>fh hs).ent;refine s_r 1 ?_;refine o_0 (.bin rfl rfl (vT aZ (decide_eq_true ω))) ?_;refine ao ?_;refine ac (cT (am (ac (ak ?_))));have hqc:=hq c hc;by_cases hck:c< k;rotate_left;have hce:c=k:=ω
  subst hce
  have hpn:pvR (slM M n c).1 n c c=none:=by
   rcases hU.fin with e|⟨_,h⟩
   omega;exact h
  obtain⟨A,hA⟩:∃A,A=(slM M n c).1:=⟨_,rfl⟩;rw[<-hA] at hpn⊢;have hdn:decide (c=n)=false:=decide_eq_false ω;rw[hdn];refine r_z 3 ?_;refine AWp.ent (st':=⟨[(0,.lsl 0 0 n none 1),(2,bln false),(3,.aptr [[i64 c]] 0 0),(12,i64 n),(13,i64 c)],rzH 29 42 (λk=>aH (n+1) (A k)) n,40,118⟩) ?_ ?_;refine(SEntT.rz1 ω ?_ ?_ λhs=>fh hs).ent
  ·repeat rw[bh δ]
   exact bv
  ·intro k hk
   repeat rw[bh ω]
   exact bH hk
  have hcl:Closed (.clos 126 [] [.aptr [[i64 c]] 0 0]):=aY ai (ae (aW (ae (ag _) ai)) ai);have hlead:=uq (λk=>aH (n+1) (A k)) n (0+c) c ω (λi hi=>χ);rw[G1 ω (by rw[Nat.zero_add];exact hpn)] at hlead;refine s_r 6 ?_;refine a_2 ?_;refine o_0 (.slice_l (l:=c) (h:=n) rfl ⟨⟨_,rfl,.inr ⟨_,_,rfl,rfl⟩⟩,⟨_,rfl,.inl ⟨rfl,rfl,rfl⟩⟩,⟨_,rfl,.inl ⟨rfl,rfl⟩⟩⟩ ω (Nat.le_refl _) (.inr ω) te_117.h) ?_;refine a_1 ?_;refine o_0 (.callV (rd:=rzI n) (rr:=⟨0,λi=>i⟩) rfl rfl rfl (λhp' hh=>af (yD hh bv (λi hi=>bH hi) ω) (af (ah aE hcl) ax)) hlead) ?_;refine a_z ?_;refine ac (s_r 2 ?_);refine a_1 ?_;refine o_0 (.bin rfl rfl (vT aZ (decide_eq_true ω))) ?_;refine ao ?_;refine cT (r_z 1 ?_);refine an (FinX.of ?_);exact(SEntT.rz1 ω bv (λi hi=>bH hi) λhs=>fh hs).ent;obtain⟨p,hp,hn1⟩:=hU.step hck;have hqn:=hq (c+1) hck;rw[hn1] at hqn;obtain⟨A,hA⟩:∃A,A=(slM M n c).1:=⟨_,rfl⟩;rw[<-hA] at hqc hp hn1 hqn⊢;obtain⟨p1,p2,p3⟩:=kD hp;refine r_z 3 ?_;refine AWp.ent (st':=⟨[(0,.lsl 0 0 n none 1),(2,bln false),(3,.aptr [[i64 c]] 0 0),(12,i64 n),(13,i64 c)],rzH 29 42 (λk=>aH (n+1) (A k)) n,40,118⟩) ?_ ?_;refine(SEntT.rz1 ω ?_ ?_ λhs=>fh hs).ent
  ·repeat rw[bh δ]
   exact bv
  ·intro k hk
   repeat rw[bh ω]
   exact bH hk
  have hcl:Closed (.clos 126 [] [.aptr [[i64 c]] 0 0]):=aY ai (ae (aW (ae (ag _) ai)) ai);have hlead:=uq (λk=>aH (n+1) (A k)) n (0+c) c ω (λi hi=>χ);rw[DE (p:=p) ω (by rw[Nat.zero_add];exact hp)] at hlead;refine s_r 6 ?_;refine a_2 ?_;refine o_0 (.slice_l (l:=c) (h:=n) rfl ⟨⟨_,rfl,.inr ⟨_,_,rfl,rfl⟩⟩,⟨_,rfl,.inl ⟨rfl,rfl,rfl⟩⟩,⟨_,rfl,.inl ⟨rfl,rfl⟩⟩⟩ ω (Nat.le_refl _) (.inr ω) te_117.h) ?_;refine a_1 ?_;refine o_0 (.callV (rd:=rzI n) (rr:=⟨0,λi=>i⟩) rfl rfl rfl (λhp' hh=>af (yD hh bv (λi hi=>bH hi) ω) (af (ah aE hcl) ax)) hlead) ?_;refine a_z ?_;refine ac (s_r 2 ?_);refine a_1 ?_;refine o_0 (.bin rfl rfl (vF aZ (decide_eq_false ω))) ?_;refine ao ?_;refine cF (am ?_);have hgp:∀e,e=p->(rwO (λk=>aH (n+1) (A k)) (λx=>x) n)[e]?=some [.lsl (p+2) 0 (n+1) none 3]:=λe he=>by rw[dQ p1 e he];simp
  have hgr:∀e,e=c->(rwO (λk=>aH (n+1) (A k)) (λx=>x) n)[e]?=some [.lsl (c+2) 0 (n+1) none 3]:=λe he=>by rw[dQ hlt e he];simp
  have hst:∀a b,a=c->b=p->((rwO (λk=>aH (n+1) (A k)) (λx=>x) n).set a [.lsl (p+2) 0 (n+1) none 3])[b]?=some [.lsl (p+2) 0 (n+1) none 3]:=λa b ha hb=>by
   rw[List.getElem?_set];split;rw[if_pos (by rw[jy];omega)];exact hgp b hb
  have ho:=dY (bv (TS:=29) (TQ:=42) (n:=n) (R:=λk=>aH (n+1) (A k))) (show(1:Nat)≠0 by decide);refine ac (r_d hmix 20 ?_);refine a_8 ?_;refine a_3 ?_;refine o_0 (.load_l1 rfl ho (hgp _ ω) TG.h rfl) ?_;refine a_3 ?_;refine o_0 (.load_l1 rfl ho (hgr _ ω) TG.h rfl) ?_;refine a_1 ?_;refine ee (.store rfl ho (hgr _ ω) rfl rfl rfl TS.h (nle rfl)) ?_;refine a_1 ?_;refine ee (.store rfl rfl (hst _ _ ω ω) rfl rfl rfl TS.h (nle rfl)) ?_;refine ao (n_k ?_);refine AWp.ent (st':=⟨[(0,.lsl 0 0 n none 1),(2,bln false),(3,.aptr [[i64 c]] 0 0),(12,i64 n),(13,i64 c)],rzH 29 42 (λk=>aH (n+1) (swM A c p k)) n,40,118⟩) ?_ ?_;have q0:swx (p+2) (c+2) 0=0:=qu ω ω;have hinj:∀i j,InZ n i->InZ n j->swx (p+2) (c+2) i=swx (p+2) (c+2) j->i=j:=λ_ _ _ _ e=>C1 e;refine(SEntT.rz (swx (p+2) (c+2)) ω (qu ω ω) hinj ?_ ?_ λhs=>?_).ent;rw[gi (R':=λi=>aH (n+1) (A (swx p c i))) (s':=swx (p+2) (c+2)) (λk hk=>⟨ψ,rfl⟩),<-yX (R:=λk=>aH (n+1) (A k)) p1 hlt (0+((c:Nat):Int).toNat) (0+(((c:Nat):Int)+((p- (0+c):Nat):Int)).toNat) ω ω];simp only[jP];rfl
  ·intro i hi
   rw[swx2,FI]
   repeat rw[bh ω]
   exact bH (R:=λk=>aH (n+1) (A k)) (FH p1 hlt hi)
  exact aj rfl (Cv.sl rfl q0 rfl) (aj rfl (ah hs (ag _)) (aj rfl (ah hs (aW (ae (ag _) ai))) (aj rfl (ah hs (ag _)) (aj rfl (ah hs (ag _)) aF))));have hrow:=fN (TS:=29) (TQ:=42) (R:=λk=>aH (n+1) (swM A c p k)) hlt;have ho2:=dY (bv (TS:=29) (TQ:=42) (n:=n) (R:=λk=>aH (n+1) (swM A c p k))) (show(1:Nat)≠0 by decide);have hg2:∀e,e=c->(rwO (λk=>aH (n+1) (swM A c p k)) (λx=>x) n)[e]?=some [.lsl (c+2) 0 (n+1) none 3]:=λe he=>by rw[dQ hlt e he];simp
  have hx:swM A c p c c=A p c:=by simp[swM]
  have hge:∀e,e=c->(pE (aH (n+1) (swM A c p c)))[e]?=some (qC (A p c)):=λe he=>by
   subst he;simp[pE,aH,show e< n+1 by omega,hx]
  have hi1:=df 1 δ;have hq1:qs ((1:Int):Rat)<=1:=δ
  have hov:=fQ ((1:Int):Rat) (A p c) p3 (by have:=hqc p c p1 ω;omega);refine ac (r_d hmix 11 ?_);refine c_s (hi1) ?_;refine a_3 ?_;refine o_0 (.load_l1 rfl ho2 (hg2 _ ω) TG.h rfl) ?_;refine a_2 ?_;refine o_0 (.load_l rfl hrow (hge _ ω) TG.h TS.h (nle rfl)) ?_;refine c_s (hov) ?_;refine a_2 ?_;refine ao ⟨oa (fps0:=[([],[]),([],[]),([],[]),([],[]),([],[]),([],[]),([],[]),([],[]),([],[]),([49],[]),([49],[49])]) κ (lessF.zz (lessF.zz (lessF.zz (lessF.zz (lessF.rd ω (lessF.zz (lessF.zz (lessF.rd ω (lessF.zz (lessF.al rfl (show 40<=49 by decide) (lessF.st rfl (show 40<=49 by decide) lessF.nil))))))))))),?_⟩;refine AWp.ent (st':=⟨[(0,.lsl 0 0 n none 1),(2,bln false),(3,.aptr [[i64 c]] 0 0),(5,bQ (((1:Int):Rat) / A p c)),(12,i64 n),(13,i64 c)],rzH 29 42 (λk=>aH (n+1) (swM A c p k)) n,40,118⟩) ?_ ?_;refine(SEntT.rz1 ω ?_ ?_ λhs=>fh hs).ent
  ·repeat rw[bh δ]
   exact bv
  ·intro k hk
   repeat rw[bh ω]
   exact bH (R:=λk=>aH (n+1) (swM A c p k)) hk
  refine ac (s_r 6 ?_);refine a_3 ?_;refine o_0 (.load_l1 rfl ho2 (hg2 _ ω) TG.h rfl) ?_;refine a_z ?_;obtain⟨X,hX⟩:∃X,X=swM A c p:=⟨_,rfl⟩;obtain⟨f,hf⟩:∃f,f=((1:Int):Rat) / A p c:=⟨_,rfl⟩;rw[<-hX,<-hf];have hqX:∀i j,i< n->j<=n->qs (X i j)<=B:=by rw[hX];exact AM hqc hlt p1
  have hqf:qs f<=B+1:=by
   rw[hf];have h1:=fu ((1:Int):Rat) (A p c);have h2:=hqc p c p1 ω;omega
  rw[<-hX,show(1:Rat) / A p c=f by rw[hf,show((1:Int):Rat)=1 by decide]] at hn1 hqn;clear hrow ho2 hg2 hx hge hi1 hq1 hov hgp hgr hst ho hlead;refine aG (λ_:Unit=>rcK X n c f (n+1)) (λ_=>True) ?_ ?_
  ·refine ak (aC (rcK X n c f) (λj=>n+1- j) (λj=>j<=n+1) 0 (Nat.zero_le _) ?_ ?_)
   rw[rcK.eq_1,scJ_0];exact(SEntT.rz1 ω bv (λi hi=>bH hi) λhs=>fh hs).ent;intro j hj;rw[rcK.eq_1];by_cases hjn:j< n+1;rotate_left;have hge:j=n+1:=ω
   subst hge;refine s_r 1 ?_;refine o_0 (.bin rfl rfl (vF aZ (decide_eq_false ω))) ?_;refine ao ?_;refine ac (cF (aB ⟨(),trivial,?_⟩));exact(SEntT.rz1 ω bv (λi hi=>bH hi) λhs=>fh hs).ent;refine s_r 1 ?_;refine o_0 (.bin rfl rfl (vT aZ (decide_eq_true ω))) ?_;refine ao ?_;refine ac (cT (am (ac (ak (r_z 2 ?_)))));have hmu:=dq (X c j) f (by have:=hqX c j hlt ω;omega);have hce:=fN (TS:=29) (TQ:=42) (R:=λk=>aH (n+1) (scJ X c f j k)) hlt;have ho3:=dY (bv (TS:=29) (TQ:=42) (n:=n) (R:=λk=>aH (n+1) (scJ X c f j k))) (show(1:Nat)≠0 by decide);have hg3:∀e,e=c->(rwO (λk=>aH (n+1) (scJ X c f j k)) (λx=>x) n)[e]?=some [.lsl (c+2) 0 (n+1) none 3]:=λe he=>by rw[dQ hlt e he];simp
   have hgj:∀e,e=j->(pE (aH (n+1) (scJ X c f j c)))[e]?=some (qC (X c j)):=λe he=>by rw[fv hjn e he,FQ]
   refine r_d hmix 16 ?_;refine a_3 ?_;refine o_0 (.load_l1 rfl ho3 (hg3 _ ω) TG.h rfl) ?_;refine a_4 ?_;refine o_0 (.load_l1 rfl ho3 (hg3 _ ω) TG.h rfl) ?_;refine a_2 ?_;refine o_0 (.load_l rfl hce (hgj _ ω) TG.h TS.h (nle rfl)) ?_;refine c_s (hmu) ?_;refine a_1 ?_;refine ee (.store rfl hce (hgj _ ω) rfl rfl rfl TS.h (nle rfl)) ?_;refine ao (n_k ?_);refine r_m 2 ?_;refine a_z ?_;refine⟨j+1,ω,ω,?_⟩;rw[rcK.eq_1,scJ_s];exact(w7 ω hlt hjn ω λhs=>fh hs).ent
  rintro _ _;show AWp _ _ _ _ (rcK X n c f (n+1));rw[rcK.eq_1,show(λk=>aH (n+1) (scJ X c f (n+1) k))=λk=>aH (n+1) (scM X c f k) from funext λk=>kz λj hj=>scJ_n k j hj];obtain⟨Y,hY⟩:∃Y,Y=scM X c f:=⟨_,rfl⟩
  have hqS:∀i j,i< n->j<=n->qs (Y i j)<=B:=λi j hi hj=>by
   rw[hY];by_cases e:i=c;subst e;have:=hqn i j hi hj;rwa[show rdM (scM X i f) i i i j=scM X i f i j from if_pos rfl] at this;rw[show scM X c f i j=X i j from if_neg e];exact hqX i j hi hj
  rw[<-hY] at hn1⊢;refine r_z 3 ?_;refine AWp.cutB (λ_:Unit=>rcI Y n c n) (λ_=>True) ?_ ?_
  ·refine ak (aC (rcI Y n c) (λi=>n- i) (λi=>i<=n) 0 (Nat.zero_le _) ?_ ?_)
   rw[rcI.eq_1,rdJ_0];exact(SEntT.rz1 ω bv (λi hi=>bH hi) λhs=>fh hs).ent;intro i hi;rw[rcI.eq_1];by_cases hin:i< n;rotate_left;have hge:i=n:=ω
   rw[hge];refine s_r 1 ?_;refine o_0 (.bin rfl rfl (vF aZ (decide_eq_false ω))) ?_;refine ao ?_;refine ac (cF (aB ⟨(),trivial,?_⟩));exact(SEntT.rz1 ω bv (λi hi=>bH hi) λhs=>fh hs).ent;refine s_r 1 ?_;refine o_0 (.bin rfl rfl (vT aZ (decide_eq_true ω))) ?_;refine ao ?_;refine ac (cT (am (ac (ak ?_))));have hce:=fN (TS:=29) (TQ:=42) (R:=λk=>aH (n+1) (rdJ Y c c i 0 k)) hin;have ho3:=dY (bv (TS:=29) (TQ:=42) (n:=n) (R:=λk=>aH (n+1) (rdJ Y c c i 0 k))) (show(1:Nat)≠0 by decide);have hg3:∀e,e=i->(rwO (λk=>aH (n+1) (rdJ Y c c i 0 k)) (λx=>x) n)[e]?=some [.lsl (i+2) 0 (n+1) none 3]:=λe he=>by rw[dQ hin e he];simp
   have hgc:∀e,e=c->(pE (aH (n+1) (rdJ Y c c i 0 i)))[e]?=some (qC (Y i c)):=λe he=>by rw[rdJ_c];exact fv ω e he
   refine s_r 5 ?_;refine a_2 ?_;refine o_0 (.load_l1 rfl ho3 (hg3 _ ω) TG.h rfl) ?_;refine a_z ?_;refine s_r 6 ?_;refine a_3 ?_;refine o_0 (.load_l rfl hce (hgc _ ω) TG.h TS.h (nle rfl)) ?_;refine a_z ?_;refine AWp.ent (st':=⟨[(0,.lsl 0 0 n none 1),(2,bln false),(3,.aptr [[i64 c]] 0 0),(7,i64 i),(8,.lsl (i+2) 0 (n+1) none 3),(9,bQ (Y i c)),(12,i64 n),(13,i64 c),(74,.lsl 0 0 n none 1),(75,i64 n),(76,i64 i)],rzH 29 42 (λk=>aH (n+1) (rdJ Y c c i 0 k)) n,40,118⟩) ?_ ?_;refine(SEntT.rz1 ω ?_ ?_ λhs=>fh hs).ent
   ·repeat rw[bh δ]
    exact bv
   ·intro k hk
    repeat rw[bh ω]
    exact bH (R:=λk=>aH (n+1) (rdJ Y c c i 0 k)) hk
   by_cases hir:i=c;refine s_r 8 ?_;refine a_2 ?_;refine o_0 (.bin rfl rfl (vF bO (ntF ω))) ?_;refine a_1 ?_;refine n_g rfl d_f ?_;refine n_g rfl d_f ?_;refine n_g rfl d_f ?_;refine o_0 (.pickF rfl d_f rfl) ?_;refine ao ?_;refine cF (am (r_m 2 ?_));refine a_z ?_;refine⟨i+1,ω,ω,?_⟩;rw[rcI.eq_1,pm (.inl hir)];exact(SEntT.rz1 ω bv (λi hi=>bH hi) λhs=>fh hs).ent;by_cases hic:Y i c=0;refine s_r 8 ?_;refine a_2 ?_;refine o_0 (.bin rfl rfl (vT bO (ntT ω))) ?_;refine a_1 ?_
   first|refine y_g rfl d_t (.load_l rfl rfl rfl TG.h TS.h (nle rfl)) ?_|refine y_g rfl d_t (.load_a rfl rfl TG.h TS.h (nle rfl)) ?_
   refine y_g rfl d_t (.call rfl rfl rfl (cb (Y i c))) ?_;refine y_g rfl d_t (.bin rfl rfl (vF bO (ntF (sgZ_num_eq.2 hic)))) ?_;refine o_0 (.pickT rfl d_t rfl) ?_;refine ao ?_;refine cF (am (r_m 2 ?_));refine a_z ?_;refine⟨i+1,ω,ω,?_⟩;rw[rcI.eq_1,pm (.inr hic)];exact(SEntT.rz1 ω bv (λi hi=>bH hi) λhs=>fh hs).ent;refine s_r 8 ?_;refine a_2 ?_;refine o_0 (.bin rfl rfl (vT bO (ntT ω))) ?_;refine a_1 ?_
   first|refine y_g rfl d_t (.load_l rfl rfl rfl TG.h TS.h (nle rfl)) ?_|refine y_g rfl d_t (.load_a rfl rfl TG.h TS.h (nle rfl)) ?_
   refine y_g rfl d_t (.call rfl rfl rfl (cb (Y i c))) ?_;refine y_g rfl d_t (.bin rfl rfl (vT bO (ntT (mt sgZ_num_eq.1 hic)))) ?_;refine o_0 (.pickT rfl d_t rfl) ?_;refine ao ?_;refine cT (r_z 3 ?_);refine AWp.cutB (λ_:Unit=>rcJ Y n c i (n+1)) (λ_=>True) ?_ ?_
   ·refine ak (aC (rcJ Y n c i) (λj=>n+1- j) (λj=>j<=n+1) 0 (Nat.zero_le _) ?_ ?_)
    rw[rcJ.eq_1];exact(SEntT.rz1 ω bv (λi hi=>bH hi) λhs=>fh hs).ent;intro j hj;rw[rcJ.eq_1];by_cases hjn:j< n+1;rotate_left;have hge:j=n+1:=ω
    subst hge;refine s_r 1 ?_;refine o_0 (.bin rfl rfl (vF aZ (decide_eq_false ω))) ?_;refine ao ?_;refine ac (cF (aB ⟨(),trivial,?_⟩));exact(SEntT.rz1 ω bv (λi hi=>bH hi) λhs=>fh hs).ent;refine s_r 1 ?_;refine o_0 (.bin rfl rfl (vT aZ (decide_eq_true ω))) ?_;refine ao ?_;refine ac (cT (am (ac (ak (r_z 2 ?_)))));have hmu:=dq (Y i c) (Y c j) (by have:=hqS i c hin ω;have:=hqS c j hlt ω;omega);have hsu:=gO (Y i j) (Y i c* Y c j) (by have:=hqS i c hin ω;have:=hqS c j hlt ω;have:=hqS i j hin ω;have:=eV (Y i c) (Y c j);omega);have hcei:=fN (TS:=29) (TQ:=42) (R:=λk=>aH (n+1) (rdJ Y c c i j k)) hin;have hcer:=fN (TS:=29) (TQ:=42) (R:=λk=>aH (n+1) (rdJ Y c c i j k)) hlt;have ho5:=dY (bv (TS:=29) (TQ:=42) (n:=n) (R:=λk=>aH (n+1) (rdJ Y c c i j k))) (show(1:Nat)≠0 by decide);have hg6:∀e,e=c->(rwO (λk=>aH (n+1) (rdJ Y c c i j k)) (λx=>x) n)[e]?=some [.lsl (c+2) 0 (n+1) none 3]:=λe he=>by rw[dQ hlt e he];simp
    have hgi:∀e,e=j->(pE (aH (n+1) (rdJ Y c c i j i)))[e]?=some (qC (Y i j)):=λe he=>by rw[fv hjn e he,Gd]
    have hgr:∀e,e=j->(pE (aH (n+1) (rdJ Y c c i j c)))[e]?=some (qC (Y c j)):=λe he=>by rw[fv hjn e he,rdJ_r]
    refine r_d hmix 18 ?_;refine a_5 ?_;refine o_0 (.load_l rfl hcei (hgi _ ω) TG.h TS.h (nle rfl)) ?_;refine a_4 ?_;refine o_0 (.load_l1 rfl ho5 (hg6 _ ω) TG.h rfl) ?_;refine a_2 ?_;refine o_0 (.load_l rfl hcer (hgr _ ω) TG.h TS.h (nle rfl)) ?_;refine c_s (hmu) ?_;refine c_s (hsu) ?_;refine a_1 ?_;refine ee (.store rfl hcei (hgi _ ω) rfl rfl rfl TS.h (nle rfl)) ?_;refine ao (n_k ?_);refine r_m 2 ?_;refine a_z ?_;refine⟨j+1,ω,ω,?_⟩;rw[rcJ.eq_1,rdJ_s hir];exact(w7 ω hin hjn ω λhs=>fh hs).ent
   rintro _ _;show AWp _ _ _ _ (rcJ Y n c i (n+1));rw[rcJ.eq_1,show(λk=>aH (n+1) (rdJ Y c c i (n+1) k))=λk=>aH (n+1) (rdJ Y c c (i+1) 0 k) from funext λk=>kz λj hj=>rdJ_n i k j hj];refine r_m 2 ?_;refine a_z ?_;refine⟨i+1,ω,ω,?_⟩;rw[rcI.eq_1];exact(SEntT.rz1 ω bv (λi hi=>bH hi) λhs=>fh hs).ent
  rintro _ _;show AWp _ _ _ _ (rcI Y n c n);rw[rcI.eq_1,vP (R:=λk=>aH (n+1) (rdJ Y c c n 0 k)) (R':=λk=>aH (n+1) (rdM Y c c k)) λk hk=>(kz λj _=>Dl hk j:rT n (rdJ Y c c n 0) k=rT n (rdM Y c c) k),<-hn1];refine r_m 2 ?_;refine a_z ?_;refine⟨c+1,ω,ω,?_⟩;rw[rcS.eq_1];exact(SEntT.rz1 ω bv (λi hi=>bH hi) λhs=>fh hs).ent
 rintro _ hkn2;rw[rcS.eq_1,hkn2,show decide (n=n)=true from decide_eq_true rfl];refine r_z 1 ?_;refine an (FinX.of ?_);exact(SEntT.rz1 ω bv (λi hi=>bH hi) λhs=>fh hs).ent
theorem xM(c:Lq)(m n B k:Nat)(hn:n<=19)(hm:m<=19)(hmn:m+n+1<=20)(hl:m+n+1<=c.length)(hc:c.length<=1000)(hU:Upto (quM c m n) n k)(hkn:k< n)(hB:B<=100000000000)(hq:∀l,l<=k->∀i j,i< n->j<=n->qs ((slM (quM c m n) n l).1 i j)<=B):FS 18 [.arr (pE c),i64 m,i64 n] (.tup [.arr [],.arr [],i64 14]):=by
 refine Dm c m n hn hm hmn hl hc _ ?_;cases n with
 |zero=>omega
 |succ n=>
  unfold quRest;refine AWp.pinned (st':=⟨[(1,i64 m),(2,i64 (n+1:Nat)),(3,.aptr [[.arr (pE c)]] 0 0),(10,.lsl 0 0 (n+1) none 1)],rzH 29 42 (λk=>aH (n+1+1) (quM c m (n+1) k)) (n+1),40,116⟩) ?_ ?_;refine SEntP.rz s01 ω (λx y=>C7 x y) ?_ ?_ ?_;show au _ 1=_;rw[lD ω,gi (R':=λk=>aH (n+1+1) (quM c m (n+1) k)) (s':=s01)];exact λk hk=>⟨rfl,(l7 ω).symm⟩;intro k hk;rw[l7 ω];exact j9 ω hk;intro hs;exact aj rfl (ah hs (ag _)) (aj rfl (ah hs (ag _)) (aj rfl (ah hs (cC c)) (aj rfl (Cv.sl rfl rfl rfl) aF)));have hX:=A0 (quM c m (n+1)) (n+1) B k ω hU hB hq;rw[show decide (k=n+1)=false from decide_eq_false ω] at hX;obtain⟨A,hA⟩:∃A,A=(slM (quM c m (n+1)) (n+1) k).1:=⟨_,rfl⟩;rw[<-hA] at hX;refine ac (ac (AWp.regF (fr2:=[(79,.lsl 0 0 (n+1) none 1),(1,i64 m),(2,i64 (n+1:Nat)),(3,.aptr [[.arr (pE c)]] 0 0),(10,.lsl 0 0 (n+1) none 1)]) (hp2:=rzH 29 42 (λk=>aH (n+1+1) (quM c m (n+1) k)) (n+1)) (nx2:=40) (k:=40) (hpc:=rzH 29 42 (λk=>aH (n+1+1) (quM c m (n+1) k)) (n+1)) (hpd:=rzH 29 42 (λk=>aH (n+1+1) (A k)) (n+1)) (hp3:=rzH 29 42 (λk=>aH (n+1+1) (A k)) (n+1)) (fr3:=[(1,i64 m),(2,i64 (n+1:Nat)),(3,.aptr [[.arr (pE c)]] 0 0),(10,.lsl 0 0 (n+1) none 1)]) 1 rfl rfl rfl rfl rfl ?_ (λd h=>by cases h;rfl) rfl rfl hX δ (Nat.le_refl _) ?_ (λi hi=>rfl) (λi hi=>fM ω) (F0 λk hk=>⟨ω,by rw[bH hk];rfl⟩) ?_ ?_ (λi hi=>fM ω) rfl rfl ?_ ?_));refine o_0 (.move rfl) ?_;refine ao ?_
  refine SEntT.rz1 ω bv (λi hi=>bH hi) λhs=>?_;exact aj rfl (Cv.sl rfl rfl rfl) (aj rfl (ah hs (ag _)) (aj rfl (ah hs (ag _)) (aj rfl (ah hs (cC c)) (aj rfl (Cv.sl rfl rfl rfl) aF))));intro x hx;rw[List.append_nil,List.mem_singleton] at hx;rw[hx];exact .sl ⟨ω,rfl⟩;intro i X hi hX;rw[fM ω] at hX;cases hX;intro i;by_cases h:i< 40;rw[if_pos h];rw[if_neg h,fM ω,fM ω];intro t x hx;have hm:=look_mem' hx;simp only[List.mem_cons,Prod.mk.injEq,List.not_mem_nil,or_false] at hm;rcases hm with⟨rfl,rfl⟩|⟨rfl,rfl⟩|⟨rfl,rfl⟩|⟨rfl,rfl⟩
  exact⟨rfl,.clo (ag _)⟩;exact⟨rfl,.clo (ag _)⟩;exact⟨rfl,.clo (cC c)⟩;exact⟨rfl,.sl (.inl rfl)⟩;refine o_0 (.un rfl iN) ?_;refine ao ?_;refine cT (r_z 3 ?_);refine AWp.ent (st':=⟨[(6,.emp),(7,.emp),(8,i64 14)],[],1,116⟩) ?_ ?_;exact(SEntT.to [] rfl rfl rfl ShrL.nil (λhs=>aj rfl (ah hs aK) (aj rfl (ah hs aK) (aj rfl (ah hs (ag _)) aF))) (λhs=>aD)).ent;refine an ⟨rfl,?_⟩;refine Fin.many ⟨_,_,rfl,rfl,⟨_,_,rfl,rfl,⟨_,_,rfl,rfl,rfl⟩⟩⟩ (nle rfl) ?_;exact af (Cv.emp _) (af (Cv.emp _) (af (ah aE (ag _)) ax))
theorem xN(c:Lq)(m n:Int)(h:m< 0\/n< 0\/20<=m\/20<=n\/20< m+n+1):FS 18 [.arr (pE c),i64 m,i64 n] (.tup [.arr [],.arr [],i64 3]):=by
 have hcl:(pE c).length=c.length:=by simp[pE]
 refine f_c Tryz.func18 ?_;refine r_z 4 ?_;refine bi (λ_:Unit=>⟨[],[],1,116⟩) (λ_=>False) ?_ (λ_ h=>h.elim);refine ak ?_;by_cases c0:m< 0;refine s_r 22 ?_;refine a_1 ?_;refine o_0 (.bin rfl rfl (vT aZ (decide_eq_true ω))) ?_;refine a_z ?_;refine cT (r_z 3 ?_);refine AWp.ent (st':=⟨[(6,.emp),(7,.emp),(8,i64 3)],[],1,116⟩) ?_ ?_;exact(SEntT.to [] rfl rfl rfl ShrL.nil (λhs=>aj rfl (ah hs aK) (aj rfl (ah hs aK) (aj rfl (ah hs (ag _)) aF))) (λhs=>aD)).ent;refine an (Fin.many ⟨_,_,rfl,rfl,⟨_,_,rfl,rfl,⟨_,_,rfl,rfl,rfl⟩⟩⟩ (nle rfl) ?_);exact af (Cv.emp _) (af (Cv.emp _) (af (ah aE (ag _)) ax));by_cases c1:n< 0
 ·refine s_r 22 ?_
  refine a_1 ?_;refine o_0 (.bin rfl rfl (vF aZ (decide_eq_false ω))) ?_;refine a_1 ?_
  first|refine ap rfl rfl rfl (.move rfl) rfl rfl ?_|refine aV rfl rfl (by first|(simp[aQ];done)|exact nofun) rfl rfl ?_
  refine ap rfl rfl rfl (.bin rfl rfl (vT aZ (decide_eq_true ω))) rfl rfl ?_;refine a_z ?_;refine cT (r_z 3 ?_);refine AWp.ent (st':=⟨[(6,.emp),(7,.emp),(8,i64 3)],[],1,116⟩) ?_ ?_;exact(SEntT.to [] rfl rfl rfl ShrL.nil (λhs=>aj rfl (ah hs aK) (aj rfl (ah hs aK) (aj rfl (ah hs (ag _)) aF))) (λhs=>aD)).ent;refine an (Fin.many ⟨_,_,rfl,rfl,⟨_,_,rfl,rfl,⟨_,_,rfl,rfl,rfl⟩⟩⟩ (nle rfl) ?_);exact af (Cv.emp _) (af (Cv.emp _) (af (ah aE (ag _)) ax))
 by_cases c2:20<=m
 ·refine s_r 22 ?_
  refine a_1 ?_;refine o_0 (.bin rfl rfl (vF aZ (decide_eq_false ω))) ?_;refine a_1 ?_
  first|refine ap rfl rfl rfl (.move rfl) rfl rfl ?_|refine aV rfl rfl (by first|(simp[aQ];done)|exact nofun) rfl rfl ?_
  refine ap rfl rfl rfl (.bin rfl rfl (vF aZ (decide_eq_false ω))) rfl rfl ?_;refine a_2 ?_
  first|refine ap rfl rfl rfl (.move rfl) rfl rfl ?_|refine aV rfl rfl (by first|(simp[aQ];done)|exact nofun) rfl rfl ?_
  refine ap rfl rfl rfl (.bin rfl rfl (vT dc (decide_eq_true ω))) rfl rfl ?_;refine a_z ?_;refine cT (r_z 3 ?_);refine AWp.ent (st':=⟨[(6,.emp),(7,.emp),(8,i64 3)],[],1,116⟩) ?_ ?_;exact(SEntT.to [] rfl rfl rfl ShrL.nil (λhs=>aj rfl (ah hs aK) (aj rfl (ah hs aK) (aj rfl (ah hs (ag _)) aF))) (λhs=>aD)).ent;refine an (Fin.many ⟨_,_,rfl,rfl,⟨_,_,rfl,rfl,⟨_,_,rfl,rfl,rfl⟩⟩⟩ (nle rfl) ?_);exact af (Cv.emp _) (af (Cv.emp _) (af (ah aE (ag _)) ax))
 by_cases c3:20<=n
 ·refine s_r 22 ?_
  refine a_1 ?_;refine o_0 (.bin rfl rfl (vF aZ (decide_eq_false ω))) ?_;refine a_1 ?_
  first|refine ap rfl rfl rfl (.move rfl) rfl rfl ?_|refine aV rfl rfl (by first|(simp[aQ];done)|exact nofun) rfl rfl ?_
  refine ap rfl rfl rfl (.bin rfl rfl (vF aZ (decide_eq_false ω))) rfl rfl ?_;refine a_2 ?_
  first|refine ap rfl rfl rfl (.move rfl) rfl rfl ?_|refine aV rfl rfl (by first|(simp[aQ];done)|exact nofun) rfl rfl ?_
  refine ap rfl rfl rfl (.bin rfl rfl (vF dc (decide_eq_false ω))) rfl rfl ?_;refine a_2 ?_
  first|refine ap rfl rfl rfl (.move rfl) rfl rfl ?_|refine aV rfl rfl (by first|(simp[aQ];done)|exact nofun) rfl rfl ?_
  refine ap rfl rfl rfl (.bin rfl rfl (vT dc (decide_eq_true ω))) rfl rfl ?_;refine a_z ?_;refine cT (r_z 3 ?_);refine AWp.ent (st':=⟨[(6,.emp),(7,.emp),(8,i64 3)],[],1,116⟩) ?_ ?_;exact(SEntT.to [] rfl rfl rfl ShrL.nil (λhs=>aj rfl (ah hs aK) (aj rfl (ah hs aK) (aj rfl (ah hs (ag _)) aF))) (λhs=>aD)).ent;refine an (Fin.many ⟨_,_,rfl,rfl,⟨_,_,rfl,rfl,⟨_,_,rfl,rfl,rfl⟩⟩⟩ (nle rfl) ?_);exact af (Cv.emp _) (af (Cv.emp _) (af (ah aE (ag _)) ax))
 by_cases c4:20< m+n+1
 ·refine s_r 22 ?_
  refine a_1 ?_;refine o_0 (.bin rfl rfl (vF aZ (decide_eq_false ω))) ?_;refine a_1 ?_
  first|refine ap rfl rfl rfl (.move rfl) rfl rfl ?_|refine aV rfl rfl (by first|(simp[aQ];done)|exact nofun) rfl rfl ?_
  refine ap rfl rfl rfl (.bin rfl rfl (vF aZ (decide_eq_false ω))) rfl rfl ?_;refine a_2 ?_
  first|refine ap rfl rfl rfl (.move rfl) rfl rfl ?_|refine aV rfl rfl (by first|(simp[aQ];done)|exact nofun) rfl rfl ?_
  refine ap rfl rfl rfl (.bin rfl rfl (vF dc (decide_eq_false ω))) rfl rfl ?_;refine a_2 ?_
  first|refine ap rfl rfl rfl (.move rfl) rfl rfl ?_|refine aV rfl rfl (by first|(simp[aQ];done)|exact nofun) rfl rfl ?_
  refine ap rfl rfl rfl (.bin rfl rfl (vF dc (decide_eq_false ω))) rfl rfl ?_;refine a_2 ?_
  first|refine ap rfl rfl rfl (.move rfl) rfl rfl ?_|refine aV rfl rfl (by first|(simp[aQ];done)|exact nofun) rfl rfl ?_
  first|refine ap rfl rfl rfl (.move rfl) rfl rfl ?_|refine aV rfl rfl (by first|(simp[aQ];done)|exact nofun) rfl rfl ?_
  first|refine ap rfl rfl rfl (.bin rfl rfl (dj ω)) rfl rfl ?_|refine aV rfl rfl (by first|(simp[aQ];done)|exact nofun) rfl rfl ?_
  first|refine ap rfl rfl rfl (.bin rfl rfl (dj ω)) rfl rfl ?_|refine aV rfl rfl (by first|(simp[aQ];done)|exact nofun) rfl rfl ?_
  refine ap rfl rfl rfl (.bin rfl rfl (vT ct (decide_eq_true ω))) rfl rfl ?_;refine a_z ?_;refine cT (r_z 3 ?_);refine AWp.ent (st':=⟨[(6,.emp),(7,.emp),(8,i64 3)],[],1,116⟩) ?_ ?_;exact(SEntT.to [] rfl rfl rfl ShrL.nil (λhs=>aj rfl (ah hs aK) (aj rfl (ah hs aK) (aj rfl (ah hs (ag _)) aF))) (λhs=>aD)).ent;refine an (Fin.many ⟨_,_,rfl,rfl,⟨_,_,rfl,rfl,⟨_,_,rfl,rfl,rfl⟩⟩⟩ (nle rfl) ?_);exact af (Cv.emp _) (af (Cv.emp _) (af (ah aE (ag _)) ax))
 omega
theorem xO(c:Lq)(m n:Nat)(hn:n<=19)(hm:m<=19)(hmn:m+n+1<=20)(hl:c.length< m+n+1):FS 18 [.arr (pE c),i64 m,i64 n] (.tup [.arr [],.arr [],i64 2]):=by
 have hcl:(pE c).length=c.length:=by simp[pE]
 refine f_c Tryz.func18 ?_;refine r_z 4 ?_;refine bi (λ_:Unit=>⟨[],[],1,116⟩) (λ_=>False) ?_ (λ_ h=>h.elim);refine ak (s_r 22 ?_);refine a_1 ?_;refine o_0 (.bin rfl rfl (vF aZ (decide_eq_false ω))) ?_;refine a_1 ?_
 first|refine ap rfl rfl rfl (.move rfl) rfl rfl ?_|refine aV rfl rfl (by first|(simp[aQ];done)|exact nofun) rfl rfl ?_
 refine ap rfl rfl rfl (.bin rfl rfl (vF aZ (decide_eq_false ω))) rfl rfl ?_;refine a_2 ?_
 first|refine ap rfl rfl rfl (.move rfl) rfl rfl ?_|refine aV rfl rfl (by first|(simp[aQ];done)|exact nofun) rfl rfl ?_
 refine ap rfl rfl rfl (.bin rfl rfl (vF dc (decide_eq_false ω))) rfl rfl ?_;refine a_2 ?_
 first|refine ap rfl rfl rfl (.move rfl) rfl rfl ?_|refine aV rfl rfl (by first|(simp[aQ];done)|exact nofun) rfl rfl ?_
 refine ap rfl rfl rfl (.bin rfl rfl (vF dc (decide_eq_false ω))) rfl rfl ?_;refine a_2 ?_
 first|refine ap rfl rfl rfl (.move rfl) rfl rfl ?_|refine aV rfl rfl (by first|(simp[aQ];done)|exact nofun) rfl rfl ?_
 first|refine ap rfl rfl rfl (.move rfl) rfl rfl ?_|refine aV rfl rfl (by first|(simp[aQ];done)|exact nofun) rfl rfl ?_
 first|refine ap rfl rfl rfl (.bin rfl rfl (dj ω)) rfl rfl ?_|refine aV rfl rfl (by first|(simp[aQ];done)|exact nofun) rfl rfl ?_
 first|refine ap rfl rfl rfl (.bin rfl rfl (dj ω)) rfl rfl ?_|refine aV rfl rfl (by first|(simp[aQ];done)|exact nofun) rfl rfl ?_
 refine ap rfl rfl rfl (.bin rfl rfl (vF ct (decide_eq_false ω))) rfl rfl ?_;refine a_z ?_;refine cF (s_r 8 ?_);refine a_6 ?_;refine o_0 (.bin rfl rfl (vT aZ (decide_eq_true ω))) ?_;refine a_z ?_;refine cT (r_z 3 ?_);refine AWp.ent (st':=⟨[(6,.emp),(7,.emp),(8,i64 2)],[],1,116⟩) ?_ ?_;exact(SEntT.to [] rfl rfl rfl ShrL.nil (λhs=>aj rfl (ah hs aK) (aj rfl (ah hs aK) (aj rfl (ah hs (ag _)) aF))) (λhs=>aD)).ent;refine an (Fin.many ⟨_,_,rfl,rfl,⟨_,_,rfl,rfl,⟨_,_,rfl,rfl,rfl⟩⟩⟩ (nle rfl) ?_);exact af (Cv.emp _) (af (Cv.emp _) (af (ah aE (ag _)) ax))
def zE(l:List Int):Lc:=l.map λn=>[i64 n]
theorem eK(l:List Int):∀e∈zE l,∀c∈e,Closed c:=by
 intro e he c hc;obtain⟨n,_,rfl⟩:=List.mem_map.1 he;rw[List.mem_singleton.1 hc];exact ag _
def zR(l:List Int):Lq:=l.map fun(n:Int)=>(n:Rat)
def Bb:Ln->AState
 |l=>⟨[(0,.arr (iE l))],[],1,15⟩
theorem jn(l:Ln):Bb l=⟨[(0,.arr (iE l))],[],1,15⟩:=rfl
theorem iG(l:Ln)(hl:l.length<=281474976710656):FS 173 [.arr (iE l)] (.arr (iE (fK l))):=by
 refine f_c Tryz.func173 ?_;refine r_z 1 ?_;refine bi Bb (λm=>m=fK l) ?_ ?_;refine ak (aC Bb (λm=>m.length) (λm=>m.length<=281474976710656/\fK m=fK l) l ⟨hl,rfl⟩ ?_ ?_);simp only[jn];exact s_e [];rintro m ⟨hm,he⟩;rw[jn];cases m with
 |nil=>
  refine ac (s_r 9 ?_);refine a_4 ?_;refine n_g rfl d_f ?_;refine n_g rfl d_f ?_;refine n_g rfl d_f ?_;refine n_g rfl d_f ?_;refine o_0 (.pickF rfl d_f rfl) ?_;refine ao ?_;refine cF ?_;refine aB ⟨[],by simpa[fK] using he,?_⟩;simp only[jn];exact s_e []
 |cons d m=>
  have hd:(iE (d::m))[(0:Int).toNat]?=some [i64 d]:=rfl;refine ac (s_r 9 ?_);refine a_4 ?_;refine y_g rfl ψ (.move rfl) ?_
  first|refine y_g rfl ψ (.index_l rfl rfl ω ω te_45.h) ?_|refine y_g rfl ψ (.index_a rfl rfl ω hd rfl te_45.h) ?_
  first|refine y_g rfl ψ (.load_l1 rfl rfl hd TG.h rfl) ?_|refine y_g rfl ψ (.load_a1 rfl hd TG.h rfl) ?_
  refine y_g rfl ψ (.bin rfl rfl aM) ?_;refine o_0 (.pickT rfl ψ rfl) ?_;refine ao ?_;refine aw rfl (λh=>?_) (λh=>?_);have h0:d=0:=by simpa using h
  refine am ?_;subst h0;refine ak (r_m 3 ?_);refine a_1 ?_;refine o_0 (.sa_l rfl rfl rfl ψ te_45.h (lC _)) ?_;refine a_z ?_;refine⟨m,ψ,⟨by simp at hm;omega,by simpa[fK] using he⟩,?_⟩;simp only[jn];exact s_e [];have h0:d≠0:=by simpa using h
  refine aB ⟨d::m,by rw[<-he];simp[fK,h0],?_⟩;simp only[jn];exact s_e []
 rintro m rfl;rw[jn];refine r_z 2 ?_;exact an (t_e (eM _))
theorem jU(s:Int)(l:Ln)(z:Int)(hl:l.length<=281474976710656)(hd:∀d∈l,d< UB)(hz:hv l=z.natAbs)(hs:z≠0->s=sgZ z):FS 116 [i64 s,.arr (iE l)] (.agg (zZ z)):=by
 refine f_c Tryz.func116 ?_;refine r_z 1 ?_;refine r_c 3 (iG l hl) ?_;refine a_z ?_;refine ac (r_z 3 ?_);refine aw rfl (λh=>?_) (λh=>?_)
 have h0:fK l=[]:=by
  have:(fK l).length=0:=by simpa using h
  exact List.length_eq_zero_iff.1 this
 have hz0:z=0:=by have:=(tl hd).1 h0;omega
 subst hz0;refine r_z 2 ?_;refine an (Fin.cell rfl rfl rfl TG.h TS.h (nle rfl) ?_);rw[CR];exact Cv.agg (af (ah aE (ag _)) (af (Cv.emp _) ax));have h0:fK l≠[]:=λe=>by rw[e] at h;simp at h
 have hz0:z≠0:=by
  intro e;subst e;exact h0 ((tl hd).2 hz)
 refine am (r_z 4 ?_);refine an (dA rfl rfl rfl TG.h TS.h (nle rfl) ?_ ?_);show AV.agg [i64 s,.arr (iE (fK l))]=_;unfold zZ;rw[hs hz0,fD hd,hz];exact dk _
theorem zZ_neg(z:Int):zZ (-z)=[i64 (-sgZ z),.arr (iE (zd z.natAbs))]:=by
 unfold zZ;rw[Int.natAbs_neg];congr 2;unfold sgZ;split <;> split <;>(try split)<;>(try split)<;> omega
theorem dm(z:Int):sgZ z= -1/\z< 0\/sgZ z=0/\z=0\/sgZ z=1/\0< z:=by
 unfold sgZ;split;right;left;exact⟨rfl,by assumption⟩;split;left;exact⟨rfl,by assumption⟩;right;right;exact⟨rfl,ω⟩
theorem xL(z:Int):FS 121 [.agg (zZ z)] (.agg (zZ (-z))):=by
 have hs:=dm z;have hc:=dk (-z);rw[zZ_neg] at hc⊢;refine f_c Tryz.func121 ?_;refine r_z 2 ?_;refine r_z 7 ?_;exact an (c_e (hc))
theorem uu(l:Ln)(i:Nat)(hl:l.length<=281474976710656):FS 227 [.arr (iE l),i64 i] (i64 (l.reverse[i]?.getD 0:Nat)):=by
 refine f_c Tryz.func227 ?_;refine r_z 1 ?_;refine ac (r_z 4 ?_);refine aw rfl (λh=>?_) (λh=>?_);have hi:l.length<=i:=by simpa using h
 refine r_z 1 ?_;refine an (aR rfl ?_ (ag _));rw[List.getElem?_eq_none (by simpa using hi)];rfl;have hi:i< l.length:=by simp at h;omega
 refine am ?_;obtain⟨d,hd⟩:∃d,l[l.length- 1- i]?=some d:=⟨_,List.getElem?_eq_getElem ω⟩;have hd':(iE l)[((l.length:Int)- 1- i).toNat]?=some [i64 d]:=by rw[show((l.length:Int)- 1- i).toNat=l.length- 1- i by omega];exact j8 hd
 refine s_r 9 ?_;refine a_6 ?_;refine i_x hd' ?_;refine l_1 hd' ?_;refine a_z ?_;refine an (aR rfl ?_ (ag _));rw[List.getElem?_reverse hi,hd];rfl
theorem B4(a b:Ln):FS 226 [.arr (iE a),.arr (iE b)] (i64 (max a.length b.length:Nat)):=by
 refine f_c Tryz.func226 ?_;refine r_z 1 ?_;refine ac (r_z 5 ?_);refine aw rfl (λh=>?_) (λh=>?_);refine r_z 3 ?_;refine an (aR rfl ?_ (ag _));have:b.length< a.length:=by simpa using h
 simp[i64];omega;refine am (r_z 3 ?_);refine an (aR rfl ?_ (ag _));have:¬b.length< a.length:=by simpa using h
 simp[i64];omega
end Go.Proofs.YtjgokhkahkmpbaaGreatDoor
