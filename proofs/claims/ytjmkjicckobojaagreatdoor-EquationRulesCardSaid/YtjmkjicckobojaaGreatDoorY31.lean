/- Part Y31 of the proof. -/
import Derived.Test.YtjmkjicckobojaaGreatDoorY30
set_option linter.all false
namespace Go.Proofs.YtjmkjicckobojaaGreatDoor
open Go.Abs
set_option maxRecDepth 20000
set_option maxHeartbeats 4000000
section
variable {r:Ren}{hp:Hq}{fr fr':Fr}{n:Nat}
theorem Jm{hp':Hq}(hs:Shr r hp hp')(h:CvF r hp hp' fr fr':=by repeat' (first|exact aV|refine aA rfl ?_ ?_|exact ao hs (ah _)|exact Cv.sl rfl rfl rfl|exact Cv.sl rfl rfl (by rw[cM cU];rfl)|exact Cv.ptr rfl rfl rfl|exact Cv.ptr rfl (by assumption) rfl|(refine Cv.loE hs ?_ (ah _);simp[i64];done))):CvF r hp hp' fr fr':=h
def scS(M:Mx)(n:Nat):Nat->AState
 |c=>⟨[(0,.lsl 1 0 n (some n) 1),(6,.lptr 35 0 0),(7,i64 n),(10,.lptr 36 0 0),(83,i64 n),(84,i64 c)],rwH 61 42 (λk=>aI (n+1) ((slM M n c).1 k)) n (sx1 n (slM M n c).2),40,209⟩
theorem kM{nx N:Nat}{R:Nat->Lq}{L:Ln}(hn:n<=30)(hF:Shr ⟨40,λx=>x⟩ (ap (rwH 61 42 R n (sx1 n L))) (ap (rwH 61 42 R n (sx1 n L)))->CvF ⟨40,λx=>x⟩ (ap (rwH 61 42 R n (sx1 n L))) (ap (rwH 61 42 R n (sx1 n L))) fr fr'):
    SEnt ⟨fr,rwH 61 42 R n (sx1 n L),nx,N⟩ ⟨fr',rwH 61 42 R n (sx1 n L),40,N⟩:=
 j5 (x:=lvA L) (λx=>x) hn rfl (λ_ _ _ _ e=>e) (cM cU) (λi a=>dP cU hn a) rfl rfl (by
  cases L with
  |nil=>exact .inl ⟨rfl,rfl⟩
  |cons l L=>exact .inr ⟨ψ,rfl,rfl⟩) hF
theorem swx_two(a b i:Nat):swx (a+2) (b+2) (i+2)=swx a b i+2:=by
 unfold swx;by_cases h1:i=a;rw[if_pos ω,if_pos h1];rw[if_neg ω,if_neg h1];by_cases h2:i=b;rw[if_pos ω,if_pos h2];rw[if_neg ω,if_neg h2]
theorem swx_lt{a b i:Nat}(ha:a< n)(hb:b< n)(hi:i< n):swx a b i< n:=by unfold swx;split <;>(try split)<;> omega
theorem swM_row(A:Mx)(r p i:Nat):swM A r p i=A (swx p r i):=by
 funext j;unfold swM swx;by_cases h1:i=r;subst h1;by_cases h2:i=p;subst h2;simp;simp[h2];by_cases h2:i=p;subst h2;simp[h1];simp[h1,h2]
theorem lenA_lv(L:Ln):sI (lvA L)=some L.length:=by cases L <;> rfl
theorem neT{a b:Int}(h:a≠b):(a !=b)=true:=by simpa using h
theorem neF{a b:Int}(h:a=b):(a !=b)=false:=by simp[h]
theorem lK{hp':Hq}(hs:Shr r hp hp')(h:CvF r hp hp' fr fr':=by repeat' (first|exact aV|refine aA rfl ?_ ?_|exact ao hs (ah _)|exact ao hs (cO _)|exact ao hs (aN (ac (ah _) af))|exact Cv.sl rfl rfl rfl|exact Cv.sl rfl rfl (by rw[cM cU];rfl)|exact Cv.ptr rfl rfl rfl|exact Cv.ptr rfl (by assumption) rfl|(refine Cv.loE hs ?_ (ah _);simp[i64];done))):CvF r hp hp' fr fr':=h
def scK(X:Mx)(n r c:Nat)(f:Rat)(L:Ln):Nat->AState
 |j=>⟨[(0,.lsl 1 0 n (some n) 1),(6,.lptr 35 0 0),(7,i64 n),(10,.lptr 36 0 0),(11,.aptr [[i64 c]] 0 0),(12,i64 r),(14,bQ f),(83,i64 n),(84,i64 c),(128,i64 ((n+1:Nat):Int)),(129,i64 j)],rwH 61 42 (λk=>aI (n+1) (scJ X r f j k)) n (sx1 n L),40,209⟩
def rdK(Y:Mx)(n r c:Nat)(L:Ln):Nat->AState
 |i=>⟨[(0,.lsl 1 0 n (some n) 1),(6,.lptr 35 0 0),(7,i64 n),(10,.lptr 36 0 0),(11,.aptr [[i64 c]] 0 0),(12,i64 r),(83,i64 n),(84,i64 c),(149,i64 n),(150,i64 i)],rwH 61 42 (λk=>aI (n+1) (rdJ Y r c i 0 k)) n (sx1 n L),40,209⟩
def rdI(Y:Mx)(n r c:Nat)(L:Ln)(i:Nat):Nat->AState
 |j=>⟨[(0,.lsl 1 0 n (some n) 1),(6,.lptr 35 0 0),(7,i64 n),(10,.lptr 36 0 0),(11,.aptr [[i64 c]] 0 0),(12,i64 r),(16,i64 i),(17,bQ (Y i c)),(83,i64 n),(84,i64 c),(149,i64 n),(150,i64 i),(172,i64 ((n+1:Nat):Int)),(173,i64 j)],rwH 61 42 (λk=>aI (n+1) (rdJ Y r c i j k)) n (sx1 n L),40,209⟩
theorem HR{TS TQ:Nat}{R R':Nat->Lq}{ex:Hp}(h:∀k,k< n->R k=R' k):rwH TS TQ R n ex=rwH TS TQ R' n ex:=by
 unfold rwH;rw[gE (R':=R') (s':=λx=>x) λk a=>⟨by rw[h k a],rfl⟩,show rwL R n=rwL R' n from Nn λk a=>by rw[h k (xd.1 a)]]
theorem F9{nx N i j e:Nat}{X:Mx}{v:Rat}{L:Ln}(hn:n<=30)(hi:i< n)(hj:j< n+1)(he:e=j)(hF:Shr ⟨40,λx=>x⟩ (ap ((i+2,some ⟨42,3,(pE (aI (n+1) (X i))).set e (qC v)⟩)::rwH 61 42 (λk=>aI (n+1) (X k)) n (sx1 n L))) (ap (rwH 61 42 (λk=>aI (n+1) (puM X i j v k)) n (sx1 n L)))->CvF ⟨40,λx=>x⟩ (ap ((i+2,some ⟨42,3,(pE (aI (n+1) (X i))).set e (qC v)⟩)::rwH 61 42 (λk=>aI (n+1) (X k)) n (sx1 n L))) (ap (rwH 61 42 (λk=>aI (n+1) (puM X i j v k)) n (sx1 n L))) fr fr'):
    SEnt ⟨fr,(i+2,some ⟨42,3,(pE (aI (n+1) (X i))).set e (qC v)⟩)::rwH 61 42 (λk=>aI (n+1) (X k)) n (sx1 n L),nx,N⟩ ⟨fr',rwH 61 42 (λk=>aI (n+1) (puM X i j v k)) n (sx1 n L),40,N⟩:=by
 refine j5 (x:=lvA L) (λx=>x) hn rfl (λ_ _ _ _ e=>e) ?_ ?_ ?_ ?_ ?_ hF;rw[bR ω,cM cU,gE (R':=λk=>aI (n+1) (puM X i j v k)) (s':=λx=>x)];exact λk a=>⟨ψ,rfl⟩;intro k a;by_cases h:k=i;subst h;rw[<-puM_set hj e he,dw,bq];rw[bR ω,dP cU ω a,puM_ne h];rw[bR ω];rfl;rw[bR ω];rfl;cases L with
 |nil=>exact .inl ⟨rfl,rfl⟩
 |cons l L=>exact .inr ⟨ψ,rfl,by rw[bR ω];rfl⟩
def syV(n:Nat)(p:Mx×Ln):AV:= .agg [.arr (mE ((List.range n).map λk=>aI (n+1) (p.1 k))),.arr (lvE p.2),i64 n]
theorem wV{l:Lc}(hn:n=l.length)(hc:∀e∈l,∀c∈e,Closed c):CvLL r hp (λ_=>none) ((l.drop 0).take n) l:=by
 rw[sr,hn,qj];exact bv aE hc
theorem lu{x:Nat}(h:x≠37):cond (Nat.beq x 37) 44 x=x:=by
 cases e:Nat.beq x 37 with
 |false=>rfl
 |true=>exact absurd (Nb e) h
theorem F7(hn:n<=30)(i j:Nat)(h1:InX n i)(h2:InX n j)(e:cond (Nat.beq i 37) 44 i=cond (Nat.beq j 37) 44 j):i=j:=by
 unfold InX at h1 h2;by_cases a:i=37;by_cases b:j=37;rw[a,b];rw[a,lu b] at e;have e:(44:Nat)=j:=e;omega;by_cases b:j=37;rw[b,lu a] at e;have e:i=(44:Nat):=e;omega;rw[lu a,lu b] at e;exact e
theorem sv_cols(M:Mx)(n B:Nat)(hn:n<=25)(hB:B<=100000000000)(hq:∀c,c<=n->∀i j,i< n->j<=n->qs ((slM M n c).1 i j)<=B):
    AWp none Tryz.prog svRest (Fin Tryz.prog Tryz.f113.results.toList (syV n (slM M n n))) ⟨[(0,.lsl 1 0 n (some n) 1),(6,.lptr 35 0 0),(7,i64 n)],rwH 61 42 (λk=>aI (n+1) (M k)) n sx0,40,209⟩:=by
 unfold svRest;refine r_z 5 ?_;refine ae (r_z 2 ?_);refine aJ (λ_:Unit=>scS M n n) (λ_=>True) ?_ ?_
 ·refine aj (aC (scS M n) (λc=>n- c) (λc=>c<=n) 0 (mN _) ?_ ?_)
  rw[scS.eq_1];refine j5 (L:=[]) (x:= .emp) (fiR 34 43) ω (CM _ _) (λx y hx hy e=>ru (m:=40) (ir _) δ x y (tT ω hx) (tT ω hy) e) ?_ ?_ rfl rfl (.inl ⟨rfl,rfl⟩) λhs=>Jm hs
  ·rw[CL]
   repeat rw[bR δ]
   rw[cM eI,gE (R':=λk=>aI (n+1) ((slM M n 0).1 k)) (s':=fiR 34 43)];exact λk g=>⟨ψ,(jD ω).symm⟩
  ·intro k g
   rw[jD ω]
   repeat rw[bR ω]
   exact dP eI ω g
  intro c hc;rw[scS.eq_1];by_cases hlt:c< n;rotate_left;have o:c=n:=ω
  subst o;refine q_z 1 ?_;refine ae (cF (ay ⟨(),trivial,?_⟩));exact kM ω λhs=>Jm hs;refine q_z 1 ?_;refine ae (cT (an (ae (aj (r_z 3 ?_)))));have hE:=eA M n c;have C:=hq c hc;obtain⟨⟨A,L⟩,w⟩:∃p,p=slM M n c:=⟨_,rfl⟩;rw[<-w] at hE C⊢;simp only at hE C⊢;have hLl:L.length<=c:=hE.len;refine AWp.ent (st':=⟨[(0,.lsl 1 0 n (some n) 1),(6,.lptr 35 0 0),(7,i64 n),(10,.lptr 36 0 0),(11,.aptr [[i64 c]] 0 0),(83,i64 n),(84,i64 c)],rwH 61 42 (λk=>aI (n+1) (A k)) n (sx1 n L),40,209⟩) ?_ ?_;refine j5 (x:=lvA L) (λx=>x) ω rfl (λ_ _ _ _ e=>e) ?_ ?_ rfl rfl ?_ ?_
  ·repeat rw[bR δ]
   exact cM cU
  ·intro k g
   repeat rw[bR ω]
   exact dP cU ω g
  cases L with
  |nil=>exact .inl ⟨rfl,rfl⟩
  |cons l L=>exact .inr ⟨ψ,rfl,rfl⟩
  intro hs
  have hd:ux ⟨40,λx=>x⟩ (ap (rwH 61 42 (λk=>aI (n+1) (A k)) n (sx1 n L))) 42:=λj B r e=>by
   obtain⟨h0⟩:=hs;have h1:j< 40:=(h0 j B r).1;have e:j=42:=e;omega
  exact aA rfl (Cv.sl rfl rfl (by rw[cM cU];rfl)) (aA rfl (Cv.ptr rfl rfl rfl) (aA rfl (ao hs (ah _)) (aA rfl (Cv.ptr rfl rfl rfl) (aA rfl (Cv.boxp hs rfl hd rfl (ac (ah _) af)) (aA rfl (ao hs (ah _)) (aA rfl (ao hs (ah _)) aV))))));have u:dS (ap (rwH 61 42 (λk=>aI (n+1) (A k)) n (sx1 n L))) 36=some ⟨157,3,[[.lsl 1 0 n (some n) 1,lvA L,i64 n]]⟩:=rfl;refine s_r 4 ?_;refine a_1 ?_;refine o_0 (.load_l1 rfl u rfl TG.h rfl) ?_;refine o_0 (.len rfl rfl rfl rfl (lenA_lv L) te_43.h) ?_;refine a_z ?_;have hcl:Closed (.clos 200 [] [.aptr [[i64 c]] 0 0]):=aX af (ac (aN (ac (ah _) af)) af);have s:=fs_lead (λk=>aI (n+1) (A k)) n (0+L.length) c ω (λi J=>χ);rw[idx_pv A n (0+L.length) c ω ω] at s;refine s_r 6 ?_;refine a_2 ?_;refine o_0 (.slice_l (l:=L.length) (h:=n) rfl ⟨⟨_,rfl,.inr ⟨_,_,rfl,rfl⟩⟩,⟨_,rfl,.inl ⟨rfl,rfl,rfl⟩⟩,⟨_,rfl,.inl ⟨rfl,rfl⟩⟩⟩ ω (ir _) (.inr ω) te_155.h) ?_;refine a_1 ?_;refine o_0 (.callV (rd:=rwI n) (rr:=⟨0,λi=>i⟩) rfl rfl rfl (λhp' hh=>ai (MP hh (cM cU) (λi J=>dP cU ω J) ω) (ai (ao aE hcl) av)) s) ?_;refine a_z ?_;have e0:0+L.length=L.length:=ω
  cases hp:pvR A n (0+L.length) c with
  |none=>
   simp only[hp];refine ae (s_r 2 ?_);refine a_1 ?_;refine o_0 (.bin rfl rfl (vT fz (decide_eq_true δ))) ?_;refine aq ?_;refine cT (ay (r_m 2 ?_));refine a_z ?_;refine⟨c+1,ω,ω,?_⟩
   have v:slM M n (c+1)=(A,L):=by
    rw[e0] at hp;rw[slM,<-w];show slC A n L c=_;unfold slC;rw[hp]
   rw[scS.eq_1,v];exact kM ω λhs=>Jm hs
  |some p=>
   simp only[hp];refine ae (q_z 2 ?_);refine cF (an ?_);obtain⟨p1,p2,p3⟩:=ny hp;have S:∀e,e=p->(rwO (λk=>aI (n+1) (A k)) (λx=>x) n)[e]?=some [.lsl (p+2) 0 (n+1) none 3]:=λe d=>by rw[eB p1 e d];simp
   have G:∀e,e=L.length->(rwO (λk=>aI (n+1) (A k)) (λx=>x) n)[e]?=some [.lsl (L.length+2) 0 (n+1) none 3]:=λe d=>by rw[eB (by omega:L.length< n) e d];simp
   have hst:∀a b,a=L.length->b=p->((rwO (λk=>aI (n+1) (A k)) (λx=>x) n).set a [.lsl (p+2) 0 (n+1) none 3])[b]?=some [.lsl (p+2) 0 (n+1) none 3]:=λa b ha hb=>by
    rw[Aa];split;rw[if_pos (by rw[pj];omega)];exact S b hb
   have ho:=ez (cM (TS:=61) (TQ:=42) (n:=n) (R:=λk=>aI (n+1) (A k)) (cU (n:=n) (L:=L))) (show(1:Nat)≠0 by decide);refine ae (r_d ba 20 ?_);refine a_8 ?_;refine a_3 ?_;refine o_0 (.load_l1 rfl ho (S _ ω) TG.h rfl) ?_;refine a_3 ?_;refine o_0 (.load_l1 rfl ho (G _ ω) TG.h rfl) ?_;refine a_1 ?_;refine eK (.store rfl ho (G _ ω) rfl rfl rfl TS.h (nle rfl)) ?_;refine a_1 ?_;refine eK (.store rfl rfl (hst _ _ ω ω) rfl rfl rfl TS.h (nle rfl)) ?_;refine aq (n_k ?_);refine AWp.ent (st':=⟨[(0,.lsl 1 0 n (some n) 1),(6,.lptr 35 0 0),(7,i64 n),(10,.lptr 36 0 0),(11,.aptr [[i64 c]] 0 0),(12,i64 L.length),(83,i64 n),(84,i64 c)],rwH 61 42 (λk=>aI (n+1) (swM A L.length p k)) n (sx1 n L),40,209⟩) ?_ ?_;have q0:swx (p+2) (L.length+2) 0=0:=ph ω ω;have q1:swx (p+2) (L.length+2) 1=1:=ph ω ω;have V:swx (p+2) (L.length+2) 35=35:=ph ω ω;have q36:swx (p+2) (L.length+2) 36=36:=ph ω ω;have q37:swx (p+2) (L.length+2) 37=37:=ph ω ω;refine j5 (x:=lvA L) (swx (p+2) (L.length+2)) ω q0 (λ_ _ _ _ e=>swx_inj e) ?_ ?_ ?_ ?_ ?_ ?_;rw[q1,gE (R':=λi=>aI (n+1) (A (swx p L.length i))) (s':=swx (p+2) (L.length+2)) (λk g=>⟨ψ,rfl⟩),<-JA (R:=λk=>aI (n+1) (A k)) p1 (by omega:L.length< n) (0+((L.length:Nat):Int).toNat) (0+(((L.length:Nat):Int)+((p- (0+L.length):Nat):Int)).toNat) ω ω];simp only[fY];rfl
   ·intro i J
    rw[swx_two,swM_row]
    repeat rw[bR ω]
    exact dP (R:=λk=>aI (n+1) (A k)) cU ω (swx_lt p1 ω J)
   rw[V];rfl;rw[q36,q1];rfl;cases L with
   |nil=>exact .inl ⟨rfl,rfl⟩
   |cons l L=>exact .inr ⟨ψ,by rw[q37];rfl,by rw[q37];rfl⟩
   intro hs;exact aA rfl (Cv.sl rfl q1 (by rw[cM cU];rfl)) (aA rfl (Cv.ptr rfl V rfl) (aA rfl (ao hs (ah _)) (aA rfl (Cv.ptr rfl q36 rfl) (aA rfl (ao hs (aN (ac (ah _) af))) (aA rfl (Cv.loE hs (by simp[i64]) (ah _)) (aA rfl (ao hs (ah _)) (aA rfl (ao hs (ah _)) aV)))))));have K:=kL (TS:=61) (TQ:=42) (R:=λk=>aI (n+1) (swM A L.length p k)) (cU (n:=n) (L:=L)) (by omega:n<=30) (by omega:L.length< n);have Q:=ez (cM (TS:=61) (TQ:=42) (n:=n) (R:=λk=>aI (n+1) (swM A L.length p k)) (cU (n:=n) (L:=L))) (show(1:Nat)≠0 by decide);have T:∀e,e=L.length->(rwO (λk=>aI (n+1) (swM A L.length p k)) (λx=>x) n)[e]?=some [.lsl (L.length+2) 0 (n+1) none 3]:=λe d=>by rw[eB (by omega:L.length< n) e d];simp
   have hx:swM A L.length p L.length c=A p c:=by simp[swM]
   have o:∀e,e=c->(pE (aI (n+1) (swM A L.length p L.length)))[e]?=some (qC (A p c)):=λe d=>by
    subst d;simp[pE,aI,show e< n+1 by omega,hx]
   have hi1:=dM 1 δ;have hq1:qs ((1:Int):Rat)<=1:=δ
   have hov:=rf ((1:Int):Rat) (A p c) p3 (by have:=C p c p1 ω;omega);refine ae (r_d ba 11 ?_);refine c_s (hi1) ?_;refine a_3 ?_;refine o_0 (.load_l1 rfl Q (T _ ω) TG.h rfl) ?_;refine a_2 ?_;refine o_0 (.load_l rfl K (o _ ω) TG.h TS.h (nle rfl)) ?_;refine c_s (hov) ?_;refine a_2 ?_;refine aq ⟨vZ (fps0:=[([],[]),([],[]),([],[]),([],[]),([],[]),([],[]),([],[]),([],[]),([],[]),([49],[]),([49],[49])]) ξ (lessF.zz (lessF.zz (lessF.zz (lessF.zz (lessF.rd ω (lessF.zz (lessF.zz (lessF.rd ω (lessF.zz (lessF.al rfl (show 40<=49 by decide) (lessF.st rfl (show 40<=49 by decide) lessF.nil))))))))))),?_⟩;refine AWp.ent (st':=⟨[(0,.lsl 1 0 n (some n) 1),(6,.lptr 35 0 0),(7,i64 n),(10,.lptr 36 0 0),(11,.aptr [[i64 c]] 0 0),(12,i64 L.length),(14,bQ (((1:Int):Rat) / A p c)),(83,i64 n),(84,i64 c)],rwH 61 42 (λk=>aI (n+1) (swM A L.length p k)) n (sx1 n L),40,209⟩) ?_ ?_;refine j5 (x:=lvA L) (λx=>x) ω rfl (λ_ _ _ _ e=>e) ?_ ?_ rfl rfl ?_ ?_
   ·repeat rw[bR δ]
    exact cM cU
   ·intro k g
    repeat rw[bR ω]
    exact dP (R:=λk=>aI (n+1) (swM A L.length p k)) cU ω g
   cases L with
   |nil=>exact .inl ⟨rfl,rfl⟩
   |cons l L=>exact .inr ⟨ψ,rfl,rfl⟩
   intro hs
   have hd:ux ⟨40,λx=>x⟩ (ap (rwH 61 42 (λk=>aI (n+1) (swM A L.length p k)) n (sx1 n L))) 49:=λj B r e=>by
    obtain⟨h0⟩:=hs;have h1:j< 40:=(h0 j B r).1;have e:j=49:=e;omega
   exact aA rfl (Cv.sl rfl rfl (by rw[cM cU];rfl)) (aA rfl (Cv.ptr rfl rfl rfl) (aA rfl (ao hs (ah _)) (aA rfl (Cv.ptr rfl rfl rfl) (aA rfl (ao hs (aN (ac (ah _) af))) (aA rfl (ao hs (ah _)) (aA rfl (Cv.boxp hs rfl hd rfl (bi _)) (aA rfl (ao hs (ah _)) (aA rfl (ao hs (ah _)) aV))))))));refine ae (s_r 6 ?_);refine a_3 ?_;refine o_0 (.load_l1 rfl Q (T _ ω) TG.h rfl) ?_;refine a_z ?_;obtain⟨X,hX⟩:∃X,X=swM A L.length p:=⟨_,rfl⟩;obtain⟨f,hf⟩:∃f,f=((1:Int):Rat) / A p c:=⟨_,rfl⟩;rw[<-hX,<-hf];have hqX:∀i j,i< n->j<=n->qs (X i j)<=B:=by rw[hX];exact Mp C ω p1
   have hqf:qs f<=B+1:=by
    rw[hf];have h1:=fS ((1:Int):Rat) (A p c);have h2:=C p c p1 ω;omega
   have v:slM M n (c+1)=(rdM (scM X L.length f) L.length c,L++[c]):=by
    rw[slM,<-w];show slC A n L c=_;unfold slC;rw[e0] at hp;rw[hp,hX,hf,show((1:Int):Rat)=1 by decide]
   have hqY:∀i j,i< n->j<=n->qs (rdM (scM X L.length f) L.length c i j)<=B:=by
    have:=hq (c+1) ω;rw[v] at this;exact this
   have q:L.length< n:=ω
   clear K Q T hx o hi1 hq1 hov S G hst ho hE s;refine aJ (λ_:Unit=>scK X n L.length c f L (n+1)) (λ_=>True) ?_ ?_
   ·refine aj (aC (scK X n L.length c f L) (λj=>n+1- j) (λj=>j<=n+1) 0 (mN _) ?_ ?_)
    rw[scK.eq_1,scJ_0];exact kM ω λhs=>lK hs;intro j r;rw[scK.eq_1];by_cases hjn:j< n+1;rotate_left;have o:j=n+1:=ω
    subst o;refine q_z 1 ?_;refine ae (cF (ay ⟨(),trivial,?_⟩));exact kM ω λhs=>lK hs;refine q_z 1 ?_;refine ae (cT (an (ae (aj (r_z 2 ?_)))));have U:=cQ (X L.length j) f (by have:=hqX L.length j ω ω;omega);have H:=kL (TS:=61) (TQ:=42) (R:=λk=>aI (n+1) (scJ X L.length f j k)) (cU (n:=n) (L:=L)) (by omega:n<=30) q;have F:=ez (cM (TS:=61) (TQ:=42) (n:=n) (R:=λk=>aI (n+1) (scJ X L.length f j k)) (cU (n:=n) (L:=L))) (show(1:Nat)≠0 by decide);have z:∀e,e=L.length->(rwO (λk=>aI (n+1) (scJ X L.length f j k)) (λx=>x) n)[e]?=some [.lsl (L.length+2) 0 (n+1) none 3]:=λe d=>by rw[eB q e d];simp
    have W:∀e,e=j->(pE (aI (n+1) (scJ X L.length f j L.length)))[e]?=some (qC (X L.length j)):=λe d=>by rw[fb hjn e d,scJ_at]
    refine r_d ba 16 ?_;refine a_3 ?_;refine o_0 (.load_l1 rfl F (z _ ω) TG.h rfl) ?_;refine a_4 ?_;refine o_0 (.load_l1 rfl F (z _ ω) TG.h rfl) ?_;refine a_2 ?_;refine o_0 (.load_l rfl H (W _ ω) TG.h TS.h (nle rfl)) ?_;refine c_s (U) ?_;refine a_1 ?_;refine eK (.store rfl H (W _ ω) rfl rfl rfl TS.h (nle rfl)) ?_;refine aq (n_k ?_);refine r_m 2 ?_;refine a_z ?_;refine⟨j+1,ω,ω,?_⟩;rw[scK.eq_1,scJ_s];exact F9 ω q hjn ω λhs=>lK hs
   rintro _ _;show AWp _ _ _ _ (scK X n L.length c f L (n+1));rw[scK.eq_1,show(λk=>aI (n+1) (scJ X L.length f (n+1) k))=λk=>aI (n+1) (scM X L.length f k) from funext λk=>vP λj r=>scJ_n k j r];obtain⟨Y,hY⟩:∃Y,Y=scM X L.length f:=⟨_,rfl⟩
   have D:∀i j,i< n->j<=n->qs (Y i j)<=B:=λi j J r=>by
    rw[hY];by_cases e:i=L.length;subst e;have:=hqY L.length j J r;rwa[show rdM (scM X L.length f) L.length c L.length j=scM X L.length f L.length j from if_pos rfl] at this;rw[show scM X L.length f i j=X i j from if_neg e];exact hqX i j J r
   rw[<-hY] at v⊢;refine ae (r_z 3 ?_);refine aJ (λ_:Unit=>rdK Y n L.length c L n) (λ_=>True) ?_ ?_
   ·refine aj (aC (rdK Y n L.length c L) (λi=>n- i) (λi=>i<=n) 0 (mN _) ?_ ?_)
    rw[rdK.eq_1,rdJ_0];exact kM ω λhs=>lK hs;intro i J;rw[rdK.eq_1];by_cases hin:i< n;rotate_left;have o:i=n:=ω
    rw[o];refine q_z 1 ?_;refine ae (cF (ay ⟨(),trivial,?_⟩));exact kM ω λhs=>lK hs;refine q_z 1 ?_;refine ae (cT (an (ae (aj (r_z 2 ?_)))));have H:=kL (TS:=61) (TQ:=42) (R:=λk=>aI (n+1) (rdJ Y L.length c i 0 k)) (cU (n:=n) (L:=L)) (by omega:n<=30) hin;have F:=ez (cM (TS:=61) (TQ:=42) (n:=n) (R:=λk=>aI (n+1) (rdJ Y L.length c i 0 k)) (cU (n:=n) (L:=L))) (show(1:Nat)≠0 by decide);have z:∀e,e=i->(rwO (λk=>aI (n+1) (rdJ Y L.length c i 0 k)) (λx=>x) n)[e]?=some [.lsl (i+2) 0 (n+1) none 3]:=λe d=>by rw[eB hin e d];simp
    have hgc:∀e,e=c->(pE (aI (n+1) (rdJ Y L.length c i 0 i)))[e]?=some (qC (Y i c)):=λe d=>by rw[rdJ_c];exact fb ω e d
    refine ae (r_d ba 9 ?_);refine a_3 ?_;refine o_0 (.load_l1 rfl F (z _ ω) TG.h rfl) ?_;refine a_2 ?_;refine o_0 (.load_l rfl H (hgc _ ω) TG.h TS.h (nle rfl)) ?_;refine a_2 ?_;refine aq ⟨vZ (fps0:=[([],[]),([],[]),([],[]),([],[]),([],[]),([],[]),([],[]),([50],[]),([50],[50])]) ξ (lessF.zz (lessF.zz (lessF.zz (lessF.rd ω (lessF.zz (lessF.zz (lessF.rd ω (lessF.al rfl (show 40<=50 by decide) (lessF.st rfl (show 40<=50 by decide) lessF.nil))))))))),?_⟩;refine AWp.ent (st':=⟨[(0,.lsl 1 0 n (some n) 1),(6,.lptr 35 0 0),(7,i64 n),(10,.lptr 36 0 0),(11,.aptr [[i64 c]] 0 0),(12,i64 L.length),(16,i64 i),(17,bQ (Y i c)),(83,i64 n),(84,i64 c),(149,i64 n),(150,i64 i)],rwH 61 42 (λk=>aI (n+1) (rdJ Y L.length c i 0 k)) n (sx1 n L),40,209⟩) ?_ ?_;refine j5 (x:=lvA L) (λx=>x) ω rfl (λ_ _ _ _ e=>e) ?_ ?_ rfl rfl ?_ ?_
    ·repeat rw[bR δ]
     exact cM cU
    ·intro k g
     repeat rw[bR ω]
     exact dP cU ω g
    cases L with
    |nil=>exact .inl ⟨rfl,rfl⟩
    |cons l L=>exact .inr ⟨ψ,rfl,rfl⟩
    intro hs
    have hd:ux ⟨40,λx=>x⟩ (ap (rwH 61 42 (λk=>aI (n+1) (rdJ Y L.length c i 0 k)) n (sx1 n L))) 50:=λj B r e=>by
     obtain⟨h0⟩:=hs;have h1:j< 40:=(h0 j B r).1;have e:j=50:=e;omega
    exact aA rfl (Cv.sl rfl rfl (by rw[cM cU];rfl)) (aA rfl (Cv.ptr rfl rfl rfl) (aA rfl (ao hs (ah _)) (aA rfl (Cv.ptr rfl rfl rfl) (aA rfl (ao hs (aN (ac (ah _) af))) (aA rfl (ao hs (ah _)) (aA rfl (ao hs (ah _)) (aA rfl (Cv.boxp hs rfl hd rfl (bi _)) (aA rfl (ao hs (ah _)) (aA rfl (ao hs (ah _)) (aA rfl (ao hs (ah _)) (aA rfl (ao hs (ah _)) aV)))))))))));by_cases hir:i=L.length;refine s_r 8 ?_;refine a_2 ?_;refine o_0 (.bin rfl rfl (vF cx (neF ω))) ?_;refine a_1 ?_;refine n_g rfl d_f ?_;refine n_g rfl d_f ?_;refine n_g rfl d_f ?_;refine o_0 (.pickF rfl d_f rfl) ?_;refine aq ?_;refine cF (an (r_m 2 ?_));refine a_z ?_;refine⟨i+1,ω,ω,?_⟩;rw[rdK.eq_1,BD (.inl hir)];exact kM ω λhs=>lK hs;by_cases hic:Y i c=0;refine s_r 8 ?_;refine a_2 ?_;refine o_0 (.bin rfl rfl (vT cx (neT ω))) ?_;refine a_1 ?_;refine y_g rfl d_t (.load_a rfl rfl TG.h TS.h (nle rfl)) ?_;refine y_g rfl d_t (.call rfl rfl rfl (cX (Y i c))) ?_;refine y_g rfl d_t (.bin rfl rfl (vF cx (neF (sgZ_num_eq.2 hic)))) ?_;refine o_0 (.pickT rfl d_t rfl) ?_;refine aq ?_;refine cF (an (r_m 2 ?_));refine a_z ?_;refine⟨i+1,ω,ω,?_⟩;rw[rdK.eq_1,BD (.inr hic)];exact kM ω λhs=>lK hs;refine s_r 8 ?_;refine a_2 ?_;refine o_0 (.bin rfl rfl (vT cx (neT ω))) ?_;refine a_1 ?_;refine y_g rfl d_t (.load_a rfl rfl TG.h TS.h (nle rfl)) ?_;refine y_g rfl d_t (.call rfl rfl rfl (cX (Y i c))) ?_;refine y_g rfl d_t (.bin rfl rfl (vT cx (neT (mt sgZ_num_eq.1 hic)))) ?_
    refine o_0 (.pickT rfl d_t rfl) ?_;refine aq ?_;refine cT (s_r 6 ?_);refine a_3 ?_;refine o_0 (.load_l1 rfl F (z _ ω) TG.h rfl) ?_;refine a_z ?_;refine AWp.cutB (λ_:Unit=>rdI Y n L.length c L i (n+1)) (λ_=>True) ?_ ?_
    ·refine aj (aC (rdI Y n L.length c L i) (λj=>n+1- j) (λj=>j<=n+1) 0 (mN _) ?_ ?_)
     rw[rdI.eq_1];exact kM ω λhs=>lK hs;intro j r;rw[rdI.eq_1];by_cases hjn:j< n+1;rotate_left;have o:j=n+1:=ω
     subst o;refine q_z 1 ?_;refine ae (cF (ay ⟨(),trivial,?_⟩));exact kM ω λhs=>lK hs;refine q_z 1 ?_;refine ae (cT (an (ae (aj (r_z 2 ?_)))));have U:=cQ (Y i c) (Y L.length j) (by have:=D i c hin ω;have:=D L.length j q ω;omega);have hsu:=lC (Y i j) (Y i c* Y L.length j) (by have:=D i c hin ω;have:=D L.length j q ω;have:=D i j hin ω;have:=cP (Y i c) (Y L.length j);omega);have N:=kL (TS:=61) (TQ:=42) (R:=λk=>aI (n+1) (rdJ Y L.length c i j k)) (cU (n:=n) (L:=L)) (by omega:n<=30) hin;have Z:=kL (TS:=61) (TQ:=42) (R:=λk=>aI (n+1) (rdJ Y L.length c i j k)) (cU (n:=n) (L:=L)) (by omega:n<=30) q;have O:=ez (cM (TS:=61) (TQ:=42) (n:=n) (R:=λk=>aI (n+1) (rdJ Y L.length c i j k)) (cU (n:=n) (L:=L))) (show(1:Nat)≠0 by decide);have hg5:∀e,e=i->(rwO (λk=>aI (n+1) (rdJ Y L.length c i j k)) (λx=>x) n)[e]?=some [.lsl (i+2) 0 (n+1) none 3]:=λe d=>by rw[eB hin e d];simp
     have hg6:∀e,e=L.length->(rwO (λk=>aI (n+1) (rdJ Y L.length c i j k)) (λx=>x) n)[e]?=some [.lsl (L.length+2) 0 (n+1) none 3]:=λe d=>by rw[eB q e d];simp
     have hgi:∀e,e=j->(pE (aI (n+1) (rdJ Y L.length c i j i)))[e]?=some (qC (Y i j)):=λe d=>by rw[fb hjn e d,rdJ_at]
     have G:∀e,e=j->(pE (aI (n+1) (rdJ Y L.length c i j L.length)))[e]?=some (qC (Y L.length j)):=λe d=>by rw[fb hjn e d,rdJ_r]
     refine r_d ba 24 ?_;refine a_3 ?_;refine o_0 (.load_l1 rfl O (hg5 _ ω) TG.h rfl) ?_;refine a_4 ?_;refine o_0 (.load_l1 rfl O (hg5 _ ω) TG.h rfl) ?_;refine a_2 ?_;refine o_0 (.load_l rfl N (hgi _ ω) TG.h TS.h (nle rfl)) ?_;refine a_4 ?_;refine o_0 (.load_l1 rfl O (hg6 _ ω) TG.h rfl) ?_;refine a_2 ?_;refine o_0 (.load_l rfl Z (G _ ω) TG.h TS.h (nle rfl)) ?_;refine c_s (U) ?_;refine c_s (hsu) ?_;refine a_1 ?_;refine eK (.store rfl N (hgi _ ω) rfl rfl rfl TS.h (nle rfl)) ?_;refine aq (n_k ?_);refine r_m 2 ?_;refine a_z ?_;refine⟨j+1,ω,ω,?_⟩;rw[rdI.eq_1,rdJ_s hir];exact F9 ω hin hjn ω λhs=>lK hs
    rintro _ _;show AWp _ _ _ _ (rdI Y n L.length c L i (n+1));rw[rdI.eq_1,show(λk=>aI (n+1) (rdJ Y L.length c i (n+1) k))=λk=>aI (n+1) (rdJ Y L.length c (i+1) 0 k) from funext λk=>vP λj r=>rdJ_n i k j r];refine r_m 2 ?_;refine a_z ?_;refine⟨i+1,ω,ω,?_⟩;rw[rdK.eq_1];exact kM ω λhs=>lK hs
   rintro _ _;show AWp _ _ _ _ (rdK Y n L.length c L n);rw[rdK.eq_1,HR (R:=λk=>aI (n+1) (rdJ Y L.length c n 0 k)) (R':=λk=>aI (n+1) (rdM Y L.length c k)) λk g=>(vP λj _=>rdJ_end g j:rT n (rdJ Y L.length c n 0) k=rT n (rdM Y L.length c) k)];have u:dS (ap (rwH 61 42 (λk=>aI (n+1) (rdM Y L.length c k)) n (sx1 n L))) 36=some ⟨157,3,[[.lsl 1 0 n (some n) 1,lvA L,i64 n]]⟩:=rfl;cases L with
   |nil=>
    refine r_m 7 ?_;refine a_1 ?_;refine o_0 (.load_l1 rfl u rfl TG.h rfl) ?_;refine a_2 ?_;refine AR.op1 (.append_e rfl rfl rfl te_43.h rfl rfl rfl (.lsl rfl (nle rfl)) (by first|assumption|(simp;done)) TZ.h rfl TB.h d_o μ) rfl rfl ?_;refine a_z ?_;refine r_m 2 ?_;refine a_z ?_;refine⟨c+1,ω,ω,?_⟩;rw[scS.eq_1,v];refine j5 (x:= .lsl 44 0 1 none 1) (λx=>cond (Nat.beq x 37) 44 x) ω rfl (F7 ω) ?_ ?_ rfl rfl (.inr ⟨ψ,rfl,rfl⟩) λhs=>lK hs
    ·rw[lu δ]
     repeat rw[bR δ]
     rw[cM cU,gE (R':=λk=>aI (n+1) (rdM Y ([]:Ln).length c k)) (s':=λx=>cond (Nat.beq x 37) 44 x)];exact λk g=>⟨rfl,(lu ω).symm⟩
    ·intro k g
     rw[lu ω]
     repeat rw[bR ω]
     exact dP (R:=λk=>aI (n+1) (rdM Y ([]:Ln).length c k)) cU ω g
   |cons l L=>
    have hLs:L.length+1< n:=q;refine r_m 7 ?_;refine a_1 ?_;refine o_0 (.load_l1 rfl u rfl TG.h rfl) ?_;refine a_z ?_;refine r_m 2 ?_;refine a_z ?_;refine⟨c+1,ω,ω,?_⟩;rw[scS.eq_1,v];refine j5 (x:= .lsl 44 0 (L.length+1+1) none 1) (λx=>cond (Nat.beq x 37) 44 x) ω rfl (F7 ω) ?_ ?_ rfl rfl (.inr ⟨ψ,ψ,by rw[Ky];rfl⟩) λhs=>lK hs
    ·rw[lu δ]
     repeat rw[bR δ]
     rw[cM cU,gE (R':=λk=>aI (n+1) (rdM Y (l::L).length c k)) (s':=λx=>cond (Nat.beq x 37) 44 x)];exact λk g=>⟨rfl,(lu ω).symm⟩
    ·intro k g
     rw[lu ω]
     repeat rw[bR ω]
     exact dP (R:=λk=>aI (n+1) (rdM Y (l::L).length c k)) cU ω g
 rintro _ _;show AWp _ _ _ _ (scS M n n);rw[scS.eq_1];obtain⟨⟨A,L⟩,w⟩:∃p,p=slM M n n:=⟨_,rfl⟩;rw[<-w];have E:∀hp:Nat->Option ABlk,hp 1=some ⟨61,1,rwO (λk=>aI (n+1) (A k)) (λx=>x) n⟩->(∀i,i< n->hp (i+2)=some ⟨42,3,pE (aI (n+1) (A i))⟩)->Cv (Ren.id 0) hp (λ_=>none) (.lsl 1 0 n (some n) 1) (.arr (mE ((List.range n).map λk=>aI (n+1) (A k)))):=λhp h1 h2=>MP (λ_ _=>rfl) h1 h2 (vY n);cases L with
 |nil=>
  refine r_z 2 ?_;refine ak (Fin.cell (t:=6) rfl rfl rfl TG.h TS.h (nle rfl) (Cv.agg (ai (E _ ?_ ?_) (ai (Cv.emp _) (ai (ao aE (ah _)) av)))));rw[bR δ];exact cM cU;intro k g;rw[bR ω];exact dP (R:=λk=>aI (n+1) (A k)) cU ω g
 |cons l L=>
  refine r_z 2 ?_;refine ak (Fin.cell (t:=6) rfl rfl rfl TG.h TS.h (nle rfl) (Cv.agg (ai (E _ ?_ ?_) (ai (Cv.shut (es:=lvE (l::L)) (B:=⟨3,1,lvE (l::L)⟩) aE rfl (λj B r=>by cases r) ψ (wV ψ (dp _))) (ai (ao aE (ah _)) av)))));rw[bR δ];exact cM cU;intro k g;rw[bR ω];exact dP (R:=λk=>aI (n+1) (A k)) cU ω g
theorem xF (A:Nat->Nat->Rat) (l:Rat) (b:Lq) (n B:Nat) (hn:n<=25) (hb:b.length=n) (hB:B<=100000000000)
    (hm:∀i j:Nat,i< n->j< n->qs (A i j)+qs l<=549755813888) (ha:∀i:Nat,i< n->qs (-(A i i* l))+1<=549755813887) (hq:∀c,c<=n->∀i j,i< n->j<=n->qs ((slM (svM A l (λt=>coP b t) n) n c).1 i j)<=B):
    XSpec Tryz.prog 113 [.lsl 1 0 n (some n) 1,.agg (qC l),.arr (pE b)] (mzH 3 61 42 (mzO 3 (λ_=>n) (λx=>x) n) (fiL A n n)) 40 (syV n (slM (svM A l (λt=>coP b t) n) n n)) [] 1:=
 sv_rows A l b n hn hb _ hm ha (sv_cols _ n B hn hB hq)
end
abbrev iu:=List fO×List fO
def twC(t:iu):La:=[.arr (nR t.1),.arr (nR t.2)]
def twR(l:List iu):Lc:=l.map twC
@[simp] theorem DL (l:List iu):(twR l).length=l.length:=by simp[twR]
theorem Fp(l:List iu):∀x∈twR l,∀c∈x,Closed c:=λx a=>by
 obtain⟨p,_,rfl⟩:=sd.1 a;exact ac (aP (c9 _)) (ac (aP (c9 _)) af)
theorem dx(l:List iu):Closed (.arr (twR l)):=aP (Fp l)
theorem twR_get{l:List iu}{i:Nat}{t:iu}(h:l[i]?=some t):∀e,e=i->(twR l)[e]?=some (twC t):=λe a=>by
 rw[a,twR,wS,h];rfl
def zO(t:iu):Prop:=(okR t.1/\okR t.2)/\t.1.length<=9223372036854775807/\t.2.length<=9223372036854775807
def fZ(l:List fO):Bool:=gP l 4||decide (12< a8 (nL l))
def yd(t:iu):Bool:=decide (30< t.1.length)||decide (30< t.2.length)
def jf(t:iu):Bool:=!yd t && (fZ t.1 && fZ t.2)
def ye(n:Nat):Bool:=!((decide (3< n) && decide (n<=8))||decide (12< n))
def ur(l:List iu):Bool:=ye l.length && l.all jf
def keM(l:List iu):Ke:=l.map λt=>(nL t.1,nL t.2)
@[simp] theorem gj (l:List iu):(keM l).length=l.length:=by simp[keM]
def keV(l:List iu):AV:=if ur l then .tup [.arr (kE (keM l)),.arr (keR (keM l)),bln true] else .tup [.arr (kE []),.arr (keR []),bln false]
theorem keR_one(k:Ke):(keR k).all (·.all AV.one)=true:=by
 rw[pZ];intro x a;obtain⟨p,_,rfl⟩:=sd.1 a;rfl
theorem KE(k:Ke)(p:Lq×Lq):keR (k++[p])=keR k++[pkR p]:=by simp[keR]
def krS'(l:List iu):Nat->AState
 |0=>⟨[(0,.arr (twR l)),(5,.emp),(6,.emp),(7,i64 0)],[],1,105⟩
 |i+1=>⟨[(0,.arr (twR l)),(5,.lsl 1 0 (i+1) none 2),(6,.lsl 2 0 (i+1) none 2),(7,i64 ((i+1:Nat):Int))],[(1,some ⟨76,2,kE ((keM l).take (i+1))⟩),(2,some ⟨80,2,keR ((keM l).take (i+1))⟩)],3,105⟩
theorem qI{l:List iu}{t:iu}(ht:t∈l)(h:jf t=false):ur l=false:=by
 unfold ur;rw[List.all_eq_false.2 ⟨t,ht,by rw[h];decide⟩,Bool.and_false]
structure PrF (t:iu):Prop where
 b1:FS 40 [.arr (nR t.1)] (.tup [.arr (pE (nL t.1)),.arr (rE (rP (nL t.1)))])
 b2:FS 40 [.arr (nR t.2)] (.tup [.arr (pE (nL t.2)),.arr (rE (rP (nL t.2)))])
 t1:FS 6 [.arr (nR t.1),i64 4] (bln (gP t.1 4))
 t2:FS 6 [.arr (nR t.2),i64 4] (bln (gP t.2 4))
 d1:FS 41 [.arr (rE (rP (nL t.1)))] (i64 (a8 (nL t.1)))
 d2:FS 41 [.arr (rE (rP (nL t.2)))] (i64 (a8 (nL t.2)))
theorem prF{t:iu}(h:zO t)(h1:t.1.length<=30)(h2:t.2.length<=30):PrF t:=by
 have d1:=jo (rP (nL t.1)) (by simp[nL];omega);have d2:=jo (rP (nL t.2)) (by simp[nL];omega);rw[FV] at d1 d2;exact⟨wI t.1 ω h.1.1,wI t.2 ω h.1.2,uS t.1 4 h.2.1 δ,uS t.2 4 h.2.2 δ,d1,d2⟩
theorem E3(l:List iu)(ho:∀t∈l,zO t)(hl:l.length<=9223372036854775807):FS 5 [.arr (twR l)] (keV l):=by
 have M:(twR l).length=l.length:=DL l;refine f_n Tryz.func5 ?_ ?_;exact ac (dx l) af;obtain⟨r,D⟩:∃r,r=keV l:=⟨_,rfl⟩;rw[<-D];have e:ur l=false->r= .tup [.arr (kE []),.arr (keR []),bln false]:=λh=>by rw[D,keV,h];rfl
 refine r_z 3 ?_;refine r_z 1 ?_;refine r_z 1 ?_;have C:Cv (Ren.id 0) (ap []) (λ_=>none) (.tup [.emp,.emp,bln false]) (.tup [.arr (kE []),.arr (keR []),bln false])->True:=λ_=>trivial;by_cases c1:12< l.length;rw[e (by unfold ur ye;rw[decide_eq_true c1,O0];rfl)];refine ae (q_z 13 ?_);refine cT (r_z 3 ?_);refine ak (Fin.many ⟨_,_,rfl,rfl,⟨_,_,rfl,rfl,⟨_,_,rfl,rfl,rfl⟩⟩⟩ (nle rfl) ?_);exact ai (Cv.emp _) (ai (Cv.emp _) (ai (ao aE (ah _)) av));by_cases c2:3< l.length/\l.length<=8;rw[e (by unfold ur ye;rw[decide_eq_true c2.1,decide_eq_true c2.2];rfl)];refine ae (q_z 13 ?_);refine cT (r_z 3 ?_);refine ak (Fin.many ⟨_,_,rfl,rfl,⟨_,_,rfl,rfl,⟨_,_,rfl,rfl,rfl⟩⟩⟩ (nle rfl) ?_);exact ai (Cv.emp _) (ai (Cv.emp _) (ai (ao aE (ah _)) av))
 have v:ye l.length=true:=by
  unfold ye;rw[decide_eq_false c1,Bool.or_false,MU,OH];by_cases h3:3< l.length;exact .inr (decide_eq_false ω);exact .inl (decide_eq_false h3)
 refine bD (λ_:Unit=>⟨[(0,.arr (twR l)),(5,.emp),(6,.emp)],[],1,105⟩) (λ_=>True) ?_ ?_;by_cases h3:3< l.length;refine q_z 13 ?_;refine cF (an (⟨(),trivial,?_⟩));have:=dx l;exact s_f [];refine q_z 13 ?_;refine cF (an (⟨(),trivial,?_⟩));have:=dx l;exact s_f [];rintro _ _;refine ae (r_z 1 ?_);refine aJ (λ_:Unit=>krS' l l.length) (λ_=> ∀t∈l,jf t=true) ?_ ?_
 ·refine aj (aC (krS' l) (λi=>l.length- i) (λi=>i<=l.length/\∀t∈l.take i,jf t=true) 0 ⟨mN _,λt s=>by simp at s⟩ ?_ ?_)
  rw[krS'.eq_1];have:=dx l;exact s_f [];rintro i ⟨O,g⟩;obtain⟨G,J,p,q,o⟩:∃G J p q,krS' l i=⟨[(0,.arr (twR l)),(5,G),(6,J),(7,i64 i)],p,q,105⟩:=by cases i <;> exact⟨_,_,_,_,rfl⟩
  by_cases hlt:i< l.length;rotate_left;have u:i=l.length:=ω
  rw[o];refine ae (q_z 4 ?_);refine cF (ay ⟨(),(by rw[u,qj] at g;exact g),?_⟩);show SEnt _ (krS' l l.length);rw[<-u];cases i with
  |zero=>
   rw[krS'.eq_1] at o⊢;cases o;have:=dx l;exact s_f []
  |succ i=>
   rw[krS'.eq_2] at o⊢;cases o;refine s_x [(1,5),(2,6)] (λhs=>e_23) (λhs=>?_)
   ·repeat' (first|exact aF|refine h_c ?_ ?_|exact bv hs (eH _)|exact bv hs (k4 _)|exact bG|refine aB ?_|exact av|refine ai ?_ ?_|exact ao hs (dx l)|exact aZ)
  obtain⟨t,s⟩:∃t,l[i]?=some t:=⟨_,eT hlt⟩;have k:=mc s;have a:(twR l)[((i:Nat):Int).toNat]?=some (twC t):=twR_get s _ ψ;have Q:(nR t.1).length=t.1.length:=by simp[nR]
  have R:(nR t.2).length=t.2.length:=by simp[nR]
  rw[o];by_cases l1:30< t.1.length;rw[e (qI k (by unfold jf yd;rw[decide_eq_true l1];rfl))];refine ae (q_z 4 ?_);refine cT (an (ae (aj (ae (s_r 16 ?_)))));refine a_2 ?_;refine i_x a ?_;refine a_1 ?_;refine l_1 a ?_;refine d_z ?_;refine cT (r_z 3 ?_);refine ak (Fin.many ⟨_,_,rfl,rfl,⟨_,_,rfl,rfl,⟨_,_,rfl,rfl,rfl⟩⟩⟩ (nle rfl) ?_);exact ai (Cv.emp _) (ai (Cv.emp _) (ai (ao aE (ah _)) av));by_cases l2:30< t.2.length;rw[e (qI k (by unfold jf yd;rw[decide_eq_true l2,O0];rfl))];refine ae (q_z 4 ?_);refine cT (an (ae (aj (ae (s_r 16 ?_)))));refine a_2 ?_;refine i_x a ?_;refine a_1 ?_;refine l_1 a ?_;refine d_5 ?_;refine bF rfl rfl rfl (.index_a rfl rfl ω a rfl te_22.h) rfl rfl ?_;refine m_1 ?_;refine bF rfl rfl rfl (.load_a1 rfl a TG.h rfl) rfl rfl ?_;refine d_z ?_;refine cT (r_z 3 ?_);refine ak (Fin.many ⟨_,_,rfl,rfl,⟨_,_,rfl,rfl,⟨_,_,rfl,rfl,rfl⟩⟩⟩ (nle rfl) ?_);exact ai (Cv.emp _) (ai (Cv.emp _) (ai (ao aE (ah _)) av));have F:=prF (ho t k) ω ω;have b1:=F.b1;have b2:=F.b2;have t1:=F.t1;have t2:=F.t2;have d1:=F.d1;have d2:=F.d2;have c:yd t=false:=by unfold yd;rw[decide_eq_false l1,decide_eq_false l2];rfl
  refine ae (q_z 4 ?_);refine cT (an (ae (aj (ae (s_r 16 ?_)))));refine a_2 ?_;refine i_x a ?_;refine a_1 ?_;refine l_1 a ?_;refine d_5 ?_;refine bF rfl rfl rfl (.index_a rfl rfl ω a rfl te_22.h) rfl rfl ?_;refine m_1 ?_;refine bF rfl rfl rfl (.load_a1 rfl a TG.h rfl) rfl rfl ?_;refine d_z ?_;refine cF (an (s_r 11 ?_));refine a_2 ?_;refine i_x a ?_;refine a_1 ?_;refine l_1 a ?_;refine c_s (b1) ?_;refine a_z ?_;refine s_r 11 ?_;refine a_2 ?_;refine i_x a ?_;refine a_1 ?_;refine l_1 a ?_;refine c_s (b2) ?_;refine a_z ?_;refine bD (λ_:Unit=>⟨[(0,.arr (twR l)),(5,G),(6,J),(7,i64 i),(8,.arr (pE (nL t.1))),(9,.arr (rE (rP (nL t.1)))),(10,.arr (pE (nL t.2))),(11,.arr (rE (rP (nL t.2))))],p,q+100,105⟩) (λ_=>jf t=true) ?_ ?_;by_cases s1:fZ t.1=true;by_cases s2:fZ t.2=true;have f:jf t=true:=by unfold jf;rw[c,s1,s2];rfl
  cases e1:gP t.1 4 with
  |true=>
   rw[e1] at t1;cases e2:gP t.2 4 with
   |true=>
    rw[e2] at t2;refine s_r 26 ?_;refine a_2 ?_;refine i_x a ?_;refine a_1 ?_;refine l_1 a ?_;refine c_s (t1) ?_;refine d_8 ?_;refine m_1 ?_;refine bF rfl rfl rfl (.index_a rfl rfl ω a rfl te_22.h) rfl rfl ?_;refine m_1 ?_;refine bF rfl rfl rfl (.load_a1 rfl a TG.h rfl) rfl rfl ?_;refine c_s (t2) ?_;refine d_z ?_;exact cF (an (⟨(),f,SEnt.keep (all_cons rfl (all_cons rfl (all_cons rfl (all_cons rfl (all_cons rfl (all_cons rfl (all_cons rfl (all_cons rfl u9)))))))) ω⟩))
   |false=>
    rw[e2] at t2;have K:12< a8 (nL t.2):=by unfold fZ at s2;rw[e2] at s2;simpa using s2
    refine s_r 26 ?_;refine a_2 ?_;refine i_x a ?_;refine a_1 ?_;refine l_1 a ?_;refine c_s (t1) ?_;refine d_8 ?_;refine m_1 ?_;refine bF rfl rfl rfl (.index_a rfl rfl ω a rfl te_22.h) rfl rfl ?_;refine m_1 ?_;refine bF rfl rfl rfl (.load_a1 rfl a TG.h rfl) rfl rfl ?_;refine c_s (t2) ?_;refine e_s (d2) ?_;refine d_z ?_;exact cF (an (⟨(),f,SEnt.keep (all_cons rfl (all_cons rfl (all_cons rfl (all_cons rfl (all_cons rfl (all_cons rfl (all_cons rfl (all_cons rfl u9)))))))) ω⟩))
  |false=>
   rw[e1] at t1;have L:12< a8 (nL t.1):=by unfold fZ at s1;rw[e1] at s1;simpa using s1
   cases e2:gP t.2 4 with
   |true=>
    rw[e2] at t2;refine s_r 26 ?_;refine a_2 ?_;refine i_x a ?_;refine a_1 ?_;refine l_1 a ?_;refine c_s (t1) ?_;refine e_s (d1) ?_;refine d_5 ?_;refine bF rfl rfl rfl (.index_a rfl rfl ω a rfl te_22.h) rfl rfl ?_;refine m_1 ?_;refine bF rfl rfl rfl (.load_a1 rfl a TG.h rfl) rfl rfl ?_;refine c_s (t2) ?_;refine d_z ?_;exact cF (an (⟨(),f,SEnt.keep (all_cons rfl (all_cons rfl (all_cons rfl (all_cons rfl (all_cons rfl (all_cons rfl (all_cons rfl (all_cons rfl u9)))))))) ω⟩))
   |false=>
    rw[e2] at t2;have K:12< a8 (nL t.2):=by unfold fZ at s2;rw[e2] at s2;simpa using s2
    refine s_r 26 ?_;refine a_2 ?_;refine i_x a ?_;refine a_1 ?_;refine l_1 a ?_;refine c_s (t1) ?_;refine e_s (d1) ?_;refine d_5 ?_;refine bF rfl rfl rfl (.index_a rfl rfl ω a rfl te_22.h) rfl rfl ?_;refine m_1 ?_;refine bF rfl rfl rfl (.load_a1 rfl a TG.h rfl) rfl rfl ?_;refine c_s (t2) ?_;refine e_s (d2) ?_;refine d_z ?_;exact cF (an (⟨(),f,SEnt.keep (all_cons rfl (all_cons rfl (all_cons rfl (all_cons rfl (all_cons rfl (all_cons rfl (all_cons rfl (all_cons rfl u9)))))))) ω⟩))
  have d:fZ t.2=false:=by simpa using s2
  rw[e (qI k (by unfold jf;rw[c,d];simp))];have e2:gP t.2 4=false:=by unfold fZ at d;rw[JP] at d;exact d.1
  have K:¬12< a8 (nL t.2):=by unfold fZ at d;rw[JP] at d;exact of_decide_eq_false d.2
  rw[e2] at t2;cases e1:gP t.1 4 with
  |true=>
   rw[e1] at t1;refine s_r 26 ?_;refine a_2 ?_;refine i_x a ?_;refine a_1 ?_;refine l_1 a ?_;refine c_s (t1) ?_;refine d_8 ?_;refine m_1 ?_;refine bF rfl rfl rfl (.index_a rfl rfl ω a rfl te_22.h) rfl rfl ?_;refine m_1 ?_;refine bF rfl rfl rfl (.load_a1 rfl a TG.h rfl) rfl rfl ?_;refine c_s (t2) ?_;refine e_s (d2) ?_;refine d_z ?_;refine cT (r_z 3 ?_);refine ak (Fin.many ⟨_,_,rfl,rfl,⟨_,_,rfl,rfl,⟨_,_,rfl,rfl,rfl⟩⟩⟩ (nle rfl) ?_);exact ai (Cv.emp _) (ai (Cv.emp _) (ai (ao aE (ah _)) av))
  |false=>
   rw[e1] at t1;have L:12< a8 (nL t.1):=by unfold fZ at s1;rw[e1] at s1;simpa using s1
   refine s_r 26 ?_;refine a_2 ?_;refine i_x a ?_;refine a_1 ?_;refine l_1 a ?_;refine c_s (t1) ?_;refine e_s (d1) ?_;refine d_5 ?_;refine bF rfl rfl rfl (.index_a rfl rfl ω a rfl te_22.h) rfl rfl ?_;refine m_1 ?_;refine bF rfl rfl rfl (.load_a1 rfl a TG.h rfl) rfl rfl ?_;refine c_s (t2) ?_;refine e_s (d2) ?_;refine d_z ?_;refine cT (r_z 3 ?_);refine ak (Fin.many ⟨_,_,rfl,rfl,⟨_,_,rfl,rfl,⟨_,_,rfl,rfl,rfl⟩⟩⟩ (nle rfl) ?_);exact ai (Cv.emp _) (ai (Cv.emp _) (ai (ao aE (ah _)) av))
  have b:fZ t.1=false:=by simpa using s1
  rw[e (qI k (by unfold jf;rw[c,b];rfl))];have e1:gP t.1 4=false:=by unfold fZ at b;rw[JP] at b;exact b.1
  have L:¬12< a8 (nL t.1):=by unfold fZ at b;rw[JP] at b;exact of_decide_eq_false b.2
  rw[e1] at t1;refine s_r 26 ?_;refine a_2 ?_;refine i_x a ?_;refine a_1 ?_;refine l_1 a ?_;refine c_s (t1) ?_;refine e_s (d1) ?_;refine d_z ?_;refine cT (r_z 3 ?_);refine ak (Fin.many ⟨_,_,rfl,rfl,⟨_,_,rfl,rfl,⟨_,_,rfl,rfl,rfl⟩⟩⟩ (nle rfl) ?_);exact ai (Cv.emp _) (ai (Cv.emp _) (ai (ao aE (ah _)) av));rintro _ f;have N:(keM l)[i]?=some (nL t.1,nL t.2):=by unfold keM;rw[wS,s];rfl
  have w:(keM l).take (i+1)=(keM l).take i++[(nL t.1,nL t.2)]:=cZ N;have e1:kE ((keM l).take i)++[prC (nL t.1,nL t.2)]=kE ((keM l).take (i+1)):=by rw[w,GP]
  have e2:keR ((keM l).take i)++[pkR (nL t.1,nL t.2)]=keR ((keM l).take (i+1)):=by rw[w,KE]
  have n:∀A∈l.take (i+1),jf A=true:=λA h=>by
   rw[cZ s] at h;rcases n7.1 h with h|h
   exact g A h;rw[kI.1 h];exact f
  cases i with
  |zero=>
   rw[krS'.eq_1] at o;cases o;refine r_m 14 ?_;refine a_z ?_;refine r_m 3 ?_;refine a_z ?_;refine⟨0+1,ω,⟨ω,n⟩,?_⟩;rw[krS'.eq_2,<-e1,<-e2];refine s_x [(1,5),(2,6)] (λhs=>e_23) (λhs=>?_)
   ·repeat' (first|exact aF|refine h_c ?_ ?_|exact bv hs (eH [(nL t.1,nL t.2)])|exact bv hs (k4 [(nL t.1,nL t.2)])|exact bG|refine aB ?_|exact av|refine ai ?_ ?_|exact ao hs (dx l)|exact aZ)
  |succ i=>
   rw[krS'.eq_2] at o;cases o;have o1:=KJ ((keM l).take (i+1));have o2:=keR_one ((keM l).take (i+1));have q1:(kE ((keM l).take (i+1))).length=i+1:=by rw[em,yv,gj];omega
   have q2:(keR ((keM l).take (i+1))).length=i+1:=by rw[pv,yv,gj];omega
   refine r_m 14 ?_;refine o_0 (.move rfl) ?_;refine o_0 (.move rfl) ?_;refine o_0 (.move rfl) ?_;refine o_0 (.build TZ.h tp_76.h rfl rfl) ?_;refine o_1 (.buildSlice te_28.h TZ.h rfl δ rfl rfl rfl υ) ?_;refine o_2 (.append_l rfl rfl rfl te_28.h rfl rfl rfl rfl rfl d_o ν θ rfl (.lsl rfl (nle rfl)) TZ.h rfl TB.h d_o μ) ?_;refine o_0 (.move rfl) ?_;refine o_0 (.move rfl) ?_;refine o_0 (.move rfl) ?_;refine o_0 (.build TZ.h tp_80.h rfl rfl) ?_;refine o_1 (.buildSlice te_30.h TZ.h rfl δ rfl rfl rfl υ) ?_;refine o_2 (.append_l rfl rfl rfl te_30.h rfl rfl rfl rfl rfl d_o ν θ rfl (.lsl rfl (nle rfl)) TZ.h rfl TB.h d_o μ) ?_;refine o_0 (.assign rfl) ?_;refine o_0 (.assign rfl) ?_;refine aq ?_;refine r_m 3 ?_;refine a_z ?_;refine⟨i+1+1,ω,⟨ω,n⟩,?_⟩;rw[krS'.eq_2];refine s_x [(1,5),(2,6)] (λhs=>e_23) (λhs=>?_)
   ·repeat' (first|exact aF|refine h_c ?_ ?_|exact aM hs e1 (eH _)|exact aM hs e2 (k4 _)|exact bG|refine aB ?_|exact av|refine ai ?_ ?_|exact ao hs (dx l)|exact aZ)
 rintro _ x
 have E:r= .tup [.arr (kE (keM l)),.arr (keR (keM l)),bln true]:=by
  rw[D,keV,show ur l=true by unfold ur;rw[v,pZ.2 x];rfl];rfl
 rw[E];cases hll:l.length with
 |zero=>
  have y:l=[]:=xi hll;subst y;rw[krS'.eq_1];refine r_z 5 ?_;refine ak (Fin.many ⟨_,_,rfl,rfl,⟨_,_,rfl,rfl,⟨_,_,rfl,rfl,rfl⟩⟩⟩ (nle rfl) ?_);exact ai (Cv.emp _) (ai (Cv.emp _) (ai (ao aE (ah _)) av))
 |succ m=>
  have z:(keM l).take (m+1)=keM l:=nk (by rw[gj];omega);have q1:(kE (keM l)).length=m+1:=by rw[em,gj];omega
  have q2:(keR (keM l)).length=m+1:=by rw[pv,gj];omega
  rw[krS'.eq_2,z];refine r_z 5 ?_;refine ak (Fin.many ⟨_,_,rfl,rfl,⟨_,_,rfl,rfl,⟨_,_,rfl,rfl,rfl⟩⟩⟩ (nle rfl) ?_);exact ai (Cv.shut (B:=⟨76,2,kE (keM l)⟩) aE rfl (λj B H=>by cases H) (by show 0+(m+1)<=(kE (keM l)).length;omega) (wV q1.symm (eH _))) (ai (Cv.shut (B:=⟨80,2,keR (keM l)⟩) aE rfl (λj B H=>by cases H) (by show 0+(m+1)<=(keR (keM l)).length;omega) (wV q2.symm (k4 _))) (ai (ao aE (ah _)) av))
end Go.Proofs.YtjmkjicckobojaaGreatDoor
