/- Part V29 of the proof. -/
import Derived.Test.YtdgbhlkabelmbaaGreatDoorV28
set_option linter.all false
namespace Go.Proofs.YtdgbhlkabelmbaaGreatDoor
open Go.Abs
set_option maxRecDepth 20000
set_option maxHeartbeats 4000000
theorem FZ{r:Ren}{hp hp':Nat→Option ABlk}{fr fr':Fr}(hs:Shr r hp hp')(h:CvF r hp hp' fr fr':=by repeat' (first|exact aN|refine aA rfl ?_ ?_|exact am hs (ag _)|exact Cv.sl rfl rfl rfl|exact Cv.sl rfl rfl (by rw[cf cm];rfl)|exact Cv.ptr rfl rfl rfl|exact Cv.ptr rfl (by assumption) rfl|(refine Cv.loE hs ?_ (ag _);simp[i64];done))):CvF r hp hp' fr fr':=h
def scS(M:Mx)(n:Nat):Nat→AState
 |c=>⟨[(0,.lsl 1 0 n (some n) 1),(6,.lptr 35 0 0),(7,i64 n),(10,.lptr 36 0 0),(83,i64 n),(84,i64 c)],rwH 37 36 (fun k=>aO (n+1) ((slM M n c).1 k)) n (sx1 n (slM M n c).2),40,209⟩
theorem jC{fr fr':Fr}{nx N n:Nat}{R:Nat→List Rat}{L:List Nat}(hn:n≤30)(hF:Shr ⟨40,fun x=>x⟩ (an (rwH 37 36 R n (sx1 n L))) (an (rwH 37 36 R n (sx1 n L)))→CvF ⟨40,fun x=>x⟩ (an (rwH 37 36 R n (sx1 n L))) (an (rwH 37 36 R n (sx1 n L))) fr fr'):
    SEnt ⟨fr,rwH 37 36 R n (sx1 n L),nx,N⟩ ⟨fr',rwH 37 36 R n (sx1 n L),40,N⟩:=
 jc (x:=lvA L) (fun x=>x) hn rfl (fun _ _ _ _ e=>e) (cf cm) (fun i a=>dt cm hn a) rfl rfl (by
  cases L with
  |nil=>exact .inl ⟨rfl,rfl⟩
  |cons l L=>exact .inr ⟨by simp,rfl,rfl⟩) hF
theorem swx_two(a b i:Nat):swx (a+2) (b+2) (i+2)=swx a b i+2:=by
 unfold swx;by_cases h1:i=a;rw[if_pos (by omega),if_pos h1];rw[if_neg (by omega),if_neg h1];by_cases h2:i=b;rw[if_pos (by omega),if_pos h2];rw[if_neg (by omega),if_neg h2]
theorem swx_lt{a b i n:Nat}(ha:a< n)(hb:b< n)(hi:i< n):swx a b i< n:=by unfold swx;split <;>(try split)<;> omega
theorem swM_row(A:Mx)(r p i:Nat):swM A r p i=A (swx p r i):=by
 funext j;unfold swM swx;by_cases h1:i=r;subst h1;by_cases h2:i=p;subst h2;simp;simp[h2];by_cases h2:i=p;subst h2;simp[h1];simp[h1,h2]
theorem lenA_lv(L:List Nat):qF (lvA L)=some L.length:=by cases L <;> rfl
theorem neT{a b:Int}(h:a≠b):(a !=b)=true:=by simpa using h
theorem neF{a b:Int}(h:a=b):(a !=b)=false:=by simp[h]
theorem ku{r:Ren}{hp hp':Nat→Option ABlk}{fr fr':Fr}(hs:Shr r hp hp')(h:CvF r hp hp' fr fr':=by repeat' (first|exact aN|refine aA rfl ?_ ?_|exact am hs (ag _)|exact am hs (cu _)|exact am hs (ba (ac (ag _) af))|exact Cv.sl rfl rfl rfl|exact Cv.sl rfl rfl (by rw[cf cm];rfl)|exact Cv.ptr rfl rfl rfl|exact Cv.ptr rfl (by assumption) rfl|(refine Cv.loE hs ?_ (ag _);simp[i64];done))):CvF r hp hp' fr fr':=h
def scK(X:Mx)(n r c:Nat)(f:Rat)(L:List Nat):Nat→AState
 |j=>⟨[(0,.lsl 1 0 n (some n) 1),(6,.lptr 35 0 0),(7,i64 n),(10,.lptr 36 0 0),(11,.aptr [[i64 c]] 0 0),(12,i64 r),(14,bQ f),(83,i64 n),(84,i64 c),(128,i64 ((n+1:Nat):Int)),(129,i64 j)],rwH 37 36 (fun k=>aO (n+1) (scJ X r f j k)) n (sx1 n L),40,209⟩
def rdK(Y:Mx)(n r c:Nat)(L:List Nat):Nat→AState
 |i=>⟨[(0,.lsl 1 0 n (some n) 1),(6,.lptr 35 0 0),(7,i64 n),(10,.lptr 36 0 0),(11,.aptr [[i64 c]] 0 0),(12,i64 r),(83,i64 n),(84,i64 c),(149,i64 n),(150,i64 i)],rwH 37 36 (fun k=>aO (n+1) (rdJ Y r c i 0 k)) n (sx1 n L),40,209⟩
def rdI(Y:Mx)(n r c:Nat)(L:List Nat)(i:Nat):Nat→AState
 |j=>⟨[(0,.lsl 1 0 n (some n) 1),(6,.lptr 35 0 0),(7,i64 n),(10,.lptr 36 0 0),(11,.aptr [[i64 c]] 0 0),(12,i64 r),(16,i64 i),(17,bQ (Y i c)),(83,i64 n),(84,i64 c),(149,i64 n),(150,i64 i),(172,i64 ((n+1:Nat):Int)),(173,i64 j)],rwH 37 36 (fun k=>aO (n+1) (rdJ Y r c i j k)) n (sx1 n L),40,209⟩
theorem EH{TS TQ n:Nat}{R R':Nat→List Rat}{ex:Hp}(h:∀k,k< n→R k=R' k):rwH TS TQ R n ex=rwH TS TQ R' n ex:=by
 unfold rwH;rw[fK (R':=R') (s':=fun x=>x) fun k a=>⟨by rw[h k a],rfl⟩,show rwL R n=rwL R' n from List.map_congr_left fun k a=>by rw[h k (List.mem_range.1 a)]]
theorem Dm{fr fr':Fr}{nx N n i j e:Nat}{X:Mx}{v:Rat}{L:List Nat}(hn:n≤30)(hi:i< n)(hj:j< n+1)(he:e=j)(hF:Shr ⟨40,fun x=>x⟩ (an ((i+2,some ⟨36,3,(pE (aO (n+1) (X i))).set e (qC v)⟩)::rwH 37 36 (fun k=>aO (n+1) (X k)) n (sx1 n L))) (an (rwH 37 36 (fun k=>aO (n+1) (puM X i j v k)) n (sx1 n L)))→CvF ⟨40,fun x=>x⟩ (an ((i+2,some ⟨36,3,(pE (aO (n+1) (X i))).set e (qC v)⟩)::rwH 37 36 (fun k=>aO (n+1) (X k)) n (sx1 n L))) (an (rwH 37 36 (fun k=>aO (n+1) (puM X i j v k)) n (sx1 n L))) fr fr'):
    SEnt ⟨fr,(i+2,some ⟨36,3,(pE (aO (n+1) (X i))).set e (qC v)⟩)::rwH 37 36 (fun k=>aO (n+1) (X k)) n (sx1 n L),nx,N⟩ ⟨fr',rwH 37 36 (fun k=>aO (n+1) (puM X i j v k)) n (sx1 n L),40,N⟩:=by
 refine jc (x:=lvA L) (fun x=>x) hn rfl (fun _ _ _ _ e=>e) ?_ ?_ ?_ ?_ ?_ hF;rw[bv (by omega),cf cm,fK (R':=fun k=>aO (n+1) (puM X i j v k)) (s':=fun x=>x)];exact fun k a=>⟨by simp,rfl⟩;intro k a;by_cases h:k=i;subst h;rw[←puM_set hj e he,cX,a7];rw[bv (by omega),dt cm (by omega) a,puM_ne h];rw[bv (by omega)];rfl;rw[bv (by omega)];rfl;cases L with
 |nil=>exact .inl ⟨rfl,rfl⟩
 |cons l L=>exact .inr ⟨by simp,rfl,by rw[bv (by omega)];rfl⟩
def syV(n:Nat)(p:Mx×List Nat):AV:= .agg [.arr (mE ((List.range n).map fun k=>aO (n+1) (p.1 k))),.arr (lvE p.2),i64 n]
theorem uO{r:Ren}{hp:Nat→Option ABlk}{l:List (List AV)}{n:Nat}(hn:n=l.length)(hc:∀e∈l,∀c∈e,Closed c):CvLL r hp (fun _=>none) ((l.drop 0).take n) l:=by
 rw[List.drop_zero,hn,List.take_length];exact a8 aD hc
theorem kf{x:Nat}(h:x≠37):cond (Nat.beq x 37) 44 x=x:=by
 cases e:Nat.beq x 37 with
 |false=>rfl
 |true=>exact absurd (Nat.eq_of_beq_eq_true e) h
theorem Dk{n:Nat}(hn:n≤30)(i j:Nat)(h1:InX n i)(h2:InX n j)(e:cond (Nat.beq i 37) 44 i=cond (Nat.beq j 37) 44 j):i=j:=by
 unfold InX at h1 h2;by_cases a:i=37;by_cases b:j=37;rw[a,b];rw[a,kf b] at e;have e:(44:Nat)=j:=e;omega;by_cases b:j=37;rw[b,kf a] at e;have e:i=(44:Nat):=e;omega;rw[kf a,kf b] at e;exact e
theorem sv_cols(M:Mx)(n B:Nat)(hn:n≤25)(hB:B≤100000000000)(hq:∀c,c≤n→∀i j,i< n→j≤n→qs ((slM M n c).1 i j)≤B):
    AWp none Tryz.prog svRest (Fin Tryz.prog Tryz.f57.results.toList (syV n (slM M n n))) ⟨[(0,.lsl 1 0 n (some n) 1),(6,.lptr 35 0 0),(7,i64 n)],rwH 37 36 (fun k=>aO (n+1) (M k)) n sx0,40,209⟩:=by
 unfold svRest;refine r_z 5 ?_;refine ae (r_z 2 ?_);refine aG (fun _:Unit=>scS M n n) (fun _=>True) ?_ ?_
 ·refine aj (aB (scS M n) (fun c=>n- c) (fun c=>c≤n) 0 (Nat.zero_le _) ?_ ?_)
  rw[scS.eq_1];refine jc (L:=[]) (x:= .emp) (fiR 34 43) (by omega) (Ao _ _) (fun x y hx hy e=>pR (m:=40) (Nat.le_refl _) (by decide) x y (rv (by omega) hx) (rv (by omega) hy) e) ?_ ?_ rfl rfl (.inl ⟨rfl,rfl⟩) fun hs=>FZ hs
  ·rw[An]
   repeat rw[bv (by decide)]
   rw[cf dV,fK (R':=fun k=>aO (n+1) ((slM M n 0).1 k)) (s':=fiR 34 43)];exact fun k o=>⟨by simp,(iI (by omega)).symm⟩
  ·intro k o
   rw[iI (by omega)]
   repeat rw[bv (by omega)]
   exact dt dV (by omega) o
  intro c hc;rw[scS.eq_1];by_cases hlt:c< n;rotate_left;have g:c=n:=by omega
  subst g;refine q_z 1 ?_;refine ae (cF (ay ⟨(),trivial,?_⟩));exact jC (by omega) fun hs=>FZ hs;refine q_z 1 ?_;refine ae (cT (ak (ae (aj (r_z 3 ?_)))));have hE:=dY M n c;have F:=hq c hc;obtain⟨⟨A,L⟩,G⟩:∃p,p=slM M n c:=⟨_,rfl⟩;rw[←G] at hE F⊢;simp only at hE F⊢;have hLl:L.length≤c:=hE.len;refine AWp.ent (st':=⟨[(0,.lsl 1 0 n (some n) 1),(6,.lptr 35 0 0),(7,i64 n),(10,.lptr 36 0 0),(11,.aptr [[i64 c]] 0 0),(83,i64 n),(84,i64 c)],rwH 37 36 (fun k=>aO (n+1) (A k)) n (sx1 n L),40,209⟩) ?_ ?_;refine jc (x:=lvA L) (fun x=>x) (by omega) rfl (fun _ _ _ _ e=>e) ?_ ?_ rfl rfl ?_ ?_
  ·repeat rw[bv (by decide)]
   exact cf cm
  ·intro k o
   repeat rw[bv (by omega)]
   exact dt cm (by omega) o
  cases L with
  |nil=>exact .inl ⟨rfl,rfl⟩
  |cons l L=>exact .inr ⟨by simp,rfl,rfl⟩
  intro hs
  have hd:vf ⟨40,fun x=>x⟩ (an (rwH 37 36 (fun k=>aO (n+1) (A k)) n (sx1 n L))) 42:=fun j B r e=>by
   obtain⟨h0⟩:=hs;have h1:j< 40:=(h0 j B r).1;have e:j=42:=e;omega
  exact aA rfl (Cv.sl rfl rfl (by rw[cf cm];rfl)) (aA rfl (Cv.ptr rfl rfl rfl) (aA rfl (am hs (ag _)) (aA rfl (Cv.ptr rfl rfl rfl) (aA rfl (Cv.boxp hs rfl hd rfl (ac (ag _) af)) (aA rfl (am hs (ag _)) (aA rfl (am hs (ag _)) aN))))));have u:dB (an (rwH 37 36 (fun k=>aO (n+1) (A k)) n (sx1 n L))) 36=some ⟨106,3,[[.lsl 1 0 n (some n) 1,lvA L,i64 n]]⟩:=rfl;refine s_r 4 ?_;refine a_1 ?_;refine o_0 (.load_l1 rfl u rfl TG.h rfl) ?_;refine o_0 (.len rfl rfl rfl rfl (lenA_lv L) te_70.h) ?_;refine a_z ?_;have hcl:Closed (.clos 108 [] [.aptr [[i64 c]] 0 0]):=aP af (ac (ba (ac (ag _) af)) af);have s:=fs_lead (fun k=>aO (n+1) (A k)) n (0+L.length) c (by omega) (fun i N=>by simp;omega);rw[idx_pv A n (0+L.length) c (by omega) (by omega)] at s;refine s_r 6 ?_;refine a_2 ?_;refine o_0 (.slice_l (l:=L.length) (h:=n) rfl ⟨⟨_,rfl,.inr ⟨_,_,rfl,rfl⟩⟩,⟨_,rfl,.inl ⟨rfl,rfl,rfl⟩⟩,⟨_,rfl,.inl ⟨rfl,rfl⟩⟩⟩ (by omega) (Nat.le_refl _) (.inr (by omega)) te_104.h) ?_;refine a_1 ?_;refine o_0 (.callV (rd:=rwI n) (rr:=⟨0,fun i=>i⟩) rfl rfl rfl (fun hp' hh=>ah (IK hh (cf cm) (fun i N=>dt cm (by omega) N) (by omega)) (ah (am aD hcl) av)) s) ?_;refine a_z ?_;have e0:0+L.length=L.length:=by omega
  cases hp:pvR A n (0+L.length) c with
  |none=>
   simp only[hp];refine ae (s_r 2 ?_);refine a_1 ?_;refine o_0 (.bin rfl rfl (vT eN (decide_eq_true (by decide)))) ?_;refine ao ?_;refine cT (ay (r_m 2 ?_));refine a_z ?_;refine⟨c+1,by omega,by omega,?_⟩
   have v:slM M n (c+1)=(A,L):=by
    rw[e0] at hp;rw[slM,←G];show slC A n L c=_;unfold slC;rw[hp]
   rw[scS.eq_1,v];exact jC (by omega) fun hs=>FZ hs
  |some p=>
   simp only[hp];refine ae (q_z 2 ?_);refine cF (ak ?_);obtain⟨p1,p2,p3⟩:=lT hp;have S:∀e,e=p→(rwO (fun k=>aO (n+1) (A k)) (fun x=>x) n)[e]?=some [.lsl (p+2) 0 (n+1) none 3]:=fun e d=>by rw[dQ p1 e d];simp
   have z:∀e,e=L.length→(rwO (fun k=>aO (n+1) (A k)) (fun x=>x) n)[e]?=some [.lsl (L.length+2) 0 (n+1) none 3]:=fun e d=>by rw[dQ (by omega:L.length< n) e d];simp
   have hst:∀a b,a=L.length→b=p→((rwO (fun k=>aO (n+1) (A k)) (fun x=>x) n).set a [.lsl (p+2) 0 (n+1) none 3])[b]?=some [.lsl (p+2) 0 (n+1) none 3]:=fun a b ha hb=>by
    rw[List.getElem?_set];split;rw[if_pos (by rw[nJ];omega)];exact S b hb
   have ho:=dP (cf (TS:=37) (TQ:=36) (n:=n) (R:=fun k=>aO (n+1) (A k)) (cm (n:=n) (L:=L))) (show(1:Nat)≠0 by decide);refine ae (r_d a6 20 ?_);refine a_8 ?_;refine a_3 ?_;refine o_0 (.load_l1 rfl ho (S _ (by omega)) TG.h rfl) ?_;refine a_3 ?_;refine o_0 (.load_l1 rfl ho (z _ (by omega)) TG.h rfl) ?_;refine a_1 ?_;refine dX (.store rfl ho (z _ (by omega)) rfl rfl rfl TS.h (nle rfl)) ?_;refine a_1 ?_;refine dX (.store rfl rfl (hst _ _ (by omega) (by omega)) rfl rfl rfl TS.h (nle rfl)) ?_;refine ao (n_k ?_);refine AWp.ent (st':=⟨[(0,.lsl 1 0 n (some n) 1),(6,.lptr 35 0 0),(7,i64 n),(10,.lptr 36 0 0),(11,.aptr [[i64 c]] 0 0),(12,i64 L.length),(83,i64 n),(84,i64 c)],rwH 37 36 (fun k=>aO (n+1) (swM A L.length p k)) n (sx1 n L),40,209⟩) ?_ ?_;have q0:swx (p+2) (L.length+2) 0=0:=nF (by omega) (by omega);have q1:swx (p+2) (L.length+2) 1=1:=nF (by omega) (by omega);have q35:swx (p+2) (L.length+2) 35=35:=nF (by omega) (by omega);have W:swx (p+2) (L.length+2) 36=36:=nF (by omega) (by omega);have q37:swx (p+2) (L.length+2) 37=37:=nF (by omega) (by omega);refine jc (x:=lvA L) (swx (p+2) (L.length+2)) (by omega) q0 (fun _ _ _ _ e=>swx_inj e) ?_ ?_ ?_ ?_ ?_ ?_;rw[q1,fK (R':=fun i=>aO (n+1) (A (swx p L.length i))) (s':=swx (p+2) (L.length+2)) (fun k o=>⟨by simp,rfl⟩),←Gc (R:=fun k=>aO (n+1) (A k)) p1 (by omega:L.length< n) (0+((L.length:Nat):Int).toNat) (0+(((L.length:Nat):Int)+((p- (0+L.length):Nat):Int)).toNat) (by omega) (by omega)];simp only[rz];rfl
   ·intro i N
    rw[swx_two,swM_row]
    repeat rw[bv (by omega)]
    exact dt (R:=fun k=>aO (n+1) (A k)) cm (by omega) (swx_lt p1 (by omega) N)
   rw[q35];rfl;rw[W,q1];rfl;cases L with
   |nil=>exact .inl ⟨rfl,rfl⟩
   |cons l L=>exact .inr ⟨by simp,by rw[q37];rfl,by rw[q37];rfl⟩
   intro hs;exact aA rfl (Cv.sl rfl q1 (by rw[cf cm];rfl)) (aA rfl (Cv.ptr rfl q35 rfl) (aA rfl (am hs (ag _)) (aA rfl (Cv.ptr rfl W rfl) (aA rfl (am hs (ba (ac (ag _) af))) (aA rfl (Cv.loE hs (by simp[i64]) (ag _)) (aA rfl (am hs (ag _)) (aA rfl (am hs (ag _)) aN)))))));have J:=jz (TS:=37) (TQ:=36) (R:=fun k=>aO (n+1) (swM A L.length p k)) (cm (n:=n) (L:=L)) (by omega:n≤30) (by omega:L.length< n);have U:=dP (cf (TS:=37) (TQ:=36) (n:=n) (R:=fun k=>aO (n+1) (swM A L.length p k)) (cm (n:=n) (L:=L))) (show(1:Nat)≠0 by decide);have T:∀e,e=L.length→(rwO (fun k=>aO (n+1) (swM A L.length p k)) (fun x=>x) n)[e]?=some [.lsl (L.length+2) 0 (n+1) none 3]:=fun e d=>by rw[dQ (by omega:L.length< n) e d];simp
   have hx:swM A L.length p L.length c=A p c:=by simp[swM]
   have g:∀e,e=c→(pE (aO (n+1) (swM A L.length p L.length)))[e]?=some (qC (A p c)):=fun e d=>by
    subst d;simp[pE,aO,show e< n+1 by omega,hx]
   have hi1:=du 1 (by decide);have hq1:qs ((1:Int):Rat)≤1:=by decide
   have V:=kN ((1:Int):Rat) (A p c) p3 (by have:=F p c p1 (by omega);omega);refine ae (r_d a6 11 ?_);refine c_s (hi1) ?_;refine a_3 ?_;refine o_0 (.load_l1 rfl U (T _ (by omega)) TG.h rfl) ?_;refine a_2 ?_;refine o_0 (.load_l rfl J (g _ (by omega)) TG.h TS.h (nle rfl)) ?_;refine c_s (V) ?_;refine a_2 ?_;refine ao ⟨tU (fps0:=[([],[]),([],[]),([],[]),([],[]),([],[]),([],[]),([],[]),([],[]),([],[]),([49],[]),([49],[49])]) (by kernel_rfl) (lessF.zz (lessF.zz (lessF.zz (lessF.zz (lessF.rd (by omega) (lessF.zz (lessF.zz (lessF.rd (by omega) (lessF.zz (lessF.al rfl (show 40≤49 by decide) (lessF.st rfl (show 40≤49 by decide) lessF.nil))))))))))),?_⟩;refine AWp.ent (st':=⟨[(0,.lsl 1 0 n (some n) 1),(6,.lptr 35 0 0),(7,i64 n),(10,.lptr 36 0 0),(11,.aptr [[i64 c]] 0 0),(12,i64 L.length),(14,bQ (((1:Int):Rat) / A p c)),(83,i64 n),(84,i64 c)],rwH 37 36 (fun k=>aO (n+1) (swM A L.length p k)) n (sx1 n L),40,209⟩) ?_ ?_;refine jc (x:=lvA L) (fun x=>x) (by omega) rfl (fun _ _ _ _ e=>e) ?_ ?_ rfl rfl ?_ ?_
   ·repeat rw[bv (by decide)]
    exact cf cm
   ·intro k o
    repeat rw[bv (by omega)]
    exact dt (R:=fun k=>aO (n+1) (swM A L.length p k)) cm (by omega) o
   cases L with
   |nil=>exact .inl ⟨rfl,rfl⟩
   |cons l L=>exact .inr ⟨by simp,rfl,rfl⟩
   intro hs
   have hd:vf ⟨40,fun x=>x⟩ (an (rwH 37 36 (fun k=>aO (n+1) (swM A L.length p k)) n (sx1 n L))) 49:=fun j B r e=>by
    obtain⟨h0⟩:=hs;have h1:j< 40:=(h0 j B r).1;have e:j=49:=e;omega
   exact aA rfl (Cv.sl rfl rfl (by rw[cf cm];rfl)) (aA rfl (Cv.ptr rfl rfl rfl) (aA rfl (am hs (ag _)) (aA rfl (Cv.ptr rfl rfl rfl) (aA rfl (am hs (ba (ac (ag _) af))) (aA rfl (am hs (ag _)) (aA rfl (Cv.boxp hs rfl hd rfl (aZ _)) (aA rfl (am hs (ag _)) (aA rfl (am hs (ag _)) aN))))))));refine ae (s_r 6 ?_);refine a_3 ?_;refine o_0 (.load_l1 rfl U (T _ (by omega)) TG.h rfl) ?_;refine a_z ?_;obtain⟨X,hX⟩:∃X,X=swM A L.length p:=⟨_,rfl⟩;obtain⟨f,hf⟩:∃f,f=((1:Int):Rat) / A p c:=⟨_,rfl⟩;rw[←hX,←hf];have hqX:∀i j,i< n→j≤n→qs (X i j)≤B:=by rw[hX];exact bd_sw F (by omega) p1
   have hqf:qs f≤B+1:=by
    rw[hf];have h1:=gO ((1:Int):Rat) (A p c);have h2:=F p c p1 (by omega);omega
   have v:slM M n (c+1)=(rdM (scM X L.length f) L.length c,L++[c]):=by
    rw[slM,←G];show slC A n L c=_;unfold slC;rw[e0] at hp;rw[hp,hX,hf,show((1:Int):Rat)=1 by decide]
   have hqY:∀i j,i< n→j≤n→qs (rdM (scM X L.length f) L.length c i j)≤B:=by
    have:=hq (c+1) (by omega);rw[v] at this;exact this
   have q:L.length< n:=by omega
   clear J U T hx g hi1 hq1 V S z hst ho hE s;refine aG (fun _:Unit=>scK X n L.length c f L (n+1)) (fun _=>True) ?_ ?_
   ·refine aj (aB (scK X n L.length c f L) (fun j=>n+1- j) (fun j=>j≤n+1) 0 (Nat.zero_le _) ?_ ?_)
    rw[scK.eq_1,scJ_0];exact jC (by omega) fun hs=>ku hs;intro j r;rw[scK.eq_1];by_cases hjn:j< n+1;rotate_left;have g:j=n+1:=by omega
    subst g;refine q_z 1 ?_;refine ae (cF (ay ⟨(),trivial,?_⟩));exact jC (by omega) fun hs=>ku hs;refine q_z 1 ?_;refine ae (cT (ak (ae (aj (r_z 2 ?_)))));have O:=cJ (X L.length j) f (by have:=hqX L.length j (by omega) (by omega);omega);have H:=jz (TS:=37) (TQ:=36) (R:=fun k=>aO (n+1) (scJ X L.length f j k)) (cm (n:=n) (L:=L)) (by omega:n≤30) q;have E:=dP (cf (TS:=37) (TQ:=36) (n:=n) (R:=fun k=>aO (n+1) (scJ X L.length f j k)) (cm (n:=n) (L:=L))) (show(1:Nat)≠0 by decide);have w:∀e,e=L.length→(rwO (fun k=>aO (n+1) (scJ X L.length f j k)) (fun x=>x) n)[e]?=some [.lsl (L.length+2) 0 (n+1) none 3]:=fun e d=>by rw[dQ q e d];simp
    have hgj:∀e,e=j→(pE (aO (n+1) (scJ X L.length f j L.length)))[e]?=some (qC (X L.length j)):=fun e d=>by rw[dh hjn e d,scJ_at]
    refine r_d a6 16 ?_;refine a_3 ?_;refine o_0 (.load_l1 rfl E (w _ (by omega)) TG.h rfl) ?_;refine a_4 ?_;refine o_0 (.load_l1 rfl E (w _ (by omega)) TG.h rfl) ?_;refine a_2 ?_;refine o_0 (.load_l rfl H (hgj _ (by omega)) TG.h TS.h (nle rfl)) ?_;refine c_s (O) ?_;refine a_1 ?_;refine dX (.store rfl H (hgj _ (by omega)) rfl rfl rfl TS.h (nle rfl)) ?_;refine ao (n_k ?_);refine r_m 2 ?_;refine a_z ?_;refine⟨j+1,by omega,by omega,?_⟩;rw[scK.eq_1,scJ_s];exact Dm (by omega) q hjn (by omega) fun hs=>ku hs
   rintro _ _;show AWp _ _ _ _ (scK X n L.length c f L (n+1));rw[scK.eq_1,show(fun k=>aO (n+1) (scJ X L.length f (n+1) k))=fun k=>aO (n+1) (scM X L.length f k) from funext fun k=>tO fun j r=>scJ_n k j r];obtain⟨Y,hY⟩:∃Y,Y=scM X L.length f:=⟨_,rfl⟩
   have D:∀i j,i< n→j≤n→qs (Y i j)≤B:=fun i j N r=>by
    rw[hY];by_cases e:i=L.length;subst e;have:=hqY L.length j N r;rwa[show rdM (scM X L.length f) L.length c L.length j=scM X L.length f L.length j from if_pos rfl] at this;rw[show scM X L.length f i j=X i j from if_neg e];exact hqX i j N r
   rw[←hY] at v⊢;refine ae (r_z 3 ?_);refine aG (fun _:Unit=>rdK Y n L.length c L n) (fun _=>True) ?_ ?_
   ·refine aj (aB (rdK Y n L.length c L) (fun i=>n- i) (fun i=>i≤n) 0 (Nat.zero_le _) ?_ ?_)
    rw[rdK.eq_1,rdJ_0];exact jC (by omega) fun hs=>ku hs;intro i N;rw[rdK.eq_1];by_cases hin:i< n;rotate_left;have g:i=n:=by omega
    rw[g];refine q_z 1 ?_;refine ae (cF (ay ⟨(),trivial,?_⟩));exact jC (by omega) fun hs=>ku hs;refine q_z 1 ?_;refine ae (cT (ak (ae (aj (r_z 2 ?_)))));have H:=jz (TS:=37) (TQ:=36) (R:=fun k=>aO (n+1) (rdJ Y L.length c i 0 k)) (cm (n:=n) (L:=L)) (by omega:n≤30) hin;have E:=dP (cf (TS:=37) (TQ:=36) (n:=n) (R:=fun k=>aO (n+1) (rdJ Y L.length c i 0 k)) (cm (n:=n) (L:=L))) (show(1:Nat)≠0 by decide);have w:∀e,e=i→(rwO (fun k=>aO (n+1) (rdJ Y L.length c i 0 k)) (fun x=>x) n)[e]?=some [.lsl (i+2) 0 (n+1) none 3]:=fun e d=>by rw[dQ hin e d];simp
    have hgc:∀e,e=c→(pE (aO (n+1) (rdJ Y L.length c i 0 i)))[e]?=some (qC (Y i c)):=fun e d=>by rw[rdJ_c];exact dh (by omega) e d
    refine ae (r_d a6 9 ?_);refine a_3 ?_;refine o_0 (.load_l1 rfl E (w _ (by omega)) TG.h rfl) ?_;refine a_2 ?_;refine o_0 (.load_l rfl H (hgc _ (by omega)) TG.h TS.h (nle rfl)) ?_;refine a_2 ?_;refine ao ⟨tU (fps0:=[([],[]),([],[]),([],[]),([],[]),([],[]),([],[]),([],[]),([50],[]),([50],[50])]) (by kernel_rfl) (lessF.zz (lessF.zz (lessF.zz (lessF.rd (by omega) (lessF.zz (lessF.zz (lessF.rd (by omega) (lessF.al rfl (show 40≤50 by decide) (lessF.st rfl (show 40≤50 by decide) lessF.nil))))))))),?_⟩;refine AWp.ent (st':=⟨[(0,.lsl 1 0 n (some n) 1),(6,.lptr 35 0 0),(7,i64 n),(10,.lptr 36 0 0),(11,.aptr [[i64 c]] 0 0),(12,i64 L.length),(16,i64 i),(17,bQ (Y i c)),(83,i64 n),(84,i64 c),(149,i64 n),(150,i64 i)],rwH 37 36 (fun k=>aO (n+1) (rdJ Y L.length c i 0 k)) n (sx1 n L),40,209⟩) ?_ ?_;refine jc (x:=lvA L) (fun x=>x) (by omega) rfl (fun _ _ _ _ e=>e) ?_ ?_ rfl rfl ?_ ?_
    ·repeat rw[bv (by decide)]
     exact cf cm
    ·intro k o
     repeat rw[bv (by omega)]
     exact dt cm (by omega) o
    cases L with
    |nil=>exact .inl ⟨rfl,rfl⟩
    |cons l L=>exact .inr ⟨by simp,rfl,rfl⟩
    intro hs
    have hd:vf ⟨40,fun x=>x⟩ (an (rwH 37 36 (fun k=>aO (n+1) (rdJ Y L.length c i 0 k)) n (sx1 n L))) 50:=fun j B r e=>by
     obtain⟨h0⟩:=hs;have h1:j< 40:=(h0 j B r).1;have e:j=50:=e;omega
    exact aA rfl (Cv.sl rfl rfl (by rw[cf cm];rfl)) (aA rfl (Cv.ptr rfl rfl rfl) (aA rfl (am hs (ag _)) (aA rfl (Cv.ptr rfl rfl rfl) (aA rfl (am hs (ba (ac (ag _) af))) (aA rfl (am hs (ag _)) (aA rfl (am hs (ag _)) (aA rfl (Cv.boxp hs rfl hd rfl (aZ _)) (aA rfl (am hs (ag _)) (aA rfl (am hs (ag _)) (aA rfl (am hs (ag _)) (aA rfl (am hs (ag _)) aN)))))))))));by_cases hir:i=L.length;refine s_r 8 ?_;refine a_2 ?_;refine o_0 (.bin rfl rfl (vF dG (neF (by omega)))) ?_;refine a_1 ?_;refine n_g rfl d_f ?_;refine n_g rfl d_f ?_;refine n_g rfl d_f ?_;refine o_0 (.pickF rfl d_f rfl) ?_;refine ao ?_;refine cF (ak (r_m 2 ?_));refine a_z ?_;refine⟨i+1,by omega,by omega,?_⟩;rw[rdK.eq_1,y7 (.inl hir)];exact jC (by omega) fun hs=>ku hs;by_cases hic:Y i c=0;refine s_r 8 ?_;refine a_2 ?_;refine o_0 (.bin rfl rfl (vT dG (neT (by omega)))) ?_;refine a_1 ?_
    first|refine y_g rfl d_t (.load_l rfl rfl rfl TG.h TS.h (nle rfl)) ?_|refine y_g rfl d_t (.load_a rfl rfl TG.h TS.h (nle rfl)) ?_
    refine y_g rfl d_t (.call rfl rfl rfl (cw (Y i c))) ?_;refine y_g rfl d_t (.bin rfl rfl (vF dG (neF (sgZ_num_eq.2 hic)))) ?_;refine o_0 (.pickT rfl d_t rfl) ?_;refine ao ?_;refine cF (ak (r_m 2 ?_));refine a_z ?_;refine⟨i+1,by omega,by omega,?_⟩;rw[rdK.eq_1,y7 (.inr hic)];exact jC (by omega) fun hs=>ku hs;refine s_r 8 ?_;refine a_2 ?_;refine o_0 (.bin rfl rfl (vT dG (neT (by omega)))) ?_;refine a_1 ?_
    first|refine y_g rfl d_t (.load_l rfl rfl rfl TG.h TS.h (nle rfl)) ?_|refine y_g rfl d_t (.load_a rfl rfl TG.h TS.h (nle rfl)) ?_
    refine y_g rfl d_t (.call rfl rfl rfl (cw (Y i c))) ?_;refine y_g rfl d_t (.bin rfl rfl (vT dG (neT (mt sgZ_num_eq.1 hic)))) ?_;refine o_0 (.pickT rfl d_t rfl) ?_;refine ao ?_;refine cT (s_r 6 ?_);refine a_3 ?_;refine o_0 (.load_l1 rfl E (w _ (by omega)) TG.h rfl) ?_;refine a_z ?_;refine AWp.cutB (fun _:Unit=>rdI Y n L.length c L i (n+1)) (fun _=>True) ?_ ?_
    ·refine aj (aB (rdI Y n L.length c L i) (fun j=>n+1- j) (fun j=>j≤n+1) 0 (Nat.zero_le _) ?_ ?_)
     rw[rdI.eq_1];exact jC (by omega) fun hs=>ku hs;intro j r;rw[rdI.eq_1];by_cases hjn:j< n+1;rotate_left;have g:j=n+1:=by omega
     subst g;refine q_z 1 ?_;refine ae (cF (ay ⟨(),trivial,?_⟩));exact jC (by omega) fun hs=>ku hs;refine q_z 1 ?_;refine ae (cT (ak (ae (aj (r_z 2 ?_)))));have O:=cJ (Y i c) (Y L.length j) (by have:=D i c hin (by omega);have:=D L.length j q (by omega);omega);have hsu:=jL (Y i j) (Y i c* Y L.length j) (by have:=D i c hin (by omega);have:=D L.length j q (by omega);have:=D i j hin (by omega);have:=dK (Y i c) (Y L.length j);omega);have K:=jz (TS:=37) (TQ:=36) (R:=fun k=>aO (n+1) (rdJ Y L.length c i j k)) (cm (n:=n) (L:=L)) (by omega:n≤30) hin;have hcer:=jz (TS:=37) (TQ:=36) (R:=fun k=>aO (n+1) (rdJ Y L.length c i j k)) (cm (n:=n) (L:=L)) (by omega:n≤30) q;have Q:=dP (cf (TS:=37) (TQ:=36) (n:=n) (R:=fun k=>aO (n+1) (rdJ Y L.length c i j k)) (cm (n:=n) (L:=L))) (show(1:Nat)≠0 by decide);have Z:∀e,e=i→(rwO (fun k=>aO (n+1) (rdJ Y L.length c i j k)) (fun x=>x) n)[e]?=some [.lsl (i+2) 0 (n+1) none 3]:=fun e d=>by rw[dQ hin e d];simp
     have hg6:∀e,e=L.length→(rwO (fun k=>aO (n+1) (rdJ Y L.length c i j k)) (fun x=>x) n)[e]?=some [.lsl (L.length+2) 0 (n+1) none 3]:=fun e d=>by rw[dQ q e d];simp
     have hgi:∀e,e=j→(pE (aO (n+1) (rdJ Y L.length c i j i)))[e]?=some (qC (Y i j)):=fun e d=>by rw[dh hjn e d,rdJ_at]
     have z:∀e,e=j→(pE (aO (n+1) (rdJ Y L.length c i j L.length)))[e]?=some (qC (Y L.length j)):=fun e d=>by rw[dh hjn e d,rdJ_r]
     refine r_d a6 24 ?_;refine a_3 ?_;refine o_0 (.load_l1 rfl Q (Z _ (by omega)) TG.h rfl) ?_;refine a_4 ?_;refine o_0 (.load_l1 rfl Q (Z _ (by omega)) TG.h rfl) ?_;refine a_2 ?_;refine o_0 (.load_l rfl K (hgi _ (by omega)) TG.h TS.h (nle rfl)) ?_;refine a_4 ?_;refine o_0 (.load_l1 rfl Q (hg6 _ (by omega)) TG.h rfl) ?_;refine a_2 ?_;refine o_0 (.load_l rfl hcer (z _ (by omega)) TG.h TS.h (nle rfl)) ?_;refine c_s (O) ?_;refine c_s (hsu) ?_;refine a_1 ?_;refine dX (.store rfl K (hgi _ (by omega)) rfl rfl rfl TS.h (nle rfl)) ?_;refine ao (n_k ?_);refine r_m 2 ?_;refine a_z ?_;refine⟨j+1,by omega,by omega,?_⟩;rw[rdI.eq_1,rdJ_s hir];exact Dm (by omega) hin hjn (by omega) fun hs=>ku hs
    rintro _ _;show AWp _ _ _ _ (rdI Y n L.length c L i (n+1));rw[rdI.eq_1,show(fun k=>aO (n+1) (rdJ Y L.length c i (n+1) k))=fun k=>aO (n+1) (rdJ Y L.length c (i+1) 0 k) from funext fun k=>tO fun j r=>rdJ_n i k j r];refine r_m 2 ?_;refine a_z ?_;refine⟨i+1,by omega,by omega,?_⟩;rw[rdK.eq_1];exact jC (by omega) fun hs=>ku hs
   rintro _ _;show AWp _ _ _ _ (rdK Y n L.length c L n);rw[rdK.eq_1,EH (R:=fun k=>aO (n+1) (rdJ Y L.length c n 0 k)) (R':=fun k=>aO (n+1) (rdM Y L.length c k)) fun k o=>(tO fun j _=>rdJ_end o j:rT n (rdJ Y L.length c n 0) k=rT n (rdM Y L.length c) k)];have u:dB (an (rwH 37 36 (fun k=>aO (n+1) (rdM Y L.length c k)) n (sx1 n L))) 36=some ⟨106,3,[[.lsl 1 0 n (some n) 1,lvA L,i64 n]]⟩:=rfl;cases L with
   |nil=>
    refine r_m 7 ?_;refine a_1 ?_;refine o_0 (.load_l1 rfl u rfl TG.h rfl) ?_;refine a_2 ?_
    first|refine AR.op2 (.append_l rfl rfl rfl te_70.h rfl rfl rfl rfl rfl d_o (by first|exact dq _|exact dp _|exact cW _|exact dr _|exact dn _|assumption|rfl|simp) (by first|rfl|exact dq _|exact dp _|exact cW _|exact dr _|exact dn _|simp) rfl (.lsl rfl (nle rfl)) TZ.h rfl TB.h d_o (by first|(simp[maxLen];done)|(simp[maxLen];omega))) rfl rfl ?_|refine AR.op1 (.append_e rfl rfl rfl te_70.h rfl rfl rfl (.lsl rfl (nle rfl)) (by first|assumption|(simp;done)) TZ.h rfl TB.h d_o (by first|(simp[maxLen];done)|(simp[maxLen];omega))) rfl rfl ?_
    refine a_z ?_;refine r_m 2 ?_;refine a_z ?_;refine⟨c+1,by omega,by omega,?_⟩;rw[scS.eq_1,v];refine jc (x:= .lsl 44 0 1 none 1) (fun x=>cond (Nat.beq x 37) 44 x) (by omega) rfl (Dk (by omega)) ?_ ?_ rfl rfl (.inr ⟨by simp,rfl,rfl⟩) fun hs=>ku hs
    ·rw[kf (by decide)]
     repeat rw[bv (by decide)]
     rw[cf cm,fK (R':=fun k=>aO (n+1) (rdM Y ([]:List Nat).length c k)) (s':=fun x=>cond (Nat.beq x 37) 44 x)];exact fun k o=>⟨rfl,(kf (by omega)).symm⟩
    ·intro k o
     rw[kf (by omega)]
     repeat rw[bv (by omega)]
     exact dt (R:=fun k=>aO (n+1) (rdM Y ([]:List Nat).length c k)) cm (by omega) o
   |cons l L=>
    have hLs:L.length+1< n:=q;refine r_m 7 ?_;refine a_1 ?_;refine o_0 (.load_l1 rfl u rfl TG.h rfl) ?_;refine a_z ?_;refine r_m 2 ?_;refine a_z ?_;refine⟨c+1,by omega,by omega,?_⟩;rw[scS.eq_1,v];refine jc (x:= .lsl 44 0 (L.length+1+1) none 1) (fun x=>cond (Nat.beq x 37) 44 x) (by omega) rfl (Dk (by omega)) ?_ ?_ rfl rfl (.inr ⟨by simp,by simp,by rw[G1];rfl⟩) fun hs=>ku hs
    ·rw[kf (by decide)]
     repeat rw[bv (by decide)]
     rw[cf cm,fK (R':=fun k=>aO (n+1) (rdM Y (l::L).length c k)) (s':=fun x=>cond (Nat.beq x 37) 44 x)];exact fun k o=>⟨rfl,(kf (by omega)).symm⟩
    ·intro k o
     rw[kf (by omega)]
     repeat rw[bv (by omega)]
     exact dt (R:=fun k=>aO (n+1) (rdM Y (l::L).length c k)) cm (by omega) o
 rintro _ _;show AWp _ _ _ _ (scS M n n);rw[scS.eq_1];obtain⟨⟨A,L⟩,G⟩:∃p,p=slM M n n:=⟨_,rfl⟩;rw[←G];have C:∀hp:Nat→Option ABlk,hp 1=some ⟨37,1,rwO (fun k=>aO (n+1) (A k)) (fun x=>x) n⟩→(∀i,i< n→hp (i+2)=some ⟨36,3,pE (aO (n+1) (A i))⟩)→Cv (Ren.id 0) hp (fun _=>none) (.lsl 1 0 n (some n) 1) (.arr (mE ((List.range n).map fun k=>aO (n+1) (A k)))):=fun hp h1 h2=>IK (fun _ _=>rfl) h1 h2 (Nat.zero_add n);cases L with
 |nil=>
  refine r_z 2 ?_;refine ai (Fin.cell (t:=6) rfl rfl rfl TG.h TS.h (nle rfl) (Cv.agg (ah (C _ ?_ ?_) (ah (Cv.emp _) (ah (am aD (ag _)) av)))));rw[bv (by decide)];exact cf cm;intro k o;rw[bv (by omega)];exact dt (R:=fun k=>aO (n+1) (A k)) cm (by omega) o
 |cons l L=>
  refine r_z 2 ?_;refine ai (Fin.cell (t:=6) rfl rfl rfl TG.h TS.h (nle rfl) (Cv.agg (ah (C _ ?_ ?_) (ah (Cv.shut (es:=lvE (l::L)) (B:=⟨3,1,lvE (l::L)⟩) aD rfl (fun j B r=>by cases r) (by simp) (uO (by simp) (cO _))) (ah (am aD (ag _)) av)))));rw[bv (by decide)];exact cf cm;intro k o;rw[bv (by omega)];exact dt (R:=fun k=>aO (n+1) (A k)) cm (by omega) o
theorem Ez (A:Nat→Nat→Rat) (l:Rat) (b:List Rat) (n B:Nat) (hn:n≤25) (hb:b.length=n) (hB:B≤100000000000)
    (hm:∀i j:Nat,i< n→j< n→qs (A i j)+qs l≤549755813888) (ha:∀i:Nat,i< n→qs (-(A i i* l))+1≤549755813887) (hq:∀c,c≤n→∀i j,i< n→j≤n→qs ((slM (svM A l (fun t=>coP b t) n) n c).1 i j)≤B):
    XSpec Tryz.prog 57 [.lsl 1 0 n (some n) 1,.agg (qC l),.arr (pE b)] (mzH 3 37 36 (mzO 3 (fun _=>n) (fun x=>x) n) (fiL A n n)) 40 (syV n (slM (svM A l (fun t=>coP b t) n) n n)) [] 1:=
 sv_rows A l b n hn hb _ hm ha (sv_cols _ n B hn hB hq)
abbrev gD:=List fc×List fc
def twC(t:gD):List AV:=[.arr (nR t.1),.arr (nR t.2)]
def twR(l:List gD):List (List AV):=l.map twC
@[simp] theorem Bj (l:List gD):(twR l).length=l.length:=by simp[twR]
theorem CQ(l:List gD):∀x∈twR l,∀c∈x,Closed c:=fun x a=>by
 obtain⟨p,_,rfl⟩:=List.mem_map.1 a;exact ac (aH (cj _)) (ac (aH (cj _)) af)
theorem cY(l:List gD):Closed (.arr (twR l)):=aH (CQ l)
theorem twR_get{l:List gD}{i:Nat}{t:gD}(h:l[i]?=some t):∀e,e=i→(twR l)[e]?=some (twC t):=fun e a=>by
 rw[a,twR,List.getElem?_map,h];rfl
def xu(t:gD):Prop:=(okR t.1∧okR t.2)∧t.1.length≤9223372036854775807∧t.2.length≤9223372036854775807
def fk(l:List fc):Bool:=fj l 4||decide (12< bD (nL l))
def vY(t:gD):Bool:=decide (30< t.1.length)||decide (30< t.2.length)
def io(t:gD):Bool:=!vY t && (fk t.1 && fk t.2)
def vZ(n:Nat):Bool:=!((decide (3< n) && decide (n≤8))||decide (12< n))
def rY(l:List gD):Bool:=vZ l.length && l.all io
def keM(l:List gD):Ke:=l.map fun t=>(nL t.1,nL t.2)
@[simp] theorem ft (l:List gD):(keM l).length=l.length:=by simp[keM]
def keV(l:List gD):AV:=if rY l then .tup [.arr (kE (keM l)),.arr (keR (keM l)),bln true] else .tup [.arr (kE []),.arr (keR []),bln false]
theorem keR_one(k:Ke):(keR k).all (·.all AV.one)=true:=by
 rw[List.all_eq_true];intro x a;obtain⟨p,_,rfl⟩:=List.mem_map.1 a;rfl
theorem G6(k:Ke)(p:List Rat×List Rat):keR (k++[p])=keR k++[pkR p]:=by simp[keR]
def krS'(l:List gD):Nat→AState
 |0=>⟨[(0,.arr (twR l)),(5,.emp),(6,.emp),(7,i64 0)],[],1,105⟩
 |i+1=>⟨[(0,.arr (twR l)),(5,.lsl 1 0 (i+1) none 2),(6,.lsl 2 0 (i+1) none 2),(7,i64 ((i+1:Nat):Int))],[(1,some ⟨52,2,kE ((keM l).take (i+1))⟩),(2,some ⟨120,2,keR ((keM l).take (i+1))⟩)],3,105⟩
theorem pn{l:List gD}{t:gD}(ht:t∈l)(h:io t=false):rY l=false:=by
 unfold rY;rw[List.all_eq_false.2 ⟨t,ht,by rw[h];decide⟩,Bool.and_false]
structure PrF (t:gD):Prop where
 b1:FS 7 [.arr (nR t.1)] (.tup [.arr (pE (nL t.1)),.arr (rE (rP (nL t.1)))])
 b2:FS 7 [.arr (nR t.2)] (.tup [.arr (pE (nL t.2)),.arr (rE (rP (nL t.2)))])
 t1:FS 5 [.arr (nR t.1),i64 4] (bln (fj t.1 4))
 t2:FS 5 [.arr (nR t.2),i64 4] (bln (fj t.2 4))
 d1:FS 46 [.arr (rE (rP (nL t.1)))] (i64 (bD (nL t.1)))
 d2:FS 46 [.arr (rE (rP (nL t.2)))] (i64 (bD (nL t.2)))
theorem prF{t:gD}(h:xu t)(h1:t.1.length≤30)(h2:t.2.length≤30):PrF t:=by
 have d1:=iw (rP (nL t.1)) (by simp[nL];omega);have d2:=iw (rP (nL t.2)) (by simp[nL];omega);rw[s9] at d1 d2;exact⟨pP t.1 (by omega) h.1.1,pP t.2 (by omega) h.1.2,pK t.1 4 h.2.1 (by decide),pK t.2 4 h.2.2 (by decide),d1,d2⟩
theorem Cs(l:List gD)(ho:∀t∈l,xu t)(hl:l.length≤9223372036854775807):FS 14 [.arr (twR l)] (keV l):=by
 have M:(twR l).length=l.length:=Bj l;refine f_n Tryz.func14 ?_ ?_;exact ac (cY l) af;obtain⟨r,G⟩:∃r,r=keV l:=⟨_,rfl⟩;rw[←G];have e:rY l=false→r= .tup [.arr (kE []),.arr (keR []),bln false]:=fun h=>by rw[G,keV,h];rfl
 refine r_z 3 ?_;refine r_z 1 ?_;refine r_z 1 ?_;have A:Cv (Ren.id 0) (an []) (fun _=>none) (.tup [.emp,.emp,bln false]) (.tup [.arr (kE []),.arr (keR []),bln false])→True:=fun _=>trivial;by_cases c1:12< l.length;rw[e (by unfold rY vZ;rw[decide_eq_true c1,Bool.or_true];rfl)];refine ae (q_z 13 ?_);refine cT (r_z 3 ?_);refine ai (Fin.many ⟨_,_,rfl,rfl,⟨_,_,rfl,rfl,⟨_,_,rfl,rfl,rfl⟩⟩⟩ (nle rfl) ?_);exact ah (Cv.emp _) (ah (Cv.emp _) (ah (am aD (ag _)) av));by_cases c2:3< l.length∧l.length≤8;rw[e (by unfold rY vZ;rw[decide_eq_true c2.1,decide_eq_true c2.2];rfl)];refine ae (q_z 13 ?_);refine cT (r_z 3 ?_);refine ai (Fin.many ⟨_,_,rfl,rfl,⟨_,_,rfl,rfl,⟨_,_,rfl,rfl,rfl⟩⟩⟩ (nle rfl) ?_);exact ah (Cv.emp _) (ah (Cv.emp _) (ah (am aD (ag _)) av))
 have w:vZ l.length=true:=by
  unfold vZ;rw[decide_eq_false c1,Bool.or_false,Bool.not_eq_true',Bool.and_eq_false_iff];by_cases h3:3< l.length;exact .inr (decide_eq_false (by omega));exact .inl (decide_eq_false h3)
 refine bi (fun _:Unit=>⟨[(0,.arr (twR l)),(5,.emp),(6,.emp)],[],1,105⟩) (fun _=>True) ?_ ?_;by_cases h3:3< l.length;refine q_z 13 ?_;refine cF (ak (⟨(),trivial,?_⟩));have:=cY l;exact s_f [];refine q_z 13 ?_;refine cF (ak (⟨(),trivial,?_⟩));have:=cY l;exact s_f [];rintro _ _;refine ae (r_z 1 ?_);refine aG (fun _:Unit=>krS' l l.length) (fun _=> ∀t∈l,io t=true) ?_ ?_
 ·refine aj (aB (krS' l) (fun i=>l.length- i) (fun i=>i≤l.length∧∀t∈l.take i,io t=true) 0 ⟨Nat.zero_le _,fun t ht=>by simp at ht⟩ ?_ ?_)
  rw[krS'.eq_1];have:=cY l;exact s_f [];rintro i ⟨Q,n⟩;obtain⟨E,D,q,p,o⟩:∃E D q p,krS' l i=⟨[(0,.arr (twR l)),(5,E),(6,D),(7,i64 i)],q,p,105⟩:=by cases i <;> exact⟨_,_,_,_,rfl⟩
  by_cases hlt:i< l.length;rotate_left;have s:i=l.length:=by omega
  rw[o];refine ae (q_z 4 ?_);refine cF (ay ⟨(),(by rw[s,List.take_length] at n;exact n),?_⟩);show SEnt _ (krS' l l.length);rw[←s];cases i with
  |zero=>
   rw[krS'.eq_1] at o⊢;cases o;have:=cY l;exact s_f []
  |succ i=>
   rw[krS'.eq_2] at o⊢;cases o;refine s_x [(1,5),(2,6)] (fun hs=>e_20) (fun hs=>?_)
   ·repeat' (first|exact aE|refine h_c ?_ ?_|exact a8 hs (cU _)|exact a8 hs (jR _)|exact bC|refine az ?_|exact av|refine ah ?_ ?_|exact am hs (cY l)|exact aV)
  obtain⟨t,ht⟩:∃t,l[i]?=some t:=⟨_,List.getElem?_eq_getElem hlt⟩;have g:=List.mem_of_getElem? ht;have a:(twR l)[((i:Nat):Int).toNat]?=some (twC t):=twR_get ht _ (by simp);have N:(nR t.1).length=t.1.length:=by simp[nR]
  have O:(nR t.2).length=t.2.length:=by simp[nR]
  rw[o];by_cases l1:30< t.1.length;rw[e (pn g (by unfold io vY;rw[decide_eq_true l1];rfl))];refine ae (q_z 4 ?_);refine cT (ak (ae (aj (ae (s_r 16 ?_)))));refine a_2 ?_;refine i_x a ?_;refine a_1 ?_;refine l_1 a ?_;refine d_z ?_;refine cT (r_z 3 ?_);refine ai (Fin.many ⟨_,_,rfl,rfl,⟨_,_,rfl,rfl,⟨_,_,rfl,rfl,rfl⟩⟩⟩ (nle rfl) ?_);exact ah (Cv.emp _) (ah (Cv.emp _) (ah (am aD (ag _)) av));by_cases l2:30< t.2.length;rw[e (pn g (by unfold io vY;rw[decide_eq_true l2,Bool.or_true];rfl))];refine ae (q_z 4 ?_);refine cT (ak (ae (aj (ae (s_r 16 ?_)))));refine a_2 ?_;refine i_x a ?_;refine a_1 ?_;refine l_1 a ?_;refine d_5 ?_
  first|refine aQ rfl rfl rfl (.index_l rfl rfl (by omega) (by omega) te_22.h) rfl rfl ?_|refine aQ rfl rfl rfl (.index_a rfl rfl (by omega) a rfl te_22.h) rfl rfl ?_
  refine m_1 ?_
  first|refine aQ rfl rfl rfl (.load_l1 rfl rfl a TG.h rfl) rfl rfl ?_|refine aQ rfl rfl rfl (.load_a1 rfl a TG.h rfl) rfl rfl ?_
  refine d_z ?_;refine cT (r_z 3 ?_);refine ai (Fin.many ⟨_,_,rfl,rfl,⟨_,_,rfl,rfl,⟨_,_,rfl,rfl,rfl⟩⟩⟩ (nle rfl) ?_);exact ah (Cv.emp _) (ah (Cv.emp _) (ah (am aD (ag _)) av));have F:=prF (ho t g) (by omega) (by omega);have b1:=F.b1;have b2:=F.b2;have t1:=F.t1;have t2:=F.t2;have d1:=F.d1;have d2:=F.d2;have b:vY t=false:=by unfold vY;rw[decide_eq_false l1,decide_eq_false l2];rfl
  refine ae (q_z 4 ?_);refine cT (ak (ae (aj (ae (s_r 16 ?_)))));refine a_2 ?_;refine i_x a ?_;refine a_1 ?_;refine l_1 a ?_;refine d_5 ?_
  first|refine aQ rfl rfl rfl (.index_l rfl rfl (by omega) (by omega) te_22.h) rfl rfl ?_|refine aQ rfl rfl rfl (.index_a rfl rfl (by omega) a rfl te_22.h) rfl rfl ?_
  refine m_1 ?_
  first|refine aQ rfl rfl rfl (.load_l1 rfl rfl a TG.h rfl) rfl rfl ?_|refine aQ rfl rfl rfl (.load_a1 rfl a TG.h rfl) rfl rfl ?_
  refine d_z ?_;refine cF (ak (s_r 11 ?_));refine a_2 ?_;refine i_x a ?_;refine a_1 ?_;refine l_1 a ?_;refine c_s (b1) ?_;refine a_z ?_;refine s_r 11 ?_;refine a_2 ?_;refine i_x a ?_;refine a_1 ?_;refine l_1 a ?_;refine c_s (b2) ?_;refine a_z ?_;refine bi (fun _:Unit=>⟨[(0,.arr (twR l)),(5,E),(6,D),(7,i64 i),(8,.arr (pE (nL t.1))),(9,.arr (rE (rP (nL t.1)))),(10,.arr (pE (nL t.2))),(11,.arr (rE (rP (nL t.2))))],q,p+100,105⟩) (fun _=>io t=true) ?_ ?_;by_cases s1:fk t.1=true;by_cases s2:fk t.2=true;have f:io t=true:=by unfold io;rw[b,s1,s2];rfl
  cases e1:fj t.1 4 with
  |true=>
   rw[e1] at t1;cases e2:fj t.2 4 with
   |true=>
    rw[e2] at t2;refine s_r 26 ?_;refine a_2 ?_;refine i_x a ?_;refine a_1 ?_;refine l_1 a ?_;refine c_s (t1) ?_;refine d_8 ?_;refine m_1 ?_
    first|refine aQ rfl rfl rfl (.index_l rfl rfl (by omega) (by omega) te_22.h) rfl rfl ?_|refine aQ rfl rfl rfl (.index_a rfl rfl (by omega) a rfl te_22.h) rfl rfl ?_
    refine m_1 ?_
    first|refine aQ rfl rfl rfl (.load_l1 rfl rfl a TG.h rfl) rfl rfl ?_|refine aQ rfl rfl rfl (.load_a1 rfl a TG.h rfl) rfl rfl ?_
    refine c_s (t2) ?_;refine d_z ?_;exact cF (ak (⟨(),f,SEnt.keep (all_cons rfl (all_cons rfl (all_cons rfl (all_cons rfl (all_cons rfl (all_cons rfl (all_cons rfl (all_cons rfl sU)))))))) (by omega)⟩))
   |false=>
    rw[e2] at t2;have K:12< bD (nL t.2):=by unfold fk at s2;rw[e2] at s2;simpa using s2
    refine s_r 26 ?_;refine a_2 ?_;refine i_x a ?_;refine a_1 ?_;refine l_1 a ?_;refine c_s (t1) ?_;refine d_8 ?_;refine m_1 ?_
    first|refine aQ rfl rfl rfl (.index_l rfl rfl (by omega) (by omega) te_22.h) rfl rfl ?_|refine aQ rfl rfl rfl (.index_a rfl rfl (by omega) a rfl te_22.h) rfl rfl ?_
    refine m_1 ?_
    first|refine aQ rfl rfl rfl (.load_l1 rfl rfl a TG.h rfl) rfl rfl ?_|refine aQ rfl rfl rfl (.load_a1 rfl a TG.h rfl) rfl rfl ?_
    refine c_s (t2) ?_;refine e_s (d2) ?_;refine d_z ?_;exact cF (ak (⟨(),f,SEnt.keep (all_cons rfl (all_cons rfl (all_cons rfl (all_cons rfl (all_cons rfl (all_cons rfl (all_cons rfl (all_cons rfl sU)))))))) (by omega)⟩))
  |false=>
   rw[e1] at t1;have J:12< bD (nL t.1):=by unfold fk at s1;rw[e1] at s1;simpa using s1
   cases e2:fj t.2 4 with
   |true=>
    rw[e2] at t2;refine s_r 26 ?_;refine a_2 ?_;refine i_x a ?_;refine a_1 ?_;refine l_1 a ?_;refine c_s (t1) ?_;refine e_s (d1) ?_;refine d_5 ?_
    first|refine aQ rfl rfl rfl (.index_l rfl rfl (by omega) (by omega) te_22.h) rfl rfl ?_|refine aQ rfl rfl rfl (.index_a rfl rfl (by omega) a rfl te_22.h) rfl rfl ?_
    refine m_1 ?_
    first|refine aQ rfl rfl rfl (.load_l1 rfl rfl a TG.h rfl) rfl rfl ?_|refine aQ rfl rfl rfl (.load_a1 rfl a TG.h rfl) rfl rfl ?_
    refine c_s (t2) ?_;refine d_z ?_;exact cF (ak (⟨(),f,SEnt.keep (all_cons rfl (all_cons rfl (all_cons rfl (all_cons rfl (all_cons rfl (all_cons rfl (all_cons rfl (all_cons rfl sU)))))))) (by omega)⟩))
   |false=>
    rw[e2] at t2;have K:12< bD (nL t.2):=by unfold fk at s2;rw[e2] at s2;simpa using s2
    refine s_r 26 ?_;refine a_2 ?_;refine i_x a ?_;refine a_1 ?_;refine l_1 a ?_;refine c_s (t1) ?_;refine e_s (d1) ?_;refine d_5 ?_
    first|refine aQ rfl rfl rfl (.index_l rfl rfl (by omega) (by omega) te_22.h) rfl rfl ?_|refine aQ rfl rfl rfl (.index_a rfl rfl (by omega) a rfl te_22.h) rfl rfl ?_
    refine m_1 ?_
    first|refine aQ rfl rfl rfl (.load_l1 rfl rfl a TG.h rfl) rfl rfl ?_|refine aQ rfl rfl rfl (.load_a1 rfl a TG.h rfl) rfl rfl ?_
    refine c_s (t2) ?_;refine e_s (d2) ?_;refine d_z ?_;exact cF (ak (⟨(),f,SEnt.keep (all_cons rfl (all_cons rfl (all_cons rfl (all_cons rfl (all_cons rfl (all_cons rfl (all_cons rfl (all_cons rfl sU)))))))) (by omega)⟩))
  have c:fk t.2=false:=by simpa using s2
  rw[e (pn g (by unfold io;rw[b,c];simp))];have e2:fj t.2 4=false:=by unfold fk at c;rw[Bool.or_eq_false_iff] at c;exact c.1
  have K:¬12< bD (nL t.2):=by unfold fk at c;rw[Bool.or_eq_false_iff] at c;exact of_decide_eq_false c.2
  rw[e2] at t2;cases e1:fj t.1 4 with
  |true=>
   rw[e1] at t1;refine s_r 26 ?_;refine a_2 ?_;refine i_x a ?_;refine a_1 ?_;refine l_1 a ?_;refine c_s (t1) ?_;refine d_8 ?_;refine m_1 ?_
   first|refine aQ rfl rfl rfl (.index_l rfl rfl (by omega) (by omega) te_22.h) rfl rfl ?_|refine aQ rfl rfl rfl (.index_a rfl rfl (by omega) a rfl te_22.h) rfl rfl ?_
   refine m_1 ?_
   first|refine aQ rfl rfl rfl (.load_l1 rfl rfl a TG.h rfl) rfl rfl ?_|refine aQ rfl rfl rfl (.load_a1 rfl a TG.h rfl) rfl rfl ?_
   refine c_s (t2) ?_;refine e_s (d2) ?_;refine d_z ?_;refine cT (r_z 3 ?_);refine ai (Fin.many ⟨_,_,rfl,rfl,⟨_,_,rfl,rfl,⟨_,_,rfl,rfl,rfl⟩⟩⟩ (nle rfl) ?_);exact ah (Cv.emp _) (ah (Cv.emp _) (ah (am aD (ag _)) av))
  |false=>
   rw[e1] at t1;have J:12< bD (nL t.1):=by unfold fk at s1;rw[e1] at s1;simpa using s1
   refine s_r 26 ?_;refine a_2 ?_;refine i_x a ?_;refine a_1 ?_;refine l_1 a ?_;refine c_s (t1) ?_;refine e_s (d1) ?_;refine d_5 ?_
   first|refine aQ rfl rfl rfl (.index_l rfl rfl (by omega) (by omega) te_22.h) rfl rfl ?_|refine aQ rfl rfl rfl (.index_a rfl rfl (by omega) a rfl te_22.h) rfl rfl ?_
   refine m_1 ?_
   first|refine aQ rfl rfl rfl (.load_l1 rfl rfl a TG.h rfl) rfl rfl ?_|refine aQ rfl rfl rfl (.load_a1 rfl a TG.h rfl) rfl rfl ?_
   refine c_s (t2) ?_;refine e_s (d2) ?_;refine d_z ?_;refine cT (r_z 3 ?_);refine ai (Fin.many ⟨_,_,rfl,rfl,⟨_,_,rfl,rfl,⟨_,_,rfl,rfl,rfl⟩⟩⟩ (nle rfl) ?_);exact ah (Cv.emp _) (ah (Cv.emp _) (ah (am aD (ag _)) av))
  have d:fk t.1=false:=by simpa using s1
  rw[e (pn g (by unfold io;rw[b,d];rfl))];have e1:fj t.1 4=false:=by unfold fk at d;rw[Bool.or_eq_false_iff] at d;exact d.1
  have J:¬12< bD (nL t.1):=by unfold fk at d;rw[Bool.or_eq_false_iff] at d;exact of_decide_eq_false d.2
  rw[e1] at t1;refine s_r 26 ?_;refine a_2 ?_;refine i_x a ?_;refine a_1 ?_;refine l_1 a ?_;refine c_s (t1) ?_;refine e_s (d1) ?_;refine d_z ?_;refine cT (r_z 3 ?_);refine ai (Fin.many ⟨_,_,rfl,rfl,⟨_,_,rfl,rfl,⟨_,_,rfl,rfl,rfl⟩⟩⟩ (nle rfl) ?_);exact ah (Cv.emp _) (ah (Cv.emp _) (ah (am aD (ag _)) av));rintro _ f;have L:(keM l)[i]?=some (nL t.1,nL t.2):=by unfold keM;rw[List.getElem?_map,ht];rfl
  have u:(keM l).take (i+1)=(keM l).take i++[(nL t.1,nL t.2)]:=cx L;have e1:kE ((keM l).take i)++[prC (nL t.1,nL t.2)]=kE ((keM l).take (i+1)):=by rw[u,DQ]
  have e2:keR ((keM l).take i)++[pkR (nL t.1,nL t.2)]=keR ((keM l).take (i+1)):=by rw[u,G6]
  have k:∀C∈l.take (i+1),io C=true:=fun C h=>by
   rw[cx ht] at h;rcases List.mem_append.1 h with h|h
   exact n C h;rw[List.mem_singleton.1 h];exact f
  cases i with
  |zero=>
   rw[krS'.eq_1] at o;cases o;refine r_m 14 ?_;refine a_z ?_;refine r_m 3 ?_;refine a_z ?_;refine⟨0+1,by omega,⟨by omega,k⟩,?_⟩;rw[krS'.eq_2,←e1,←e2];refine s_x [(1,5),(2,6)] (fun hs=>e_20) (fun hs=>?_)
   ·repeat' (first|exact aE|refine h_c ?_ ?_|exact a8 hs (cU [(nL t.1,nL t.2)])|exact a8 hs (jR [(nL t.1,nL t.2)])|exact bC|refine az ?_|exact av|refine ah ?_ ?_|exact am hs (cY l)|exact aV)
  |succ i=>
   rw[krS'.eq_2] at o;cases o;have o1:=xJ ((keM l).take (i+1));have o2:=keR_one ((keM l).take (i+1));have q1:(kE ((keM l).take (i+1))).length=i+1:=by rw[dj,List.length_take,ft];omega
   have q2:(keR ((keM l).take (i+1))).length=i+1:=by rw[nS,List.length_take,ft];omega
   refine r_m 14 ?_;refine o_0 (.move rfl) ?_;refine o_0 (.move rfl) ?_;refine o_0 (.move rfl) ?_;refine o_0 (.build TZ.h tp_52.h rfl rfl) ?_;refine o_1 (.buildSlice te_29.h TZ.h rfl (by decide) rfl rfl rfl (by first|(simp;done)|(simp[bZ,ofV];done)|rfl)) ?_;refine o_2 (.append_l rfl rfl rfl te_29.h rfl rfl rfl rfl rfl d_o (by first|exact dq _|exact dp _|exact cW _|exact dr _|exact dn _|assumption|rfl|simp) (by first|rfl|exact dq _|exact dp _|exact cW _|exact dr _|exact dn _|simp) rfl (.lsl rfl (nle rfl)) TZ.h rfl TB.h d_o (by first|(simp[maxLen];done)|(simp[maxLen];omega))) ?_;refine o_0 (.move rfl) ?_;refine o_0 (.move rfl) ?_;refine o_0 (.move rfl) ?_;refine o_0 (.build TZ.h tp_120.h rfl rfl) ?_;refine o_1 (.buildSlice te_65.h TZ.h rfl (by decide) rfl rfl rfl (by first|(simp;done)|(simp[bZ,ofV];done)|rfl)) ?_;refine o_2 (.append_l rfl rfl rfl te_65.h rfl rfl rfl rfl rfl d_o (by first|exact dq _|exact dp _|exact cW _|exact dr _|exact dn _|assumption|rfl|simp) (by first|rfl|exact dq _|exact dp _|exact cW _|exact dr _|exact dn _|simp) rfl (.lsl rfl (nle rfl)) TZ.h rfl TB.h d_o (by first|(simp[maxLen];done)|(simp[maxLen];omega))) ?_;refine o_0 (.assign rfl) ?_;refine o_0 (.assign rfl) ?_;refine ao ?_;refine r_m 3 ?_;refine a_z ?_;refine⟨i+1+1,by omega,⟨by omega,k⟩,?_⟩;rw[krS'.eq_2];refine s_x [(1,5),(2,6)] (fun hs=>e_20) (fun hs=>?_)
   ·repeat' (first|exact aE|refine h_c ?_ ?_|exact aI hs e1 (cU _)|exact aI hs e2 (jR _)|exact bC|refine az ?_|exact av|refine ah ?_ ?_|exact am hs (cY l)|exact aV)
 rintro _ v
 have y:r= .tup [.arr (kE (keM l)),.arr (keR (keM l)),bln true]:=by
  rw[G,keV,show rY l=true by unfold rY;rw[w,List.all_eq_true.2 v];rfl];rfl
 rw[y];cases hll:l.length with
 |zero=>
  have z:l=[]:=List.eq_nil_of_length_eq_zero hll;subst z;rw[krS'.eq_1];refine r_z 5 ?_;refine ai (Fin.many ⟨_,_,rfl,rfl,⟨_,_,rfl,rfl,⟨_,_,rfl,rfl,rfl⟩⟩⟩ (nle rfl) ?_);exact ah (Cv.emp _) (ah (Cv.emp _) (ah (am aD (ag _)) av))
 |succ m=>
  have x:(keM l).take (m+1)=keM l:=List.take_of_length_le (by rw[ft];omega);have q1:(kE (keM l)).length=m+1:=by rw[dj,ft];omega
  have q2:(keR (keM l)).length=m+1:=by rw[nS,ft];omega
  rw[krS'.eq_2,x];refine r_z 5 ?_;refine ai (Fin.many ⟨_,_,rfl,rfl,⟨_,_,rfl,rfl,⟨_,_,rfl,rfl,rfl⟩⟩⟩ (nle rfl) ?_);exact ah (Cv.shut (B:=⟨52,2,kE (keM l)⟩) aD rfl (fun j B H=>by cases H) (by show 0+(m+1)≤(kE (keM l)).length;omega) (uO q1.symm (cU _))) (ah (Cv.shut (B:=⟨120,2,keR (keM l)⟩) aD rfl (fun j B H=>by cases H) (by show 0+(m+1)≤(keR (keM l)).length;omega) (uO q2.symm (jR _))) (ah (am aD (ag _)) av))
end Go.Proofs.YtdgbhlkabelmbaaGreatDoor
