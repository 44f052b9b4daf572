/- Part V24. -/
import Derived.Test.YtiodeiecpoopgaaGreatDoorV23
set_option linter.all false
namespace Go.Proofs.YtiodeiecpoopgaaGreatDoor
open Go.Abs
set_option maxRecDepth 20000
set_option maxHeartbeats 2000000
section
variable {r:Ren}{hp:Hq}{fr fr':Fr}{n:Nat}
theorem HY{hp':Hq}(hs:Shr r hp hp')(h:CvF r hp hp' fr fr':=by repeat' (first|exact aI|refine au rfl ?_ ?_|exact ai hs (ag _)|exact Cv.sl rfl rfl rfl|exact Cv.sl rfl rfl (by rw[ce cn];rfl)|exact Cv.ptr rfl rfl rfl|exact Cv.ptr rfl (by assumption) rfl|(refine Cv.loE hs ?_ (ag _);simp[i64];done))):CvF r hp hp' fr fr':=h
def scS(M:Mx)(n:Nat):Nat->AState
 |c=>⟨[(0,.lsl 1 0 n (some n) 1),(6,.lptr 35 0 0),(7,i64 n),(10,.lptr 36 0 0),(83,i64 n),(84,i64 c)],rwH 34 48 (fun k=>aJ (n+1) ((slM M n c).1 k)) n (sx1 n (slM M n c).2),40,209⟩
theorem jU{nx N:Nat}{R:Nat->Lq}{L:Ln}(hn:n<=30)(hF:Shr ⟨40,fun x=>x⟩ (an (rwH 34 48 R n (sx1 n L))) (an (rwH 34 48 R n (sx1 n L)))->CvF ⟨40,fun x=>x⟩ (an (rwH 34 48 R n (sx1 n L))) (an (rwH 34 48 R n (sx1 n L))) fr fr'):
    SEnt ⟨fr,rwH 34 48 R n (sx1 n L),nx,N⟩ ⟨fr',rwH 34 48 R n (sx1 n L),40,N⟩:=
 jC (x:=lvA L) (fun x=>x) hn rfl (fun _ _ _ _ e=>e) (ce cn) (fun i a=>dp cn hn a) rfl rfl (by
  cases L with
  |nil=>exact .inl ⟨rfl,rfl⟩
  |cons l L=>exact .inr ⟨by simp,rfl,rfl⟩) hF
theorem EA(a b i:Nat):swx (a+2) (b+2) (i+2)=swx a b i+2:=by
 unfold swx;by_cases h1:i=a;rw[if_pos (by omega),if_pos h1];rw[if_neg (by omega),if_neg h1];by_cases h2:i=b;rw[if_pos (by omega),if_pos h2];rw[if_neg (by omega),if_neg h2]
theorem HU{a b i:Nat}(ha:a< n)(hb:b< n)(hi:i< n):swx a b i< n:=by unfold swx;split <;>(try split)<;> omega
theorem EB(A:Mx)(r p i:Nat):swM A r p i=A (swx p r i):=by
 funext j;unfold swM swx;by_cases h1:i=r;subst h1;by_cases h2:i=p;subst h2;simp;simp[h2];by_cases h2:i=p;subst h2;simp[h1];simp[h1,h2]
theorem lenA_lv(L:Ln):pv (lvA L)=some L.length:=by cases L <;> rfl
theorem neT{a b:Int}(h:a≠b):(a !=b)=true:=by simpa using h
theorem neF{a b:Int}(h:a=b):(a !=b)=false:=by simp[h]
theorem k7{hp':Hq}(hs:Shr r hp hp')(h:CvF r hp hp' fr fr':=by repeat' (first|exact aI|refine au rfl ?_ ?_|exact ai hs (ag _)|exact ai hs (cD _)|exact ai hs (aU (ac (ag _) af))|exact Cv.sl rfl rfl rfl|exact Cv.sl rfl rfl (by rw[ce cn];rfl)|exact Cv.ptr rfl rfl rfl|exact Cv.ptr rfl (by assumption) rfl|(refine Cv.loE hs ?_ (ag _);simp[i64];done))):CvF r hp hp' fr fr':=h
def scK(X:Mx)(n r c:Nat)(f:Rat)(L:Ln):Nat->AState
 |j=>⟨[(0,.lsl 1 0 n (some n) 1),(6,.lptr 35 0 0),(7,i64 n),(10,.lptr 36 0 0),(11,.aptr [[i64 c]] 0 0),(12,i64 r),(14,bQ f),(83,i64 n),(84,i64 c),(128,i64 ((n+1:Nat):Int)),(129,i64 j)],rwH 34 48 (fun k=>aJ (n+1) (scJ X r f j k)) n (sx1 n L),40,209⟩
def rdK(Y:Mx)(n r c:Nat)(L:Ln):Nat->AState
 |i=>⟨[(0,.lsl 1 0 n (some n) 1),(6,.lptr 35 0 0),(7,i64 n),(10,.lptr 36 0 0),(11,.aptr [[i64 c]] 0 0),(12,i64 r),(83,i64 n),(84,i64 c),(149,i64 n),(150,i64 i)],rwH 34 48 (fun k=>aJ (n+1) (rdJ Y r c i 0 k)) n (sx1 n L),40,209⟩
def rdI(Y:Mx)(n r c:Nat)(L:Ln)(i:Nat):Nat->AState
 |j=>⟨[(0,.lsl 1 0 n (some n) 1),(6,.lptr 35 0 0),(7,i64 n),(10,.lptr 36 0 0),(11,.aptr [[i64 c]] 0 0),(12,i64 r),(16,i64 i),(17,bQ (Y i c)),(83,i64 n),(84,i64 c),(149,i64 n),(150,i64 i),(172,i64 ((n+1:Nat):Int)),(173,i64 j)],rwH 34 48 (fun k=>aJ (n+1) (rdJ Y r c i j k)) n (sx1 n L),40,209⟩
theorem Gk{TS TQ:Nat}{R R':Nat->Lq}{ex:Hp}(h:∀k,k< n->R k=R' k):rwH TS TQ R n ex=rwH TS TQ R' n ex:=by
 unfold rwH;rw[fY (R':=R') (s':=fun x=>x) fun k a=>⟨by rw[h k a],rfl⟩,show rwL R n=rwL R' n from List.map_congr_left fun k a=>by rw[h k (List.mem_range.1 a)]]
theorem EK{nx N i j e:Nat}{X:Mx}{v:Rat}{L:Ln}(hn:n<=30)(hi:i< n)(hj:j< n+1)(he:e=j)(hF:Shr ⟨40,fun x=>x⟩ (an ((i+2,some ⟨48,3,(pE (aJ (n+1) (X i))).set e (qC v)⟩)::rwH 34 48 (fun k=>aJ (n+1) (X k)) n (sx1 n L))) (an (rwH 34 48 (fun k=>aJ (n+1) (puM X i j v k)) n (sx1 n L)))->CvF ⟨40,fun x=>x⟩ (an ((i+2,some ⟨48,3,(pE (aJ (n+1) (X i))).set e (qC v)⟩)::rwH 34 48 (fun k=>aJ (n+1) (X k)) n (sx1 n L))) (an (rwH 34 48 (fun k=>aJ (n+1) (puM X i j v k)) n (sx1 n L))) fr fr'):
    SEnt ⟨fr,(i+2,some ⟨48,3,(pE (aJ (n+1) (X i))).set e (qC v)⟩)::rwH 34 48 (fun k=>aJ (n+1) (X k)) n (sx1 n L),nx,N⟩ ⟨fr',rwH 34 48 (fun k=>aJ (n+1) (puM X i j v k)) n (sx1 n L),40,N⟩:=by
 refine jC (x:=lvA L) (fun x=>x) hn rfl (fun _ _ _ _ e=>e) ?_ ?_ ?_ ?_ ?_ hF;rw[aK (by omega),ce cn,fY (R':=fun k=>aJ (n+1) (puM X i j v k)) (s':=fun x=>x)];exact fun k a=>⟨by simp,rfl⟩;intro k a;by_cases h:k=i;subst h;rw[<-puM_set hj e he,cW,aZ];rw[aK (by omega),dp cn (by omega) a,IG h];rw[aK (by omega)];rfl;rw[aK (by omega)];rfl;cases L with
 |nil=>exact .inl ⟨rfl,rfl⟩
 |cons l L=>exact .inr ⟨by simp,rfl,by rw[aK (by omega)];rfl⟩
def syV(n:Nat)(p:Mx×Ln):AV:= .agg [.arr (mE ((List.range n).map fun k=>aJ (n+1) (p.1 k))),.arr (lvE p.2),i64 n]
theorem lG{l:Lc}(hn:n=l.length)(hc:∀e∈l,∀c∈e,Closed c):CvLL r hp (fun _=>none) ((l.drop 0).take n) l:=by
 rw[List.drop_zero,hn,List.take_length];exact aV aB hc
theorem kO{x:Nat}(h:x≠37):cond (Nat.beq x 37) 44 x=x:=by
 cases e:Nat.beq x 37 with
 |false=>rfl
 |true=>exact absurd (Nat.eq_of_beq_eq_true e) h
theorem EI(hn:n<=30)(i j:Nat)(h1:InX n i)(h2:InX n j)(e:cond (Nat.beq i 37) 44 i=cond (Nat.beq j 37) 44 j):i=j:=by
 unfold InX at h1 h2;by_cases a:i=37;by_cases b:j=37;rw[a,b];rw[a,kO b] at e;have e:(44:Nat)=j:=e;omega;by_cases b:j=37;rw[b,kO a] at e;have e:i=(44:Nat):=e;omega;rw[kO a,kO b] at e;exact e
theorem sv_cols(M:Mx)(n B:Nat)(hn:n<=25)(hB:B<=100000000000)(hq:∀c,c<=n->∀i j,i< n->j<=n->qs ((slM M n c).1 i j)<=B):
    AWp none Tryz.prog svRest (Fin Tryz.prog Tryz.f72.results.toList (syV n (slM M n n))) ⟨[(0,.lsl 1 0 n (some n) 1),(6,.lptr 35 0 0),(7,i64 n)],rwH 34 48 (fun k=>aJ (n+1) (M k)) n sx0,40,209⟩:=by
 unfold svRest;refine r_z 5 ?_;refine ae (r_z 2 ?_);refine aC (fun _:Unit=>scS M n n) (fun _=>True) ?_ ?_
 ·refine ah (ax (scS M n) (fun c=>n- c) (fun c=>c<=n) 0 (Nat.zero_le _) ?_ ?_)
  rw[scS.eq_1];refine jC (L:=[]) (x:= .emp) (fiR 34 43) (by omega) (sY _ _) (fun x y hx hy e=>mc (m:=40) (Nat.le_refl _) (by decide) x y (k6 (by omega) hx) (k6 (by omega) hy) e) ?_ ?_ rfl rfl (.inl ⟨rfl,rfl⟩) fun hs=>HY hs
  ·rw[sX]
   repeat rw[aK (by decide)]
   rw[ce dY,fY (R':=fun k=>aJ (n+1) ((slM M n 0).1 k)) (s':=fiR 34 43)];exact fun k g=>⟨by simp,(fg (by omega)).symm⟩
  ·intro k g
   rw[fg (by omega)]
   repeat rw[aK (by omega)]
   exact dp dY (by omega) g
  intro c hc;rw[scS.eq_1];by_cases hlt:c< n;rotate_left;have o:c=n:=by omega
  subst o;refine q_z 1 ?_;refine ae (cF (aw ⟨(),trivial,?_⟩));exact jU (by omega) fun hs=>HY hs;refine q_z 1 ?_;refine ae (cT (am (ae (ah (r_z 3 ?_)))));have hE:=c8 M n c;have C:=hq c hc;obtain⟨⟨A,L⟩,w⟩:∃p,p=slM M n c:=⟨_,rfl⟩;rw[<-w] at hE C⊢;simp only at hE C⊢;have hLl:L.length<=c:=hE.len;refine AWp.ent (st':=⟨[(0,.lsl 1 0 n (some n) 1),(6,.lptr 35 0 0),(7,i64 n),(10,.lptr 36 0 0),(11,.aptr [[i64 c]] 0 0),(83,i64 n),(84,i64 c)],rwH 34 48 (fun k=>aJ (n+1) (A k)) n (sx1 n L),40,209⟩) ?_ ?_;refine jC (x:=lvA L) (fun x=>x) (by omega) rfl (fun _ _ _ _ e=>e) ?_ ?_ rfl rfl ?_ ?_
  ·repeat rw[aK (by decide)]
   exact ce cn
  ·intro k g
   repeat rw[aK (by omega)]
   exact dp cn (by omega) g
  cases L with
  |nil=>exact .inl ⟨rfl,rfl⟩
  |cons l L=>exact .inr ⟨by simp,rfl,rfl⟩
  intro hs
  have hd:sH ⟨40,fun x=>x⟩ (an (rwH 34 48 (fun k=>aJ (n+1) (A k)) n (sx1 n L))) 42:=fun j B r e=>by
   obtain⟨h0⟩:=hs;have h1:j< 40:=(h0 j B r).1;have e:j=42:=e;omega
  exact au rfl (Cv.sl rfl rfl (by rw[ce cn];rfl)) (au rfl (Cv.ptr rfl rfl rfl) (au rfl (ai hs (ag _)) (au rfl (Cv.ptr rfl rfl rfl) (au rfl (Cv.boxp hs rfl hd rfl (ac (ag _) af)) (au rfl (ai hs (ag _)) (au rfl (ai hs (ag _)) aI))))));have u:cZ (an (rwH 34 48 (fun k=>aJ (n+1) (A k)) n (sx1 n L))) 36=some ⟨117,3,[[.lsl 1 0 n (some n) 1,lvA L,i64 n]]⟩:=rfl;refine s_r 4 ?_;refine a_1 ?_;refine o_0 (.load_l1 rfl u rfl TG.h rfl) ?_;refine o_0 (.len rfl rfl rfl rfl (lenA_lv L) te_51.h) ?_;refine a_z ?_;have hcl:Closed (.clos 132 [] [.aptr [[i64 c]] 0 0]):=aQ af (ac (aU (ac (ag _) af)) af);have s:=fs_lead (fun k=>aJ (n+1) (A k)) n (0+L.length) c (by omega) (fun i J=>by simp;omega);rw[idx_pv A n (0+L.length) c (by omega) (by omega)] at s;refine s_r 6 ?_;refine a_2 ?_;refine o_0 (.slice_l (l:=L.length) (h:=n) rfl ⟨⟨_,rfl,.inr ⟨_,_,rfl,rfl⟩⟩,⟨_,rfl,.inl ⟨rfl,rfl,rfl⟩⟩,⟨_,rfl,.inl ⟨rfl,rfl⟩⟩⟩ (by omega) (Nat.le_refl _) (.inr (by omega)) te_115.h) ?_;refine a_1 ?_;refine o_0 (.callV (rd:=rwI n) (rr:=⟨0,fun i=>i⟩) rfl rfl rfl (fun hp' hh=>ak (KT hh (ce cn) (fun i J=>dp cn (by omega) J) (by omega)) (ak (ai aB hcl) aq)) s) ?_;refine a_z ?_;have e0:0+L.length=L.length:=by omega
  cases hp:pvR A n (0+L.length) c with
  |none=>
   simp only[hp];refine ae (s_r 2 ?_);refine a_1 ?_;refine o_0 (.bin rfl rfl (vT ec (decide_eq_true (by decide)))) ?_;refine ao ?_;refine cT (aw (r_m 2 ?_));refine a_z ?_;refine⟨c+1,by omega,by omega,?_⟩
   have v:slM M n (c+1)=(A,L):=by
    rw[e0] at hp;rw[slM,<-w];show slC A n L c=_;unfold slC;rw[hp]
   rw[scS.eq_1,v];exact jU (by omega) fun hs=>HY hs
  |some p=>
   simp only[hp];refine ae (q_z 2 ?_);refine cF (am ?_);obtain⟨p1,p2,p3⟩:=jY hp;have S:∀e,e=p->(rwO (fun k=>aJ (n+1) (A k)) (fun x=>x) n)[e]?=some [.lsl (p+2) 0 (n+1) none 3]:=fun e d=>by rw[dR p1 e d];simp
   have G:∀e,e=L.length->(rwO (fun k=>aJ (n+1) (A k)) (fun x=>x) n)[e]?=some [.lsl (L.length+2) 0 (n+1) none 3]:=fun e d=>by rw[dR (by omega:L.length< n) e d];simp
   have hst:∀a b,a=L.length->b=p->((rwO (fun k=>aJ (n+1) (A k)) (fun x=>x) n).set a [.lsl (p+2) 0 (n+1) none 3])[b]?=some [.lsl (p+2) 0 (n+1) none 3]:=fun a b ha hb=>by
    rw[List.getElem?_set];split;rw[if_pos (by rw[oo];omega)];exact S b hb
   have ho:=dn (ce (TS:=34) (TQ:=48) (n:=n) (R:=fun k=>aJ (n+1) (A k)) (cn (n:=n) (L:=L))) (show(1:Nat)≠0 by decide);refine ae (r_d aT 20 ?_);refine a_8 ?_;refine a_3 ?_;refine o_0 (.load_l1 rfl ho (S _ (by omega)) TG.h rfl) ?_;refine a_3 ?_;refine o_0 (.load_l1 rfl ho (G _ (by omega)) TG.h rfl) ?_;refine a_1 ?_;refine dB (.store rfl ho (G _ (by omega)) rfl rfl rfl TS.h (nle rfl)) ?_;refine a_1 ?_;refine dB (.store rfl rfl (hst _ _ (by omega) (by omega)) rfl rfl rfl TS.h (nle rfl)) ?_;refine ao (n_k ?_);refine AWp.ent (st':=⟨[(0,.lsl 1 0 n (some n) 1),(6,.lptr 35 0 0),(7,i64 n),(10,.lptr 36 0 0),(11,.aptr [[i64 c]] 0 0),(12,i64 L.length),(83,i64 n),(84,i64 c)],rwH 34 48 (fun k=>aJ (n+1) (swM A L.length p k)) n (sx1 n L),40,209⟩) ?_ ?_;have q0:swx (p+2) (L.length+2) 0=0:=jp (by omega) (by omega);have q1:swx (p+2) (L.length+2) 1=1:=jp (by omega) (by omega);have V:swx (p+2) (L.length+2) 35=35:=jp (by omega) (by omega);have q36:swx (p+2) (L.length+2) 36=36:=jp (by omega) (by omega);have q37:swx (p+2) (L.length+2) 37=37:=jp (by omega) (by omega);refine jC (x:=lvA L) (swx (p+2) (L.length+2)) (by omega) q0 (fun _ _ _ _ e=>xX e) ?_ ?_ ?_ ?_ ?_ ?_;rw[q1,fY (R':=fun i=>aJ (n+1) (A (swx p L.length i))) (s':=swx (p+2) (L.length+2)) (fun k g=>⟨by simp,rfl⟩),<-Ic (R:=fun k=>aJ (n+1) (A k)) p1 (by omega:L.length< n) (0+((L.length:Nat):Int).toNat) (0+(((L.length:Nat):Int)+((p- (0+L.length):Nat):Int)).toNat) (by omega) (by omega)];simp only[sJ];rfl
   ·intro i J
    rw[EA,EB]
    repeat rw[aK (by omega)]
    exact dp (R:=fun k=>aJ (n+1) (A k)) cn (by omega) (HU p1 (by omega) J)
   rw[V];rfl;rw[q36,q1];rfl;cases L with
   |nil=>exact .inl ⟨rfl,rfl⟩
   |cons l L=>exact .inr ⟨by simp,by rw[q37];rfl,by rw[q37];rfl⟩
   intro hs;exact au rfl (Cv.sl rfl q1 (by rw[ce cn];rfl)) (au rfl (Cv.ptr rfl V rfl) (au rfl (ai hs (ag _)) (au rfl (Cv.ptr rfl q36 rfl) (au rfl (ai hs (aU (ac (ag _) af))) (au rfl (Cv.loE hs (by simp[i64]) (ag _)) (au rfl (ai hs (ag _)) (au rfl (ai hs (ag _)) aI)))))));have K:=jT (TS:=34) (TQ:=48) (R:=fun k=>aJ (n+1) (swM A L.length p k)) (cn (n:=n) (L:=L)) (by omega:n<=30) (by omega:L.length< n);have Q:=dn (ce (TS:=34) (TQ:=48) (n:=n) (R:=fun k=>aJ (n+1) (swM A L.length p k)) (cn (n:=n) (L:=L))) (show(1:Nat)≠0 by decide);have T:∀e,e=L.length->(rwO (fun k=>aJ (n+1) (swM A L.length p k)) (fun x=>x) n)[e]?=some [.lsl (L.length+2) 0 (n+1) none 3]:=fun e d=>by rw[dR (by omega:L.length< n) e d];simp
   have hx:swM A L.length p L.length c=A p c:=by simp[swM]
   have o:∀e,e=c->(pE (aJ (n+1) (swM A L.length p L.length)))[e]?=some (qC (A p c)):=fun e d=>by
    subst d;simp[pE,aJ,show e< n+1 by omega,hx]
   have hi1:=ei 1 (by decide);have hq1:qs ((1:Int):Rat)<=1:=by decide
   have hov:=pR ((1:Int):Rat) (A p c) p3 (by have:=C p c p1 (by omega);omega);refine ae (r_d aT 11 ?_);refine c_s (hi1) ?_;refine a_3 ?_;refine o_0 (.load_l1 rfl Q (T _ (by omega)) TG.h rfl) ?_;refine a_2 ?_;refine o_0 (.load_l rfl K (o _ (by omega)) TG.h TS.h (nle rfl)) ?_;refine c_s (hov) ?_;refine a_2 ?_;refine ao ⟨ov (fps0:=[([],[]),([],[]),([],[]),([],[]),([],[]),([],[]),([],[]),([],[]),([],[]),([49],[]),([49],[49])]) (by kernel_rfl) (lessF.zz (lessF.zz (lessF.zz (lessF.zz (lessF.rd (by omega) (lessF.zz (lessF.zz (lessF.rd (by omega) (lessF.zz (lessF.al rfl (show 40<=49 by decide) (lessF.st rfl (show 40<=49 by decide) lessF.nil))))))))))),?_⟩;refine AWp.ent (st':=⟨[(0,.lsl 1 0 n (some n) 1),(6,.lptr 35 0 0),(7,i64 n),(10,.lptr 36 0 0),(11,.aptr [[i64 c]] 0 0),(12,i64 L.length),(14,bQ (((1:Int):Rat) / A p c)),(83,i64 n),(84,i64 c)],rwH 34 48 (fun k=>aJ (n+1) (swM A L.length p k)) n (sx1 n L),40,209⟩) ?_ ?_;refine jC (x:=lvA L) (fun x=>x) (by omega) rfl (fun _ _ _ _ e=>e) ?_ ?_ rfl rfl ?_ ?_
   ·repeat rw[aK (by decide)]
    exact ce cn
   ·intro k g
    repeat rw[aK (by omega)]
    exact dp (R:=fun k=>aJ (n+1) (swM A L.length p k)) cn (by omega) g
   cases L with
   |nil=>exact .inl ⟨rfl,rfl⟩
   |cons l L=>exact .inr ⟨by simp,rfl,rfl⟩
   intro hs
   have hd:sH ⟨40,fun x=>x⟩ (an (rwH 34 48 (fun k=>aJ (n+1) (swM A L.length p k)) n (sx1 n L))) 49:=fun j B r e=>by
    obtain⟨h0⟩:=hs;have h1:j< 40:=(h0 j B r).1;have e:j=49:=e;omega
   exact au rfl (Cv.sl rfl rfl (by rw[ce cn];rfl)) (au rfl (Cv.ptr rfl rfl rfl) (au rfl (ai hs (ag _)) (au rfl (Cv.ptr rfl rfl rfl) (au rfl (ai hs (aU (ac (ag _) af))) (au rfl (ai hs (ag _)) (au rfl (Cv.boxp hs rfl hd rfl (bi _)) (au rfl (ai hs (ag _)) (au rfl (ai hs (ag _)) aI))))))));refine ae (s_r 6 ?_);refine a_3 ?_;refine o_0 (.load_l1 rfl Q (T _ (by omega)) TG.h rfl) ?_;refine a_z ?_;obtain⟨X,hX⟩:∃X,X=swM A L.length p:=⟨_,rfl⟩;obtain⟨f,hf⟩:∃f,f=((1:Int):Rat) / A p c:=⟨_,rfl⟩;rw[<-hX,<-hf];have hqX:∀i j,i< n->j<=n->qs (X i j)<=B:=by rw[hX];exact Kv C (by omega) p1
   have hqf:qs f<=B+1:=by
    rw[hf];have h1:=iC ((1:Int):Rat) (A p c);have h2:=C p c p1 (by omega);omega
   have v:slM M n (c+1)=(rdM (scM X L.length f) L.length c,L++[c]):=by
    rw[slM,<-w];show slC A n L c=_;unfold slC;rw[e0] at hp;rw[hp,hX,hf,show((1:Int):Rat)=1 by decide]
   have hqY:∀i j,i< n->j<=n->qs (rdM (scM X L.length f) L.length c i j)<=B:=by
    have:=hq (c+1) (by omega);rw[v] at this;exact this
   have q:L.length< n:=by omega
   clear K Q T hx o hi1 hq1 hov S G hst ho hE s;refine aC (fun _:Unit=>scK X n L.length c f L (n+1)) (fun _=>True) ?_ ?_
   ·refine ah (ax (scK X n L.length c f L) (fun j=>n+1- j) (fun j=>j<=n+1) 0 (Nat.zero_le _) ?_ ?_)
    rw[scK.eq_1,scJ_0];exact jU (by omega) fun hs=>k7 hs;intro j r;rw[scK.eq_1];by_cases hjn:j< n+1;rotate_left;have o:j=n+1:=by omega
    subst o;refine q_z 1 ?_;refine ae (cF (aw ⟨(),trivial,?_⟩));exact jU (by omega) fun hs=>k7 hs;refine q_z 1 ?_;refine ae (cT (am (ae (ah (r_z 2 ?_)))));have U:=da (X L.length j) f (by have:=hqX L.length j (by omega) (by omega);omega);have H:=jT (TS:=34) (TQ:=48) (R:=fun k=>aJ (n+1) (scJ X L.length f j k)) (cn (n:=n) (L:=L)) (by omega:n<=30) q;have F:=dn (ce (TS:=34) (TQ:=48) (n:=n) (R:=fun k=>aJ (n+1) (scJ X L.length f j k)) (cn (n:=n) (L:=L))) (show(1:Nat)≠0 by decide);have z:∀e,e=L.length->(rwO (fun k=>aJ (n+1) (scJ X L.length f j k)) (fun x=>x) n)[e]?=some [.lsl (L.length+2) 0 (n+1) none 3]:=fun e d=>by rw[dR q e d];simp
    have W:∀e,e=j->(pE (aJ (n+1) (scJ X L.length f j L.length)))[e]?=some (qC (X L.length j)):=fun e d=>by rw[eD hjn e d,Ia]
    refine r_d aT 16 ?_;refine a_3 ?_;refine o_0 (.load_l1 rfl F (z _ (by omega)) TG.h rfl) ?_;refine a_4 ?_;refine o_0 (.load_l1 rfl F (z _ (by omega)) TG.h rfl) ?_;refine a_2 ?_;refine o_0 (.load_l rfl H (W _ (by omega)) TG.h TS.h (nle rfl)) ?_;refine c_s (U) ?_;refine a_1 ?_;refine dB (.store rfl H (W _ (by omega)) rfl rfl rfl TS.h (nle rfl)) ?_;refine ao (n_k ?_);refine r_m 2 ?_;refine a_z ?_;refine⟨j+1,by omega,by omega,?_⟩;rw[scK.eq_1,scJ_s];exact EK (by omega) q hjn (by omega) fun hs=>k7 hs
   rintro _ _;show AWp _ _ _ _ (scK X n L.length c f L (n+1));rw[scK.eq_1,show(fun k=>aJ (n+1) (scJ X L.length f (n+1) k))=fun k=>aJ (n+1) (scM X L.length f k) from funext fun k=>uK fun j r=>scJ_n k j r];obtain⟨Y,hY⟩:∃Y,Y=scM X L.length f:=⟨_,rfl⟩
   have D:∀i j,i< n->j<=n->qs (Y i j)<=B:=fun i j J r=>by
    rw[hY];by_cases e:i=L.length;subst e;have:=hqY L.length j J r;rwa[show rdM (scM X L.length f) L.length c L.length j=scM X L.length f L.length j from if_pos rfl] at this;rw[show scM X L.length f i j=X i j from if_neg e];exact hqX i j J r
   rw[<-hY] at v⊢;refine ae (r_z 3 ?_);refine aC (fun _:Unit=>rdK Y n L.length c L n) (fun _=>True) ?_ ?_
   ·refine ah (ax (rdK Y n L.length c L) (fun i=>n- i) (fun i=>i<=n) 0 (Nat.zero_le _) ?_ ?_)
    rw[rdK.eq_1,rdJ_0];exact jU (by omega) fun hs=>k7 hs;intro i J;rw[rdK.eq_1];by_cases hin:i< n;rotate_left;have o:i=n:=by omega
    rw[o];refine q_z 1 ?_;refine ae (cF (aw ⟨(),trivial,?_⟩));exact jU (by omega) fun hs=>k7 hs;refine q_z 1 ?_;refine ae (cT (am (ae (ah (r_z 2 ?_)))));have H:=jT (TS:=34) (TQ:=48) (R:=fun k=>aJ (n+1) (rdJ Y L.length c i 0 k)) (cn (n:=n) (L:=L)) (by omega:n<=30) hin;have F:=dn (ce (TS:=34) (TQ:=48) (n:=n) (R:=fun k=>aJ (n+1) (rdJ Y L.length c i 0 k)) (cn (n:=n) (L:=L))) (show(1:Nat)≠0 by decide);have z:∀e,e=i->(rwO (fun k=>aJ (n+1) (rdJ Y L.length c i 0 k)) (fun x=>x) n)[e]?=some [.lsl (i+2) 0 (n+1) none 3]:=fun e d=>by rw[dR hin e d];simp
    have hgc:∀e,e=c->(pE (aJ (n+1) (rdJ Y L.length c i 0 i)))[e]?=some (qC (Y i c)):=fun e d=>by rw[rdJ_c];exact eD (by omega) e d
    refine ae (r_d aT 9 ?_);refine a_3 ?_;refine o_0 (.load_l1 rfl F (z _ (by omega)) TG.h rfl) ?_;refine a_2 ?_;refine o_0 (.load_l rfl H (hgc _ (by omega)) TG.h TS.h (nle rfl)) ?_;refine a_2 ?_;refine ao ⟨ov (fps0:=[([],[]),([],[]),([],[]),([],[]),([],[]),([],[]),([],[]),([50],[]),([50],[50])]) (by kernel_rfl) (lessF.zz (lessF.zz (lessF.zz (lessF.rd (by omega) (lessF.zz (lessF.zz (lessF.rd (by omega) (lessF.al rfl (show 40<=50 by decide) (lessF.st rfl (show 40<=50 by decide) lessF.nil))))))))),?_⟩;refine AWp.ent (st':=⟨[(0,.lsl 1 0 n (some n) 1),(6,.lptr 35 0 0),(7,i64 n),(10,.lptr 36 0 0),(11,.aptr [[i64 c]] 0 0),(12,i64 L.length),(16,i64 i),(17,bQ (Y i c)),(83,i64 n),(84,i64 c),(149,i64 n),(150,i64 i)],rwH 34 48 (fun k=>aJ (n+1) (rdJ Y L.length c i 0 k)) n (sx1 n L),40,209⟩) ?_ ?_;refine jC (x:=lvA L) (fun x=>x) (by omega) rfl (fun _ _ _ _ e=>e) ?_ ?_ rfl rfl ?_ ?_
    ·repeat rw[aK (by decide)]
     exact ce cn
    ·intro k g
     repeat rw[aK (by omega)]
     exact dp cn (by omega) g
    cases L with
    |nil=>exact .inl ⟨rfl,rfl⟩
    |cons l L=>exact .inr ⟨by simp,rfl,rfl⟩
    intro hs
    have hd:sH ⟨40,fun x=>x⟩ (an (rwH 34 48 (fun k=>aJ (n+1) (rdJ Y L.length c i 0 k)) n (sx1 n L))) 50:=fun j B r e=>by
     obtain⟨h0⟩:=hs;have h1:j< 40:=(h0 j B r).1;have e:j=50:=e;omega
    exact au rfl (Cv.sl rfl rfl (by rw[ce cn];rfl)) (au rfl (Cv.ptr rfl rfl rfl) (au rfl (ai hs (ag _)) (au rfl (Cv.ptr rfl rfl rfl) (au rfl (ai hs (aU (ac (ag _) af))) (au rfl (ai hs (ag _)) (au rfl (ai hs (ag _)) (au rfl (Cv.boxp hs rfl hd rfl (bi _)) (au rfl (ai hs (ag _)) (au rfl (ai hs (ag _)) (au rfl (ai hs (ag _)) (au rfl (ai hs (ag _)) aI)))))))))));by_cases hir:i=L.length;refine s_r 8 ?_;refine a_2 ?_;refine o_0 (.bin rfl rfl (vF bR (neF (by omega)))) ?_;refine a_1 ?_;refine n_g rfl d_f ?_;refine n_g rfl d_f ?_;refine n_g rfl d_f ?_;refine o_0 (.pickF rfl d_f rfl) ?_;refine ao ?_;refine cF (am (r_m 2 ?_));refine a_z ?_;refine⟨i+1,by omega,by omega,?_⟩;rw[rdK.eq_1,pe (.inl hir)];exact jU (by omega) fun hs=>k7 hs;by_cases hic:Y i c=0;refine s_r 8 ?_;refine a_2 ?_;refine o_0 (.bin rfl rfl (vT bR (neT (by omega)))) ?_;refine a_1 ?_;refine y_g rfl d_t (.load_a rfl rfl TG.h TS.h (nle rfl)) ?_;refine y_g rfl d_t (.call rfl rfl rfl (cJ (Y i c))) ?_;refine y_g rfl d_t (.bin rfl rfl (vF bR (neF (sgZ_num_eq.2 hic)))) ?_;refine o_0 (.pickT rfl d_t rfl) ?_;refine ao ?_;refine cF (am (r_m 2 ?_));refine a_z ?_;refine⟨i+1,by omega,by omega,?_⟩;rw[rdK.eq_1,pe (.inr hic)];exact jU (by omega) fun hs=>k7 hs;refine s_r 8 ?_;refine a_2 ?_;refine o_0 (.bin rfl rfl (vT bR (neT (by omega)))) ?_;refine a_1 ?_;refine y_g rfl d_t (.load_a rfl rfl TG.h TS.h (nle rfl)) ?_;refine y_g rfl d_t (.call rfl rfl rfl (cJ (Y i c))) ?_;refine y_g rfl d_t (.bin rfl rfl (vT bR (neT (mt sgZ_num_eq.1 hic)))) ?_
    refine o_0 (.pickT rfl d_t rfl) ?_;refine ao ?_;refine cT (s_r 6 ?_);refine a_3 ?_;refine o_0 (.load_l1 rfl F (z _ (by omega)) TG.h rfl) ?_;refine a_z ?_;refine AWp.cutB (fun _:Unit=>rdI Y n L.length c L i (n+1)) (fun _=>True) ?_ ?_
    ·refine ah (ax (rdI Y n L.length c L i) (fun j=>n+1- j) (fun j=>j<=n+1) 0 (Nat.zero_le _) ?_ ?_)
     rw[rdI.eq_1];exact jU (by omega) fun hs=>k7 hs;intro j r;rw[rdI.eq_1];by_cases hjn:j< n+1;rotate_left;have o:j=n+1:=by omega
     subst o;refine q_z 1 ?_;refine ae (cF (aw ⟨(),trivial,?_⟩));exact jU (by omega) fun hs=>k7 hs;refine q_z 1 ?_;refine ae (cT (am (ae (ah (r_z 2 ?_)))));have U:=da (Y i c) (Y L.length j) (by have:=D i c hin (by omega);have:=D L.length j q (by omega);omega);have hsu:=l8 (Y i j) (Y i c* Y L.length j) (by have:=D i c hin (by omega);have:=D L.length j q (by omega);have:=D i j hin (by omega);have:=dS (Y i c) (Y L.length j);omega);have N:=jT (TS:=34) (TQ:=48) (R:=fun k=>aJ (n+1) (rdJ Y L.length c i j k)) (cn (n:=n) (L:=L)) (by omega:n<=30) hin;have Z:=jT (TS:=34) (TQ:=48) (R:=fun k=>aJ (n+1) (rdJ Y L.length c i j k)) (cn (n:=n) (L:=L)) (by omega:n<=30) q;have O:=dn (ce (TS:=34) (TQ:=48) (n:=n) (R:=fun k=>aJ (n+1) (rdJ Y L.length c i j k)) (cn (n:=n) (L:=L))) (show(1:Nat)≠0 by decide);have hg5:∀e,e=i->(rwO (fun k=>aJ (n+1) (rdJ Y L.length c i j k)) (fun x=>x) n)[e]?=some [.lsl (i+2) 0 (n+1) none 3]:=fun e d=>by rw[dR hin e d];simp
     have hg6:∀e,e=L.length->(rwO (fun k=>aJ (n+1) (rdJ Y L.length c i j k)) (fun x=>x) n)[e]?=some [.lsl (L.length+2) 0 (n+1) none 3]:=fun e d=>by rw[dR q e d];simp
     have hgi:∀e,e=j->(pE (aJ (n+1) (rdJ Y L.length c i j i)))[e]?=some (qC (Y i j)):=fun e d=>by rw[eD hjn e d,Iu]
     have G:∀e,e=j->(pE (aJ (n+1) (rdJ Y L.length c i j L.length)))[e]?=some (qC (Y L.length j)):=fun e d=>by rw[eD hjn e d,rdJ_r]
     refine r_d aT 24 ?_;refine a_3 ?_;refine o_0 (.load_l1 rfl O (hg5 _ (by omega)) TG.h rfl) ?_;refine a_4 ?_;refine o_0 (.load_l1 rfl O (hg5 _ (by omega)) TG.h rfl) ?_;refine a_2 ?_;refine o_0 (.load_l rfl N (hgi _ (by omega)) TG.h TS.h (nle rfl)) ?_;refine a_4 ?_;refine o_0 (.load_l1 rfl O (hg6 _ (by omega)) TG.h rfl) ?_;refine a_2 ?_;refine o_0 (.load_l rfl Z (G _ (by omega)) TG.h TS.h (nle rfl)) ?_;refine c_s (U) ?_;refine c_s (hsu) ?_;refine a_1 ?_;refine dB (.store rfl N (hgi _ (by omega)) rfl rfl rfl TS.h (nle rfl)) ?_;refine ao (n_k ?_);refine r_m 2 ?_;refine a_z ?_;refine⟨j+1,by omega,by omega,?_⟩;rw[rdI.eq_1,rdJ_s hir];exact EK (by omega) hin hjn (by omega) fun hs=>k7 hs
    rintro _ _;show AWp _ _ _ _ (rdI Y n L.length c L i (n+1));rw[rdI.eq_1,show(fun k=>aJ (n+1) (rdJ Y L.length c i (n+1) k))=fun k=>aJ (n+1) (rdJ Y L.length c (i+1) 0 k) from funext fun k=>uK fun j r=>rdJ_n i k j r];refine r_m 2 ?_;refine a_z ?_;refine⟨i+1,by omega,by omega,?_⟩;rw[rdK.eq_1];exact jU (by omega) fun hs=>k7 hs
   rintro _ _;show AWp _ _ _ _ (rdK Y n L.length c L n);rw[rdK.eq_1,Gk (R:=fun k=>aJ (n+1) (rdJ Y L.length c n 0 k)) (R':=fun k=>aJ (n+1) (rdM Y L.length c k)) fun k g=>(uK fun j _=>EX g j:rT n (rdJ Y L.length c n 0) k=rT n (rdM Y L.length c) k)];have u:cZ (an (rwH 34 48 (fun k=>aJ (n+1) (rdM Y L.length c k)) n (sx1 n L))) 36=some ⟨117,3,[[.lsl 1 0 n (some n) 1,lvA L,i64 n]]⟩:=rfl;cases L with
   |nil=>
    refine r_m 7 ?_;refine a_1 ?_;refine o_0 (.load_l1 rfl u rfl TG.h rfl) ?_;refine a_2 ?_;refine AR.op1 (.append_e rfl rfl rfl te_51.h rfl rfl rfl (.lsl rfl (nle rfl)) (by first|assumption|(simp;done)) TZ.h rfl TB.h d_o (by first|(simp[maxLen];done)|(simp[maxLen];omega))) rfl rfl ?_;refine a_z ?_;refine r_m 2 ?_;refine a_z ?_;refine⟨c+1,by omega,by omega,?_⟩;rw[scS.eq_1,v];refine jC (x:= .lsl 44 0 1 none 1) (fun x=>cond (Nat.beq x 37) 44 x) (by omega) rfl (EI (by omega)) ?_ ?_ rfl rfl (.inr ⟨by simp,rfl,rfl⟩) fun hs=>k7 hs
    ·rw[kO (by decide)]
     repeat rw[aK (by decide)]
     rw[ce cn,fY (R':=fun k=>aJ (n+1) (rdM Y ([]:Ln).length c k)) (s':=fun x=>cond (Nat.beq x 37) 44 x)];exact fun k g=>⟨rfl,(kO (by omega)).symm⟩
    ·intro k g
     rw[kO (by omega)]
     repeat rw[aK (by omega)]
     exact dp (R:=fun k=>aJ (n+1) (rdM Y ([]:Ln).length c k)) cn (by omega) g
   |cons l L=>
    have hLs:L.length+1< n:=q;refine r_m 7 ?_;refine a_1 ?_;refine o_0 (.load_l1 rfl u rfl TG.h rfl) ?_;refine a_z ?_;refine r_m 2 ?_;refine a_z ?_;refine⟨c+1,by omega,by omega,?_⟩;rw[scS.eq_1,v];refine jC (x:= .lsl 44 0 (L.length+1+1) none 1) (fun x=>cond (Nat.beq x 37) 44 x) (by omega) rfl (EI (by omega)) ?_ ?_ rfl rfl (.inr ⟨by simp,by simp,by rw[AS];rfl⟩) fun hs=>k7 hs
    ·rw[kO (by decide)]
     repeat rw[aK (by decide)]
     rw[ce cn,fY (R':=fun k=>aJ (n+1) (rdM Y (l::L).length c k)) (s':=fun x=>cond (Nat.beq x 37) 44 x)];exact fun k g=>⟨rfl,(kO (by omega)).symm⟩
    ·intro k g
     rw[kO (by omega)]
     repeat rw[aK (by omega)]
     exact dp (R:=fun k=>aJ (n+1) (rdM Y (l::L).length c k)) cn (by omega) g
 rintro _ _;show AWp _ _ _ _ (scS M n n);rw[scS.eq_1];obtain⟨⟨A,L⟩,w⟩:∃p,p=slM M n n:=⟨_,rfl⟩;rw[<-w];have E:∀hp:Nat->Option ABlk,hp 1=some ⟨34,1,rwO (fun k=>aJ (n+1) (A k)) (fun x=>x) n⟩->(∀i,i< n->hp (i+2)=some ⟨48,3,pE (aJ (n+1) (A i))⟩)->Cv (Ren.id 0) hp (fun _=>none) (.lsl 1 0 n (some n) 1) (.arr (mE ((List.range n).map fun k=>aJ (n+1) (A k)))):=fun hp h1 h2=>KT (fun _ _=>rfl) h1 h2 (Nat.zero_add n);cases L with
 |nil=>
  refine r_z 2 ?_;refine aj (Fin.cell (t:=6) rfl rfl rfl TG.h TS.h (nle rfl) (Cv.agg (ak (E _ ?_ ?_) (ak (Cv.emp _) (ak (ai aB (ag _)) aq)))));rw[aK (by decide)];exact ce cn;intro k g;rw[aK (by omega)];exact dp (R:=fun k=>aJ (n+1) (A k)) cn (by omega) g
 |cons l L=>
  refine r_z 2 ?_;refine aj (Fin.cell (t:=6) rfl rfl rfl TG.h TS.h (nle rfl) (Cv.agg (ak (E _ ?_ ?_) (ak (Cv.shut (es:=lvE (l::L)) (B:=⟨3,1,lvE (l::L)⟩) aB rfl (fun j B r=>by cases r) (by simp) (lG (by simp) (cu _))) (ak (ai aB (ag _)) aq)))));rw[aK (by decide)];exact ce cn;intro k g;rw[aK (by omega)];exact dp (R:=fun k=>aJ (n+1) (A k)) cn (by omega) g
theorem Ga (A:Nat->Nat->Rat) (l:Rat) (b:Lq) (n B:Nat) (hn:n<=25) (hb:b.length=n) (hB:B<=100000000000)
    (hm:∀i j:Nat,i< n->j< n->qs (A i j)+qs l<=549755813888) (ha:∀i:Nat,i< n->qs (-(A i i* l))+1<=549755813887) (hq:∀c,c<=n->∀i j,i< n->j<=n->qs ((slM (svM A l (fun t=>coP b t) n) n c).1 i j)<=B):
    XSpec Tryz.prog 72 [.lsl 1 0 n (some n) 1,.agg (qC l),.arr (pE b)] (mzH 3 34 48 (mzO 3 (fun _=>n) (fun x=>x) n) (fiL A n n)) 40 (syV n (slM (svM A l (fun t=>coP b t) n) n n)) [] 1:=
 sv_rows A l b n hn hb _ hm ha (sv_cols _ n B hn hB hq)
end



def zE(l:List Int):Lc:=l.map fun n=>[i64 n]
theorem iO(l:List Int):∀e∈zE l,∀c∈e,Closed c:=by
 intro e a c b;obtain⟨n,_,rfl⟩:=List.mem_map.1 a;rw[List.mem_singleton.1 b];exact ag _
def zR(l:List Int):Lq:=l.map fun(n:Int)=>(n:Rat)
def Cq:Ln->AState
 |l=>⟨[(0,.arr (iE l))],[],1,15⟩
theorem jH(l:Ln):Cq l=⟨[(0,.arr (iE l))],[],1,15⟩:=rfl
theorem jg(l:Ln)(hl:l.length<=281474976710656):FS 188 [.arr (iE l)] (.arr (iE (gu l))):=by
 refine f_c Tryz.func188 ?_;refine r_z 1 ?_;refine a6 Cq (fun m=>m=gu l) ?_ ?_;refine ah (ax Cq (fun m=>m.length) (fun m=>m.length<=281474976710656/\gu m=gu l) l ⟨hl,rfl⟩ ?_ ?_);simp only[jH];exact s_e [];rintro m ⟨e,a⟩;rw[jH];cases m with
 |nil=>
  refine ae (s_r 9 ?_);refine a_4 ?_;refine n_g rfl d_f ?_;refine n_g rfl d_f ?_;refine n_g rfl d_f ?_;refine n_g rfl d_f ?_;refine o_0 (.pickF rfl d_f rfl) ?_;refine ao ?_;refine cF ?_;refine aw ⟨[],by simpa[gu] using a,?_⟩;simp only[jH];exact s_e []
 |cons d m=>
  have c:(iE (d::m))[(0:Int).toNat]?=some [i64 d]:=rfl;refine ae (s_r 9 ?_);refine a_4 ?_;refine y_g rfl (by simp) (.move rfl) ?_;refine y_g rfl (by simp) (.index_a rfl rfl (by omega) c rfl te_51.h) ?_;refine y_g rfl (by simp) (.load_a1 rfl c TG.h rfl) ?_;refine y_g rfl (by simp) (.bin rfl rfl bv) ?_;refine o_0 (.pickT rfl (by simp) rfl) ?_;refine ao ?_;refine ap rfl (fun h=>?_) (fun h=>?_);have b:d=0:=by simpa using h
  refine am ?_;subst b;refine ah (r_m 3 ?_);refine a_1 ?_;refine o_0 (.sa_l rfl rfl rfl (by simp) te_51.h (l7 _)) ?_;refine a_z ?_;refine⟨m,by simp,⟨by simp at e;omega,by simpa[gu] using a⟩,?_⟩;simp only[jH];exact s_e [];have b:d≠0:=by simpa using h
  refine aw ⟨d::m,by rw[<-a];simp[gu,b],?_⟩;simp only[jH];exact s_e []
 rintro m rfl;rw[jH];refine r_z 2 ?_;exact aj (t_e (eV _))
theorem kz(s:Int)(l:Ln)(z:Int)(hl:l.length<=281474976710656)(hd:∀d∈l,d< UB)(hz:hv l=z.natAbs)(hs:z≠0->s=sgZ z):FS 147 [i64 s,.arr (iE l)] (.agg (zZ z)):=by
 refine f_c Tryz.func147 ?_;refine r_z 1 ?_;refine r_c 3 (jg l hl) ?_;refine a_z ?_;refine ae (r_z 3 ?_);refine ap rfl (fun h=>?_) (fun h=>?_)
 have b:gu l=[]:=by
  have:(gu l).length=0:=by simpa using h
  exact List.length_eq_zero_iff.1 this
 have a:z=0:=by have:=(uq hd).1 b;omega
 subst a;refine r_z 2 ?_;refine aj (Fin.cell rfl rfl rfl TG.h TS.h (nle rfl) ?_);rw[Em];exact Cv.agg (ak (ai aB (ag _)) (ak (Cv.emp _) aq));have b:gu l≠[]:=fun e=>by rw[e] at h;simp at h
 have a:z≠0:=by
  intro e;subst e;exact b ((uq hd).2 hz)
 refine am (r_z 4 ?_);refine aj (dA rfl rfl rfl TG.h TS.h (nle rfl) ?_ ?_);show AV.agg [i64 s,.arr (iE (gu l))]=_;unfold zZ;rw[hs a,fX hd,hz];exact cY _
theorem zZ_neg(z:Int):zZ (-z)=[i64 (-sgZ z),.arr (iE (zd z.natAbs))]:=by
 unfold zZ;rw[Int.natAbs_neg];congr 2;unfold sgZ;split <;> split <;>(try split)<;>(try split)<;> omega
theorem db(z:Int):sgZ z= -1/\z< 0\/sgZ z=0/\z=0\/sgZ z=1/\0< z:=by
 unfold sgZ;split;right;left;exact⟨rfl,by assumption⟩;split;left;exact⟨rfl,by assumption⟩;right;right;exact⟨rfl,by omega⟩
theorem tM(z:Int):FS 117 [.agg (zZ z)] (.agg (zZ (-z))):=by
 have hs:=db z;have a:=cY (-z);rw[zZ_neg] at a⊢;refine f_c Tryz.func117 ?_;refine r_z 2 ?_;refine r_z 7 ?_;exact aj (c_e (a))
theorem vm(l:Ln)(i:Nat)(hl:l.length<=281474976710656):FS 247 [.arr (iE l),i64 i] (i64 (l.reverse[i]?.getD 0:Nat)):=by
 refine f_c Tryz.func247 ?_;refine r_z 1 ?_;refine ae (r_z 4 ?_);refine ap rfl (fun h=>?_) (fun h=>?_);have b:l.length<=i:=by simpa using h
 refine r_z 1 ?_;refine aj (aM rfl ?_ (ag _));rw[List.getElem?_eq_none (by simpa using b)];rfl;have b:i< l.length:=by simp at h;omega
 refine am ?_;obtain⟨d,c⟩:∃d,l[l.length- 1- i]?=some d:=⟨_,List.getElem?_eq_getElem (by omega)⟩;have a:(iE l)[((l.length:Int)- 1- i).toNat]?=some [i64 d]:=by rw[show((l.length:Int)- 1- i).toNat=l.length- 1- i by omega];exact kT c
 refine s_r 9 ?_;refine a_6 ?_;refine i_x a ?_;refine l_1 a ?_;refine a_z ?_;refine aj (aM rfl ?_ (ag _));rw[List.getElem?_reverse b,c];rfl
theorem Dp(a b:Ln):FS 246 [.arr (iE a),.arr (iE b)] (i64 (max a.length b.length:Nat)):=by
 refine f_c Tryz.func246 ?_;refine r_z 1 ?_;refine ae (r_z 5 ?_);refine ap rfl (fun h=>?_) (fun h=>?_);refine r_z 3 ?_;refine aj (aM rfl ?_ (ag _));have:b.length< a.length:=by simpa using h
 simp[i64];omega;refine am (r_z 3 ?_);refine aj (aM rfl ?_ (ag _));have:¬b.length< a.length:=by simpa using h
 simp[i64];omega
def Ec(a:Nat)(b:Nat):Nat->AState
 |i=>⟨[(0,.arr (iE (zd a))),(1,.arr (iE (zd b))),(5,i64 i)],[],1,40⟩
theorem xR{n i d:Nat}(h:(av UB n)[i]?=some d):(zd n)[(av UB n).length- 1- i]?=some d:=by
 have a:i< (av UB n).length:=(List.getElem?_eq_some_iff.1 h).1;unfold zd;rw[List.getElem?_reverse (by omega),show(av UB n).length- 1- ((av UB n).length- 1- i)=i by omega];exact h
theorem Bl(a b:Nat)(ha:(zd a).length<=281474976710656)(hb:(zd b).length<=281474976710656):FS 201 [.arr (iE (zd a)),.arr (iE (zd b))] (i64 (eH a b)):=by
 have s:=cy a;have t:=cy b;refine f_c Tryz.func201 ?_;refine r_z 1 ?_;refine ae (r_z 5 ?_);refine ap rfl (fun h=>?_) (fun h=>?_);have r:(zd a).length≠(zd b).length:=by simp at h;omega
 refine ae (r_z 5 ?_);refine ap rfl (fun j=>?_) (fun j=>?_);refine r_z 1 ?_;refine aj (aM rfl ?_ (ag _));have hl:(zd a).length< (zd b).length:=by simpa using j
 rw[mj];rfl;have:=jK (b:=UB) (by decide) (show(av UB a).length< (av UB b).length by omega);omega;refine am (r_z 1 ?_);refine aj (aM rfl ?_ (ag _));have hl:(zd b).length< (zd a).length:=by simp at j;omega
 rw[n5];rfl;have:=jK (b:=UB) (by decide) (show(av UB b).length< (av UB a).length by omega);omega;have heq:(av UB a).length=(av UB b).length:=by simp at h;omega
 refine am (ae (r_z 1 ?_));refine aC (Ec a b) (fun _=>a=b) ?_ ?_;refine ah (ax (Ec a b) (fun i=>(av UB a).length- i) (fun i=>i<=(av UB a).length/\(av UB a).drop ((av UB a).length- i)=(av UB b).drop ((av UB a).length- i)) 0 ⟨Nat.zero_le _,by rw[Nat.sub_zero,List.drop_length,heq,List.drop_length]⟩ ?_ ?_);simp only[Ec.eq_1];exact s_e [];rintro i ⟨v,e⟩;rw[Ec.eq_1];refine ae (r_z 4 ?_);refine ap rfl (fun h=>?_) (fun h=>?_);have q:i< (av UB a).length:=by simp at h;omega
 obtain⟨k,u⟩:∃k,k=(av UB a).length- 1- i:=⟨_,rfl⟩;have o:(av UB a).length- i=k+1:=by omega
 rw[o] at e;obtain⟨x,m⟩:∃x,(av UB a)[k]?=some x:=⟨_,List.getElem?_eq_getElem (by omega)⟩;obtain⟨y,l⟩:∃y,(av UB b)[k]?=some y:=⟨_,List.getElem?_eq_getElem (by omega)⟩
 have f:(iE (zd a))[((i:Nat):Int).toNat]?=some [i64 x]:=by
  have:=xR m;rw[show(av UB a).length- 1- k=i by omega] at this;exact kT this
 have g:(iE (zd b))[((i:Nat):Int).toNat]?=some [i64 y]:=by
  have:=xR l;rw[show(av UB b).length- 1- k=i by omega] at this;exact kT this
 refine am (ae (ah (ae (ae (r_d aT 9 ?_)))));refine a_2 ?_;refine i_x f ?_;refine l_1 f ?_;refine a_2 ?_;refine i_x g ?_;refine l_1 g ?_;refine a_1 ?_;refine ao (n_k ?_);refine ap rfl (fun j=>?_) (fun j=>?_);refine r_z 1 ?_;refine aj (aM rfl ?_ (ag _));have c:x< y:=by simpa using j
 have:=nU (fun d e=>dr (by decide) a d e) m l e c;rw[bz (by decide),bz (by decide)] at this;rw[mj (by omega)];rfl;refine am (ae (r_d aT 9 ?_));refine a_2 ?_;refine i_x f ?_;refine l_1 f ?_;refine a_2 ?_;refine i_x g ?_;refine l_1 g ?_;refine a_1 ?_;refine ao (n_k ?_);refine ap rfl (fun p=>?_) (fun p=>?_);refine r_z 1 ?_;refine aj (aM rfl ?_ (ag _));have c:y< x:=by simpa using p
 have:=nU (fun d e=>dr (by decide) b d e) l m e.symm c;rw[bz (by decide),bz (by decide)] at this;rw[n5 (by omega)];rfl;have c:x=y:=by simp at j p;omega
 subst c;refine am (r_m 3 ?_);refine a_z ?_;refine⟨i+1,by omega,⟨by omega,?_⟩,?_⟩;rw[show(av UB a).length- (i+1)=k by omega,gf m,gf l,e];simp only[Ec.eq_1];exact s_e [];have n:i=(av UB a).length:=by simp at h;omega
 refine aw ⟨i,?_,?_⟩;subst n;rw[Nat.sub_self,List.drop_zero,List.drop_zero] at e;rw[<-bz (b:=UB) (by decide) a,<-bz (b:=UB) (by decide) b,e];simp only[Ec.eq_1];exact s_e [];rintro i rfl;rw[Ec.eq_1];refine r_z 1 ?_;refine aj (aM rfl ?_ (ag _));rw[F0 rfl];rfl
def bothS(a:Nat)(b:Nat)(k:Int)(N:Nat):Ln×Int->AState
 |(s,c)=>⟨[(0,.arr (iE (zd a))),(1,.arr (iE (zd b))),(2,i64 k),(7,i64 N),(8,.lsl 1 0 N (some N) 1),(9,i64 c),(10,i64 s.length)],[(1,some ⟨3,1,iE (List.replicate (N- s.length) 0++s.reverse)⟩)],2,51⟩
def Kp(a:Nat)(b:Nat)(k:Int)(N:Nat)(s:Ln):Int×Int->AState
 |(x,c)=>⟨[(0,.arr (iE (zd a))),(1,.arr (iE (zd b))),(2,i64 k),(7,i64 N),(8,.lsl 1 0 N (some N) 1),(9,i64 c),(10,i64 s.length),(11,i64 x)],[(1,some ⟨3,1,iE (List.replicate (N- s.length) 0++s.reverse)⟩)],2,51⟩
theorem pT(a b:Nat)(k:Int)(r:Nat)(hk:k=1\/k= -1)(hr:(r:Int)=a+k* b)(ha:(zd a).length<=17592186044416)(hb:(zd b).length<=17592186044416):FS 200 [.arr (iE (zd a)),.arr (iE (zd b)),i64 k] (.arr (iE (zd r))):=by
 have hza:=cy a;have hzb:=cy b;obtain⟨N,hN⟩:∃N,N=max (zd a).length (zd b).length+1:=⟨_,rfl⟩;refine f_c Tryz.func200 ?_;refine r_z 1 ?_;refine r_c 5 (Dp (zd a) (zd b)) ?_;refine a_z ?_;have D:((max (zd a).length (zd b).length:Nat):Int)+1=(N:Int):=by omega
 refine s_r 3 ?_;refine a_1 ?_;refine o_1 (.makeSlice (congrArg (fun z=>some (AV.v (.int .i64 z))) D) (congrArg (fun z=>some (AV.v (.int .i64 z))) D) te_51.h TZ.h rfl TB.h (by first|omega|(simp;done)|(simp;omega)) (by first|omega|(simp;done)|(simp;omega)) (by unfold maxLen;first|omega|(simp;done)|(simp;omega))) ?_;refine a_z ?_;refine r_z 1 ?_;refine ae (r_z 1 ?_)
 have V:=eS (b:=UB) (by decide) (n:=r) (k:=N) (by
  have j:=fG (b:=UB) (dr (by decide) a);have o:=fG (b:=UB) (dr (by decide) b);rw[bz (by decide)] at j o;have K:UB^ (av UB a).length<=UB^ (N- 1):=Nat.pow_le_pow_right (by decide) (by omega);have h4:UB^ (av UB b).length<=UB^ (N- 1):=Nat.pow_le_pow_right (by decide) (by omega);have h5:UB^ N=UB^ (N- 1) * UB:=by rw[<-Nat.pow_succ];congr 1;omega
  rw[h5];show r< UB^ (N- 1) * 32768;rcases hk with rfl|rfl <;> omega)
 have T:r< UB^ N:=by
  have j:=fG (b:=UB) (dr (by decide) r);rw[bz (by decide)] at j;exact Nat.lt_of_lt_of_le j (Nat.pow_le_pow_right (by decide) V)
 refine aC (fun s:Ln=>⟨[(8,.lsl 1 0 N (some N) 1)],[(1,some ⟨3,1,iE s.reverse⟩)],2,51⟩) (fun s=>s.length=N/\(∀d∈s,d< UB)/\ofD UB s=r) ?_ ?_;refine ah (ax (bothS a b k N) (fun x=>N- x.1.length) (fun x=>x.1.length<=N/\(∀d∈x.1,d< UB)/\(x.2= -1\/x.2=0\/x.2=1)/\((ofD UB x.1:Nat):Int)+((UB^ x.1.length:Nat):Int) * x.2=(ofD UB ((av UB a).take x.1.length):Nat)+k* (ofD UB ((av UB b).take x.1.length):Nat)) ([],0) ⟨by simp,by simp,by simp,by simp[ofD]⟩ ?_ ?_);simp only[bothS.eq_1];exact s_e [(1,8)];rintro⟨s,c⟩ ⟨hs,u,hc,f⟩;simp only at hs u hc f;simp only[bothS.eq_1];refine ae (r_z 3 ?_);refine ap rfl (fun h=>?_) (fun h=>?_);have hlt:s.length< N:=by simpa using h
 refine am ?_;obtain⟨x,W⟩:∃x,x=(av UB a)[s.length]?.getD 0:=⟨_,rfl⟩;obtain⟨y,R⟩:∃y,y=(av UB b)[s.length]?.getD 0:=⟨_,rfl⟩
 have hx1:x< 32768:=by
  rw[W];cases hh:(av UB a)[s.length]? with
  |none=>decide
  |some d=>exact cI (by decide) hh
 have hy1:y< 32768:=by
  rw[R];cases hh:(av UB b)[s.length]? with
  |none=>decide
  |some d=>exact cI (by decide) hh
 have p:=vm (zd a) s.length (by omega);have t:=vm (zd b) s.length (by omega);unfold zd at p t;rw[List.reverse_reverse,<-W] at p;rw[List.reverse_reverse,<-R] at t;have hky: -32768< k* y/\k* y< 32768:=by rcases hk with rfl|rfl <;> omega
 obtain⟨X,O⟩:∃X:Int,X=x+k* y+c:=⟨_,rfl⟩;have hXr: -32768<=X/\X<=65536:=by omega
 refine ae (ah (r_c 12 (p) ?_));refine c_s (t) ?_;refine a_z ?_;refine r_z 1 ?_;refine a6 (Kp a b k N s) (fun v=>v.1=(if X< 0 then X+32768 else X)/\v.2=(if X< 0 then -1 else 0)) ?_ ?_;refine r_z 2 ?_;refine ap rfl (fun j=>?_) (fun j=>?_);have g:X< 0:=by rw[O];simpa using j
 refine r_z 3 ?_;refine r_m 1 ?_;refine a_z ?_;refine⟨(X+32768,-1),⟨by rw[if_pos g],by rw[if_pos g]⟩,?_⟩;simp only[Kp.eq_1];exact s_x [] (fun hs=>e_45) (fun hs=>e_46) e_44;have g:¬X< 0:=by rw[O];simpa using j
 refine am ⟨(X,0),⟨by rw[if_neg g],by rw[if_neg g]⟩,?_⟩;simp only[Kp.eq_1];exact s_x [] (fun hs=>e_45) (fun hs=>e_46) e_44;rintro⟨G,c1⟩ ⟨i,J⟩;simp only at i J;rw[Kp.eq_1];refine a6 (Kp a b k N s) (fun v=>v.1=X % 32768/\v.2=X/ 32768) ?_ ?_;refine r_z 2 ?_;refine ap rfl (fun j=>?_) (fun j=>?_);have o:32768<=G:=by simpa using j
 have hX1r:G<=65536:=by rw[i];split <;> omega
 refine r_z 3 ?_;refine r_m 1 ?_;refine a_z ?_;have g:¬X< 0:=by intro h0;rw[if_pos h0] at i;omega
 rw[if_neg g] at i;refine⟨(G- 32768,1),⟨by simp only;omega,by simp only;omega⟩,?_⟩;simp only[Kp.eq_1];exact s_e []
 ·have o:G< 32768:=by simp at j;omega
  refine am ⟨(G,c1),⟨by rw[i] at o⊢;simp only;split <;> rename_i K <;> simp only[K,if_true,if_false] at o <;> omega,by rw[i] at o;rw[J];simp only;split <;> rename_i K <;> simp only[K,if_true,if_false] at o <;> omega⟩,?_⟩;simp only[Kp.eq_1];exact s_e []
 rintro⟨X2,E⟩ ⟨L,S⟩;simp only at L S;rw[Kp.eq_1];obtain⟨d,M⟩:∃d:Nat,X2=d:=⟨X2.toNat,by omega⟩;have Q:d< 32768:=by omega
 subst M;have hlen:(List.replicate (N- s.length) 0++s.reverse).length=N:=by simp;omega
 have m:List.replicate (N- s.length) 0=List.replicate (N- (s.length+1)) 0++[0]:=by
  rw[show N- s.length=(N- (s.length+1))+1 by omega,List.replicate_succ']
 have H:(iE (List.replicate (N- s.length) 0++s.reverse))[0+((N:Int)- 1- s.length).toNat]?=some [i64 0]:=by
  rw[show 0+((N:Int)- 1- s.length).toNat=N- (s.length+1) by omega];refine kT ?_;rw[m,List.append_assoc];exact pG _ _ _ _ (by simp)
 have F:(iE (List.replicate (N- s.length) 0++s.reverse)).set (0+((N:Int)- 1- s.length).toNat) [i64 d]=iE (List.replicate (N- (s++[d]).length) 0++(s++[d]).reverse):=by
  rw[show 0+((N:Int)- 1- s.length).toNat=N- (s.length+1) by omega,oD,m,List.append_assoc];simp only[List.singleton_append,List.length_append,List.length_cons,List.length_nil,List.reverse_append,List.reverse_cons,List.reverse_nil,List.nil_append];rw[o7 _ _ _ _ _ (by simp)];simp
 refine r_m 8 ?_;refine a_7 ?_;refine dB (.store rfl rfl H rfl rfl rfl TS.h (nle rfl)) ?_;refine ao ?_;refine r_m 3 ?_;refine a_z ?_;refine⟨(s++[d],E),by simp;omega,⟨by simp;omega,?_,by simp only;omega,?_⟩,?_⟩;intro e w;rcases List.mem_append.1 w with w|w
 exact u e w;simp at w;subst w;exact Q;simp only[List.length_append,List.length_cons,List.length_nil,Nat.zero_add];rw[ie,eO,eO,<-W,<-R,Nat.pow_succ];obtain⟨B,hB⟩:∃B,B=UB^ s.length:=⟨_,rfl⟩;rw[<-hB] at f⊢;have Y:X=32768* E+d:=by omega
 have U:(B:Int) * X=B* x+k* (B* y)+B* c:=by
  rw[O,Int.mul_add,Int.mul_add,Int.mul_left_comm]
 rw[Y,Int.mul_add] at U;have e1:((B* 32768:Nat):Int) * E=B* (32768* E):=by rw[Int.natCast_mul,Int.mul_assoc];rfl
 have e2:k* ((ofD UB ((av UB b).take s.length)+B* y:Nat):Int)=k* (ofD UB ((av UB b).take s.length):Nat)+k* (B* y):=by
  rw[Int.natCast_add,Int.mul_add,Int.natCast_mul]
 show((ofD UB s+B* d:Nat):Int)+((B* 32768:Nat):Int) * E=_;rw[e1,e2,Int.natCast_add,Int.natCast_add,Int.natCast_mul,Int.natCast_mul];omega;simp only[bothS.eq_1];refine s_x [] (fun hs=>dJ) (fun hs=>?_) e_47
 ·repeat' (first|exact aA|refine h_c ?_ ?_|exact aF hs F (dt _)|exact br)
 have l:s.length=N:=by simp at h;omega
 refine aw ⟨s,⟨l,u,?_⟩,?_⟩;rw[l,List.take_of_length_le (by omega),List.take_of_length_le (by omega),bz (by decide),bz (by decide),<-hr] at f;have C:=fG u;rw[l] at C;obtain⟨B,hB⟩:∃B,B=UB^ N:=⟨_,rfl⟩;rw[<-hB] at f C T;rcases hc with rfl|rfl|rfl <;> omega
 have e:iE (List.replicate (N- s.length) 0++s.reverse)=iE s.reverse:=by rw[l];simp
 refine s_x [] (fun hs=>dJ) (fun hs=>e_48) ?_
 ·repeat' (first|exact ShrL.nil|refine ShrL.cons rfl rfl rfl rfl (by first|(exact congrArg List.length e)|rfl|(simp;done)|(simp <;> omega)) ?_)
 rintro s ⟨hs,u,f⟩;have Z:∀d∈s.reverse,d< UB:=fun d h=>u d (List.mem_reverse.1 h);have A:=jg s.reverse (by simp;omega);rw[fX Z,show hv s.reverse=r by unfold hv;rw[List.reverse_reverse];assumption] at A;have q:((iE s.reverse).drop 0).take N=iE s.reverse:=by rw[List.drop_zero,List.take_of_length_le (by simp;omega)]
 refine s_r 3 ?_;refine a_1 ?_;refine o_1 (.callS1 rfl rfl rfl (.shut rfl d_n (.nil)) rfl ((by rw[q];exact A))) ?_;refine a_z ?_;exact aj (t_e (eV _))
end Go.Proofs.YtiodeiecpoopgaaGreatDoor
