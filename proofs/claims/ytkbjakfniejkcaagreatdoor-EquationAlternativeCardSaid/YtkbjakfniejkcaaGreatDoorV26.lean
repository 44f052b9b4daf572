/- Part V26 of the proof. -/
import Derived.Test.YtkbjakfniejkcaaGreatDoorV25
import Derived.Lib.UnsafeStr
import Derived.Lib.Builder
import Derived.Shelf.RegionOpenPlain
import Derived.Lib.Strings
import Derived.Lib.Slices
import Derived.Lib.Walk
set_option linter.all false
namespace Go.Proofs.YtkbjakfniejkcaaGreatDoor
open Go.Abs
set_option maxRecDepth 20000
set_option maxHeartbeats 2000000
section
variable {r:Ren}{hp:Hq}{fr fr':Fr}{n:Nat}
theorem HJ{hp':Hq}(hs:Shr r hp hp')(h:CvF r hp hp' fr fr':=by repeat' (first|exact aP|refine ay rfl ?_ ?_|exact an hs (ag _)|exact Cv.sl rfl rfl rfl|exact Cv.sl rfl rfl (by rw[cv cz];rfl)|exact Cv.ptr rfl rfl rfl|exact Cv.ptr rfl (by assumption) rfl|(refine Cv.loE hs ?_ (ag _);simp[i64];done))):CvF r hp hp' fr fr':=h
def scS(M:Mx)(n:Nat):Nat->AState
 |c=>⟨[(0,.lsl 1 0 n (some n) 1),(6,.lptr 35 0 0),(7,i64 n),(10,.lptr 36 0 0),(83,i64 n),(84,i64 c)],rwH 37 36 (fun k=>aN (n+1) ((slM M n c).1 k)) n (sx1 n (slM M n c).2),40,209⟩
theorem j0{nx N:Nat}{R:Nat->Lq}{L:Ln}(hn:n<=30)(hF:Shr ⟨40,fun x=>x⟩ (ap (rwH 37 36 R n (sx1 n L))) (ap (rwH 37 36 R n (sx1 n L)))->CvF ⟨40,fun x=>x⟩ (ap (rwH 37 36 R n (sx1 n L))) (ap (rwH 37 36 R n (sx1 n L))) fr fr'):
    SEnt ⟨fr,rwH 37 36 R n (sx1 n L),nx,N⟩ ⟨fr',rwH 37 36 R n (sx1 n L),40,N⟩:=
 jH (x:=lvA L) (fun x=>x) hn rfl (fun _ _ _ _ e=>e) (cv cz) (fun i a=>dH cz hn a) rfl rfl (by
  cases L with
  |nil=>exact .inl ⟨rfl,rfl⟩
  |cons l L=>exact .inr ⟨by simp,rfl,rfl⟩) hF
theorem swx_two(a b i:Nat):swx (a+2) (b+2) (i+2)=swx a b i+2:=by
 unfold swx;by_cases h1:i=a;rw[if_pos (by omega),if_pos h1];rw[if_neg (by omega),if_neg h1];by_cases h2:i=b;rw[if_pos (by omega),if_pos h2];rw[if_neg (by omega),if_neg h2]
theorem swx_lt{a b i:Nat}(ha:a< n)(hb:b< n)(hi:i< n):swx a b i< n:=by unfold swx;split <;>(try split)<;> omega
theorem swM_row(A:Mx)(r p i:Nat):swM A r p i=A (swx p r i):=by
 funext j;unfold swM swx;by_cases h1:i=r;subst h1;by_cases h2:i=p;subst h2;simp;simp[h2];by_cases h2:i=p;subst h2;simp[h1];simp[h1,h2]
theorem lenA_lv(L:Ln):rX (lvA L)=some L.length:=by cases L <;> rfl
theorem neT{a b:Int}(h:a≠b):(a !=b)=true:=by simpa using h
theorem neF{a b:Int}(h:a=b):(a !=b)=false:=by simp[h]
theorem k9{hp':Hq}(hs:Shr r hp hp')(h:CvF r hp hp' fr fr':=by repeat' (first|exact aP|refine ay rfl ?_ ?_|exact an hs (ag _)|exact an hs (cN _)|exact an hs (bq (ac (ag _) af))|exact Cv.sl rfl rfl rfl|exact Cv.sl rfl rfl (by rw[cv cz];rfl)|exact Cv.ptr rfl rfl rfl|exact Cv.ptr rfl (by assumption) rfl|(refine Cv.loE hs ?_ (ag _);simp[i64];done))):CvF r hp hp' fr fr':=h
def scK(X:Mx)(n r c:Nat)(f:Rat)(L:Ln):Nat->AState
 |j=>⟨[(0,.lsl 1 0 n (some n) 1),(6,.lptr 35 0 0),(7,i64 n),(10,.lptr 36 0 0),(11,.aptr [[i64 c]] 0 0),(12,i64 r),(14,bQ f),(83,i64 n),(84,i64 c),(128,i64 ((n+1:Nat):Int)),(129,i64 j)],rwH 37 36 (fun k=>aN (n+1) (scJ X r f j k)) n (sx1 n L),40,209⟩
def rdK(Y:Mx)(n r c:Nat)(L:Ln):Nat->AState
 |i=>⟨[(0,.lsl 1 0 n (some n) 1),(6,.lptr 35 0 0),(7,i64 n),(10,.lptr 36 0 0),(11,.aptr [[i64 c]] 0 0),(12,i64 r),(83,i64 n),(84,i64 c),(149,i64 n),(150,i64 i)],rwH 37 36 (fun k=>aN (n+1) (rdJ Y r c i 0 k)) n (sx1 n L),40,209⟩
def rdI(Y:Mx)(n r c:Nat)(L:Ln)(i:Nat):Nat->AState
 |j=>⟨[(0,.lsl 1 0 n (some n) 1),(6,.lptr 35 0 0),(7,i64 n),(10,.lptr 36 0 0),(11,.aptr [[i64 c]] 0 0),(12,i64 r),(16,i64 i),(17,bQ (Y i c)),(83,i64 n),(84,i64 c),(149,i64 n),(150,i64 i),(172,i64 ((n+1:Nat):Int)),(173,i64 j)],rwH 37 36 (fun k=>aN (n+1) (rdJ Y r c i j k)) n (sx1 n L),40,209⟩
theorem Gg{TS TQ:Nat}{R R':Nat->Lq}{ex:Hp}(h:∀k,k< n->R k=R' k):rwH TS TQ R n ex=rwH TS TQ R' n ex:=by
 unfold rwH;rw[fU (R':=R') (s':=fun x=>x) fun k a=>⟨by rw[h k a],rfl⟩,show rwL R n=rwL R' n from List.map_congr_left fun k a=>by rw[h k (List.mem_range.1 a)]]
theorem EP{nx N i j e:Nat}{X:Mx}{v:Rat}{L:Ln}(hn:n<=30)(hi:i< n)(hj:j< n+1)(he:e=j)(hF:Shr ⟨40,fun x=>x⟩ (ap ((i+2,some ⟨36,3,(pE (aN (n+1) (X i))).set e (qC v)⟩)::rwH 37 36 (fun k=>aN (n+1) (X k)) n (sx1 n L))) (ap (rwH 37 36 (fun k=>aN (n+1) (puM X i j v k)) n (sx1 n L)))->CvF ⟨40,fun x=>x⟩ (ap ((i+2,some ⟨36,3,(pE (aN (n+1) (X i))).set e (qC v)⟩)::rwH 37 36 (fun k=>aN (n+1) (X k)) n (sx1 n L))) (ap (rwH 37 36 (fun k=>aN (n+1) (puM X i j v k)) n (sx1 n L))) fr fr'):
    SEnt ⟨fr,(i+2,some ⟨36,3,(pE (aN (n+1) (X i))).set e (qC v)⟩)::rwH 37 36 (fun k=>aN (n+1) (X k)) n (sx1 n L),nx,N⟩ ⟨fr',rwH 37 36 (fun k=>aN (n+1) (puM X i j v k)) n (sx1 n L),40,N⟩:=by
 refine jH (x:=lvA L) (fun x=>x) hn rfl (fun _ _ _ _ e=>e) ?_ ?_ ?_ ?_ ?_ hF;rw[bY (by omega),cv cz,fU (R':=fun k=>aN (n+1) (puM X i j v k)) (s':=fun x=>x)];exact fun k a=>⟨by simp,rfl⟩;intro k a;by_cases h:k=i;subst h;rw[<-puM_set hj e he,di,bh];rw[bY (by omega),dH cz (by omega) a,puM_ne h];rw[bY (by omega)];rfl;rw[bY (by omega)];rfl;cases L with
 |nil=>exact .inl ⟨rfl,rfl⟩
 |cons l L=>exact .inr ⟨by simp,rfl,by rw[bY (by omega)];rfl⟩
def syV(n:Nat)(p:Mx×Ln):AV:= .agg [.arr (mE ((List.range n).map fun k=>aN (n+1) (p.1 k))),.arr (lvE p.2),i64 n]
theorem vV{l:Lc}(hn:n=l.length)(hc:∀e∈l,∀c∈e,Closed c):CvLL r hp (fun _=>none) ((l.drop 0).take n) l:=by
 rw[List.drop_zero,hn,List.take_length];exact bm aA hc
theorem kW{x:Nat}(h:x≠37):cond (Nat.beq x 37) 44 x=x:=by
 cases e:Nat.beq x 37 with
 |false=>rfl
 |true=>exact absurd (Nat.eq_of_beq_eq_true e) h
theorem EN(hn:n<=30)(i j:Nat)(h1:InX n i)(h2:InX n j)(e:cond (Nat.beq i 37) 44 i=cond (Nat.beq j 37) 44 j):i=j:=by
 unfold InX at h1 h2;by_cases a:i=37;by_cases b:j=37;rw[a,b];rw[a,kW b] at e;have e:(44:Nat)=j:=e;omega;by_cases b:j=37;rw[b,kW a] at e;have e:i=(44:Nat):=e;omega;rw[kW a,kW b] at e;exact e
theorem sv_cols(M:Mx)(n B:Nat)(hn:n<=25)(hB:B<=100000000000)(hq:∀c,c<=n->∀i j,i< n->j<=n->qs ((slM M n c).1 i j)<=B):
    AWp none Tryz.prog svRest (Fin Tryz.prog Tryz.f73.results.toList (syV n (slM M n n))) ⟨[(0,.lsl 1 0 n (some n) 1),(6,.lptr 35 0 0),(7,i64 n)],rwH 37 36 (fun k=>aN (n+1) (M k)) n sx0,40,209⟩:=by
 unfold svRest;refine r_z 5 ?_;refine ae (r_z 2 ?_);refine aF (fun _:Unit=>scS M n n) (fun _=>True) ?_ ?_
 ·refine aj (aC (scS M n) (fun c=>n- c) (fun c=>c<=n) 0 (Nat.zero_le _) ?_ ?_)
  rw[scS.eq_1];refine jH (L:=[]) (x:= .emp) (fiR 34 43) (by omega) (BJ _ _) (fun x y hx hy e=>qW (m:=40) (Nat.le_refl _) (by decide) x y (sU (by omega) hx) (sU (by omega) hy) e) ?_ ?_ rfl rfl (.inl ⟨rfl,rfl⟩) fun hs=>HJ hs
  ·rw[BI]
   repeat rw[bY (by decide)]
   rw[cv ew,fU (R':=fun k=>aN (n+1) ((slM M n 0).1 k)) (s':=fiR 34 43)];exact fun k g=>⟨by simp,(jc (by omega)).symm⟩
  ·intro k g
   rw[jc (by omega)]
   repeat rw[bY (by omega)]
   exact dH ew (by omega) g
  intro c hc;rw[scS.eq_1];by_cases hlt:c< n;rotate_left;have o:c=n:=by omega
  subst o;refine q_z 1 ?_;refine ae (cF (ax ⟨(),trivial,?_⟩));exact j0 (by omega) fun hs=>HJ hs;refine q_z 1 ?_;refine ae (cT (am (ae (aj (r_z 3 ?_)))));have hE:=dh M n c;have C:=hq c hc;obtain⟨⟨A,L⟩,w⟩:∃p,p=slM M n c:=⟨_,rfl⟩;rw[<-w] at hE C⊢;simp only at hE C⊢;have hLl:L.length<=c:=hE.len;refine AWp.ent (st':=⟨[(0,.lsl 1 0 n (some n) 1),(6,.lptr 35 0 0),(7,i64 n),(10,.lptr 36 0 0),(11,.aptr [[i64 c]] 0 0),(83,i64 n),(84,i64 c)],rwH 37 36 (fun k=>aN (n+1) (A k)) n (sx1 n L),40,209⟩) ?_ ?_;refine jH (x:=lvA L) (fun x=>x) (by omega) rfl (fun _ _ _ _ e=>e) ?_ ?_ rfl rfl ?_ ?_
  ·repeat rw[bY (by decide)]
   exact cv cz
  ·intro k g
   repeat rw[bY (by omega)]
   exact dH cz (by omega) g
  cases L with
  |nil=>exact .inl ⟨rfl,rfl⟩
  |cons l L=>exact .inr ⟨by simp,rfl,rfl⟩
  intro hs
  have hd:wx ⟨40,fun x=>x⟩ (ap (rwH 37 36 (fun k=>aN (n+1) (A k)) n (sx1 n L))) 42:=fun j B r e=>by
   obtain⟨h0⟩:=hs;have h1:j< 40:=(h0 j B r).1;have e:j=42:=e;omega
  exact ay rfl (Cv.sl rfl rfl (by rw[cv cz];rfl)) (ay rfl (Cv.ptr rfl rfl rfl) (ay rfl (an hs (ag _)) (ay rfl (Cv.ptr rfl rfl rfl) (ay rfl (Cv.boxp hs rfl hd rfl (ac (ag _) af)) (ay rfl (an hs (ag _)) (ay rfl (an hs (ag _)) aP))))));have u:dQ (ap (rwH 37 36 (fun k=>aN (n+1) (A k)) n (sx1 n L))) 36=some ⟨113,3,[[.lsl 1 0 n (some n) 1,lvA L,i64 n]]⟩:=rfl;refine s_r 4 ?_;refine a_1 ?_;refine o_0 (.load_l1 rfl u rfl TG.h rfl) ?_;refine o_0 (.len rfl rfl rfl rfl (lenA_lv L) te_77.h) ?_;refine a_z ?_;have hcl:Closed (.clos 136 [] [.aptr [[i64 c]] 0 0]):=aR af (ac (bq (ac (ag _) af)) af);have s:=fs_lead (fun k=>aN (n+1) (A k)) n (0+L.length) c (by omega) (fun i J=>by simp;omega);rw[idx_pv A n (0+L.length) c (by omega) (by omega)] at s;refine s_r 6 ?_;refine a_2 ?_;refine o_0 (.slice_l (l:=L.length) (h:=n) rfl ⟨⟨_,rfl,.inr ⟨_,_,rfl,rfl⟩⟩,⟨_,rfl,.inl ⟨rfl,rfl,rfl⟩⟩,⟨_,rfl,.inl ⟨rfl,rfl⟩⟩⟩ (by omega) (Nat.le_refl _) (.inr (by omega)) te_111.h) ?_;refine a_1 ?_;refine o_0 (.callV (rd:=rwI n) (rr:=⟨0,fun i=>i⟩) rfl rfl rfl (fun hp' hh=>ah (Kp hh (cv cz) (fun i J=>dH cz (by omega) J) (by omega)) (ah (an aA hcl) av)) s) ?_;refine a_z ?_;have e0:0+L.length=L.length:=by omega
  cases hp:pvR A n (0+L.length) c with
  |none=>
   simp only[hp];refine ae (s_r 2 ?_);refine a_1 ?_;refine o_0 (.bin rfl rfl (vT ej (decide_eq_true (by decide)))) ?_;refine aq ?_;refine cT (ax (r_m 2 ?_));refine a_z ?_;refine⟨c+1,by omega,by omega,?_⟩
   have v:slM M n (c+1)=(A,L):=by
    rw[e0] at hp;rw[slM,<-w];show slC A n L c=_;unfold slC;rw[hp]
   rw[scS.eq_1,v];exact j0 (by omega) fun hs=>HJ hs
  |some p=>
   simp only[hp];refine ae (q_z 2 ?_);refine cF (am ?_);obtain⟨p1,p2,p3⟩:=j6 hp;have S:∀e,e=p->(rwO (fun k=>aN (n+1) (A k)) (fun x=>x) n)[e]?=some [.lsl (p+2) 0 (n+1) none 3]:=fun e d=>by rw[em p1 e d];simp
   have G:∀e,e=L.length->(rwO (fun k=>aN (n+1) (A k)) (fun x=>x) n)[e]?=some [.lsl (L.length+2) 0 (n+1) none 3]:=fun e d=>by rw[em (by omega:L.length< n) e d];simp
   have hst:∀a b,a=L.length->b=p->((rwO (fun k=>aN (n+1) (A k)) (fun x=>x) n).set a [.lsl (p+2) 0 (n+1) none 3])[b]?=some [.lsl (p+2) 0 (n+1) none 3]:=fun a b ha hb=>by
    rw[List.getElem?_set];split;rw[if_pos (by rw[pk];omega)];exact S b hb
   have ho:=ei (cv (TS:=37) (TQ:=36) (n:=n) (R:=fun k=>aN (n+1) (A k)) (cz (n:=n) (L:=L))) (show(1:Nat)≠0 by decide);refine ae (r_d a7 20 ?_);refine a_8 ?_;refine a_3 ?_;refine o_0 (.load_l1 rfl ho (S _ (by omega)) TG.h rfl) ?_;refine a_3 ?_;refine o_0 (.load_l1 rfl ho (G _ (by omega)) TG.h rfl) ?_;refine a_1 ?_;refine eF (.store rfl ho (G _ (by omega)) rfl rfl rfl TS.h (nle rfl)) ?_;refine a_1 ?_;refine eF (.store rfl rfl (hst _ _ (by omega) (by omega)) rfl rfl rfl TS.h (nle rfl)) ?_;refine aq (n_k ?_);refine AWp.ent (st':=⟨[(0,.lsl 1 0 n (some n) 1),(6,.lptr 35 0 0),(7,i64 n),(10,.lptr 36 0 0),(11,.aptr [[i64 c]] 0 0),(12,i64 L.length),(83,i64 n),(84,i64 c)],rwH 37 36 (fun k=>aN (n+1) (swM A L.length p k)) n (sx1 n L),40,209⟩) ?_ ?_;have q0:swx (p+2) (L.length+2) 0=0:=pi (by omega) (by omega);have q1:swx (p+2) (L.length+2) 1=1:=pi (by omega) (by omega);have V:swx (p+2) (L.length+2) 35=35:=pi (by omega) (by omega);have q36:swx (p+2) (L.length+2) 36=36:=pi (by omega) (by omega);have q37:swx (p+2) (L.length+2) 37=37:=pi (by omega) (by omega);refine jH (x:=lvA L) (swx (p+2) (L.length+2)) (by omega) q0 (fun _ _ _ _ e=>swx_inj e) ?_ ?_ ?_ ?_ ?_ ?_;rw[q1,fU (R':=fun i=>aN (n+1) (A (swx p L.length i))) (s':=swx (p+2) (L.length+2)) (fun k g=>⟨by simp,rfl⟩),<-HT (R:=fun k=>aN (n+1) (A k)) p1 (by omega:L.length< n) (0+((L.length:Nat):Int).toNat) (0+(((L.length:Nat):Int)+((p- (0+L.length):Nat):Int)).toNat) (by omega) (by omega)];simp only[sX];rfl
   ·intro i J
    rw[swx_two,swM_row]
    repeat rw[bY (by omega)]
    exact dH (R:=fun k=>aN (n+1) (A k)) cz (by omega) (swx_lt p1 (by omega) J)
   rw[V];rfl;rw[q36,q1];rfl;cases L with
   |nil=>exact .inl ⟨rfl,rfl⟩
   |cons l L=>exact .inr ⟨by simp,by rw[q37];rfl,by rw[q37];rfl⟩
   intro hs;exact ay rfl (Cv.sl rfl q1 (by rw[cv cz];rfl)) (ay rfl (Cv.ptr rfl V rfl) (ay rfl (an hs (ag _)) (ay rfl (Cv.ptr rfl q36 rfl) (ay rfl (an hs (bq (ac (ag _) af))) (ay rfl (Cv.loE hs (by simp[i64]) (ag _)) (ay rfl (an hs (ag _)) (ay rfl (an hs (ag _)) aP)))))));have K:=jZ (TS:=37) (TQ:=36) (R:=fun k=>aN (n+1) (swM A L.length p k)) (cz (n:=n) (L:=L)) (by omega:n<=30) (by omega:L.length< n);have Q:=ei (cv (TS:=37) (TQ:=36) (n:=n) (R:=fun k=>aN (n+1) (swM A L.length p k)) (cz (n:=n) (L:=L))) (show(1:Nat)≠0 by decide);have T:∀e,e=L.length->(rwO (fun k=>aN (n+1) (swM A L.length p k)) (fun x=>x) n)[e]?=some [.lsl (L.length+2) 0 (n+1) none 3]:=fun e d=>by rw[em (by omega:L.length< n) e d];simp
   have hx:swM A L.length p L.length c=A p c:=by simp[swM]
   have o:∀e,e=c->(pE (aN (n+1) (swM A L.length p L.length)))[e]?=some (qC (A p c)):=fun e d=>by
    subst d;simp[pE,aN,show e< n+1 by omega,hx]
   have hi1:=dU 1 (by decide);have hq1:qs ((1:Int):Rat)<=1:=by decide
   have hov:=lF ((1:Int):Rat) (A p c) p3 (by have:=C p c p1 (by omega);omega);refine ae (r_d a7 11 ?_);refine c_s (hi1) ?_;refine a_3 ?_;refine o_0 (.load_l1 rfl Q (T _ (by omega)) TG.h rfl) ?_;refine a_2 ?_;refine o_0 (.load_l rfl K (o _ (by omega)) TG.h TS.h (nle rfl)) ?_;refine c_s (hov) ?_;refine a_2 ?_;refine aq ⟨u0 (fps0:=[([],[]),([],[]),([],[]),([],[]),([],[]),([],[]),([],[]),([],[]),([],[]),([49],[]),([49],[49])]) (by kernel_rfl) (lessF.zz (lessF.zz (lessF.zz (lessF.zz (lessF.rd (by omega) (lessF.zz (lessF.zz (lessF.rd (by omega) (lessF.zz (lessF.al rfl (show 40<=49 by decide) (lessF.st rfl (show 40<=49 by decide) lessF.nil))))))))))),?_⟩;refine AWp.ent (st':=⟨[(0,.lsl 1 0 n (some n) 1),(6,.lptr 35 0 0),(7,i64 n),(10,.lptr 36 0 0),(11,.aptr [[i64 c]] 0 0),(12,i64 L.length),(14,bQ (((1:Int):Rat) / A p c)),(83,i64 n),(84,i64 c)],rwH 37 36 (fun k=>aN (n+1) (swM A L.length p k)) n (sx1 n L),40,209⟩) ?_ ?_;refine jH (x:=lvA L) (fun x=>x) (by omega) rfl (fun _ _ _ _ e=>e) ?_ ?_ rfl rfl ?_ ?_
   ·repeat rw[bY (by decide)]
    exact cv cz
   ·intro k g
    repeat rw[bY (by omega)]
    exact dH (R:=fun k=>aN (n+1) (swM A L.length p k)) cz (by omega) g
   cases L with
   |nil=>exact .inl ⟨rfl,rfl⟩
   |cons l L=>exact .inr ⟨by simp,rfl,rfl⟩
   intro hs
   have hd:wx ⟨40,fun x=>x⟩ (ap (rwH 37 36 (fun k=>aN (n+1) (swM A L.length p k)) n (sx1 n L))) 49:=fun j B r e=>by
    obtain⟨h0⟩:=hs;have h1:j< 40:=(h0 j B r).1;have e:j=49:=e;omega
   exact ay rfl (Cv.sl rfl rfl (by rw[cv cz];rfl)) (ay rfl (Cv.ptr rfl rfl rfl) (ay rfl (an hs (ag _)) (ay rfl (Cv.ptr rfl rfl rfl) (ay rfl (an hs (bq (ac (ag _) af))) (ay rfl (an hs (ag _)) (ay rfl (Cv.boxp hs rfl hd rfl (bC _)) (ay rfl (an hs (ag _)) (ay rfl (an hs (ag _)) aP))))))));refine ae (s_r 6 ?_);refine a_3 ?_;refine o_0 (.load_l1 rfl Q (T _ (by omega)) TG.h rfl) ?_;refine a_z ?_;obtain⟨X,hX⟩:∃X,X=swM A L.length p:=⟨_,rfl⟩;obtain⟨f,hf⟩:∃f,f=((1:Int):Rat) / A p c:=⟨_,rfl⟩;rw[<-hX,<-hf];have hqX:∀i j,i< n->j<=n->qs (X i j)<=B:=by rw[hX];exact bd_sw C (by omega) p1
   have hqf:qs f<=B+1:=by
    rw[hf];have h1:=ik ((1:Int):Rat) (A p c);have h2:=C p c p1 (by omega);omega
   have v:slM M n (c+1)=(rdM (scM X L.length f) L.length c,L++[c]):=by
    rw[slM,<-w];show slC A n L c=_;unfold slC;rw[e0] at hp;rw[hp,hX,hf,show((1:Int):Rat)=1 by decide]
   have hqY:∀i j,i< n->j<=n->qs (rdM (scM X L.length f) L.length c i j)<=B:=by
    have:=hq (c+1) (by omega);rw[v] at this;exact this
   have q:L.length< n:=by omega
   clear K Q T hx o hi1 hq1 hov S G hst ho hE s;refine aF (fun _:Unit=>scK X n L.length c f L (n+1)) (fun _=>True) ?_ ?_
   ·refine aj (aC (scK X n L.length c f L) (fun j=>n+1- j) (fun j=>j<=n+1) 0 (Nat.zero_le _) ?_ ?_)
    rw[scK.eq_1,scJ_0];exact j0 (by omega) fun hs=>k9 hs;intro j r;rw[scK.eq_1];by_cases hjn:j< n+1;rotate_left;have o:j=n+1:=by omega
    subst o;refine q_z 1 ?_;refine ae (cF (ax ⟨(),trivial,?_⟩));exact j0 (by omega) fun hs=>k9 hs;refine q_z 1 ?_;refine ae (cT (am (ae (aj (r_z 2 ?_)))));have U:=c6 (X L.length j) f (by have:=hqX L.length j (by omega) (by omega);omega);have H:=jZ (TS:=37) (TQ:=36) (R:=fun k=>aN (n+1) (scJ X L.length f j k)) (cz (n:=n) (L:=L)) (by omega:n<=30) q;have F:=ei (cv (TS:=37) (TQ:=36) (n:=n) (R:=fun k=>aN (n+1) (scJ X L.length f j k)) (cz (n:=n) (L:=L))) (show(1:Nat)≠0 by decide);have z:∀e,e=L.length->(rwO (fun k=>aN (n+1) (scJ X L.length f j k)) (fun x=>x) n)[e]?=some [.lsl (L.length+2) 0 (n+1) none 3]:=fun e d=>by rw[em q e d];simp
    have W:∀e,e=j->(pE (aN (n+1) (scJ X L.length f j L.length)))[e]?=some (qC (X L.length j)):=fun e d=>by rw[dx hjn e d,scJ_at]
    refine r_d a7 16 ?_;refine a_3 ?_;refine o_0 (.load_l1 rfl F (z _ (by omega)) TG.h rfl) ?_;refine a_4 ?_;refine o_0 (.load_l1 rfl F (z _ (by omega)) TG.h rfl) ?_;refine a_2 ?_;refine o_0 (.load_l rfl H (W _ (by omega)) TG.h TS.h (nle rfl)) ?_;refine c_s (U) ?_;refine a_1 ?_;refine eF (.store rfl H (W _ (by omega)) rfl rfl rfl TS.h (nle rfl)) ?_;refine aq (n_k ?_);refine r_m 2 ?_;refine a_z ?_;refine⟨j+1,by omega,by omega,?_⟩;rw[scK.eq_1,scJ_s];exact EP (by omega) q hjn (by omega) fun hs=>k9 hs
   rintro _ _;show AWp _ _ _ _ (scK X n L.length c f L (n+1));rw[scK.eq_1,show(fun k=>aN (n+1) (scJ X L.length f (n+1) k))=fun k=>aN (n+1) (scM X L.length f k) from funext fun k=>uU fun j r=>scJ_n k j r];obtain⟨Y,hY⟩:∃Y,Y=scM X L.length f:=⟨_,rfl⟩
   have D:∀i j,i< n->j<=n->qs (Y i j)<=B:=fun i j J r=>by
    rw[hY];by_cases e:i=L.length;subst e;have:=hqY L.length j J r;rwa[show rdM (scM X L.length f) L.length c L.length j=scM X L.length f L.length j from if_pos rfl] at this;rw[show scM X L.length f i j=X i j from if_neg e];exact hqX i j J r
   rw[<-hY] at v⊢;refine ae (r_z 3 ?_);refine aF (fun _:Unit=>rdK Y n L.length c L n) (fun _=>True) ?_ ?_
   ·refine aj (aC (rdK Y n L.length c L) (fun i=>n- i) (fun i=>i<=n) 0 (Nat.zero_le _) ?_ ?_)
    rw[rdK.eq_1,rdJ_0];exact j0 (by omega) fun hs=>k9 hs;intro i J;rw[rdK.eq_1];by_cases hin:i< n;rotate_left;have o:i=n:=by omega
    rw[o];refine q_z 1 ?_;refine ae (cF (ax ⟨(),trivial,?_⟩));exact j0 (by omega) fun hs=>k9 hs;refine q_z 1 ?_;refine ae (cT (am (ae (aj (r_z 2 ?_)))));have H:=jZ (TS:=37) (TQ:=36) (R:=fun k=>aN (n+1) (rdJ Y L.length c i 0 k)) (cz (n:=n) (L:=L)) (by omega:n<=30) hin;have F:=ei (cv (TS:=37) (TQ:=36) (n:=n) (R:=fun k=>aN (n+1) (rdJ Y L.length c i 0 k)) (cz (n:=n) (L:=L))) (show(1:Nat)≠0 by decide);have z:∀e,e=i->(rwO (fun k=>aN (n+1) (rdJ Y L.length c i 0 k)) (fun x=>x) n)[e]?=some [.lsl (i+2) 0 (n+1) none 3]:=fun e d=>by rw[em hin e d];simp
    have hgc:∀e,e=c->(pE (aN (n+1) (rdJ Y L.length c i 0 i)))[e]?=some (qC (Y i c)):=fun e d=>by rw[rdJ_c];exact dx (by omega) e d
    refine ae (r_d a7 9 ?_);refine a_3 ?_;refine o_0 (.load_l1 rfl F (z _ (by omega)) TG.h rfl) ?_;refine a_2 ?_;refine o_0 (.load_l rfl H (hgc _ (by omega)) TG.h TS.h (nle rfl)) ?_;refine a_2 ?_;refine aq ⟨u0 (fps0:=[([],[]),([],[]),([],[]),([],[]),([],[]),([],[]),([],[]),([50],[]),([50],[50])]) (by kernel_rfl) (lessF.zz (lessF.zz (lessF.zz (lessF.rd (by omega) (lessF.zz (lessF.zz (lessF.rd (by omega) (lessF.al rfl (show 40<=50 by decide) (lessF.st rfl (show 40<=50 by decide) lessF.nil))))))))),?_⟩;refine AWp.ent (st':=⟨[(0,.lsl 1 0 n (some n) 1),(6,.lptr 35 0 0),(7,i64 n),(10,.lptr 36 0 0),(11,.aptr [[i64 c]] 0 0),(12,i64 L.length),(16,i64 i),(17,bQ (Y i c)),(83,i64 n),(84,i64 c),(149,i64 n),(150,i64 i)],rwH 37 36 (fun k=>aN (n+1) (rdJ Y L.length c i 0 k)) n (sx1 n L),40,209⟩) ?_ ?_;refine jH (x:=lvA L) (fun x=>x) (by omega) rfl (fun _ _ _ _ e=>e) ?_ ?_ rfl rfl ?_ ?_
    ·repeat rw[bY (by decide)]
     exact cv cz
    ·intro k g
     repeat rw[bY (by omega)]
     exact dH cz (by omega) g
    cases L with
    |nil=>exact .inl ⟨rfl,rfl⟩
    |cons l L=>exact .inr ⟨by simp,rfl,rfl⟩
    intro hs
    have hd:wx ⟨40,fun x=>x⟩ (ap (rwH 37 36 (fun k=>aN (n+1) (rdJ Y L.length c i 0 k)) n (sx1 n L))) 50:=fun j B r e=>by
     obtain⟨h0⟩:=hs;have h1:j< 40:=(h0 j B r).1;have e:j=50:=e;omega
    exact ay rfl (Cv.sl rfl rfl (by rw[cv cz];rfl)) (ay rfl (Cv.ptr rfl rfl rfl) (ay rfl (an hs (ag _)) (ay rfl (Cv.ptr rfl rfl rfl) (ay rfl (an hs (bq (ac (ag _) af))) (ay rfl (an hs (ag _)) (ay rfl (an hs (ag _)) (ay rfl (Cv.boxp hs rfl hd rfl (bC _)) (ay rfl (an hs (ag _)) (ay rfl (an hs (ag _)) (ay rfl (an hs (ag _)) (ay rfl (an hs (ag _)) aP)))))))))));by_cases hir:i=L.length;refine s_r 8 ?_;refine a_2 ?_;refine o_0 (.bin rfl rfl (vF ct (neF (by omega)))) ?_;refine a_1 ?_;refine n_g rfl d_f ?_;refine n_g rfl d_f ?_;refine n_g rfl d_f ?_;refine o_0 (.pickF rfl d_f rfl) ?_;refine aq ?_;refine cF (am (r_m 2 ?_));refine a_z ?_;refine⟨i+1,by omega,by omega,?_⟩;rw[rdK.eq_1,AF (.inl hir)];exact j0 (by omega) fun hs=>k9 hs;by_cases hic:Y i c=0;refine s_r 8 ?_;refine a_2 ?_;refine o_0 (.bin rfl rfl (vT ct (neT (by omega)))) ?_;refine a_1 ?_
    first|refine y_g rfl d_t (.load_l rfl rfl rfl TG.h TS.h (nle rfl)) ?_|refine y_g rfl d_t (.load_a rfl rfl TG.h TS.h (nle rfl)) ?_
    refine y_g rfl d_t (.call rfl rfl rfl (cC (Y i c))) ?_;refine y_g rfl d_t (.bin rfl rfl (vF ct (neF (sgZ_num_eq.2 hic)))) ?_;refine o_0 (.pickT rfl d_t rfl) ?_;refine aq ?_;refine cF (am (r_m 2 ?_));refine a_z ?_;refine⟨i+1,by omega,by omega,?_⟩;rw[rdK.eq_1,AF (.inr hic)];exact j0 (by omega) fun hs=>k9 hs;refine s_r 8 ?_;refine a_2 ?_;refine o_0 (.bin rfl rfl (vT ct (neT (by omega)))) ?_;refine a_1 ?_
    first|refine y_g rfl d_t (.load_l rfl rfl rfl TG.h TS.h (nle rfl)) ?_|refine y_g rfl d_t (.load_a rfl rfl TG.h TS.h (nle rfl)) ?_
    refine y_g rfl d_t (.call rfl rfl rfl (cC (Y i c))) ?_;refine y_g rfl d_t (.bin rfl rfl (vT ct (neT (mt sgZ_num_eq.1 hic)))) ?_;refine o_0 (.pickT rfl d_t rfl) ?_;refine aq ?_;refine cT (s_r 6 ?_);refine a_3 ?_;refine o_0 (.load_l1 rfl F (z _ (by omega)) TG.h rfl) ?_;refine a_z ?_;refine AWp.cutB (fun _:Unit=>rdI Y n L.length c L i (n+1)) (fun _=>True) ?_ ?_
    ·refine aj (aC (rdI Y n L.length c L i) (fun j=>n+1- j) (fun j=>j<=n+1) 0 (Nat.zero_le _) ?_ ?_)
     rw[rdI.eq_1];exact j0 (by omega) fun hs=>k9 hs;intro j r;rw[rdI.eq_1];by_cases hjn:j< n+1;rotate_left;have o:j=n+1:=by omega
     subst o;refine q_z 1 ?_;refine ae (cF (ax ⟨(),trivial,?_⟩));exact j0 (by omega) fun hs=>k9 hs;refine q_z 1 ?_;refine ae (cT (am (ae (aj (r_z 2 ?_)))));have U:=c6 (Y i c) (Y L.length j) (by have:=D i c hin (by omega);have:=D L.length j q (by omega);omega);have hsu:=jC (Y i j) (Y i c* Y L.length j) (by have:=D i c hin (by omega);have:=D L.length j q (by omega);have:=D i j hin (by omega);have:=dw (Y i c) (Y L.length j);omega);have N:=jZ (TS:=37) (TQ:=36) (R:=fun k=>aN (n+1) (rdJ Y L.length c i j k)) (cz (n:=n) (L:=L)) (by omega:n<=30) hin;have Z:=jZ (TS:=37) (TQ:=36) (R:=fun k=>aN (n+1) (rdJ Y L.length c i j k)) (cz (n:=n) (L:=L)) (by omega:n<=30) q;have O:=ei (cv (TS:=37) (TQ:=36) (n:=n) (R:=fun k=>aN (n+1) (rdJ Y L.length c i j k)) (cz (n:=n) (L:=L))) (show(1:Nat)≠0 by decide);have hg5:∀e,e=i->(rwO (fun k=>aN (n+1) (rdJ Y L.length c i j k)) (fun x=>x) n)[e]?=some [.lsl (i+2) 0 (n+1) none 3]:=fun e d=>by rw[em hin e d];simp
     have hg6:∀e,e=L.length->(rwO (fun k=>aN (n+1) (rdJ Y L.length c i j k)) (fun x=>x) n)[e]?=some [.lsl (L.length+2) 0 (n+1) none 3]:=fun e d=>by rw[em q e d];simp
     have hgi:∀e,e=j->(pE (aN (n+1) (rdJ Y L.length c i j i)))[e]?=some (qC (Y i j)):=fun e d=>by rw[dx hjn e d,rdJ_at]
     have G:∀e,e=j->(pE (aN (n+1) (rdJ Y L.length c i j L.length)))[e]?=some (qC (Y L.length j)):=fun e d=>by rw[dx hjn e d,rdJ_r]
     refine r_d a7 24 ?_;refine a_3 ?_;refine o_0 (.load_l1 rfl O (hg5 _ (by omega)) TG.h rfl) ?_;refine a_4 ?_;refine o_0 (.load_l1 rfl O (hg5 _ (by omega)) TG.h rfl) ?_;refine a_2 ?_;refine o_0 (.load_l rfl N (hgi _ (by omega)) TG.h TS.h (nle rfl)) ?_;refine a_4 ?_;refine o_0 (.load_l1 rfl O (hg6 _ (by omega)) TG.h rfl) ?_;refine a_2 ?_;refine o_0 (.load_l rfl Z (G _ (by omega)) TG.h TS.h (nle rfl)) ?_;refine c_s (U) ?_;refine c_s (hsu) ?_;refine a_1 ?_;refine eF (.store rfl N (hgi _ (by omega)) rfl rfl rfl TS.h (nle rfl)) ?_;refine aq (n_k ?_);refine r_m 2 ?_;refine a_z ?_;refine⟨j+1,by omega,by omega,?_⟩;rw[rdI.eq_1,rdJ_s hir];exact EP (by omega) hin hjn (by omega) fun hs=>k9 hs
    rintro _ _;show AWp _ _ _ _ (rdI Y n L.length c L i (n+1));rw[rdI.eq_1,show(fun k=>aN (n+1) (rdJ Y L.length c i (n+1) k))=fun k=>aN (n+1) (rdJ Y L.length c (i+1) 0 k) from funext fun k=>uU fun j r=>rdJ_n i k j r];refine r_m 2 ?_;refine a_z ?_;refine⟨i+1,by omega,by omega,?_⟩;rw[rdK.eq_1];exact j0 (by omega) fun hs=>k9 hs
   rintro _ _;show AWp _ _ _ _ (rdK Y n L.length c L n);rw[rdK.eq_1,Gg (R:=fun k=>aN (n+1) (rdJ Y L.length c n 0 k)) (R':=fun k=>aN (n+1) (rdM Y L.length c k)) fun k g=>(uU fun j _=>rdJ_end g j:rT n (rdJ Y L.length c n 0) k=rT n (rdM Y L.length c) k)];have u:dQ (ap (rwH 37 36 (fun k=>aN (n+1) (rdM Y L.length c k)) n (sx1 n L))) 36=some ⟨113,3,[[.lsl 1 0 n (some n) 1,lvA L,i64 n]]⟩:=rfl;cases L with
   |nil=>
    refine r_m 7 ?_;refine a_1 ?_;refine o_0 (.load_l1 rfl u rfl TG.h rfl) ?_;refine a_2 ?_
    first|refine AR.op2 (.append_l rfl rfl rfl te_77.h rfl rfl rfl rfl rfl d_o (by first|exact dV _|exact dT _|exact dy _|exact dX _|exact dS _|assumption|rfl|simp) (by first|rfl|exact dV _|exact dT _|exact dy _|exact dX _|exact dS _|simp) rfl (.lsl rfl (nle rfl)) TZ.h rfl TB.h d_o (by first|(simp[maxLen];done)|(simp[maxLen];omega))) rfl rfl ?_|refine AR.op1 (.append_e rfl rfl rfl te_77.h rfl rfl rfl (.lsl rfl (nle rfl)) (by first|assumption|(simp;done)) TZ.h rfl TB.h d_o (by first|(simp[maxLen];done)|(simp[maxLen];omega))) rfl rfl ?_
    refine a_z ?_;refine r_m 2 ?_;refine a_z ?_;refine⟨c+1,by omega,by omega,?_⟩;rw[scS.eq_1,v];refine jH (x:= .lsl 44 0 1 none 1) (fun x=>cond (Nat.beq x 37) 44 x) (by omega) rfl (EN (by omega)) ?_ ?_ rfl rfl (.inr ⟨by simp,rfl,rfl⟩) fun hs=>k9 hs
    ·rw[kW (by decide)]
     repeat rw[bY (by decide)]
     rw[cv cz,fU (R':=fun k=>aN (n+1) (rdM Y ([]:Ln).length c k)) (s':=fun x=>cond (Nat.beq x 37) 44 x)];exact fun k g=>⟨rfl,(kW (by omega)).symm⟩
    ·intro k g
     rw[kW (by omega)]
     repeat rw[bY (by omega)]
     exact dH (R:=fun k=>aN (n+1) (rdM Y ([]:Ln).length c k)) cz (by omega) g
   |cons l L=>
    have hLs:L.length+1< n:=q;refine r_m 7 ?_;refine a_1 ?_;refine o_0 (.load_l1 rfl u rfl TG.h rfl) ?_;refine a_z ?_;refine r_m 2 ?_;refine a_z ?_;refine⟨c+1,by omega,by omega,?_⟩;rw[scS.eq_1,v];refine jH (x:= .lsl 44 0 (L.length+1+1) none 1) (fun x=>cond (Nat.beq x 37) 44 x) (by omega) rfl (EN (by omega)) ?_ ?_ rfl rfl (.inr ⟨by simp,by simp,by rw[IE];rfl⟩) fun hs=>k9 hs
    ·rw[kW (by decide)]
     repeat rw[bY (by decide)]
     rw[cv cz,fU (R':=fun k=>aN (n+1) (rdM Y (l::L).length c k)) (s':=fun x=>cond (Nat.beq x 37) 44 x)];exact fun k g=>⟨rfl,(kW (by omega)).symm⟩
    ·intro k g
     rw[kW (by omega)]
     repeat rw[bY (by omega)]
     exact dH (R:=fun k=>aN (n+1) (rdM Y (l::L).length c k)) cz (by omega) g
 rintro _ _;show AWp _ _ _ _ (scS M n n);rw[scS.eq_1];obtain⟨⟨A,L⟩,w⟩:∃p,p=slM M n n:=⟨_,rfl⟩;rw[<-w];have E:∀hp:Nat->Option ABlk,hp 1=some ⟨37,1,rwO (fun k=>aN (n+1) (A k)) (fun x=>x) n⟩->(∀i,i< n->hp (i+2)=some ⟨36,3,pE (aN (n+1) (A i))⟩)->Cv (Ren.id 0) hp (fun _=>none) (.lsl 1 0 n (some n) 1) (.arr (mE ((List.range n).map fun k=>aN (n+1) (A k)))):=fun hp h1 h2=>Kp (fun _ _=>rfl) h1 h2 (Nat.zero_add n);cases L with
 |nil=>
  refine r_z 2 ?_;refine ai (Fin.cell (t:=6) rfl rfl rfl TG.h TS.h (nle rfl) (Cv.agg (ah (E _ ?_ ?_) (ah (Cv.emp _) (ah (an aA (ag _)) av)))));rw[bY (by decide)];exact cv cz;intro k g;rw[bY (by omega)];exact dH (R:=fun k=>aN (n+1) (A k)) cz (by omega) g
 |cons l L=>
  refine r_z 2 ?_;refine ai (Fin.cell (t:=6) rfl rfl rfl TG.h TS.h (nle rfl) (Cv.agg (ah (E _ ?_ ?_) (ah (Cv.shut (es:=lvE (l::L)) (B:=⟨3,1,lvE (l::L)⟩) aA rfl (fun j B r=>by cases r) (by simp) (vV (by simp) (c8 _))) (ah (an aA (ag _)) av)))));rw[bY (by decide)];exact cv cz;intro k g;rw[bY (by omega)];exact dH (R:=fun k=>aN (n+1) (A k)) cz (by omega) g
theorem F7 (A:Nat->Nat->Rat) (l:Rat) (b:Lq) (n B:Nat) (hn:n<=25) (hb:b.length=n) (hB:B<=100000000000)
    (hm:∀i j:Nat,i< n->j< n->qs (A i j)+qs l<=549755813888) (ha:∀i:Nat,i< n->qs (-(A i i* l))+1<=549755813887) (hq:∀c,c<=n->∀i j,i< n->j<=n->qs ((slM (svM A l (fun t=>coP b t) n) n c).1 i j)<=B):
    XSpec Tryz.prog 73 [.lsl 1 0 n (some n) 1,.agg (qC l),.arr (pE b)] (mzH 3 37 36 (mzO 3 (fun _=>n) (fun x=>x) n) (fiL A n n)) 40 (syV n (slM (svM A l (fun t=>coP b t) n) n n)) [] 1:=
 sv_rows A l b n hn hb _ hm ha (sv_cols _ n B hn hB hq)
end
def epS(k:Ke)(g:Nat)(cap:La)(f:Lq×Lq->Rat):Nat->AState
 |0=>⟨[(1,.clos g [] cap),(8,.arr (kE k)),(9,i64 k.length),(10,i64 0),(5,.emp)],[],1,22⟩
 |i+1=>⟨[(1,.clos g [] cap),(8,.arr (kE k)),(9,i64 k.length),(10,i64 ((i+1:Nat):Int)),(5,.lsl 1 0 (i+1) none 3)],[(1,some ⟨36,3,pE ((k.take (i+1)).map f)⟩)],2,22⟩
theorem vu(k:Ke)(g:Nat)(cap:La)(f:Lq×Lq->Rat)(hcap:∀c∈cap,Closed c)(hl:k.length<=1000)(hg:∀p∈k,FS g ((.agg (prC p)::cap).map coe) (.agg (qC (f p)))):FS 70 [.arr (kE k),.clos g [] cap] (.arr (pE (k.map f))):=by
 have n:(kE k).length=k.length:=dY k;have hcc:Closed (.clos g [] cap):=aR af hcap;refine f_n Tryz.func70 ?_ ?_;exact ac (aL k) (ac hcc af);refine r_z 1 ?_;refine r_z 1 ?_;refine ae (r_z 3 ?_);refine aF (fun _:Unit=>⟨[(5,.arr (pE (k.map f)))],[],1,22⟩) (fun _=>True) ?_ ?_;refine aj (aC (epS k g cap f) (fun i=>k.length- i) (fun i=>i<=k.length) 0 (Nat.zero_le _) ?_ ?_);rw[epS.eq_1];exact s_x [] (fun hs=>e_1) (fun hs=>e_23);intro i o;by_cases hlt:i< k.length;obtain⟨p,hp⟩:∃p,k[i]?=some p:=⟨_,List.getElem?_eq_getElem hlt⟩;have h:=hg p (List.mem_of_getElem? hp);have l:(k.take (i+1)).length=i+1:=by rw[List.length_take];omega
 have b:pE ((k.take i).map f)++[qC (f p)]=pE ((k.take (i+1)).map f):=by rw[cJ hp,List.map_append,List.map_singleton,lh];rfl
 cases i with
 |zero=>
  have a:(kE k)[((0:Int)).toNat]?=some (prC p):=ka hp _ rfl;rw[epS.eq_1];refine q_z 1 ?_;refine ae (cT (am (ae (aj (s_r 4 ?_)))));refine i_x a ?_;refine l_x a ?_;refine a_z ?_;refine r_m 7 ?_;refine c_s (h) ?_;refine a_z ?_;refine r_m 2 ?_;refine a_z ?_;refine⟨0+1,by omega,by omega,?_⟩;rw[epS.eq_2];rw[<-b];refine s_x [(1,5)] (fun hs=>e_1) (fun hs=>?_)
  ·repeat' (first|exact aE|refine h_c ?_ ?_|exact bm hs (aJ [f p])|exact bZ|refine aD ?_|exact av|refine ah ?_ ?_|exact an hs (aL k)|exact an hs hcc|exact aX)
 |succ i=>
  have a:(kE k)[(((i+1:Nat):Int)).toNat]?=some (prC p):=ka hp _ (by simp);have m:=dy ((k.take (i+1)).map f);have d:(pE ((k.take (i+1)).map f)).length=i+1:=by simp[pE];omega
  rw[epS.eq_2];refine q_z 1 ?_;refine ae (cT (am (ae (aj (s_r 4 ?_)))));refine i_x a ?_;refine l_x a ?_;refine a_z ?_;refine r_m 7 ?_;refine c_s (h) ?_;refine a_z ?_;refine r_m 2 ?_;refine a_z ?_;refine⟨i+1+1,by omega,by omega,?_⟩;rw[epS.eq_2];refine s_x [(1,5)] (fun hs=>e_1) (fun hs=>?_)
  ·repeat' (first|exact aE|refine h_c ?_ ?_|exact aI hs b (aJ _)|exact bZ|refine aD ?_|exact av|refine ah ?_ ?_|exact an hs (aL k)|exact an hs hcc|exact aX)
 have e:i=k.length:=by omega
 cases i with
 |zero=>
  have j:k=[]:=List.eq_nil_of_length_eq_zero e.symm;subst j;rw[epS.eq_1];refine q_z 1 ?_;refine ae (cF (ax ⟨(),trivial,?_⟩));exact s_e []
 |succ i=>
  have d:(pE (k.map f)).length=i+1:=by simp[pE];omega
  rw[epS.eq_2,e,List.take_length];refine q_z 1 ?_;refine ae (cF (ax ⟨(),trivial,?_⟩));refine s_x [] (fun hs=>?_) (fun hs=>?_)
  ·repeat' (first|exact aP|refine ay rfl ?_ ?_|(refine Cv.shut hs rfl (aT rfl) (by simp) ?_;exact aI hs (by rw[List.drop_zero];exact List.take_of_length_le (by simp)) (aJ _))|exact aX)
  ·repeat' (first|exact aE|refine h_c ?_ ?_|exact bZ|refine aD ?_|exact av|refine ah ?_ ?_|(refine Cv.shut hs rfl (aT rfl) (by simp) ?_;exact aI hs (by rw[List.drop_zero];exact List.take_of_length_le (by simp)) (aJ _))|exact aX)
 rintro _ _;refine r_z 2 ?_;exact ai (t_e (aB _))
end Go.Proofs.YtkbjakfniejkcaaGreatDoor
namespace Go.Proofs.YtkbjakfniejkcaaGreatDoor
open Go.Abs Go.RowKit
set_option maxRecDepth 20000
theorem CE:Tryz.prog.underlying 156=some (.pointer 159):=by kernel_rfl
theorem wO:Tryz.prog.underlying 245=some .unsafePointer:=by kernel_rfl
theorem EC:(Tryz.prog.info? 159).map (·.size)=some 2:=by kernel_rfl
set_option maxHeartbeats 1000000 in
theorem cs_used(b:Nat)(w:World)(h0:w.cell? ⟨b,0,none⟩=some (.pointer (some ⟨b,0,none⟩))):
    Calls Tryz.prog 141 #[.pointer (some ⟨b,0,none⟩)] w fun e w'=>e= .returned (.tuple #[])/\w'=w:=by
 obtain⟨j,a,_⟩:=Option.map_eq_some_iff.1 EC
 go_enter Tryz.func141,Tryz.ntmps141
 go_wp2
 rw[Lib.run_neq_ptr_same w _ CE a]
 go_wp2
 go_end0
 exact⟨rfl,rfl⟩
theorem y5{n:Nat}(hn:2<=n):liesAt Tryz.prog Tryz.prog.depth 159 (n/ Tryz.prog.cellsOf 159) 0 159 1=true:=by
 have b:Tryz.prog.cellsOf 159=2:=by kernel_rfl
 rw[b];have a:Tryz.prog.depth=(2* (Tryz.prog.types.size+Made.depth)+1)+1:=rfl;rw[a];simp only[liesAt,Bool.or_eq_true];left;rw[a];have:1<=n/ 2:=by omega
 simp[rowAt,sameLayout,this,b]
set_option maxHeartbeats 1000000 in
theorem JQ(b:Nat)(w:World)(cs:Array Value)(hh:w.heap[b]?=some (.cells cs 159 (0,0)))(hsz:2<=cs.size)(hc:cs[0]?=some (.pointer none)):
    Calls Tryz.prog 141 #[.pointer (some ⟨b,0,none⟩)] w fun e w'=>e= .returned (.tuple #[])/\w'=w.setCell ⟨b,0,none⟩ (.pointer (some ⟨b,0,none⟩)):=by
 obtain⟨j,d,c⟩:=Option.map_eq_some_iff.1 EC;have g:w.cell? ⟨b,0,none⟩=some (.pointer none):=by simp[World.cell?,hh,hc]
 have a:w.shape? b=some (159,cs.size):=by simp[World.shape?,hh]
 have f:w.frozen? ⟨b,0,none⟩=false:=by simp[World.frozen?,hh]
 go_enter Tryz.func141,Tryz.ntmps141
 go_wp2
 rw[Lib.run_to_unsafe w ⟨b,0,none⟩ CE wO d (by rw[c];decide) a (by show 0< cs.size;omega)];simp only[Result.andThen];rw[Oper.upon_value]
 go_wp2
 rw[run_callFunc_extern Tryz.func181 (by kernel_rfl) (by kernel_rfl) (by kernel_rfl) (e:=Extern.AbiNoEscape.same) (by kernel_rfl)];rw[Lib.run_noEscape];simp only[Result.andThen];rw[Oper.upon_value]
 go_wp2
 rw[Lib.run_from_unsafe w ⟨b,0,none⟩ wO CE d a (y5 hsz)];simp only[Result.andThen];rw[Oper.upon_value]
 go_wp2
 go_end0
 exact⟨rfl,rfl⟩
theorem xO{P:Go.Program}{f:Nat}{fn:Func}{c:Code}(hf:P.funcs[f]?=some fn)(hb:fn.body=some c)(hname:(fn.name== "runtime.NumGoroutine")=false)(xs:Array Value)(w:World):(callFunc f xs).run P w= .ok (.enter f xs) w:=by
 have hname':¬fn.name= "runtime.NumGoroutine" :=by simpa using hname
 simp[callFunc,hf,hname',hb]
theorem rj:CSpec Tryz.prog 141 159:=
 ⟨fun xs w=>xO Tryz.func141 rfl (by kernel_rfl) xs w,fun b w a=>cs_used b w a,fun b w cs d c a=>JQ b w cs d c a⟩
theorem AN(a b:Value):Pure (.tup [.v a,.v b]):=by
 rintro M l β m w k y ⟨xs,rfl,h,c,e,g,⟨i,f,e2,d,j⟩⟩;exact⟨xs,rfl,h,c,e,g,i,f,e2,d,j⟩
theorem oi:Tryz.prog.underlying 9=some .string:=by kernel_rfl
theorem bE_len(q:List UInt8):rX (.arr (bE q))=some q.length:=by simp[rX,bE_length]
theorem tA(t:List UInt8):(⟨t.toArray⟩:ByteArray).size=t.length:=by simp[ByteArray.size]
theorem lQ(t:List UInt8)(h0:t≠[])(hl:t.length<=1099511627776):BSpec Tryz.prog 82 159 5 none t [tx t] (.tup [i64 t.length,.v .nilIface]):=by
 refine BSpec.intro Tryz.func82 rfl (by kernel_rfl) (ac (ag _) af) (AN _ _) (nle rfl) ?_;show AWp _ _ _ _ ⟨[(0,.lptr 0 0 0),(1,tx t)],[(0,some ⟨159,2,[eK 0 1 none]⟩)],2,19⟩;refine r_z 2 ?_;refine s_r 2 ?_;refine a_1 ?_;refine o_1 (.callC rfl rfl rfl rfl rfl (by first|exact .inl rfl|exact .inr rfl) (rj)) ?_;refine aq ?_;refine s_r 10 ?_;refine a_6 ?_;refine o_1 (.appS_e rfl rfl rfl te_157.h oi rfl rfl h0 TZ.h rfl TB.h (by omega)) ?_;refine a_z ?_;refine s_r 4 ?_;refine o_0 (.move rfl) ?_;refine o_0 (.builtinV (vs:=[_]) rfl rfl (fun _ _ _=>rfl)) ?_;refine o_0 (.assign rfl) ?_;refine o_0 (.assign rfl) ?_;refine aq ?_;refine ai ⟨.inr rfl,?_,12,by decide,rfl,rfl⟩;refine⟨[_,_],⟨_,_,rfl,rfl,⟨_,_,rfl,rfl,rfl⟩⟩,Cv.tup ?_⟩;refine ah (Cv.loE aA ?_ (ag _)) (ah (an aA (ag _)) av);rw[tA];rfl
theorem jT(q t:List UInt8)(hl:q.length+t.length<=1099511627776):BSpec Tryz.prog 82 159 5 (some q) (q++t) [tx t] (.tup [i64 t.length,.v .nilIface]):=by
 refine BSpec.intro Tryz.func82 rfl (by kernel_rfl) (ac (ag _) af) (AN _ _) (nle rfl) ?_;show AWp _ _ _ _ ⟨[(0,.lptr 0 0 0),(1,tx t)],[(0,some ⟨159,2,[eK 0 1 (some q)]⟩),(1,some ⟨5,1,bE q⟩)],2,19⟩;refine r_z 2 ?_;refine s_r 2 ?_;refine a_1 ?_;refine o_1 (.callC rfl rfl rfl rfl rfl (by first|exact .inl rfl|exact .inr rfl) (rj)) ?_;refine aq ?_;refine s_r 10 ?_;refine a_6 ?_;refine o_2 (.appS_l rfl rfl rfl te_157.h oi rfl rfl rfl rfl TZ.h rfl TB.h (by omega)) ?_;refine a_z ?_;refine s_r 4 ?_;refine o_0 (.move rfl) ?_;refine o_0 (.builtinV (vs:=[_]) rfl rfl (fun _ _ _=>rfl)) ?_;refine o_0 (.assign rfl) ?_;refine o_0 (.assign rfl) ?_;refine aq ?_;refine ai ⟨.inr rfl,?_,12,by decide,rfl,rfl⟩;refine⟨[_,_],⟨_,_,rfl,rfl,⟨_,_,rfl,rfl,rfl⟩⟩,Cv.tup ?_⟩;refine ah (Cv.loE aA ?_ (ag _)) (ah (an aA (ag _)) av);rw[tA];rfl
theorem tZ:FS 81 [.aptr [Hc none] 0 0] (i64 0):=by
 have a:Closed (.aptr [Hc none] 0 0):=bq (ac (ag _) (ac dl af));refine f_c Tryz.func81 ?_;refine r_z 1 ?_;refine r_z 6 ?_;exact ai (t_e (ag _))
theorem tY(q:List UInt8):FS 81 [.aptr [Hc (some q)] 0 0] (i64 q.length):=by
 have a:Closed (.aptr [Hc (some q)] 0 0):=bq (ac (lo_any 0).closed (ac (aG (x7 q)) af));refine f_c Tryz.func81 ?_;refine r_z 1 ?_;refine s_r 6 ?_;refine a_4 ?_;refine o_0 (.len rfl rfl rfl rfl (bE_len q) te_157.h) ?_;refine a_z ?_;exact ai (t_e (ag _))
theorem ub_byte:Tryz.prog.underlying 214=some (.pointer 5):=by kernel_rfl
theorem Hw:Tryz.prog.cellsOf 5=1:=by kernel_rfl
theorem Eh(w:World)(g n:Nat):But g w (w.drew.freeze ⟨g,0,none⟩ n):=by
 have b:∀x,x≠g->(w.drew.freeze ⟨g,0,none⟩ n).heap[x]?=w.heap[x]?:=by
  intro x a;unfold World.freeze;split;rfl;show(w.heap.modify g _)[x]?=_;rw[Array.getElem?_modify,if_neg (Ne.symm a)]
 have c:(w.drew.freeze ⟨g,0,none⟩ n).heap.size=w.heap.size:=by
  unfold World.freeze;split;rfl;show(w.heap.modify g _).size=_;simp
 refine⟨?_,?_,?_,by omega,fun x _ a=>b x a,fun x N a=>?_⟩;unfold World.freeze;split <;> rfl;unfold World.freeze;split <;> rfl;unfold World.freeze;split <;> rfl;by_cases hxg:x=g;subst hxg;unfold World.freeze;split;exact a;unfold aU at a⊢;show(match (w.heap.modify x _)[x]? with|some (.cells cs _ _)=>some cs.size|some (.map _ _)=>some 0|_=>none)=some N;rw[Array.getElem?_modify,if_pos rfl];cases ho:w.heap[x]? with
 |none=>rw[ho] at a;cases a
 |some o=>
  rw[ho] at a;cases o <;> simp_all
 unfold aU at a⊢;rw[b x hxg];exact a
set_option maxHeartbeats 2000000 in
theorem ds_run (b bj cap:Nat) (q:List UInt8) (w:World) (cs ck:Array Value) (h0:q≠[]) (hb:w.heap[b]?=some (.cells cs 159 (0,0))) (hc1:cs[1]?=some (.slice (some ⟨bj,0,none⟩) q.length cap)) (hl:q.length<=cap) (hm:cap<=maxLen) (hne:b≠bj) (hj:w.heap[bj]?=some (.cells ck 5 (0,0))) (hck:cap<=ck.size)
    (hq:∀(k:Nat) (x:UInt8),q[k]?=some x->ck[k]?=some (Value.int .u8 x.toNat)):Calls Tryz.prog 84 #[.pointer (some ⟨b,0,none⟩)] w fun e w'=>e= .returned (.string ⟨q.toArray⟩)/\But bj w w':=by
 have f:q.length≠0:=by simpa using h0
 have i:w.drew.cell? ⟨b,1,none⟩=some (.slice (some ⟨bj,0,none⟩) q.length cap):=by
  have:w.drew.heap[b]?=some (.cells cs 159 (0,0)):=hb;simp[World.cell?,this,hc1]
 have g:(Builtin.unsafeSliceData_ #[157] 214 #[.slice (some ⟨bj,0,none⟩) q.length cap]).run Tryz.prog w.drew= .ok (.pointer (some ⟨bj,0,none⟩)) w.drew:=
  Lib.run_unsafeSliceData_row _ _ _ _ _ _ (by omega)
 have d:(Builtin.unsafeString_ #[214,3] 9 #[.pointer (some ⟨bj,0,none⟩),.int .i64 q.length]).run Tryz.prog w.drew= .ok (.string ⟨q.toArray⟩) (w.drew.freeze ⟨bj,0,none⟩ q.length):=by
  refine Lib.run_unsafeString_row w.drew 214 3 9 5 ub_byte Hw bj ck.size (by have a:w.drew.heap[bj]?=some (.cells ck 5 (0,0)):=hj;simp[World.shape?,a]) q h0 (by omega) (by unfold maxLen at hm;omega) ?_;intro j x h;have a:w.drew.heap[bj]?=some (.cells ck 5 (0,0)):=hj;rw[show(⟨bj,0,none⟩:Addr).add j=⟨bj,0+j,none⟩ from kH bj 0 j];simp[World.cell?,a,hq j x h]
 have c:=a7
 go_enter Tryz.func84,Tryz.ntmps84
 go_wp2
 go_region_o
 all_goals (go_wp2;go_ret;exact⟨rfl,Eh w bj q.length⟩)
theorem xP:DSpec Tryz.prog 84 159 5:=
 ⟨fun xs w=>xO Tryz.func84 rfl (by kernel_rfl) xs w,fun b j c q w cs l k hb e h f a i d g=>ds_run b j c q w cs l k hb e h f a i d g⟩
end Go.Proofs.YtkbjakfniejkcaaGreatDoor
namespace Go.Proofs.YtkbjakfniejkcaaGreatDoor
open Go.Abs
set_option maxRecDepth 20000
def jL(n:Nat):List UInt8:=if n< 10 then [48+n.toUInt8] else [48+(n/ 10).toUInt8,48+(n % 10).toUInt8]
theorem BV(s:ByteArray)(l h:Nat)(zl zh:Int)(el:zl=(l:Int))(eh:zh=(h:Int))(hlh:l<=h)(hh:h<=s.size):∀w,(Instr.sliceAt 9 (.string s) (some (.int .i64 zl)) (some (.int .i64 zh)) none).run Tryz.prog w= .ok (.string (s.extract l h)) w:=fun w=>by
 subst el eh;have b1:∀(i y:Nat) (c:BoundsCode),i<=y->(Instr.sliceBound (.int .i64 (i:Int)) y c).run Tryz.prog w= .ok i w:=fun i y c b=>eQ b c w
 have a:(Instr.slice 9 (.string s) (some (.int .i64 (l:Int))) (some (.int .i64 (h:Int))) none).run Tryz.prog w= .ok (.string (s.extract l h)) w:=by
  simp[Instr.slice,run_underlying oi,Instr.sliceBounds,b1 h s.size _ hh,b1 l h _ hlh,Result.andThen]
 unfold Instr.sliceAt;rw[Sem.run_bind,run_underlying oi];exact a
def smallsB:ByteArray:=⟨((List.range 100).flatMap fun n=>[48+(n/ 10).toUInt8,48+(n % 10).toUInt8]).toArray⟩
theorem Gy(i:Nat)(h:i< 100):FS 219 [i64 i] (tx (jL i)):=by
 refine f_c Tryz.func219 ?_;refine r_z 1 ?_;refine ae (r_z 2 ?_);refine au rfl (fun c=>?_) (fun c=>?_);have b:i< 10:=by simp at c;omega
 refine s_r 5 ?_;refine a_3 ?_;refine o_0 (.slice_v rfl rfl rfl rfl (BV _ i (i+1) _ _ rfl (by omega) (by omega) (by exact Nat.le_trans (m:=10) (by omega) (by decide)))) ?_;refine a_z ?_;refine ai (aW rfl ?_ ?_);have a:∀i,i< 10->(ByteArray.mk #[48,49,50,51,52,53,54,55,56,57,97,98,99,100,101,102,103,104,105,106,107,108,109,110,111,112,113,114,115,116,117,118,119,120,121,122]).extract i (i+1)=⟨(jL i).toArray⟩:=by decide
 exact congrArg (fun s=>AV.v (.string s)) (a i b);exact ag _;have b:10<=i:=by simp at c;omega
 refine am (s_r 7 ?_);refine a_5 ?_;refine o_0 (.slice_v rfl rfl rfl rfl (BV _ (i* 2) (i* 2+2) _ _ (by omega) (by omega) (by omega) (by exact Nat.le_trans (m:=200) (by omega) (by decide)))) ?_;refine a_z ?_;refine ai (aW rfl ?_ ?_);have a:∀i,i< 100->10<=i->smallsB.extract (i* 2) (i* 2+2)=⟨(jL i).toArray⟩:=by decide
 refine congrArg (fun s=>AV.v (.string s)) (Eq.trans (congrArg (fun s:ByteArray=>s.extract _ _) (?_:_=smallsB)) (a i h b))
 kernel_rfl
 exact ag _
theorem zj(i:Nat)(h:i< 100):FS 182 [i64 i,i64 10] (tx (jL i)):=by
 refine f_c Tryz.func182 ?_;refine r_z 1 ?_;refine ae (r_z 2 ?_);refine au rfl (fun a=>?_) (fun a=>?_);refine ae (s_r 6 ?_);refine a_3 ?_;refine y_g rfl (by simp) (.move rfl) ?_;refine y_g rfl (by simp) (.bin rfl rfl ej) ?_;refine o_0 (.pickT rfl (by simp) rfl) ?_;refine aq ?_;refine au rfl (fun b=>?_) (fun b=>?_);refine r_c 3 (Gy i h) ?_;refine a_z ?_;exact ai (t_e (ag _));exact absurd b (by simp;omega);exact absurd a (by simp)
theorem Ja(i:Nat)(h:i< 100):FS 142 [i64 i] (tx (jL i)):=by
 refine f_c Tryz.func142 ?_;refine r_z 1 ?_;refine r_c 3 (zj i h) ?_;refine a_z ?_;exact ai (t_e (ag _))
theorem Fx(i:Nat)(h:i< 100):FS 83 [i64 i] (tx (jL i)):=by
 refine f_c Tryz.func83 ?_;refine r_z 1 ?_;refine r_c 3 (Ja i h) ?_;refine a_z ?_;exact ai (t_e (ag _))
end Go.Proofs.YtkbjakfniejkcaaGreatDoor
