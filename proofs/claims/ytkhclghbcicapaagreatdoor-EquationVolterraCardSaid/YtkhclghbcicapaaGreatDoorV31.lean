/- Part V31 of the proof. -/
import Derived.Test.YtkhclghbcicapaaGreatDoorV30
set_option linter.all false
namespace Go.Proofs.YtkhclghbcicapaaGreatDoor
open Go.Abs
set_option maxRecDepth 20000
set_option maxHeartbeats 2000000
def lvE(L:List Nat):List (List AV):=L.map fun(l:Nat)=>[i64 (l:Int)]
@[simp] theorem mN (L:List Nat):(lvE L).length=L.length:=by simp[lvE]
theorem fg(L:List Nat):∀e∈lvE L,∀c∈e,Closed c:=fun e a=>by
 obtain⟨l,_,rfl⟩:=List.mem_map.1 a;exact ac (ah _) ag
theorem H5(L:List Nat)(c:Nat):lvE (L++[c])=lvE L++[[i64 c]]:=by simp[lvE]
def lvA:List Nat→AV
 |[]=> .emp
 |l::L=> .lsl 37 0 (L.length+1) none 1
def lvB:List Nat→Hp
 |[]=>[]
 |l::L=>[(37,some ⟨3,1,lvE (l::L)⟩)]
def sx1(n:Nat)(L:List Nat):Hp:=(35,some ⟨125,3,[[.emp,.emp,i64 0]]⟩)::(36,some ⟨125,3,[[.lsl 1 0 n (some n) 1,lvA L,i64 n]]⟩)::lvB L
theorem cJ{n:Nat}{L:List Nat}:∀p∈sx1 n L,35≤p.1∧p.1< 40:=fun p hp=>by
 rcases List.mem_cons.1 hp with rfl|hp
 exact⟨(show 35≤35 by decide),(show 35< 40 by decide)⟩;rcases List.mem_cons.1 hp with rfl|hp
 exact⟨(show 35≤36 by decide),(show 36< 40 by decide)⟩;cases L with
 |nil=>cases hp
 |cons l L=>rw[List.mem_singleton.1 hp];exact⟨(show 35≤37 by decide),(show 37< 40 by decide)⟩
theorem j5 {fr fr':Fr} {hp:Hp} {nx N n:Nat} {R:Nat→List Rat} {L:List Nat} {x:AV} (s:Nat→Nat) (hn:n≤30) (s0:s 0=0) (hinj:∀i j,InX n i→InX n j→s i=s j→i=j) (h1:ap hp (s 1)=some ⟨35,1,rwO R s n⟩) (hr:∀i,i< n→ap hp (s (i+2))=some ⟨34,3,pE (R i)⟩)
    (h35:ap hp (s 35)=some ⟨125,3,[[.emp,.emp,i64 0]]⟩) (h36:ap hp (s 36)=some ⟨125,3,[[.lsl (s 1) 0 n (some n) 1,x,i64 n]]⟩) (hx:(L=[]∧x= .emp)∨(L≠[]∧x= .lsl (s 37) 0 L.length none 1∧ap hp (s 37)=some ⟨3,1,lvE L⟩))
    (hF:Shr ⟨40,s⟩ (ap hp) (ap (rwH 35 34 R n (sx1 n L)))→CvF ⟨40,s⟩ (ap hp) (ap (rwH 35 34 R n (sx1 n L))) fr fr'):SEnt ⟨fr,hp,nx,N⟩ ⟨fr',rwH 35 34 R n (sx1 n L),40,N⟩:=by
 refine SEntT.ent (SEntT.rw s hn s0 hinj h1 hr cJ (fun i B h=>?_) (fun hs i B f h hB=>?_) hF);rcases List.mem_cons.1 h with h|h
 cases h;exact⟨_,h35,rfl,rfl,rfl⟩;rcases List.mem_cons.1 h with h|h
 cases h;exact⟨_,h36,rfl,rfl,rfl⟩;rcases hx with⟨rfl,_⟩|⟨b,_,a⟩
 cases h;cases L with
 |nil=>exact absurd rfl b
 |cons l L=>cases List.mem_singleton.1 h;exact⟨_,a,rfl,rfl,rfl⟩
 rcases List.mem_cons.1 h with h|h
 cases h;rw[h35] at hB;cases hB
 exact cv hs fun e d c hc=>by
  rw[List.mem_singleton.1 d] at hc;exact ac dD (ac dD (ac (ah _) ag)) c hc
 rcases List.mem_cons.1 h with h|h
 cases h;rw[h36] at hB;cases hB;refine CvLL.cons (ai (Cv.sl rfl rfl ?_) (ai ?_ (ai (ao hs (ah _)) aw))) CvLL.nil;rw[cD (cJ (n:=n) (L:=L))];rfl;rcases hx with⟨rfl,rfl⟩|⟨b,rfl,a⟩
 exact ao hs dD;cases L with
 |nil=>exact absurd rfl b
 |cons l L=>exact Cv.sl rfl rfl rfl
 rcases hx with⟨rfl,_⟩|⟨b,_,a⟩
 cases h;cases L with
 |nil=>exact absurd rfl b
 |cons l L=>
  cases List.mem_singleton.1 h;rw[a] at hB;cases hB;exact cv hs (fg _)
theorem Hc{r:Ren}{hp hp':Nat→Option ABlk}{fr fr':Fr}(hs:Shr r hp hp')(h:CvF r hp hp' fr fr':=by repeat' (first|exact aS|refine az rfl ?_ ?_|exact ao hs (ah _)|exact Cv.sl rfl rfl rfl|exact Cv.sl rfl rfl (by rw[cD cJ];rfl)|exact Cv.ptr rfl rfl rfl|exact Cv.ptr rfl (by assumption) rfl|(refine Cv.loE hs ?_ (ah _);simp[i64];done))):CvF r hp hp' fr fr':=h
def scS(M:Mx)(n:Nat):Nat→AState
 |c=>⟨[(0,.lsl 1 0 n (some n) 1),(6,.lptr 35 0 0),(7,i64 n),(10,.lptr 36 0 0),(83,i64 n),(84,i64 c)],rwH 35 34 (fun k=>aW (n+1) ((slM M n c).1 k)) n (sx1 n (slM M n c).2),40,209⟩
theorem kI{fr fr':Fr}{nx N n:Nat}{R:Nat→List Rat}{L:List Nat}(hn:n≤30)(hF:Shr ⟨40,fun x=>x⟩ (ap (rwH 35 34 R n (sx1 n L))) (ap (rwH 35 34 R n (sx1 n L)))→CvF ⟨40,fun x=>x⟩ (ap (rwH 35 34 R n (sx1 n L))) (ap (rwH 35 34 R n (sx1 n L))) fr fr'):
    SEnt ⟨fr,rwH 35 34 R n (sx1 n L),nx,N⟩ ⟨fr',rwH 35 34 R n (sx1 n L),40,N⟩:=
 j5 (x:=lvA L) (fun x=>x) hn rfl (fun _ _ _ _ e=>e) (cD cJ) (fun i a=>dN cJ hn a) rfl rfl (by
  cases L with
  |nil=>exact .inl ⟨rfl,rfl⟩
  |cons l L=>exact .inr ⟨by simp,rfl,rfl⟩) hF
theorem swx_two(a b i:Nat):swx (a+2) (b+2) (i+2)=swx a b i+2:=by
 unfold swx;by_cases h1:i=a;rw[if_pos (by omega),if_pos h1];rw[if_neg (by omega),if_neg h1];by_cases h2:i=b;rw[if_pos (by omega),if_pos h2];rw[if_neg (by omega),if_neg h2]
theorem swx_lt{a b i n:Nat}(ha:a< n)(hb:b< n)(hi:i< n):swx a b i< n:=by unfold swx;split <;>(try split)<;> omega
theorem swM_row(A:Mx)(r p i:Nat):swM A r p i=A (swx p r i):=by
 funext j;unfold swM swx;by_cases h1:i=r;subst h1;by_cases h2:i=p;subst h2;simp;simp[h2];by_cases h2:i=p;subst h2;simp[h1];simp[h1,h2]
theorem lenA_lv(L:List Nat):tg (lvA L)=some L.length:=by cases L <;> rfl
theorem neT{a b:Int}(h:a≠b):(a !=b)=true:=by simpa using h
theorem neF{a b:Int}(h:a=b):(a !=b)=false:=by simp[h]
theorem lJ{r:Ren}{hp hp':Nat→Option ABlk}{fr fr':Fr}(hs:Shr r hp hp')(h:CvF r hp hp' fr fr':=by repeat' (first|exact aS|refine az rfl ?_ ?_|exact ao hs (ah _)|exact ao hs (b7 _)|exact ao hs (bC (ac (ah _) ag))|exact Cv.sl rfl rfl rfl|exact Cv.sl rfl rfl (by rw[cD cJ];rfl)|exact Cv.ptr rfl rfl rfl|exact Cv.ptr rfl (by assumption) rfl|(refine Cv.loE hs ?_ (ah _);simp[i64];done))):CvF r hp hp' fr fr':=h
def scK(X:Mx)(n r c:Nat)(f:Rat)(L:List Nat):Nat→AState
 |j=>⟨[(0,.lsl 1 0 n (some n) 1),(6,.lptr 35 0 0),(7,i64 n),(10,.lptr 36 0 0),(11,.aptr [[i64 c]] 0 0),(12,i64 r),(14,bQ f),(83,i64 n),(84,i64 c),(128,i64 ((n+1:Nat):Int)),(129,i64 j)],rwH 35 34 (fun k=>aW (n+1) (scJ X r f j k)) n (sx1 n L),40,209⟩
def rdK(Y:Mx)(n r c:Nat)(L:List Nat):Nat→AState
 |i=>⟨[(0,.lsl 1 0 n (some n) 1),(6,.lptr 35 0 0),(7,i64 n),(10,.lptr 36 0 0),(11,.aptr [[i64 c]] 0 0),(12,i64 r),(83,i64 n),(84,i64 c),(149,i64 n),(150,i64 i)],rwH 35 34 (fun k=>aW (n+1) (rdJ Y r c i 0 k)) n (sx1 n L),40,209⟩
def rdI(Y:Mx)(n r c:Nat)(L:List Nat)(i:Nat):Nat→AState
 |j=>⟨[(0,.lsl 1 0 n (some n) 1),(6,.lptr 35 0 0),(7,i64 n),(10,.lptr 36 0 0),(11,.aptr [[i64 c]] 0 0),(12,i64 r),(16,i64 i),(17,bQ (Y i c)),(83,i64 n),(84,i64 c),(149,i64 n),(150,i64 i),(172,i64 ((n+1:Nat):Int)),(173,i64 j)],rwH 35 34 (fun k=>aW (n+1) (rdJ Y r c i j k)) n (sx1 n L),40,209⟩
theorem FP{TS TQ n:Nat}{R R':Nat→List Rat}{ex:Hp}(h:∀k,k< n→R k=R' k):rwH TS TQ R n ex=rwH TS TQ R' n ex:=by
 unfold rwH;rw[gR (R':=R') (s':=fun x=>x) fun k a=>⟨by rw[h k a],rfl⟩,show rwL R n=rwL R' n from List.map_congr_left fun k a=>by rw[h k (List.mem_range.1 a)]]
theorem EE{fr fr':Fr}{nx N n i j e:Nat}{X:Mx}{v:Rat}{L:List Nat}(hn:n≤30)(hi:i< n)(hj:j< n+1)(he:e=j)(hF:Shr ⟨40,fun x=>x⟩ (ap ((i+2,some ⟨34,3,(pE (aW (n+1) (X i))).set e (qC v)⟩)::rwH 35 34 (fun k=>aW (n+1) (X k)) n (sx1 n L))) (ap (rwH 35 34 (fun k=>aW (n+1) (puM X i j v k)) n (sx1 n L)))→CvF ⟨40,fun x=>x⟩ (ap ((i+2,some ⟨34,3,(pE (aW (n+1) (X i))).set e (qC v)⟩)::rwH 35 34 (fun k=>aW (n+1) (X k)) n (sx1 n L))) (ap (rwH 35 34 (fun k=>aW (n+1) (puM X i j v k)) n (sx1 n L))) fr fr'):
    SEnt ⟨fr,(i+2,some ⟨34,3,(pE (aW (n+1) (X i))).set e (qC v)⟩)::rwH 35 34 (fun k=>aW (n+1) (X k)) n (sx1 n L),nx,N⟩ ⟨fr',rwH 35 34 (fun k=>aW (n+1) (puM X i j v k)) n (sx1 n L),40,N⟩:=by
 refine j5 (x:=lvA L) (fun x=>x) hn rfl (fun _ _ _ _ e=>e) ?_ ?_ ?_ ?_ ?_ hF;rw[bH (by omega),cD cJ,gR (R':=fun k=>aW (n+1) (puM X i j v k)) (s':=fun x=>x)];exact fun k a=>⟨by simp,rfl⟩;intro k a;by_cases h:k=i;subst h;rw[←puM_set hj e he,dq,a8];rw[bH (by omega),dN cJ (by omega) a,puM_ne h];rw[bH (by omega)];rfl;rw[bH (by omega)];rfl;cases L with
 |nil=>exact .inl ⟨rfl,rfl⟩
 |cons l L=>exact .inr ⟨by simp,rfl,by rw[bH (by omega)];rfl⟩
def syV(n:Nat)(p:Mx×List Nat):AV:= .agg [.arr (mE ((List.range n).map fun k=>aW (n+1) (p.1 k))),.arr (lvE p.2),i64 n]
theorem wI{r:Ren}{hp:Nat→Option ABlk}{l:List (List AV)}{n:Nat}(hn:n=l.length)(hc:∀e∈l,∀c∈e,Closed c):CvLL r hp (fun _=>none) ((l.drop 0).take n) l:=by
 rw[List.drop_zero,hn,List.take_length];exact cv ay hc
theorem ly{x:Nat}(h:x≠37):cond (Nat.beq x 37) 44 x=x:=by
 cases e:Nat.beq x 37 with
 |false=>rfl
 |true=>exact absurd (Nat.eq_of_beq_eq_true e) h
theorem EC{n:Nat}(hn:n≤30)(i j:Nat)(h1:InX n i)(h2:InX n j)(e:cond (Nat.beq i 37) 44 i=cond (Nat.beq j 37) 44 j):i=j:=by
 unfold InX at h1 h2;by_cases a:i=37;by_cases b:j=37;rw[a,b];rw[a,ly b] at e;have e:(44:Nat)=j:=e;omega;by_cases b:j=37;rw[b,ly a] at e;have e:i=(44:Nat):=e;omega;rw[ly a,ly b] at e;exact e
theorem sv_cols(M:Mx)(n B:Nat)(hn:n≤25)(hB:B≤100000000000)(hq:∀c,c≤n→∀i j,i< n→j≤n→qs ((slM M n c).1 i j)≤B):
    AWp none Tryz.prog svRest (Fin Tryz.prog Tryz.f91.results.toList (syV n (slM M n n))) ⟨[(0,.lsl 1 0 n (some n) 1),(6,.lptr 35 0 0),(7,i64 n)],rwH 35 34 (fun k=>aW (n+1) (M k)) n sx0,40,209⟩:=by
 unfold svRest;refine r_z 5 ?_;refine ae (r_z 2 ?_);refine aH (fun _:Unit=>scS M n n) (fun _=>True) ?_ ?_
 ·refine am (aD (scS M n) (fun c=>n- c) (fun c=>c≤n) 0 (Nat.zero_le _) ?_ ?_)
  rw[scS.eq_1];refine j5 (L:=[]) (x:= .emp) (fiR 34 43) (by omega) (BR _ _) (fun x y hx hy e=>rW (m:=40) (Nat.le_refl _) (by decide) x y (tZ (by omega) hx) (tZ (by omega) hy) e) ?_ ?_ rfl rfl (.inl ⟨rfl,rfl⟩) fun hs=>Hc hs
  ·rw[BQ]
   repeat rw[bH (by decide)]
   rw[cD eH,gR (R':=fun k=>aW (n+1) ((slM M n 0).1 k)) (s':=fiR 34 43)];exact fun k g=>⟨by simp,(jH (by omega)).symm⟩
  ·intro k g
   rw[jH (by omega)]
   repeat rw[bH (by omega)]
   exact dN eH (by omega) g
  intro c hc;rw[scS.eq_1];by_cases hlt:c< n;rotate_left;have o:c=n:=by omega
  subst o;refine q_z 1 ?_;refine ae (cF (aA ⟨(),trivial,?_⟩));exact kI (by omega) fun hs=>Hc hs;refine q_z 1 ?_;refine ae (cT (an (ae (am (r_z 3 ?_)))));have hE:=k4 M n c;have C:=hq c hc;obtain⟨⟨A,L⟩,G⟩:∃p,p=slM M n c:=⟨_,rfl⟩;rw[←G] at hE C⊢;simp only at hE C⊢;have hLl:L.length≤c:=hE.len;refine AWp.ent (st':=⟨[(0,.lsl 1 0 n (some n) 1),(6,.lptr 35 0 0),(7,i64 n),(10,.lptr 36 0 0),(11,.aptr [[i64 c]] 0 0),(83,i64 n),(84,i64 c)],rwH 35 34 (fun k=>aW (n+1) (A k)) n (sx1 n L),40,209⟩) ?_ ?_;refine j5 (x:=lvA L) (fun x=>x) (by omega) rfl (fun _ _ _ _ e=>e) ?_ ?_ rfl rfl ?_ ?_
  ·repeat rw[bH (by decide)]
   exact cD cJ
  ·intro k g
   repeat rw[bH (by omega)]
   exact dN cJ (by omega) g
  cases L with
  |nil=>exact .inl ⟨rfl,rfl⟩
  |cons l L=>exact .inr ⟨by simp,rfl,rfl⟩
  intro hs
  have hd:xi ⟨40,fun x=>x⟩ (ap (rwH 35 34 (fun k=>aW (n+1) (A k)) n (sx1 n L))) 42:=fun j B r e=>by
   obtain⟨h0⟩:=hs;have h1:j< 40:=(h0 j B r).1;have e:j=42:=e;omega
  exact az rfl (Cv.sl rfl rfl (by rw[cD cJ];rfl)) (az rfl (Cv.ptr rfl rfl rfl) (az rfl (ao hs (ah _)) (az rfl (Cv.ptr rfl rfl rfl) (az rfl (Cv.boxp hs rfl hd rfl (ac (ah _) ag)) (az rfl (ao hs (ah _)) (az rfl (ao hs (ah _)) aS))))));have u:dW (ap (rwH 35 34 (fun k=>aW (n+1) (A k)) n (sx1 n L))) 36=some ⟨125,3,[[.lsl 1 0 n (some n) 1,lvA L,i64 n]]⟩:=rfl;refine s_r 4 ?_;refine a_1 ?_;refine o_0 (.load_l1 rfl u rfl TG.h rfl) ?_;refine o_0 (.len rfl rfl rfl rfl (lenA_lv L) te_47.h) ?_;refine a_z ?_;have hcl:Closed (.clos 142 [] [.aptr [[i64 c]] 0 0]):=aU ag (ac (bC (ac (ah _) ag)) ag);have s:=fs_lead (fun k=>aW (n+1) (A k)) n (0+L.length) c (by omega) (fun i N=>by simp;omega);rw[idx_pv A n (0+L.length) c (by omega) (by omega)] at s;refine s_r 6 ?_;refine a_2 ?_;refine o_0 (.slice_l (l:=L.length) (h:=n) rfl ⟨⟨_,rfl,.inr ⟨_,_,rfl,rfl⟩⟩,⟨_,rfl,.inl ⟨rfl,rfl,rfl⟩⟩,⟨_,rfl,.inl ⟨rfl,rfl⟩⟩⟩ (by omega) (Nat.le_refl _) (.inr (by omega)) te_123.h) ?_;refine a_1 ?_;refine o_0 (.callV (rd:=rwI n) (rr:=⟨0,fun i=>i⟩) rfl rfl rfl (fun hp' hh=>ai (JD hh (cD cJ) (fun i N=>dN cJ (by omega) N) (by omega)) (ai (ao ay hcl) aw)) s) ?_;refine a_z ?_;have e0:0+L.length=L.length:=by omega
  cases hp:pvR A n (0+L.length) c with
  |none=>
   simp only[hp];refine ae (s_r 2 ?_);refine a_1 ?_;refine o_0 (.bin rfl rfl (vT fH (decide_eq_true (by decide)))) ?_;refine au ?_;refine cT (aA (r_m 2 ?_));refine a_z ?_;refine⟨c+1,by omega,by omega,?_⟩
   have v:slM M n (c+1)=(A,L):=by
    rw[e0] at hp;rw[slM,←G];show slC A n L c=_;unfold slC;rw[hp]
   rw[scS.eq_1,v];exact kI (by omega) fun hs=>Hc hs
  |some p=>
   simp only[hp];refine ae (q_z 2 ?_);refine cF (an ?_);obtain⟨p1,p2,p3⟩:=qR hp;have O:∀e,e=p→(rwO (fun k=>aW (n+1) (A k)) (fun x=>x) n)[e]?=some [.lsl (p+2) 0 (n+1) none 3]:=fun e d=>by rw[eB p1 e d];simp
   have w:∀e,e=L.length→(rwO (fun k=>aW (n+1) (A k)) (fun x=>x) n)[e]?=some [.lsl (L.length+2) 0 (n+1) none 3]:=fun e d=>by rw[eB (by omega:L.length< n) e d];simp
   have hst:∀a b,a=L.length→b=p→((rwO (fun k=>aW (n+1) (A k)) (fun x=>x) n).set a [.lsl (p+2) 0 (n+1) none 3])[b]?=some [.lsl (p+2) 0 (n+1) none 3]:=fun a b ha hb=>by
    rw[List.getElem?_set];split;rw[if_pos (by rw[pU];omega)];exact O b hb
   have ho:=ew (cD (TS:=35) (TQ:=34) (n:=n) (R:=fun k=>aW (n+1) (A k)) (cJ (n:=n) (L:=L))) (show(1:Nat)≠0 by decide);refine ae (r_d ba 20 ?_);refine a_8 ?_;refine a_3 ?_;refine o_0 (.load_l1 rfl ho (O _ (by omega)) TG.h rfl) ?_;refine a_3 ?_;refine o_0 (.load_l1 rfl ho (w _ (by omega)) TG.h rfl) ?_;refine a_1 ?_;refine fY (.store rfl ho (w _ (by omega)) rfl rfl rfl TS.h (nle rfl)) ?_;refine a_1 ?_;refine fY (.store rfl rfl (hst _ _ (by omega) (by omega)) rfl rfl rfl TS.h (nle rfl)) ?_;refine au (n_k ?_);refine AWp.ent (st':=⟨[(0,.lsl 1 0 n (some n) 1),(6,.lptr 35 0 0),(7,i64 n),(10,.lptr 36 0 0),(11,.aptr [[i64 c]] 0 0),(12,i64 L.length),(83,i64 n),(84,i64 c)],rwH 35 34 (fun k=>aW (n+1) (swM A L.length p k)) n (sx1 n L),40,209⟩) ?_ ?_;have q0:swx (p+2) (L.length+2) 0=0:=pR (by omega) (by omega);have q1:swx (p+2) (L.length+2) 1=1:=pR (by omega) (by omega);have q35:swx (p+2) (L.length+2) 35=35:=pR (by omega) (by omega);have q36:swx (p+2) (L.length+2) 36=36:=pR (by omega) (by omega);have V:swx (p+2) (L.length+2) 37=37:=pR (by omega) (by omega);refine j5 (x:=lvA L) (swx (p+2) (L.length+2)) (by omega) q0 (fun _ _ _ _ e=>swx_inj e) ?_ ?_ ?_ ?_ ?_ ?_;rw[q1,gR (R':=fun i=>aW (n+1) (A (swx p L.length i))) (s':=swx (p+2) (L.length+2)) (fun k g=>⟨by simp,rfl⟩),←Hn (R:=fun k=>aW (n+1) (A k)) p1 (by omega:L.length< n) (0+((L.length:Nat):Int).toNat) (0+(((L.length:Nat):Int)+((p- (0+L.length):Nat):Int)).toNat) (by omega) (by omega)];simp only[uc];rfl
   ·intro i N
    rw[swx_two,swM_row]
    repeat rw[bH (by omega)]
    exact dN (R:=fun k=>aW (n+1) (A k)) cJ (by omega) (swx_lt p1 (by omega) N)
   rw[q35];rfl;rw[q36,q1];rfl;cases L with
   |nil=>exact .inl ⟨rfl,rfl⟩
   |cons l L=>exact .inr ⟨by simp,by rw[V];rfl,by rw[V];rfl⟩
   intro hs;exact az rfl (Cv.sl rfl q1 (by rw[cD cJ];rfl)) (az rfl (Cv.ptr rfl q35 rfl) (az rfl (ao hs (ah _)) (az rfl (Cv.ptr rfl q36 rfl) (az rfl (ao hs (bC (ac (ah _) ag))) (az rfl (Cv.loE hs (by simp[i64]) (ah _)) (az rfl (ao hs (ah _)) (az rfl (ao hs (ah _)) aS)))))));have J:=kH (TS:=35) (TQ:=34) (R:=fun k=>aW (n+1) (swM A L.length p k)) (cJ (n:=n) (L:=L)) (by omega:n≤30) (by omega:L.length< n);have U:=ew (cD (TS:=35) (TQ:=34) (n:=n) (R:=fun k=>aW (n+1) (swM A L.length p k)) (cJ (n:=n) (L:=L))) (show(1:Nat)≠0 by decide);have S:∀e,e=L.length→(rwO (fun k=>aW (n+1) (swM A L.length p k)) (fun x=>x) n)[e]?=some [.lsl (L.length+2) 0 (n+1) none 3]:=fun e d=>by rw[eB (by omega:L.length< n) e d];simp
   have hx:swM A L.length p L.length c=A p c:=by simp[swM]
   have o:∀e,e=c→(pE (aW (n+1) (swM A L.length p L.length)))[e]?=some (qC (A p c)):=fun e d=>by
    subst d;simp[pE,aW,show e< n+1 by omega,hx]
   have hi1:=ej 1 (by decide);have hq1:qs ((1:Int):Rat)≤1:=by decide
   have hov:=rN ((1:Int):Rat) (A p c) p3 (by have:=C p c p1 (by omega);omega);refine ae (r_d ba 11 ?_);refine c_s (hi1) ?_;refine a_3 ?_;refine o_0 (.load_l1 rfl U (S _ (by omega)) TG.h rfl) ?_;refine a_2 ?_;refine o_0 (.load_l rfl J (o _ (by omega)) TG.h TS.h (nle rfl)) ?_;refine c_s (hov) ?_;refine a_2 ?_;refine au ⟨vX (fps0:=[([],[]),([],[]),([],[]),([],[]),([],[]),([],[]),([],[]),([],[]),([],[]),([49],[]),([49],[49])]) (by kernel_rfl) (lessF.zz (lessF.zz (lessF.zz (lessF.zz (lessF.rd (by omega) (lessF.zz (lessF.zz (lessF.rd (by omega) (lessF.zz (lessF.al rfl (show 40≤49 by decide) (lessF.st rfl (show 40≤49 by decide) lessF.nil))))))))))),?_⟩;refine AWp.ent (st':=⟨[(0,.lsl 1 0 n (some n) 1),(6,.lptr 35 0 0),(7,i64 n),(10,.lptr 36 0 0),(11,.aptr [[i64 c]] 0 0),(12,i64 L.length),(14,bQ (((1:Int):Rat) / A p c)),(83,i64 n),(84,i64 c)],rwH 35 34 (fun k=>aW (n+1) (swM A L.length p k)) n (sx1 n L),40,209⟩) ?_ ?_;refine j5 (x:=lvA L) (fun x=>x) (by omega) rfl (fun _ _ _ _ e=>e) ?_ ?_ rfl rfl ?_ ?_
   ·repeat rw[bH (by decide)]
    exact cD cJ
   ·intro k g
    repeat rw[bH (by omega)]
    exact dN (R:=fun k=>aW (n+1) (swM A L.length p k)) cJ (by omega) g
   cases L with
   |nil=>exact .inl ⟨rfl,rfl⟩
   |cons l L=>exact .inr ⟨by simp,rfl,rfl⟩
   intro hs
   have hd:xi ⟨40,fun x=>x⟩ (ap (rwH 35 34 (fun k=>aW (n+1) (swM A L.length p k)) n (sx1 n L))) 49:=fun j B r e=>by
    obtain⟨h0⟩:=hs;have h1:j< 40:=(h0 j B r).1;have e:j=49:=e;omega
   exact az rfl (Cv.sl rfl rfl (by rw[cD cJ];rfl)) (az rfl (Cv.ptr rfl rfl rfl) (az rfl (ao hs (ah _)) (az rfl (Cv.ptr rfl rfl rfl) (az rfl (ao hs (bC (ac (ah _) ag))) (az rfl (ao hs (ah _)) (az rfl (Cv.boxp hs rfl hd rfl (a7 _)) (az rfl (ao hs (ah _)) (az rfl (ao hs (ah _)) aS))))))));refine ae (s_r 6 ?_);refine a_3 ?_;refine o_0 (.load_l1 rfl U (S _ (by omega)) TG.h rfl) ?_;refine a_z ?_;obtain⟨X,hX⟩:∃X,X=swM A L.length p:=⟨_,rfl⟩;obtain⟨f,hf⟩:∃f,f=((1:Int):Rat) / A p c:=⟨_,rfl⟩;rw[←hX,←hf];have hqX:∀i j,i< n→j≤n→qs (X i j)≤B:=by rw[hX];exact bd_sw C (by omega) p1
   have hqf:qs f≤B+1:=by
    rw[hf];have h1:=iN ((1:Int):Rat) (A p c);have h2:=C p c p1 (by omega);omega
   have v:slM M n (c+1)=(rdM (scM X L.length f) L.length c,L++[c]):=by
    rw[slM,←G];show slC A n L c=_;unfold slC;rw[e0] at hp;rw[hp,hX,hf,show((1:Int):Rat)=1 by decide]
   have hqY:∀i j,i< n→j≤n→qs (rdM (scM X L.length f) L.length c i j)≤B:=by
    have:=hq (c+1) (by omega);rw[v] at this;exact this
   have q:L.length< n:=by omega
   clear J U S hx o hi1 hq1 hov O w hst ho hE s;refine aH (fun _:Unit=>scK X n L.length c f L (n+1)) (fun _=>True) ?_ ?_
   ·refine am (aD (scK X n L.length c f L) (fun j=>n+1- j) (fun j=>j≤n+1) 0 (Nat.zero_le _) ?_ ?_)
    rw[scK.eq_1,scJ_0];exact kI (by omega) fun hs=>lJ hs;intro j r;rw[scK.eq_1];by_cases hjn:j< n+1;rotate_left;have o:j=n+1:=by omega
    subst o;refine q_z 1 ?_;refine ae (cF (aA ⟨(),trivial,?_⟩));exact kI (by omega) fun hs=>lJ hs;refine q_z 1 ?_;refine ae (cT (an (ae (am (r_z 2 ?_)))));have Q:=cN (X L.length j) f (by have:=hqX L.length j (by omega) (by omega);omega);have H:=kH (TS:=35) (TQ:=34) (R:=fun k=>aW (n+1) (scJ X L.length f j k)) (cJ (n:=n) (L:=L)) (by omega:n≤30) q;have z:=ew (cD (TS:=35) (TQ:=34) (n:=n) (R:=fun k=>aW (n+1) (scJ X L.length f j k)) (cJ (n:=n) (L:=L))) (show(1:Nat)≠0 by decide);have D:∀e,e=L.length→(rwO (fun k=>aW (n+1) (scJ X L.length f j k)) (fun x=>x) n)[e]?=some [.lsl (L.length+2) 0 (n+1) none 3]:=fun e d=>by rw[eB q e d];simp
    have hgj:∀e,e=j→(pE (aW (n+1) (scJ X L.length f j L.length)))[e]?=some (qC (X L.length j)):=fun e d=>by rw[ir hjn e d,scJ_at]
    refine r_d ba 16 ?_;refine a_3 ?_;refine o_0 (.load_l1 rfl z (D _ (by omega)) TG.h rfl) ?_;refine a_4 ?_;refine o_0 (.load_l1 rfl z (D _ (by omega)) TG.h rfl) ?_;refine a_2 ?_;refine o_0 (.load_l rfl H (hgj _ (by omega)) TG.h TS.h (nle rfl)) ?_;refine c_s (Q) ?_;refine a_1 ?_;refine fY (.store rfl H (hgj _ (by omega)) rfl rfl rfl TS.h (nle rfl)) ?_;refine au (n_k ?_);refine r_m 2 ?_;refine a_z ?_;refine⟨j+1,by omega,by omega,?_⟩;rw[scK.eq_1,scJ_s];exact EE (by omega) q hjn (by omega) fun hs=>lJ hs
   rintro _ _;show AWp _ _ _ _ (scK X n L.length c f L (n+1));rw[scK.eq_1,show(fun k=>aW (n+1) (scJ X L.length f (n+1) k))=fun k=>aW (n+1) (scM X L.length f k) from funext fun k=>vP fun j r=>scJ_n k j r];obtain⟨Y,hY⟩:∃Y,Y=scM X L.length f:=⟨_,rfl⟩
   have F:∀i j,i< n→j≤n→qs (Y i j)≤B:=fun i j N r=>by
    rw[hY];by_cases e:i=L.length;subst e;have:=hqY L.length j N r;rwa[show rdM (scM X L.length f) L.length c L.length j=scM X L.length f L.length j from if_pos rfl] at this;rw[show scM X L.length f i j=X i j from if_neg e];exact hqX i j N r
   rw[←hY] at v⊢;refine ae (r_z 3 ?_);refine aH (fun _:Unit=>rdK Y n L.length c L n) (fun _=>True) ?_ ?_
   ·refine am (aD (rdK Y n L.length c L) (fun i=>n- i) (fun i=>i≤n) 0 (Nat.zero_le _) ?_ ?_)
    rw[rdK.eq_1,rdJ_0];exact kI (by omega) fun hs=>lJ hs;intro i N;rw[rdK.eq_1];by_cases hin:i< n;rotate_left;have o:i=n:=by omega
    rw[o];refine q_z 1 ?_;refine ae (cF (aA ⟨(),trivial,?_⟩));exact kI (by omega) fun hs=>lJ hs;refine q_z 1 ?_;refine ae (cT (an (ae (am (r_z 2 ?_)))));have H:=kH (TS:=35) (TQ:=34) (R:=fun k=>aW (n+1) (rdJ Y L.length c i 0 k)) (cJ (n:=n) (L:=L)) (by omega:n≤30) hin;have z:=ew (cD (TS:=35) (TQ:=34) (n:=n) (R:=fun k=>aW (n+1) (rdJ Y L.length c i 0 k)) (cJ (n:=n) (L:=L))) (show(1:Nat)≠0 by decide);have D:∀e,e=i→(rwO (fun k=>aW (n+1) (rdJ Y L.length c i 0 k)) (fun x=>x) n)[e]?=some [.lsl (i+2) 0 (n+1) none 3]:=fun e d=>by rw[eB hin e d];simp
    have hgc:∀e,e=c→(pE (aW (n+1) (rdJ Y L.length c i 0 i)))[e]?=some (qC (Y i c)):=fun e d=>by rw[rdJ_c];exact ir (by omega) e d
    refine ae (r_d ba 9 ?_);refine a_3 ?_;refine o_0 (.load_l1 rfl z (D _ (by omega)) TG.h rfl) ?_;refine a_2 ?_;refine o_0 (.load_l rfl H (hgc _ (by omega)) TG.h TS.h (nle rfl)) ?_;refine a_2 ?_;refine au ⟨vX (fps0:=[([],[]),([],[]),([],[]),([],[]),([],[]),([],[]),([],[]),([50],[]),([50],[50])]) (by kernel_rfl) (lessF.zz (lessF.zz (lessF.zz (lessF.rd (by omega) (lessF.zz (lessF.zz (lessF.rd (by omega) (lessF.al rfl (show 40≤50 by decide) (lessF.st rfl (show 40≤50 by decide) lessF.nil))))))))),?_⟩;refine AWp.ent (st':=⟨[(0,.lsl 1 0 n (some n) 1),(6,.lptr 35 0 0),(7,i64 n),(10,.lptr 36 0 0),(11,.aptr [[i64 c]] 0 0),(12,i64 L.length),(16,i64 i),(17,bQ (Y i c)),(83,i64 n),(84,i64 c),(149,i64 n),(150,i64 i)],rwH 35 34 (fun k=>aW (n+1) (rdJ Y L.length c i 0 k)) n (sx1 n L),40,209⟩) ?_ ?_;refine j5 (x:=lvA L) (fun x=>x) (by omega) rfl (fun _ _ _ _ e=>e) ?_ ?_ rfl rfl ?_ ?_
    ·repeat rw[bH (by decide)]
     exact cD cJ
    ·intro k g
     repeat rw[bH (by omega)]
     exact dN cJ (by omega) g
    cases L with
    |nil=>exact .inl ⟨rfl,rfl⟩
    |cons l L=>exact .inr ⟨by simp,rfl,rfl⟩
    intro hs
    have hd:xi ⟨40,fun x=>x⟩ (ap (rwH 35 34 (fun k=>aW (n+1) (rdJ Y L.length c i 0 k)) n (sx1 n L))) 50:=fun j B r e=>by
     obtain⟨h0⟩:=hs;have h1:j< 40:=(h0 j B r).1;have e:j=50:=e;omega
    exact az rfl (Cv.sl rfl rfl (by rw[cD cJ];rfl)) (az rfl (Cv.ptr rfl rfl rfl) (az rfl (ao hs (ah _)) (az rfl (Cv.ptr rfl rfl rfl) (az rfl (ao hs (bC (ac (ah _) ag))) (az rfl (ao hs (ah _)) (az rfl (ao hs (ah _)) (az rfl (Cv.boxp hs rfl hd rfl (a7 _)) (az rfl (ao hs (ah _)) (az rfl (ao hs (ah _)) (az rfl (ao hs (ah _)) (az rfl (ao hs (ah _)) aS)))))))))));by_cases hir:i=L.length;refine s_r 8 ?_;refine a_2 ?_;refine o_0 (.bin rfl rfl (vF eM (neF (by omega)))) ?_;refine a_1 ?_;refine n_g rfl d_f ?_;refine n_g rfl d_f ?_;refine n_g rfl d_f ?_;refine o_0 (.pickF rfl d_f rfl) ?_;refine au ?_;refine cF (an (r_m 2 ?_));refine a_z ?_;refine⟨i+1,by omega,by omega,?_⟩;rw[rdK.eq_1,A8 (.inl hir)];exact kI (by omega) fun hs=>lJ hs;by_cases hic:Y i c=0;refine s_r 8 ?_;refine a_2 ?_;refine o_0 (.bin rfl rfl (vT eM (neT (by omega)))) ?_;refine a_1 ?_;refine y_g rfl d_t (.load_a rfl rfl TG.h TS.h (nle rfl)) ?_;refine y_g rfl d_t (.call rfl rfl rfl (cx (Y i c))) ?_;refine y_g rfl d_t (.bin rfl rfl (vF eM (neF (sgZ_num_eq.2 hic)))) ?_;refine o_0 (.pickT rfl d_t rfl) ?_;refine au ?_;refine cF (an (r_m 2 ?_));refine a_z ?_;refine⟨i+1,by omega,by omega,?_⟩;rw[rdK.eq_1,A8 (.inr hic)];exact kI (by omega) fun hs=>lJ hs;refine s_r 8 ?_;refine a_2 ?_;refine o_0 (.bin rfl rfl (vT eM (neT (by omega)))) ?_;refine a_1 ?_;refine y_g rfl d_t (.load_a rfl rfl TG.h TS.h (nle rfl)) ?_;refine y_g rfl d_t (.call rfl rfl rfl (cx (Y i c))) ?_;refine y_g rfl d_t (.bin rfl rfl (vT eM (neT (mt sgZ_num_eq.1 hic)))) ?_
    refine o_0 (.pickT rfl d_t rfl) ?_;refine au ?_;refine cT (s_r 6 ?_);refine a_3 ?_;refine o_0 (.load_l1 rfl z (D _ (by omega)) TG.h rfl) ?_;refine a_z ?_;refine AWp.cutB (fun _:Unit=>rdI Y n L.length c L i (n+1)) (fun _=>True) ?_ ?_
    ·refine am (aD (rdI Y n L.length c L i) (fun j=>n+1- j) (fun j=>j≤n+1) 0 (Nat.zero_le _) ?_ ?_)
     rw[rdI.eq_1];exact kI (by omega) fun hs=>lJ hs;intro j r;rw[rdI.eq_1];by_cases hjn:j< n+1;rotate_left;have o:j=n+1:=by omega
     subst o;refine q_z 1 ?_;refine ae (cF (aA ⟨(),trivial,?_⟩));exact kI (by omega) fun hs=>lJ hs;refine q_z 1 ?_;refine ae (cT (an (ae (am (r_z 2 ?_)))));have Q:=cN (Y i c) (Y L.length j) (by have:=F i c hin (by omega);have:=F L.length j q (by omega);omega);have hsu:=lE (Y i j) (Y i c* Y L.length j) (by have:=F i c hin (by omega);have:=F L.length j q (by omega);have:=F i j hin (by omega);have:=dk (Y i c) (Y L.length j);omega);have K:=kH (TS:=35) (TQ:=34) (R:=fun k=>aW (n+1) (rdJ Y L.length c i j k)) (cJ (n:=n) (L:=L)) (by omega:n≤30) hin;have Z:=kH (TS:=35) (TQ:=34) (R:=fun k=>aW (n+1) (rdJ Y L.length c i j k)) (cJ (n:=n) (L:=L)) (by omega:n≤30) q;have T:=ew (cD (TS:=35) (TQ:=34) (n:=n) (R:=fun k=>aW (n+1) (rdJ Y L.length c i j k)) (cJ (n:=n) (L:=L))) (show(1:Nat)≠0 by decide);have W:∀e,e=i→(rwO (fun k=>aW (n+1) (rdJ Y L.length c i j k)) (fun x=>x) n)[e]?=some [.lsl (i+2) 0 (n+1) none 3]:=fun e d=>by rw[eB hin e d];simp
     have hg6:∀e,e=L.length→(rwO (fun k=>aW (n+1) (rdJ Y L.length c i j k)) (fun x=>x) n)[e]?=some [.lsl (L.length+2) 0 (n+1) none 3]:=fun e d=>by rw[eB q e d];simp
     have hgi:∀e,e=j→(pE (aW (n+1) (rdJ Y L.length c i j i)))[e]?=some (qC (Y i j)):=fun e d=>by rw[ir hjn e d,rdJ_at]
     have w:∀e,e=j→(pE (aW (n+1) (rdJ Y L.length c i j L.length)))[e]?=some (qC (Y L.length j)):=fun e d=>by rw[ir hjn e d,rdJ_r]
     refine r_d ba 24 ?_;refine a_3 ?_;refine o_0 (.load_l1 rfl T (W _ (by omega)) TG.h rfl) ?_;refine a_4 ?_;refine o_0 (.load_l1 rfl T (W _ (by omega)) TG.h rfl) ?_;refine a_2 ?_;refine o_0 (.load_l rfl K (hgi _ (by omega)) TG.h TS.h (nle rfl)) ?_;refine a_4 ?_;refine o_0 (.load_l1 rfl T (hg6 _ (by omega)) TG.h rfl) ?_;refine a_2 ?_;refine o_0 (.load_l rfl Z (w _ (by omega)) TG.h TS.h (nle rfl)) ?_;refine c_s (Q) ?_;refine c_s (hsu) ?_;refine a_1 ?_;refine fY (.store rfl K (hgi _ (by omega)) rfl rfl rfl TS.h (nle rfl)) ?_;refine au (n_k ?_);refine r_m 2 ?_;refine a_z ?_;refine⟨j+1,by omega,by omega,?_⟩;rw[rdI.eq_1,rdJ_s hir];exact EE (by omega) hin hjn (by omega) fun hs=>lJ hs
    rintro _ _;show AWp _ _ _ _ (rdI Y n L.length c L i (n+1));rw[rdI.eq_1,show(fun k=>aW (n+1) (rdJ Y L.length c i (n+1) k))=fun k=>aW (n+1) (rdJ Y L.length c (i+1) 0 k) from funext fun k=>vP fun j r=>rdJ_n i k j r];refine r_m 2 ?_;refine a_z ?_;refine⟨i+1,by omega,by omega,?_⟩;rw[rdK.eq_1];exact kI (by omega) fun hs=>lJ hs
   rintro _ _;show AWp _ _ _ _ (rdK Y n L.length c L n);rw[rdK.eq_1,FP (R:=fun k=>aW (n+1) (rdJ Y L.length c n 0 k)) (R':=fun k=>aW (n+1) (rdM Y L.length c k)) fun k g=>(vP fun j _=>rdJ_end g j:rT n (rdJ Y L.length c n 0) k=rT n (rdM Y L.length c) k)];have u:dW (ap (rwH 35 34 (fun k=>aW (n+1) (rdM Y L.length c k)) n (sx1 n L))) 36=some ⟨125,3,[[.lsl 1 0 n (some n) 1,lvA L,i64 n]]⟩:=rfl;cases L with
   |nil=>
    refine r_m 7 ?_;refine a_1 ?_;refine o_0 (.load_l1 rfl u rfl TG.h rfl) ?_;refine a_2 ?_;refine AR.op1 (.append_e rfl rfl rfl te_47.h rfl rfl rfl (.lsl rfl (nle rfl)) (by first|assumption|(simp;done)) TZ.h rfl TB.h d_o (by first|(simp[maxLen];done)|(simp[maxLen];omega))) rfl rfl ?_;refine a_z ?_;refine r_m 2 ?_;refine a_z ?_;refine⟨c+1,by omega,by omega,?_⟩;rw[scS.eq_1,v];refine j5 (x:= .lsl 44 0 1 none 1) (fun x=>cond (Nat.beq x 37) 44 x) (by omega) rfl (EC (by omega)) ?_ ?_ rfl rfl (.inr ⟨by simp,rfl,rfl⟩) fun hs=>lJ hs
    ·rw[ly (by decide)]
     repeat rw[bH (by decide)]
     rw[cD cJ,gR (R':=fun k=>aW (n+1) (rdM Y ([]:List Nat).length c k)) (s':=fun x=>cond (Nat.beq x 37) 44 x)];exact fun k g=>⟨rfl,(ly (by omega)).symm⟩
    ·intro k g
     rw[ly (by omega)]
     repeat rw[bH (by omega)]
     exact dN (R:=fun k=>aW (n+1) (rdM Y ([]:List Nat).length c k)) cJ (by omega) g
   |cons l L=>
    have hLs:L.length+1< n:=q;refine r_m 7 ?_;refine a_1 ?_;refine o_0 (.load_l1 rfl u rfl TG.h rfl) ?_;refine a_z ?_;refine r_m 2 ?_;refine a_z ?_;refine⟨c+1,by omega,by omega,?_⟩;rw[scS.eq_1,v];refine j5 (x:= .lsl 44 0 (L.length+1+1) none 1) (fun x=>cond (Nat.beq x 37) 44 x) (by omega) rfl (EC (by omega)) ?_ ?_ rfl rfl (.inr ⟨by simp,by simp,by rw[H5];rfl⟩) fun hs=>lJ hs
    ·rw[ly (by decide)]
     repeat rw[bH (by decide)]
     rw[cD cJ,gR (R':=fun k=>aW (n+1) (rdM Y (l::L).length c k)) (s':=fun x=>cond (Nat.beq x 37) 44 x)];exact fun k g=>⟨rfl,(ly (by omega)).symm⟩
    ·intro k g
     rw[ly (by omega)]
     repeat rw[bH (by omega)]
     exact dN (R:=fun k=>aW (n+1) (rdM Y (l::L).length c k)) cJ (by omega) g
 rintro _ _;show AWp _ _ _ _ (scS M n n);rw[scS.eq_1];obtain⟨⟨A,L⟩,G⟩:∃p,p=slM M n n:=⟨_,rfl⟩;rw[←G];have E:∀hp:Nat→Option ABlk,hp 1=some ⟨35,1,rwO (fun k=>aW (n+1) (A k)) (fun x=>x) n⟩→(∀i,i< n→hp (i+2)=some ⟨34,3,pE (aW (n+1) (A i))⟩)→Cv (Ren.id 0) hp (fun _=>none) (.lsl 1 0 n (some n) 1) (.arr (mE ((List.range n).map fun k=>aW (n+1) (A k)))):=fun hp h1 h2=>JD (fun _ _=>rfl) h1 h2 (Nat.zero_add n);cases L with
 |nil=>
  refine r_z 2 ?_;refine ak (Fin.cell (t:=6) rfl rfl rfl TG.h TS.h (nle rfl) (Cv.agg (ai (E _ ?_ ?_) (ai (Cv.emp _) (ai (ao ay (ah _)) aw)))));rw[bH (by decide)];exact cD cJ;intro k g;rw[bH (by omega)];exact dN (R:=fun k=>aW (n+1) (A k)) cJ (by omega) g
 |cons l L=>
  refine r_z 2 ?_;refine ak (Fin.cell (t:=6) rfl rfl rfl TG.h TS.h (nle rfl) (Cv.agg (ai (E _ ?_ ?_) (ai (Cv.shut (es:=lvE (l::L)) (B:=⟨3,1,lvE (l::L)⟩) ay rfl (fun j B r=>by cases r) (by simp) (wI (by simp) (fg _))) (ai (ao ay (ah _)) aw)))));rw[bH (by decide)];exact cD cJ;intro k g;rw[bH (by omega)];exact dN (R:=fun k=>aW (n+1) (A k)) cJ (by omega) g
theorem FG (A:Nat→Nat→Rat) (l:Rat) (b:List Rat) (n B:Nat) (hn:n≤25) (hb:b.length=n) (hB:B≤100000000000)
    (hm:∀i j:Nat,i< n→j< n→qs (A i j)+qs l≤549755813888) (ha:∀i:Nat,i< n→qs (-(A i i* l))+1≤549755813887) (hq:∀c,c≤n→∀i j,i< n→j≤n→qs ((slM (svM A l (fun t=>coP b t) n) n c).1 i j)≤B):
    XSpec Tryz.prog 91 [.lsl 1 0 n (some n) 1,.agg (qC l),.arr (pE b)] (mzH 3 35 34 (mzO 3 (fun _=>n) (fun x=>x) n) (fiL A n n)) 40 (syV n (slM (svM A l (fun t=>coP b t) n) n n)) [] 1:=
 sv_rows A l b n hn hb _ hm ha (sv_cols _ n B hn hB hq)
end Go.Proofs.YtkhclghbcicapaaGreatDoor
