/- Part Z15 of the proof. -/
import Derived.Test.YtjgokhkahkmpbaaGreatDoorZ14
import Derived.Lib.ItoaNum
import Derived.Test.YtjgokhkahkmpbaaGreatDoorProg
import Derived.KernelRfl
set_option linter.all false
namespace Go.Abs
def atQ(c:Lq)(s j:Nat):Rat:=if j≤s then coP c (s- j) else 0
def quM(c:Lq)(m n:Nat):Mx:=fun i j=>if j=n then -coP c (m+1+i) else atQ c (m+i) j
theorem wV(y c:Lq)(s:Nat):∀k,eS y c k s=sQ (fun j=>atQ c s j* coP y j) k
 |0=>rfl
 |k+1=>by
  rw[eS,sQ,wV y c s k];unfold atQ;split <;> grind
theorem y6(a:Rat)(y c:Lq)(s:Nat):coP (cV (a::y) c) (s+1)=a* coP c (s+1)+sQ (fun j=>atQ c s j* coP y j) y.length:=by
 have h:Eqv (cV (a::y) c) (kQ (cj c a) (0::cV y c)):=fun x=>by
  rw[cM,bH,mh,dX,bH,cM];grind
 rw[trim_iff.1 (eqv_trim.1 h),w8,mj];show coP c (s+1) * a+coP (cV y c) s=_;rw[oM,wV];grind
theorem BX{c y:Lq}{a:Rat}{m n:Nat}(hy:y.length=n):Sol a (quM c m n) n (fun j=>coP y j)↔∀i,i< n→coP (cV (a::y) c) (m+i+1)=0:=by
 have key:∀i,coP (cV (a::y) c) (m+i+1)=sQ (fun j=>quM c m n i j* coP y j) n- a* quM c m n i n:=fun i=>by
  rw[y6,hy,c6 (g:=fun j=>atQ c (m+i) j* coP y j) (f:=fun j=>quM c m n i j* coP y j) n fun j hj=>by
   unfold quM;rw[if_neg (by omega)]]
  have:quM c m n i n= -coP c (m+1+i):=if_pos rfl;rw[this,show m+1+i=m+i+1 by omega];grind
 constructor;intro h i hi;have:=h i hi;rw[key i,this];grind;intro h i hi;have:=h i hi;rw[key i] at this;show sQ (fun j=>quM c m n i j* coP y j) n=_;grind
theorem quM_one{p q c:Lq}{m n:Nat}(hp:∀j,m< j→coP p j=0)(nq:nz q)(dq:dg q=n)(hq0:coP q 0=1)(h:∀i,i≤m+n→coP (cV q c) i=coP p i)(hco:∃A B:Lq,∀t,aA A t* aA p t+aA B t* aA q t=1):
    ∃A,gjM (quM c m n) n n=some A∧∀j,j< n→A j n/ A j j=coP q (j+1):=by
 have hqn:=Cf nq (show dg q≤n by omega);cases hA:gjM (quM c m n) n n with
 |none=>
  exfalso;obtain⟨x,⟨j,hj,hx⟩,hs⟩:=Ci n (Nat.le_refl n) hA
  have hc:∀i,i< n→coP (aL n x) i=x i:=fun i hi=>by
   unfold coP aL;rw[List.getD_eq_getElem?_getD,List.getElem?_map,List.getElem?_range hi];rfl
  have hs':Sol 0 (quM c m n) n (fun j=>coP (aL n x) j):=fun i hi=>by
   rw[c6 (g:=fun j=>quM c m n i j* x j) n fun j hj=>by show _* coP (aL n x) j=_;rw[hc j hj]];exact hs i hi
  have h3:=(BX (ld n x)).1 hs';obtain⟨q',hq'⟩:∃q',q'=(0:Rat)::aL n x:=⟨_,rfl⟩;rw[←hq'] at h3
  have hz:=C2 (p':=aL (m+1) fun j=>coP (cV q' c) j) (q':=q') (c:=c) hp nq dq (fun j hj=>eK (by simp;omega)) (fun j hj=>by rw[hq'];exact eK (by simp;omega)) h (fun i hi=>by
   by_cases g:i< m+1;unfold aL;show _=coP (List.map _ _) i
   rw[show coP (List.map (fun j=>coP (cV q' c) j) (List.range (m+1))) i=coP (cV q' c) i by
    unfold coP;rw[List.getD_eq_getElem?_getD (l:=List.map _ _),List.getElem?_map,List.getElem?_range g];rfl]
   rw[eK (show(aL (m+1) fun j=>coP (cV q' c) j).length≤i by simp;omega)];have:=h3 (i- m- 1) (by omega);rwa[show m+(i- m- 1)+1=i by omega] at this) hco (by rw[u5,hq0]) (by rw[u5,hq'];rfl)
  have h4:∀i,coP q' i=coP [] i:=trim_iff.1 (jY fun t=>by rw[hz t,er]);have h5:=h4 (j+1);rw[hq'] at h5;have h6:coP (aL n x) j=0:=h5;rw[hc j hj] at h6;exact hx h6
 |some A=>
  refine⟨A,rfl,?_⟩
  have hy:Sol 1 (quM c m n) n (fun j=>coP (aL n fun j=>coP q (j+1)) j):=(BX (ld _ _)).2 fun i hi=>by
   have e:∀j,coP ((1:Rat)::aL n fun j=>coP q (j+1)) j=coP q j:=fun j=>by
    cases j with
    |zero=>exact hq0.symm
    |succ j=>
     show coP (aL n fun j=>coP q (j+1)) j=_;by_cases g:j< n;unfold coP aL;rw[List.getD_eq_getElem?_getD,List.getElem?_map,List.getElem?_range g];rfl;rw[eK (by simp;omega),hqn _ (by omega)]
   have e2:coP (cV ((1:Rat)::aL n fun j=>coP q (j+1)) c) (m+i+1)=coP (cV q c) (m+i+1):=trim_iff.1 (jY fun t=>by rw[cM,cM,fX e]) _;rw[e2,h _ (by omega),hp _ (by omega)]
  have h2:=wt hA (AA hA) hy;intro j hj;rw[h2 j hj];unfold coP aL;rw[List.getD_eq_getElem?_getD,List.getElem?_map,List.getElem?_range hj];rfl
end Go.Abs
namespace Go.Abs
open Go.RowKit
section
variable {fr fr':Fr}{hp:Hp}{nx N TS TQ n:Nat}{R:Nat→Lq}
theorem SEntP.rz (s:Nat→Nat) (hn:n≤30) (hinj:∀i j,InZ n i→InZ n j→s i=s j→i=j) (h1:ap hp (s 0)=some ⟨TS,1,rwO R s n⟩) (hr:∀i,i< n→ap hp (s (i+2))=some ⟨TQ,3,pE (R i)⟩)
    (hF:Shr ⟨40,s⟩ (ap hp) (ap (rzH TS TQ R n))→CvF ⟨40,s⟩ (ap hp) (ap (rzH TS TQ R n)) fr fr'):SEntP ⟨fr,hp,nx,N⟩ ⟨fr',rzH TS TQ R n,40,N⟩:=by
 have hS:Shr ⟨40,s⟩ (ap hp) (ap (rzH TS TQ R n)):=⟨fun i B h=>by
  rcases lY i B (cU h) with⟨rfl,rfl⟩|⟨k,k1,rfl,rfl⟩
  exact⟨(show 0< 40 by decide),⟨TS,1,rwO R s n⟩,h1,rfl,rfl,by simp⟩;exact⟨by show k+2< 40;omega,_,hr k k1,rfl,rfl,rfl⟩⟩
 refine SEntP.intro (st:=⟨fr,hp,nx,N⟩) (st':=⟨fr',rzH TS TQ R n,40,N⟩) ⟨40,s⟩ rfl (show 0< 40 by decide) (oh _ fun i j hi hj e=>?_) rfl (hF hS) (pY _ fun i B h=>?_)
 have g:∀i,i∈(rzH TS TQ R n).map (·.1)→InZ n i:=fun i hi=>by
  rcases List.mem_cons.1 hi with h|h
  exact .inl h;have:=od _ 2 i h;rw[iZ] at this;exact .inr ⟨by omega,by omega⟩
 exact hinj i j (g i hi) (g j hj) e;rcases lY i B h with⟨rfl,rfl⟩|⟨k,k1,rfl,rfl⟩
 refine⟨(show 0< 40 by decide),⟨TS,1,rwO R s n⟩,h1,rfl,rfl,ue hn fun i hi=>?_⟩;rw[cP hi];rfl;exact⟨by show k+2< 40;omega,_,hr k k1,rfl,rfl,b9 hS (aF _)⟩
def s01(x:Nat):Nat:=cond (Nat.beq x 0) 1 x
theorem pe{x:Nat}(h:x≠0):s01 x=x:=by
 cases x with
 |zero=>exact absurd rfl h
 |succ x=>rfl
theorem s01_inj(x y:Nat)(hx:InZ n x)(hy:InZ n y)(e:s01 x=s01 y):x=y:=by
 unfold InZ at hx hy;by_cases h1:x=0 <;> by_cases h2:y=0;omega;rw[h1,pe h2] at e;have e:1=y:=e;omega;rw[h2,pe h1] at e;have e:x=1:=e;omega;rwa[pe h1,pe h2] at e
theorem rz_top{H:Nat→Prop}(hH:∀k,k< n→H (k+2)):∀i B,ap (rzH TS TQ R n) i=some B→B.sz≠0∧∀e∈B.es,∀c∈e,Top H c:=fun i B h=>by
 rcases lY i B (cU h) with⟨rfl,rfl⟩|⟨k,k1,rfl,rfl⟩
 refine⟨(show(1:Nat)≠0 by decide),fun e he c hc=>?_⟩;obtain⟨k,hk⟩:=List.mem_iff_getElem?.1 he
 have hlt:k< n:=by
  have:=(List.getElem?_eq_some_iff.1 hk).1;rwa[ku] at this
 rw[eU hlt k rfl] at hk;cases hk;rw[List.mem_singleton.1 hc];exact .sl (hH k hlt);exact⟨(show(3:Nat)≠0 by decide),fun e he c hc=> .clo (aF _ e he c hc)⟩
end
end Go.Abs
namespace Go.Abs

theorem xF(f:Nat→Rat):∀n,sQ f (n+1)=f 0+sQ (fun i=>f (i+1)) n
 |0=>by rw[sQ,sQ,sQ];grind
 |n+1=>by rw[sQ,xF f n,sQ];grind
section
variable {N:Lq}{n:Nat}(hN:nz N)(hm:aS N=1)(hd:dg N=n)(h1:1≤n)(ht:av N=N)
include hN hm hd h1 ht
end
def srX(p q c:Lq)(i:Nat):Nat→Rat
 |0=>coP p i
 |j+1=>srX p q c i j- coP q (j+1) * coP c (i- (j+1))
def srC(p q:Lq):Nat→Lq
 |0=>[]
 |i+1=>srC p q i++[srX p q (srC p q i) i (min i (q.length- 1))]
@[simp] theorem kq (p q:Lq):∀i,(srC p q i).length=i
 |0=>rfl
 |i+1=>by rw[srC,List.length_append,kq p q i];rfl
theorem DJ{a b:Lq}{i:Nat}(h:i< a.length):coP (a++b) i=coP a i:=by
 unfold coP;rw[List.getD_eq_getElem?_getD,List.getD_eq_getElem?_getD,List.getElem?_append_left h]
theorem DK{a:Lq}{b:Rat}:coP (a++[b]) a.length=b:=by
 unfold coP;rw[List.getD_eq_getElem?_getD,List.getElem?_append_right (Nat.le_refl _)];simp
theorem vB(p q:Lq){i j:Nat}:∀n,i< j→j≤n→coP (srC p q n) i=coP (srC p q j) i
 |0,h,hn=>by omega
 |n+1,h,hn=>by
  by_cases e:j=n+1;rw[e];rw[srC,DJ (by rw[kq];omega),vB p q n h (by omega)]
theorem uA{p q c c':Lq}{i:Nat}(h:∀k,k< i→coP c k=coP c' k):∀j,j≤i→srX p q c i j=srX p q c' i j
 |0,_=>rfl
 |j+1,hj=>by rw[srX,srX,uA h j (by omega),h _ (by omega)]
theorem BF(p q c:Lq)(i:Nat):∀j,srX p q c i j=coP p i- sQ (fun t=>coP q (t+1) * coP c (i- (t+1))) j
 |0=>by rw[srX,sQ];grind
 |j+1=>by rw[srX,BF p q c i j,sQ];grind
theorem BJ(f:Nat→Rat){k:Nat}(h:∀j,k≤j→f j=0):∀n,k≤n→sQ f n=sQ f k
 |0,hn=>by rw[show k=0 by omega]
 |n+1,hn=>by
  by_cases e:k=n+1;rw[e];rw[sQ,BJ f h n (by omega),h n (by omega)];grind
theorem srC_mul{p q:Lq}(hq:coP q 0=1){n i:Nat}(hi:i< n):coP (cV q (srC p q n)) i=coP p i:=by
 obtain⟨c,hc⟩:∃c,c=srC p q n:=⟨_,rfl⟩
 have h1:coP (cV q c) i=sQ (fun j=>atQ c i j* coP q j) (i+1):=by
  rw[←wV,oM,←tK q c i (i+1),Nat.add_comm q.length,tM]
 have h2:coP c i=srX p q c i (min i (q.length- 1)):=by
  have e:coP (srC p q (i+1)) i=srX p q (srC p q i) i (min i (q.length- 1)):=by
   rw[srC];have:=DK (a:=srC p q i) (b:=srX p q (srC p q i) i (min i (q.length- 1)));rwa[kq] at this
  rw[hc,vB p q n (show i< i+1 by omega) (by omega),e];exact uA (fun k hk=>(vB p q n hk (by omega)).symm) _ (Nat.min_le_left _ _)
 rw[←hc,h1,xF,c6 (g:=fun t=>coP q (t+1) * coP c (i- (t+1))) (f:=fun j=>atQ c i (j+1) * coP q (j+1)) i fun j hj=>by
  unfold atQ;rw[if_pos (by omega)];grind]
 have h3:atQ c i 0* coP q 0=coP c i:=by
  unfold atQ;rw[if_pos (Nat.zero_le _),hq,Nat.sub_zero];grind
 have h4:sQ (fun t=>coP q (t+1) * coP c (i- (t+1))) i=sQ (fun t=>coP q (t+1) * coP c (i- (t+1))) (min i (q.length- 1)):=by
  by_cases g:i≤q.length- 1;rw[Nat.min_eq_left g];rw[Nat.min_eq_right (by omega)];exact BJ _ (fun j hj=>by rw[eK (show q.length≤j+1 by omega)];grind) i (by omega)
 rw[h3,h4,h2,BF];grind
def quQ(A:Mx)(n i:Nat):Lq:=1::aL i (fun k=>A k n)
def quD(A:Mx)(n:Nat):Lq:=av (quQ A n n)
def quN(c:Lq)(A:Mx)(m n:Nat):Lq:=av ((cV (c.take (m+1)) (quD A n)).take (m+1))
theorem Ag{f:Nat}{p q g:Lq}(h:mu f p q=some g)(hq:nz p)(hd:¬ct g> 0):∃A B:Lq,∀t,aA A t* aA p t+aA B t* aA q t=1:=by
 obtain⟨ng,_,_,a,b,hab⟩:=yl f p q g h (.inl hq);have h0:dg g=0:=by have:=oJ ng;omega
 obtain⟨⟨e1,e2⟩,_⟩:=jd ng;rw[h0] at e1 e2
 have hc:∀t,aA g t=coP g 0:=fun t=>by
  have:∀i,coP g i=coP [coP g 0] i:=fun i=>by
   cases i with
   |zero=>rfl
   |succ i=>rw[e2 _ (by omega)];rfl
  rw[fX this];show 0* t+coP g 0=_;grind
 refine⟨cj a (1/ coP g 0),cj b (1/ coP g 0),fun t=>?_⟩;have h1:=hab t;rw[hc] at h1;rw[dX,dX];have h2:=Rat.div_mul_cancel (a:=1) e1;grind
theorem ER(b:Lq):coP (av (1::b)) 0=1∧nz (av (1::b)):=by
 have h:coP (av (1::b)) 0=1:=by rw[fj];rfl
 refine⟨h,fun e=>?_⟩;rw[fJ] at e;rw[e] at h;exact absurd h (by decide)
theorem qu_same{p q g:Lq}{f:Nat}(np:nz p)(nq:nz q)(hq0:coP q 0=1)(tp:av p=p)(tq:av q=q)(hg:mu f p q=some g)(hd:¬ct g> 0):
    dg q≤(slM (quM (srC p q (dg p+dg q+1)) (dg p) (dg q)) (dg q) (dg q)).2.length∧quD (slM (quM (srC p q (dg p+dg q+1)) (dg p) (dg q)) (dg q) (dg q)).1 (dg q)=q∧
    quN (srC p q (dg p+dg q+1)) (slM (quM (srC p q (dg p+dg q+1)) (dg p) (dg q)) (dg q) (dg q)).1 (dg p) (dg q)=p:=by
 obtain⟨c,hc⟩:∃c,c=srC p q (dg p+dg q+1):=⟨_,rfl⟩;have hmul:∀i,i≤dg p+dg q→coP (cV q c) i=coP p i:=fun i hi=>by rw[hc];exact srC_mul hq0 (by omega)
 have hpn:=Cf np (Nat.le_refl _);have hqn:=Cf nq (Nat.le_refl _);obtain⟨A,hA,hx⟩:=quM_one (m:=dg p) (n:=dg q) hpn nq rfl hq0 hmul (Ag hg np hd);obtain⟨l1,l2⟩:=Ej hA;rw[←hc];obtain⟨Z,hZ⟩:∃Z,Z=(slM (quM c (dg p) (dg q)) (dg q) (dg q)).1:=⟨_,rfl⟩;rw[←hZ] at l2⊢
 have hD:quD Z (dg q)=q:=by
  unfold quD;rw[←tq];refine trim_iff.2 fun i=>?_;rw[tq];cases i with
  |zero=>exact hq0.symm
  |succ i=>
   show coP (aL (dg q) _) i=_;rw[wX];by_cases h:i< dg q;rw[if_pos h,l2 i h,hx i h];rw[if_neg h,hqn _ (by omega)]
 refine⟨l1,hD,?_⟩;unfold quN;rw[hD,←tp];refine trim_iff.2 fun i=>?_;rw[tp,y7];by_cases h:i< dg p+1;rw[if_pos h];have e1:coP (cV (c.take (dg p+1)) q) i=coP (cV q (c.take (dg p+1))) i:=trim_iff.1 (jY fun t=>by rw[cM,cM];grind) i;rw[e1,kL (q':=c) fun j hj=>by rw[y7,if_pos (by omega)]];exact hmul i (by omega);rw[if_neg h,hpn _ (by omega)]
theorem zN{p q c:Lq}{s t:Nat}(hp:bdL p s)(hq:bdL q s)(hs:1≤s)(hc:∀k,qs (coP c k)≤t)(i:Nat):∀j,qs (srX p q c i j)≤s+j* (s+t+1)
 |0=>by
  rw[srX];exact Nat.le_trans (eO hp hs i) (by omega)
 |j+1=>by
  have h1:=zN hp hq hs hc i j;have h2:=eO hq hs (j+1);have h3:=hc (i- (j+1));have h4:=e8 (coP q (j+1)) (coP c (i- (j+1)));have h5:=sH (srX p q c i j) (coP q (j+1) * coP c (i- (j+1)));rw[srX,Nat.succ_mul];omega
def srB(s:Nat):Nat→Nat
 |0=>1
 |i+1=>s+3* (s+srB s i+1)
theorem zO{p q:Lq}{s:Nat}(hp:bdL p s)(hq:bdL q s)(hs:1≤s)(hl:q.length≤4):∀i,bdL (srC p q i) (srB s i)
 |0=>fun x hx=>by cases hx
 |i+1=>fun x hx=>by
  have ih:=zO hp hq hs hl i
  have hb:∀k,1≤srB s k:=fun k=>by
   cases k with
   |zero=>exact Nat.le_refl _
   |succ k=>show 1≤s+3* (s+srB s k+1);omega
  have e:srB s (i+1)=s+3* (s+srB s i+1):=rfl;rw[srC] at hx;rcases List.mem_append.1 hx with h|h
  have:=ih x h;rw[e];omega;rw[List.mem_singleton.1 h,e];refine Nat.le_trans (zN hp hq hs (t:=srB s i) (fun k=>eO ih (hb i) k) i _) (Nat.add_le_add_left (Nat.mul_le_mul_right _ ?_) _);have:=Nat.min_le_right i (q.length- 1);omega
theorem quM_bd{c:Lq}{m n s:Nat}(hc:bdL c s)(hs:1≤s):bdM (quM c m n) n s:=fun i j _ _=>by
 unfold quM atQ;split;rw[iw];exact eO hc hs _;split;exact eO hc hs _;exact Nat.le_trans (by decide:qs 0≤1) hs

end Go.Abs
namespace Go.Proofs.YtjgokhkahkmpbaaGreatDoor
open Go.Abs
set_option maxRecDepth 20000
theorem hmix:Tryz.prog.follows .mixedOrders=true:=by kernel_rfl
instance:T4 Tryz.prog 2 [Value.int IntKind.i64 0] 1 false 8:=⟨by kernel_rfl⟩
instance tu_2:TU Tryz.prog 2 (.int .i64):=⟨by kernel_rfl⟩
instance:T4 Tryz.prog 3 [Value.int IntKind.i64 0] 1 false 8:=⟨by kernel_rfl⟩
instance tu_3:TU Tryz.prog 3 (.int .i64):=⟨by kernel_rfl⟩
instance:T4 Tryz.prog 4 [Value.bool false] 1 false 1:=⟨by kernel_rfl⟩
instance tu_4:TU Tryz.prog 4 .bool:=⟨by kernel_rfl⟩
instance:T4 Tryz.prog 5 [Value.int IntKind.u8 0] 1 false 1:=⟨by kernel_rfl⟩
instance tu_5:TU Tryz.prog 5 (.int .u8):=⟨by kernel_rfl⟩
instance:T3 Tryz.prog 9 1 false 16:=⟨by kernel_rfl⟩
instance tu_9:TU Tryz.prog 9 .string:=⟨by kernel_rfl⟩
instance:T4 Tryz.prog 22 [Value.slice none 0 0] 1 false 24:=⟨by kernel_rfl⟩
instance te_22:TE Tryz.prog 22 (24,3):=⟨by kernel_rfl⟩
instance:T4 Tryz.prog 24 [Value.int IntKind.i64 0,Value.int IntKind.i64 0,Value.int IntKind.u8 0] 3 true 24:=⟨by kernel_rfl⟩
instance tp_24:TP Tryz.prog 24 [(0,1),(1,1),(2,1)]:=⟨by kernel_rfl⟩
instance:T2 Tryz.prog 24 0 (0,1) false:=⟨by kernel_rfl⟩
instance:T2 Tryz.prog 24 1 (1,1) false:=⟨by kernel_rfl⟩
instance:T2 Tryz.prog 24 2 (2,1) false:=⟨by kernel_rfl⟩
instance:T4 Tryz.prog 29 [Value.slice none 0 0] 1 false 24:=⟨by kernel_rfl⟩
instance te_29:TE Tryz.prog 29 (42,3):=⟨by kernel_rfl⟩
instance:T4 Tryz.prog 30 [Value.slice none 0 0] 1 false 24:=⟨by kernel_rfl⟩
instance te_30:TE Tryz.prog 30 (42,3):=⟨by kernel_rfl⟩
instance:T4 Tryz.prog 31 [Value.slice none 0 0] 1 false 24:=⟨by kernel_rfl⟩
instance te_31:TE Tryz.prog 31 (49,4):=⟨by kernel_rfl⟩
instance:T4 Tryz.prog 36 [Value.slice none 0 0] 1 false 24:=⟨by kernel_rfl⟩
instance te_36:TE Tryz.prog 36 (176,1):=⟨by kernel_rfl⟩
instance:T4 Tryz.prog 38 [Value.slice none 0 0] 1 true 24:=⟨by kernel_rfl⟩
instance tp_38:TP Tryz.prog 38 [(0,1)]:=⟨by kernel_rfl⟩
instance:T2 Tryz.prog 38 0 (0,1) false:=⟨by kernel_rfl⟩
instance:T4 Tryz.prog 40 [Value.slice none 0 0,Value.bool false] 2 true 32:=⟨by kernel_rfl⟩
instance tp_40:TP Tryz.prog 40 [(0,1),(1,1)]:=⟨by kernel_rfl⟩
instance:T2 Tryz.prog 40 0 (0,1) true:=⟨by kernel_rfl⟩
instance:T2 Tryz.prog 40 1 (1,1) false:=⟨by kernel_rfl⟩
instance:T4 Tryz.prog 42 [Value.slice none 0 0,Value.bool false,Value.slice none 0 0] 3 true 56:=⟨by kernel_rfl⟩
instance tp_42:TP Tryz.prog 42 [(0,2),(2,1)]:=⟨by kernel_rfl⟩
instance:T2 Tryz.prog 42 0 (0,2) true:=⟨by kernel_rfl⟩
instance:T2 Tryz.prog 42 1 (2,1) true:=⟨by kernel_rfl⟩
instance:T4 Tryz.prog 44 [Value.slice none 0 0,Value.bool false,Value.slice none 0 0,Value.slice none 0 0,Value.bool false,Value.slice none 0 0] 6 true 112:=⟨by kernel_rfl⟩
instance tp_44:TP Tryz.prog 44 [(0,3),(3,3)]:=⟨by kernel_rfl⟩
instance:T2 Tryz.prog 44 0 (0,3) true:=⟨by kernel_rfl⟩
instance:T2 Tryz.prog 44 1 (3,3) true:=⟨by kernel_rfl⟩
instance:T4 Tryz.prog 45 [Value.slice none 0 0] 1 false 24:=⟨by kernel_rfl⟩
instance te_45:TE Tryz.prog 45 (3,1):=⟨by kernel_rfl⟩
instance:T4 Tryz.prog 47 [Value.int IntKind.i64 0,Value.slice none 0 0] 2 true 32:=⟨by kernel_rfl⟩
instance tp_47:TP Tryz.prog 47 [(0,1),(1,1)]:=⟨by kernel_rfl⟩
instance:T2 Tryz.prog 47 0 (0,1) false:=⟨by kernel_rfl⟩
instance:T2 Tryz.prog 47 1 (1,1) false:=⟨by kernel_rfl⟩
instance:T4 Tryz.prog 49 [Value.int IntKind.i64 0,Value.slice none 0 0,Value.int IntKind.i64 0,Value.slice none 0 0] 4 true 64:=⟨by kernel_rfl⟩
instance tp_49:TP Tryz.prog 49 [(0,2),(2,2)]:=⟨by kernel_rfl⟩
instance:T2 Tryz.prog 49 0 (0,2) true:=⟨by kernel_rfl⟩
instance:T2 Tryz.prog 49 1 (2,2) true:=⟨by kernel_rfl⟩
instance:T4 Tryz.prog 78 [Value.slice none 0 0,Value.slice none 0 0,Value.bool false,Value.slice none 0 0,Value.slice none 0 0] 5 true 104:=⟨by kernel_rfl⟩
instance tp_78:TP Tryz.prog 78 [(0,1),(1,3),(4,1)]:=⟨by kernel_rfl⟩
instance:T2 Tryz.prog 78 0 (0,1) false:=⟨by kernel_rfl⟩
instance:T2 Tryz.prog 78 1 (1,3) true:=⟨by kernel_rfl⟩
instance:T2 Tryz.prog 78 2 (4,1) false:=⟨by kernel_rfl⟩
instance:T4 Tryz.prog 82 [Value.slice none 0 0,Value.slice none 0 0,Value.slice none 0 0] 3 true 72:=⟨by kernel_rfl⟩
instance tp_82:TP Tryz.prog 82 [(0,1),(1,1),(2,1)]:=⟨by kernel_rfl⟩
instance:T2 Tryz.prog 82 0 (0,1) false:=⟨by kernel_rfl⟩
instance:T2 Tryz.prog 82 1 (1,1) false:=⟨by kernel_rfl⟩
instance:T2 Tryz.prog 82 2 (2,1) false:=⟨by kernel_rfl⟩
instance:T4 Tryz.prog 86 [Value.slice none 0 0,Value.slice none 0 0,Value.slice none 0 0,Value.bool false,Value.slice none 0 0,Value.slice none 0 0,Value.bool false,Value.slice none 0 0] 8 true 160:=⟨by kernel_rfl⟩
instance tp_86:TP Tryz.prog 86 [(0,1),(1,1),(2,3),(5,3)]:=⟨by kernel_rfl⟩
instance:T2 Tryz.prog 86 0 (0,1) false:=⟨by kernel_rfl⟩
instance:T2 Tryz.prog 86 1 (1,1) false:=⟨by kernel_rfl⟩
instance:T2 Tryz.prog 86 2 (2,3) true:=⟨by kernel_rfl⟩
instance:T2 Tryz.prog 86 3 (5,3) true:=⟨by kernel_rfl⟩
instance:T4 Tryz.prog 90 [Value.nilFunc] 1 false 8:=⟨by kernel_rfl⟩
instance:T4 Tryz.prog 97 [Value.nilFunc] 1 false 8:=⟨by kernel_rfl⟩
instance:T4 Tryz.prog 117 [Value.slice none 0 0] 1 false 24:=⟨by kernel_rfl⟩
instance te_117:TE Tryz.prog 117 (29,1):=⟨by kernel_rfl⟩
instance:T4 Tryz.prog 134 [Value.nilFunc] 1 false 8:=⟨by kernel_rfl⟩
instance:T4 Tryz.prog 137 [Value.slice none 0 0] 1 false 24:=⟨by kernel_rfl⟩
instance te_137:TE Tryz.prog 137 (2,1):=⟨by kernel_rfl⟩
instance:T4 Tryz.prog 138 [Value.pointer none] 1 false 8:=⟨by kernel_rfl⟩
instance:T4 Tryz.prog 140 [Value.slice none 0 0,Value.slice none 0 0,Value.slice none 0 0,Value.int IntKind.i64 0,Value.slice none 0 0,Value.slice none 0 0,Value.slice none 0 0,Value.bool false,Value.slice none 0 0,Value.bool false] 10 true 192:=⟨by kernel_rfl⟩
instance tp_140:TP Tryz.prog 140 [(0,3),(3,1),(4,1),(5,1),(6,3),(9,1)]:=⟨by kernel_rfl⟩
instance:T2 Tryz.prog 140 0 (0,3) true:=⟨by kernel_rfl⟩
instance:T2 Tryz.prog 140 1 (3,1) false:=⟨by kernel_rfl⟩
instance:T2 Tryz.prog 140 2 (4,1) false:=⟨by kernel_rfl⟩
instance:T2 Tryz.prog 140 3 (5,1) false:=⟨by kernel_rfl⟩
instance:T2 Tryz.prog 140 4 (6,3) true:=⟨by kernel_rfl⟩
instance:T2 Tryz.prog 140 5 (9,1) false:=⟨by kernel_rfl⟩
instance:T4 Tryz.prog 145 [Value.pointer none] 1 false 8:=⟨by kernel_rfl⟩
instance:T4 Tryz.prog 146 [Value.slice none 0 0] 1 false 24:=⟨by kernel_rfl⟩
instance te_146:TE Tryz.prog 146 (5,1):=⟨by kernel_rfl⟩
instance:T4 Tryz.prog 148 [Value.pointer none,Value.slice none 0 0] 2 true 32:=⟨by kernel_rfl⟩
instance tp_148:TP Tryz.prog 148 [(0,1),(1,1)]:=⟨by kernel_rfl⟩
instance:T2 Tryz.prog 148 0 (0,1) false:=⟨by kernel_rfl⟩
instance:T2 Tryz.prog 148 1 (1,1) false:=⟨by kernel_rfl⟩
instance:T4 Tryz.prog 155 [Value.nilFunc] 1 false 8:=⟨by kernel_rfl⟩
instance:T4 Tryz.prog 156 [Value.nilFunc] 1 false 8:=⟨by kernel_rfl⟩
instance:T4 Tryz.prog 161 [Value.slice none 0 0] 1 false 24:=⟨by kernel_rfl⟩
instance te_161:TE Tryz.prog 161 (30,1):=⟨by kernel_rfl⟩
instance:T4 Tryz.prog 173 [Value.int IntKind.u64 0] 1 false 8:=⟨by kernel_rfl⟩
instance tu_173:TU Tryz.prog 173 (.int .u64):=⟨by kernel_rfl⟩
instance:T4 Tryz.prog 176 [Value.int IntKind.u32 0] 1 false 4:=⟨by kernel_rfl⟩
instance tu_176:TU Tryz.prog 176 (.int .u32):=⟨by kernel_rfl⟩
instance:T4 Tryz.prog 183 [Value.nilFunc] 1 false 8:=⟨by kernel_rfl⟩
instance:T4 Tryz.prog 186 [Value.nilFunc] 1 false 8:=⟨by kernel_rfl⟩
instance:T4 Tryz.prog 188 [Value.nilFunc] 1 false 8:=⟨by kernel_rfl⟩
instance:T4 Tryz.prog 189 [Value.slice none 0 0] 1 false 24:=⟨by kernel_rfl⟩
instance te_189:TE Tryz.prog 189 (4,1):=⟨by kernel_rfl⟩
instance:T4 Tryz.prog 199 [Value.pointer none] 1 false 8:=⟨by kernel_rfl⟩
instance:T4 Tryz.prog 204 [Value.slice none 0 0] 1 false 24:=⟨by kernel_rfl⟩
instance te_204:TE Tryz.prog 204 (207,2):=⟨by kernel_rfl⟩
instance:T4 Tryz.prog 207 [Value.slice none 0 0,Value.int IntKind.i64 0] 2 true 32:=⟨by kernel_rfl⟩
instance tp_207:TP Tryz.prog 207 [(0,1),(1,1)]:=⟨by kernel_rfl⟩
instance:T2 Tryz.prog 207 0 (0,1) false:=⟨by kernel_rfl⟩
instance:T2 Tryz.prog 207 1 (1,1) false:=⟨by kernel_rfl⟩
instance:T4 Tryz.prog 211 [Value.nilFunc] 1 false 8:=⟨by kernel_rfl⟩
instance:T4 Tryz.prog 214 [Value.nilFunc] 1 false 8:=⟨by kernel_rfl⟩
instance:T4 Tryz.prog 216 [Value.slice none 0 0,Value.nilFunc] 2 true 32:=⟨by kernel_rfl⟩
instance tp_216:TP Tryz.prog 216 [(0,1),(1,1)]:=⟨by kernel_rfl⟩
instance:T2 Tryz.prog 216 0 (0,1) false:=⟨by kernel_rfl⟩
instance:T2 Tryz.prog 216 1 (1,1) false:=⟨by kernel_rfl⟩
instance:T4 Tryz.prog 217 [Value.map none] 1 false 8:=⟨by kernel_rfl⟩
instance tm_217:TU Tryz.prog 217 (.map 5 216):=⟨by kernel_rfl⟩
instance:T4 Tryz.prog 247 [Value.nilFunc] 1 false 8:=⟨by kernel_rfl⟩
instance:T4 Tryz.prog 249 [Value.pointer none] 1 false 8:=⟨by kernel_rfl⟩
instance:T4 Tryz.prog 253 [Value.int IntKind.u64 0] 1 false 8:=⟨by kernel_rfl⟩
instance tu_253:TU Tryz.prog 253 (.int .u64):=⟨by kernel_rfl⟩
instance:T4 Tryz.prog 259 [Value.pointer none] 1 false 8:=⟨by kernel_rfl⟩
instance:T3 Tryz.prog 269 24 true 24:=⟨by kernel_rfl⟩
instance:T4 Tryz.prog 279 [Value.pointer none] 1 false 8:=⟨by kernel_rfl⟩
instance:T4 Tryz.prog 282 [Value.slice none 0 0,Value.slice none 0 0,Value.int IntKind.i64 0] 3 true 56:=⟨by kernel_rfl⟩
instance tp_282:TP Tryz.prog 282 [(0,1),(1,1),(2,1)]:=⟨by kernel_rfl⟩
instance:T2 Tryz.prog 282 0 (0,1) false:=⟨by kernel_rfl⟩
instance:T2 Tryz.prog 282 1 (1,1) false:=⟨by kernel_rfl⟩
instance:T2 Tryz.prog 282 2 (2,1) false:=⟨by kernel_rfl⟩
instance:T4 Tryz.prog 284 [Value.pointer none,Value.int IntKind.i64 0] 2 true 16:=⟨by kernel_rfl⟩
instance tp_284:TP Tryz.prog 284 [(0,1),(1,1)]:=⟨by kernel_rfl⟩
instance:T2 Tryz.prog 284 0 (0,1) false:=⟨by kernel_rfl⟩
instance:T2 Tryz.prog 284 1 (1,1) false:=⟨by kernel_rfl⟩
instance:T4 Tryz.prog 302 [Value.nilFunc] 1 false 8:=⟨by kernel_rfl⟩
abbrev FS:=FSpec Tryz.prog
theorem Cj(l:Ln):FS 99 [.agg [.arr (dE l)]] (bln (l.length==0)):=by
 refine f_n Tryz.func99 ?_ ?_;exact ac (aK (ac (cQ l) ai)) ai;refine r_z 2 ?_;refine r_z 5 ?_;refine am (aR rfl ?_ (ag _));simp only[bln,pP];congr 2;rw[Bool.eq_iff_iff];simp
theorem gP(l:Ln)(hl:l.length≤281474976710656):FS 133 [.arr (dE l)] (.agg [.arr (dE (eP l))]):=by
 refine f_n Tryz.func133 ?_ ?_;exact ac (cQ l) ai;refine r_z 1 ?_;refine r_z 3 ?_;refine aZ (fun k:Nat=>⟨[(0,.arr (dE l)),(2,.lptr 1 0 0),(3,i64 k)],[(1,some ⟨38,1,[[.emp]]⟩)],2,23⟩) (fun k=>k≤l.length∧eP l=l.take k) ?_ ?_;refine ak (aC (fun k:Nat=>⟨[(0,.arr (dE l)),(2,.lptr 1 0 0),(3,i64 k)],[(1,some ⟨38,1,[[.emp]]⟩)],2,23⟩) (fun k=>k) (fun k=>k≤l.length∧∀i,k≤i→i< l.length→l[i]?=some 0) l.length ⟨Nat.le_refl _,fun i h1 h2=>by omega⟩ ?_ ?_);exact s_e [];rintro k ⟨hk,hz⟩;have fin:k=0∨l[k- 1]?≠some 0→eP l=l.take k:=ko l k hk hz;by_cases h0:k=0;subst h0;refine ae (s_r 10 ?_);refine a_3 ?_;refine n_g rfl d_f ?_;refine n_g rfl d_f ?_;refine n_g rfl d_f ?_;refine n_g rfl d_f ?_;refine n_g rfl d_f ?_;refine n_g rfl d_f ?_;refine o_0 (.pickF rfl d_f rfl) ?_;refine aq ?_;refine au rfl (fun h=>?_) (fun _=>?_);cases h;refine aB ⟨0,⟨hk,fin (.inl rfl)⟩,?_⟩;exact s_e [];have hk1:k- 1< l.length:=by omega
 obtain⟨d,hd⟩:∃d,l[k- 1]?=some d:=⟨_,List.getElem?_eq_getElem hk1⟩;have hd':(dE l)[((k:Int)- 1).toNat]?=some [u32 d]:=by rw[show((k:Int)- 1).toNat=k- 1 by omega];exact du hd
 refine ae (s_r 10 ?_);refine a_3 ?_;refine y_g rfl d_t (.move rfl) ?_;refine y_g rfl d_t (.move rfl) ?_;refine y_g rfl d_t (.bin rfl rfl (jn (by omega))) ?_
 first|refine y_g rfl d_t (.index_l rfl rfl (by omega) (by omega) te_36.h) ?_|refine y_g rfl d_t (.index_a rfl rfl (by omega) hd' rfl te_36.h) ?_
 first|refine y_g rfl d_t (.load_l1 rfl rfl hd' TG.h rfl) ?_|refine y_g rfl d_t (.load_a1 rfl hd' TG.h rfl) ?_
 refine y_g rfl d_t (.bin rfl rfl aV) ?_;refine o_0 (.pickT rfl d_t rfl) ?_;refine aq ?_;refine au rfl (fun h=>?_) (fun h=>?_);refine an ?_;have hd0:d=0:=by simpa using h
 subst hd0;refine ak (r_m 3 ?_);refine a_z ?_;refine⟨k- 1,by omega,⟨by omega,fun i h1 h2=>?_⟩,?_⟩;by_cases hi:i=k- 1;rw[hi];exact hd;exact hz i (by omega) h2;exact s_e [];refine aB ⟨k,⟨hk,fin (.inr ?_)⟩,?_⟩;rw[hd];simp at h⊢;omega;exact s_e [];rintro k ⟨hk,ht⟩;refine s_r 6 ?_;refine a_3 ?_;refine o_0 (.sa_hm rfl rfl rfl rfl rfl ⟨Nat.le_refl _,by simpa using hk⟩ te_36.h (wU l)) ?_;refine a_z ?_;refine am (dG rfl rfl rfl TG.h TS.h (nle rfl) ?_ (aK (ac (cQ _) ai)));rw[ht,←CE];rfl
theorem td(z:Int):FS 228 [i64 z] (bln false):=by
 refine f_c Tryz.func228 ?_;refine r_z 1 ?_;refine r_z 4 ?_;refine am (aR rfl ?_ (ag _));simp[bln]
theorem tc(z:Nat):FS 229 [u32 z] (bln false):=by
 refine f_c Tryz.func229 ?_;refine r_z 1 ?_;refine r_z 4 ?_;refine am (aR rfl ?_ (ag _));simp[bln]
theorem wK(a b:Int):FS 183 [i64 a,i64 b] (i64 (fk a b)):=by
 refine f_c Tryz.func183 ?_;refine r_z 1 ?_;refine r_c 3 (td a) ?_;refine a_z ?_;refine r_c 3 (td b) ?_;refine a_z ?_;refine ae (r_z 1 ?_);refine au rfl (fun h=>?_) (fun _=>an ?_);cases h;refine ae (r_z 1 ?_);refine au rfl (fun h=>?_) (fun _=>an ?_);cases h;refine ae (r_z 3 ?_);refine au rfl (fun h=>?_) (fun h=>an ?_);refine r_z 1 ?_;refine am (aR rfl ?_ (ag _));simp at h;simp[i64,ofV,fk,h];refine ae (r_z 3 ?_);refine au rfl (fun h'=>?_) (fun h'=>an ?_);refine r_z 1 ?_;refine am (aR rfl ?_ (ag _));simp at h h';simp[i64,ofV,fk];omega;refine r_z 1 ?_;refine am (aR rfl ?_ (ag _));simp at h h';simp[i64,ofV,fk];omega
theorem wI(a b:Nat):FS 184 [u32 a,u32 b] (i64 (fk a b)):=by
 refine f_c Tryz.func184 ?_;refine r_z 1 ?_;refine r_c 3 (tc a) ?_;refine a_z ?_;refine r_c 3 (tc b) ?_;refine a_z ?_;refine ae (r_z 1 ?_);refine au rfl (fun h=>?_) (fun _=>an ?_);cases h;refine ae (r_z 1 ?_);refine au rfl (fun h=>?_) (fun _=>an ?_);cases h;refine ae (r_z 3 ?_);refine au rfl (fun h=>?_) (fun h=>an ?_);refine r_z 1 ?_;refine am (aR rfl ?_ (ag _));simp at h;simp[i64,ofV,fk,h];refine ae (r_z 3 ?_);refine au rfl (fun h'=>?_) (fun h'=>an ?_);refine r_z 1 ?_;refine am (aR rfl ?_ (ag _));simp at h h';simp[i64,ofV,fk];omega;refine r_z 1 ?_;refine am (aR rfl ?_ (ag _));simp at h h';simp[i64,ofV,fk];omega
theorem digs_one{n:Nat}:(az MB n).length=1∧(az MB n)[0]?=some 1↔n=1:=by
 constructor;rintro⟨h1,h2⟩;have:=bo (b:=MB) (by decide) n
 match hd:az MB n,h1,h2 with
 |[d],_,h2=>rw[hd] at this;simp at h2;subst h2;simpa[ofD] using this.symm
 rintro rfl;rw[eR (by decide) (by decide)];rw[show 1/ MB=0 by decide,cx];simp
theorem fs_one(n:Nat):FS 129 [.agg [mag n]] (bln (n==1)):=by
 refine f_c Tryz.func129 ?_;refine r_z 2 ?_;by_cases h1:(az MB n).length=1;obtain⟨d,hd⟩:∃d,(az MB n)[0]?=some d:=⟨_,List.getElem?_eq_getElem (by omega)⟩;have hd':(dE (az MB n))[(0:Int).toNat]?=some [u32 d]:=du hd;refine s_r 12 ?_;refine a_5 ?_
 first|refine y_g rfl (by simp;omega) (.fieldAddr_l rfl TF.h (by decide)) ?_|refine y_g rfl (by simp;omega) (.fieldAddr_a rfl TF.h (by decide)) ?_
 first|refine y_g rfl (by simp;omega) (.load_l1 rfl rfl rfl TG.h rfl) ?_|refine y_g rfl (by simp;omega) (.load_a1 rfl rfl TG.h rfl) ?_
 first|refine y_g rfl (by simp;omega) (.index_l rfl rfl (by omega) (by omega) te_36.h) ?_|refine y_g rfl (by simp;omega) (.index_a rfl rfl (by omega) hd' rfl te_36.h) ?_
 first|refine y_g rfl (by simp;omega) (.load_l1 rfl rfl hd' TG.h rfl) ?_|refine y_g rfl (by simp;omega) (.load_a1 rfl hd' TG.h rfl) ?_
 refine y_g rfl (by simp;omega) (.bin rfl rfl aV) ?_;refine o_0 (.pickT rfl (by simp;omega) rfl) ?_;refine a_z ?_;refine am (aR rfl ?_ (ag _));simp only[bln];congr 2;rw[Bool.eq_iff_iff];have:=digs_one (n:=n);simp only[h1,hd,true_and,Option.some.injEq] at this;simp only[beq_iff_eq,←this];omega;refine s_r 12 ?_;refine a_5 ?_;refine n_g rfl (by simp;omega) ?_;refine n_g rfl (by simp;omega) ?_;refine n_g rfl (by simp;omega) ?_;refine n_g rfl (by simp;omega) ?_;refine n_g rfl (by simp;omega) ?_;refine o_0 (.pickF rfl (by simp;omega) rfl) ?_;refine a_z ?_;refine am (aR rfl ?_ (ag _));simp only[bln,ofV];congr 2;symm;rw[beq_eq_false_iff_ne];intro h;exact h1 (digs_one.2 h).1
def vC(n:Nat):Nat→AState
 |0=>⟨[(0,u64 n),(2,.lptr 1 0 0),(3,.emp)],[(1,some ⟨38,1,[[.emp]]⟩)],2,16⟩
 |k+1=>⟨[(0,u64 (js n (k+1))),(2,.lptr 1 0 0),(3,.lsl 2 0 (k+1) none 1)],[(1,some ⟨38,1,[[.emp]]⟩),(2,some ⟨176,1,dE (uh n (k+1))⟩)],3,16⟩
theorem fe(n:Nat)(h:n< 18446744073709551616):FS 127 [u64 n] (.agg [mag n]):=by
 have hlen:(az MB n).length≤3:=fi (by decide) (Nat.lt_of_lt_of_le h (by decide));refine f_c Tryz.func127 ?_;refine r_z 1 ?_;refine r_z 1 ?_;refine aZ (vC n) (fun k=>k=(az MB n).length) ?_ ?_;refine ak (aC (vC n) (fun k=>(az MB n).length- k) (fun k=>k≤(az MB n).length) 0 (Nat.zero_le _) ?_ ?_);rw[vC.eq_1];exact s_e [];rintro k hk;have hle:=EB hk;have hz:=EC hk;have hpl:=ls hk;cases k with
 |zero=>
  rw[sr] at hz;refine ae (r_z 2 ?_);refine au rfl (fun h=>?_) (fun h=>?_);refine an ?_;have h0:0< n:=by simpa using h
  have hl1:0< (az MB n).length:=by omega
  obtain⟨hq,ht⟩:=sv hl1;rw[sr] at hq ht;refine ae (ak (r_m 7 ?_));refine a_z ?_;refine r_m 3 ?_;refine a_z ?_;refine⟨1,by omega,hl1,?_⟩;rw[vC.eq_2];refine s_x [(2,3)] (fun hs=>?_) (fun hs=>?_) ?_
  ·repeat' (first|exact aG|refine aj rfl ?_ ?_|exact aW|(refine Cv.loE hs ?_ (ag _);first|rfl|(simp[i64,u64,u32,bln,hq,ht,gM];done)|(simp[i64,u64,u32,bln,hq,ht,gM]<;> omega)))
  ·repeat' (first|exact aD|refine h_c ?_ ?_|exact bC|(refine aI hs ?_ (bz _);first|(simp[gE,j4,gF,hq,ht,gM];done)|(simp[dE,u32,ofV,hq,ht,gM];done))|refine aw ?_|exact ay|refine af ?_ ?_|exact aW|(refine Cv.loE hs ?_ (ag _);first|(simp[i64,u64,u32,bln,hq,ht,gM];done)|(simp[i64,u64,u32,bln,hq,ht,gM]<;> omega)))
  ·repeat' (first|exact ShrL.nil|refine ShrL.cons rfl rfl rfl rfl (by first|rfl|(simp;done)|(simp[hq,ht,gM]<;> omega)) ?_)
  refine aB ⟨0,?_,?_⟩;have:¬0< n:=by simpa using h
  omega;rw[vC.eq_1];exact s_e []
 |succ k=>
  rw[vC.eq_2];refine ae (r_z 2 ?_);refine au rfl (fun h=>?_) (fun h=>?_);refine an ?_;have h0:0< js n (k+1):=by simpa using h
  have hl1:k+1< (az MB n).length:=by omega
  obtain⟨hq,ht⟩:=sv hl1;refine ae (ak (r_m 7 ?_));refine a_z ?_;refine r_m 3 ?_;refine a_z ?_;refine⟨k+1+1,by omega,hl1,?_⟩;rw[vC.eq_2];refine s_x [(2,3)] (fun hs=>?_) (fun hs=>?_) ?_
  ·repeat' (first|exact aG|refine aj rfl ?_ ?_|exact aW|(refine Cv.loE hs ?_ (ag _);first|rfl|(simp[i64,u64,u32,bln,hq,ht,hpl];done)|(simp[i64,u64,u32,bln,hq,ht,hpl]<;> omega)))
  ·repeat' (first|exact aD|refine h_c ?_ ?_|exact bC|(refine aI hs ?_ (bz _);first|(simp[gE,j4,gF,hq,ht,hpl];done)|(simp[dE,u32,ofV,hq,ht,hpl];done))|refine aw ?_|exact ay|refine af ?_ ?_|exact aW|(refine Cv.loE hs ?_ (ag _);first|(simp[i64,u64,u32,bln,hq,ht,hpl];done)|(simp[i64,u64,u32,bln,hq,ht,hpl]<;> omega)))
  ·repeat' (first|exact ShrL.nil|refine ShrL.cons rfl rfl rfl rfl (by first|rfl|(simp;done)|(simp[hq,ht,hpl]<;> omega)) ?_)
  refine aB ⟨k+1,?_,?_⟩;have:¬0< js n (k+1):=by simpa using h
  omega;rw[vC.eq_2];exact s_e []
 rintro k rfl;cases hk:(az MB n).length with
 |zero=>
  rw[vC.eq_1];refine r_z 3 ?_;refine am (Fin.cell rfl rfl rfl TG.h TS.h (nle rfl) (Cv.agg (af (Cv.emp _ ?_) ay)));unfold mag;rw[List.length_eq_zero_iff] at hk;rw[hk];rfl
 |succ k=>
  rw[vC.eq_2];refine r_z 3 ?_;refine am (Fin.cell rfl rfl rfl TG.h TS.h (nle rfl) (Cv.agg (af (Cv.shut aE rfl (fun _ _ h=>by cases h) ?_ ?_) ay)));simp[ls (Nat.le_of_eq hk.symm)];refine aI aE ?_ (bz _);have h1:(uh n (k+1)).length=k+1:=ls (Nat.le_of_eq hk.symm);have h2:=EN n;rw[hk] at h2;simp only[List.drop_zero,CE];rw[List.take_of_length_le (Nat.le_of_eq h1),h2]
def EO(p:Nat)(q:Nat):Ln×Nat→AState
 |(s,c)=>⟨[(26,i64 s.length),(25,i64 (az MB p).length),(24,mag p),(2,.lptr 1 0 0),(3,.lptr 2 0 0),(4,.lptr 3 0 0),(5,.lsl 4 0 ((az MB p).length+1) (some ((az MB p).length+1)) 1),(6,u32 c)],
  [(1,some ⟨38,1,[[mag p]]⟩),(2,some ⟨38,1,[[mag q]]⟩),(3,some ⟨38,1,[[.emp]]⟩),(4,some ⟨176,1,dE (s++List.replicate ((az MB p).length+1- s.length) 0)⟩)],5,63⟩
structure PlusI (p q:Nat)(a:Ln×Nat):Prop where
 le:a.1.length≤(az MB p).length
 dig:∀d∈a.1,d< MB
 car:a.2≤1
 val:ofD MB a.1+MB^ a.1.length* a.2=ofD MB ((az MB p).take a.1.length)+ofD MB ((az MB q).take a.1.length)
theorem wv(a b:Nat)(h:bl a+bl b≤17592186044416):FS 132 [.agg [mag a],.agg [mag b]] (.agg [mag (a+b)]):=by
 have hla:=bR (b:=MB) (by decide) a;have hlb:=bR (b:=MB) (by decide) b;refine f_c Tryz.func132 ?_;refine r_z 3 ?_;refine ae (r_z 7 ?_)
 refine aH (fun x:Nat×Nat=>⟨[(2,.lptr 1 0 0),(3,.lptr 2 0 0),(4,.lptr 3 0 0)],[(1,some ⟨38,1,[[mag x.1]]⟩),(2,some ⟨38,1,[[mag x.2]]⟩),(3,some ⟨38,1,[[.emp]]⟩)],4,63⟩)
  (fun x=>x.1+x.2=a+b∧(az MB x.2).length≤(az MB x.1).length∧(az MB x.1).length≤17592186044416) ?_ ?_
 refine au rfl (fun h=>?_) (fun h=>?_);refine r_m 4 ?_;refine a_z ?_;refine⟨(b,a),⟨by simp;omega,?_,by simp;omega⟩,?_⟩;simp at h;simp;omega;exact s_e [];refine an ⟨(a,b),⟨rfl,?_,by simp;omega⟩,?_⟩;simp at h;simpa using h;exact s_e [];rintro⟨p,q⟩ ⟨hpq,hqp,hp⟩;simp only at hpq hqp hp⊢;refine r_z 6 ?_;refine r_z 1 ?_;refine ae (r_z 4 ?_);refine aH (EO p q) (fun x=>PlusI p q x∧x.1.length=(az MB p).length) ?_ ?_;refine ak (aC (EO p q) (fun x=>(az MB p).length- x.1.length) (PlusI p q) ([],0) ⟨by simp,by simp,by simp,by simp[ofD]⟩ ?_ ?_);rw[EO.eq_1];exact s_e [(4,5)];rintro⟨s,c⟩ ⟨hle,hdig,hcar,hval⟩;simp only at hle hdig hcar hval;rw[EO.eq_1];refine r_z 1 ?_;refine ae (au rfl (fun h=>?_) (fun h=>?_));refine an ?_;have hlt:s.length< (az MB p).length:=by simpa using h
 obtain⟨x,hx⟩:∃x,(az MB p)[s.length]?=some x:=⟨_,List.getElem?_eq_getElem hlt⟩;have hx1:x< 1000000000:=cy (by decide) hx;have hx':(dE (az MB p))[((s.length:Nat):Int).toNat]?=some [u32 x]:=du hx;refine ae (ak (s_r 5 ?_));refine a_1 ?_;refine i_x hx' ?_;refine l_1 hx' ?_;refine a_z ?_;refine r_z 4 ?_;refine ae (r_z 5 ?_)
 have hq0:∀y,((az MB q)[s.length]?.getD 0=y)→y< 1000000000:=by
  rintro y rfl;cases hy:(az MB q)[s.length]? with
  |none=>decide
  |some y=>exact cy (by decide) hy
 refine aH (fun v:Nat=>⟨[(26,i64 s.length),(25,i64 (az MB p).length),(24,mag p),(2,.lptr 1 0 0),(3,.lptr 2 0 0),(4,.lptr 3 0 0),(5,.lsl 4 0 ((az MB p).length+1) (some ((az MB p).length+1)) 1),(7,i64 s.length),(8,u32 v)],
  [(1,some ⟨38,1,[[mag p]]⟩),(2,some ⟨38,1,[[mag q]]⟩),(3,some ⟨38,1,[[.emp]]⟩),(4,some ⟨176,1,dE (s++List.replicate ((az MB p).length+1- s.length) 0)⟩)],5,63⟩)
  (fun v=>v=x+c+(az MB q)[s.length]?.getD 0) ?_ ?_
 refine au rfl (fun h=>?_) (fun h=>?_);have hlt2:s.length< (az MB q).length:=by simpa using h
 obtain⟨y,hy⟩:∃y,(az MB q)[s.length]?=some y:=⟨_,List.getElem?_eq_getElem hlt2⟩;have hy1:y< 1000000000:=cy (by decide) hy;have hy':(dE (az MB q))[((s.length:Nat):Int).toNat]?=some [u32 y]:=du hy;refine r_m 8 ?_;refine a_4 ?_;refine i_x hy' ?_;refine l_1 hy' ?_;refine a_z ?_;refine⟨x+c+y,by rw[hy];rfl,?_⟩;exact s_e [];have hlt2:¬s.length< (az MB q).length:=by simpa using h
 refine an ⟨x+c,by rw[List.getElem?_eq_none (by omega)];rfl,?_⟩;exact s_e [];rintro v hv;obtain⟨y,hy⟩:∃y,y=(az MB q)[s.length]?.getD 0:=⟨_,rfl⟩;have hy1:=hq0 y hy.symm;rw[←hy] at hv;refine r_z 1 ?_;refine ae (r_z 2 ?_)
 have hg:(dE (s++List.replicate ((az MB p).length+1- s.length) 0))[0+((s.length:Nat):Int).toNat]?=some [u32 0]:=by
  rw[Nat.zero_add,Int.toNat_natCast];exact du (by rw[show(az MB p).length+1- s.length=((az MB p).length- s.length)+1 by omega];exact yj _ _ _ rfl)
 have hset:∀w:Nat,(dE (s++List.replicate ((az MB p).length+1- s.length) 0)).set (0+((s.length:Nat):Int).toNat) [u32 w]=dE ((s++[w])++List.replicate ((az MB p).length+1- (s++[w]).length) 0):=by
  intro w;rw[Nat.zero_add,Int.toNat_natCast,gE,show(az MB p).length+1- s.length=((az MB p).length- s.length)+1 by omega,xy _ _ _ _ rfl,show(az MB p).length+1- (s++[w]).length=(az MB p).length- s.length by simp]
 have hnext:∀w c',w+1000000000* c'=x+c+y→w< 1000000000→c'≤1→PlusI p q (s++[w],c'):=by
  intro w c' hw hwb hc';refine⟨by simp;omega,?_,hc',?_⟩;intro d hd;rcases List.mem_append.1 hd with hd|hd
  exact hdig d hd;simp at hd;subst hd;exact hwb;simp only[List.length_append,List.length_singleton];rw[gr,cG _ hx,eo,←hy,Nat.pow_succ];have e:MB^ s.length* w+MB^ s.length* MB* c'=MB^ s.length* (w+MB* c'):=by rw[Nat.mul_add,Nat.mul_assoc]
  have e2:MB^ s.length* (x+c+y)=MB^ s.length* x+MB^ s.length* c+MB^ s.length* y:=by rw[Nat.mul_add,Nat.mul_add]
  rw[hw,e2] at e;omega
 refine au rfl (fun h=>?_) (fun h=>?_);have hb:1000000000≤v:=by have:=of_decide_eq_true h;omega
 have hv1:((v:Int)- 1000000000)=((v- 1000000000:Nat):Int):=by omega
 refine r_m 4 ?_;refine a_z ?_;refine r_m 5 ?_;refine a_4 ?_;refine ep (.store rfl rfl hg rfl rfl rfl TS.h (nle rfl)) ?_;refine aq ?_;refine r_m 2 ?_;refine a_z ?_;refine⟨(s++[v- 1000000000],1),by simp;omega,hnext _ _ (by omega) (by omega) (Nat.le_refl _),?_⟩;rw[EO.eq_1];exact s_x [] (fun hs=>dj) (fun hs=>e_19);have hb:v< 1000000000:=by have:=of_decide_eq_false h;omega
 refine an (r_m 5 ?_);refine a_4 ?_;refine ep (.store rfl rfl hg rfl rfl rfl TS.h (nle rfl)) ?_;refine aq ?_;refine r_m 2 ?_;refine a_z ?_;refine⟨(s++[v],0),by simp;omega,hnext _ _ (by omega) hb (by omega),?_⟩;rw[EO.eq_1];exact s_x [] (fun hs=>dj) (fun hs=>e_20);refine aB ⟨(s,c),⟨⟨hle,hdig,hcar,hval⟩,?_⟩,?_⟩;simp at h;simp;omega;rw[EO.eq_1];exact s_e [];rintro⟨s,c⟩ ⟨⟨hle,hdig,hcar,hval⟩,hlen⟩;simp only at hle hdig hcar hval hlen
 have hg:(dE (s++List.replicate ((az MB p).length+1- s.length) 0))[0+(((az MB p).length:Nat):Int).toNat]?=some [u32 0]:=by
  rw[Nat.zero_add,Int.toNat_natCast,←hlen];exact du (by rw[show s.length+1- s.length=0+1 by omega];exact yj _ _ _ rfl)
 have hset:(dE (s++List.replicate ((az MB p).length+1- s.length) 0)).set (0+(((az MB p).length:Nat):Int).toNat) [u32 c]=dE (s++[c]):=by
  rw[Nat.zero_add,Int.toNat_natCast,←hlen,gE,show s.length+1- s.length=0+1 by omega,xy _ _ _ _ rfl];simp
 have hres:eP (s++[c])=az MB (a+b):=by
  rw[iW (b:=MB) (by decide),gr,hval,gq _ (by omega),gq _ (by omega),bo (by decide),bo (by decide),hpq];intro d hd;rcases List.mem_append.1 hd with hd|hd
  exact hdig d hd;simp at hd;subst hd;show d< 1000000000;omega
 rw[EO.eq_1];refine s_r 7 ?_;refine a_6 ?_;refine ep (.store rfl rfl hg rfl rfl rfl TS.h (nle rfl)) ?_;refine aq ?_;refine AWp.ent (st':=⟨[(4,.lptr 3 0 0),(5,.arr (dE (s++[c])))],[(3,some ⟨38,1,[[.emp]]⟩)],4,63⟩) ?_ ?_;refine s_x [] (fun hs=>?_) (fun hs=>?_)
 ·repeat' (first|exact aG|refine aj rfl ?_ ?_|exact Cv.sealE hs rfl (aQ rfl) hset (by simp[hlen]) (bz _)|exact aW)
 ·repeat' (first|exact aD|refine h_c ?_ ?_|exact bC|refine aw ?_|exact ay|refine af ?_ ?_|exact Cv.sealE hs rfl (aQ rfl) hset (by simp[hlen]) (bz _)|exact aW)
 refine s_r 3 ?_;refine o_0 (.move rfl) ?_;refine o_0 (.call rfl rfl rfl (gP _ (by simp;omega))) ?_;refine a_z ?_;refine am (dG rfl rfl rfl TG.h TS.h (nle rfl) ?_ (aK (ac (b7 _) ai)));rw[hres];rfl
def agS(a:Nat)(b:Nat):Nat→AState
 |k=>⟨[(2,.lptr 1 0 0),(3,.lptr 2 0 0),(6,i64 ((k:Int)- 1))],[(1,some ⟨38,1,[[mag a]]⟩),(2,some ⟨38,1,[[mag b]]⟩)],3,40⟩
theorem nh(a b:Nat)(h:bl a+bl b≤17592186044416):FS 134 [.agg [mag a],.agg [mag b]] (i64 (fk a b)):=by
 have hla:=bR (b:=MB) (by decide) a;have hlb:=bR (b:=MB) (by decide) b;refine f_c Tryz.func134 ?_;refine r_z 3 ?_;refine ae (r_c 8 (wK _ _) ?_);refine a_z ?_;refine r_z 2 ?_;refine au rfl (fun h=>?_) (fun h=>?_);have hne:fk (az MB a).length (az MB b).length≠0:=by simpa using h
 refine r_z 2 ?_;refine am (aR rfl ?_ (ag _));unfold i64;congr 2;rw[rA] at hne;rcases Nat.lt_or_ge (az MB a).length (az MB b).length with hl|hl
 have:=iS (by decide) hl;rw[kM (by omega),kM (by omega)];have:=iS (m:=b) (n:=a) (b:=MB) (by decide) (by omega);rw[mn (by omega),mn (by omega)]
 have heq:(az MB a).length=(az MB b).length:=by
  have h0:¬fk (az MB a).length (az MB b).length≠0:=by simpa using h
  rw[rA] at h0;omega
 refine an (ae (r_z 5 ?_));refine aH (agS a b) (fun k=>k=0∧a=b) ?_ ?_;refine ak (aC (agS a b) (fun k=>k) (fun k=>k≤(az MB a).length∧(az MB a).drop k=(az MB b).drop k) (az MB a).length ⟨Nat.le_refl _,by rw[List.drop_length,heq,List.drop_length]⟩ ?_ ?_);rw[agS.eq_1];exact s_e [];rintro k ⟨hk,hd⟩;rw[agS.eq_1];refine ae (r_z 2 ?_);refine au rfl (fun h=>?_) (fun h=>?_);have hk0:0< k:=by have:=of_decide_eq_true h;omega
 obtain⟨x,hx⟩:∃x,(az MB a)[k- 1]?=some x:=⟨_,List.getElem?_eq_getElem (by omega)⟩;obtain⟨y,hy⟩:∃y,(az MB b)[k- 1]?=some y:=⟨_,List.getElem?_eq_getElem (by omega)⟩;have hx':(dE (az MB a))[((k:Int)- 1).toNat]?=some [u32 x]:=by rw[show((k:Int)- 1).toNat=k- 1 by omega];exact du hx
 have hy':(dE (az MB b))[((k:Int)- 1).toNat]?=some [u32 y]:=by rw[show((k:Int)- 1).toNat=k- 1 by omega];exact du hy
 rw[show k=(k- 1)+1 by omega] at hd;refine an (ae (ak (ae (r_d hmix 12 ?_))));refine a_3 ?_;refine i_x hx' ?_;refine l_1 hx' ?_;refine a_3 ?_;refine i_x hy' ?_;refine l_1 hy' ?_;refine c_s (wI x y) ?_;refine a_1 ?_;refine aq (n_k ?_);refine r_z 2 ?_;refine au rfl (fun h2=>?_) (fun h2=>?_);have hne:fk x y≠0:=by simpa using h2
 refine r_z 2 ?_;refine am (aR rfl ?_ (ag _));unfold i64;congr 2;rw[rA] at hne;rcases Nat.lt_or_ge x y with hl|hl
 have:=l6 (b:=MB) (dB (by decide) a) hx hy hd hl;rw[bo (by decide),bo (by decide)] at this;rw[kM (by omega),kM (by omega)];have:=l6 (b:=MB) (dB (by decide) b) hy hx hd.symm (by omega);rw[bo (by decide),bo (by decide)] at this;rw[mn (by omega),mn (by omega)]
 have hxy:x=y:=by
  have h0:¬fk x y≠0:=by simpa using h2
  rw[rA] at h0;omega
 refine an (r_m 3 ?_);refine a_z ?_;refine⟨k- 1,by omega,⟨by omega,?_⟩,?_⟩;rw[fu hx,fu hy,hd,hxy];rw[agS.eq_1];exact s_e [];have hk0:k=0:=by have:=of_decide_eq_false h;omega
 subst hk0;refine aB ⟨0,⟨rfl,?_⟩,?_⟩;have:=congrArg (ofD MB) hd;rwa[List.drop_zero,List.drop_zero,bo (by decide),bo (by decide)] at this;rw[agS.eq_1];exact s_e [];rintro k ⟨rfl,hab⟩;rw[agS.eq_1];refine r_z 1 ?_;refine am (aR rfl ?_ (ag _));subst hab;rw[CJ rfl];rfl
end Go.Proofs.YtjgokhkahkmpbaaGreatDoor
