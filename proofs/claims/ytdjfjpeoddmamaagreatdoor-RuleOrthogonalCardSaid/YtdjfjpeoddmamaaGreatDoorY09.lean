/- Part Y09 of the proof. -/
import Derived.Test.YtdjfjpeoddmamaaGreatDoorY08
import Derived.Test.YtdjfjpeoddmamaaGreatDoorChecked
import Derived.KernelRfl
set_option linter.all false
namespace Go.Abs
def Mon(p:List Rat)(n:Nat):Prop:=coP p n=1∧∀i,n< i→coP p i=0
theorem ix_(m:List Rat):∀k,Mon (oP m k) k∧∀i,k≤i→coP (oL m k) i=0
 |0=>⟨⟨by show coP [1] 0=1;rfl,fun i hi=>by
   show coP [1] i=0
   cases i with
   |zero=>omega
   |succ i=>rfl⟩,fun i _=>rfl⟩
 |k+1=>by
  obtain⟨⟨h1,h2⟩,h3⟩:=ix_ m k
  have hc:∀i,coP (oP m (k+1)) i=coP (oP m k) i* (-ldAk m k)+lag (oP m k) i* 1- coP (oL m k) i* ldB m k:=fun i=>by
   show coP (subP (mulP (ldr m k).1 [-ldA m (ldr m k).1,1]) (aJ_ (ldr m k).2.1 (if k=0 then 0 else ldN m (ldr m k).1/ (ldr m k).2.2))) i=_
   rw[fl_,gH_,bp_]
   rfl
  refine⟨⟨?_,fun i hi=>?_⟩,fun i hi=>h2 i (by omega)⟩
  rw[hc,h2 (k+1) (by omega),h3 (k+1) (by omega)]
  show 0* _+coP (oP m k) k* 1- 0* _=1
  rw[h1];grind
  rw[hc,h2 i (by omega),h3 i (by omega)]
  obtain⟨j,rfl⟩:∃j,i=j+1:=⟨i- 1,by omega⟩
  show 0* _+coP (oP m k) j* 1- 0* _=0
  rw[h2 j (by omega)];grind
theorem lk_{p q:List Rat}{d:Nat}(hp:Mon p d)(hq:∀i,d+1≤i→coP q i=0):∃r:List Rat,(∀i,d≤i→coP r i=0)∧∀x,evalP q x=evalP p x* coP q d+evalP r x:=by
 refine⟨subP q (aJ_ p (coP q d)),fun i hi=>?_,fun x=>by rw[bL_,aS_];grind⟩
 rw[fl_,bp_]
 by_cases h:i=d
 subst h;rw[hp.1];grind
 rw[hq i (by omega),hp.2 i (by omega)];grind
theorem qK_(m:List Rat)(n:Nat)(hn:∀j,j< n→oN m j≠0)(k:Nat)(hk:k≤n):∀d q,d≤k→(∀i,d≤i→coP q i=0)→bl2 m q (oP m k)=0
 |0,q,_,hq=>nG_ m _ fun x=>by rw[cg_ (q:=[]) fun i=>by rw[hq i (Nat.zero_le _)];rfl];rfl
 |d+1,q,hd,hq=>by
  obtain⟨r,h1,h2⟩:=lk_ (ix_ m d).1 hq
  rw[gL_ m (p:=oP m d) (q:=r) (u:=coP q d) (v:=1) _ fun x=>by rw[h2];grind,o_orth m n hn k hk d k (by omega) (Nat.le_refl _),qK_ m n hn k hk d r (by omega) h1]
  grind
theorem o_pos(m:List Rat)(n:Nat)(hn:∀j,j< n→0< oN m j):∀d q,d≤n→(∀i,d≤i→coP q i=0)→0≤bl2 m q q∧(bl2 m q q=0→∀x,evalP q x=0)
 |0,q,_,hq=>by
  have hz:∀x,evalP q x=0:=fun x=>by rw[cg_ (q:=[]) fun i=>by rw[hq i (Nat.zero_le _)];rfl];rfl
  rw[nG_ m _ hz]
  exact⟨Rat.le_refl,fun _=>hz⟩
 |d+1,q,hd,hq=>by
  have hn0:∀j,j< n→oN m j≠0:=fun j hj=>by have:=hn j hj;grind
  obtain⟨r,h1,h2⟩:=lk_ (ix_ m d).1 hq
  obtain⟨i1,i2⟩:=o_pos m n hn d r (by omega) h1
  have hp:=qK_ m n hn0 d (by omega) d r (Nat.le_refl _) h1
  have hN:=hn d (by omega)
  have e:bl2 m q q=coP q d* coP q d* oN m d+bl2 m r r:=by
   have a1:=gL_ m (p:=oP m d) (q:=r) (r:=q) (u:=coP q d) (v:=1) q fun x=>by rw[h2];grind
   have a2:=gL_ m (p:=oP m d) (q:=r) (r:=q) (u:=coP q d) (v:=1) (oP m d) fun x=>by rw[h2];grind
   have a3:=gL_ m (p:=oP m d) (q:=r) (r:=q) (u:=coP q d) (v:=1) r fun x=>by rw[h2];grind
   rw[eM_ m (oP m d) q,eM_ m r q] at a1
   rw[eM_ m (oP m d) r] at a3
   rw[←oN_bl] at a2
   rw[a1,a2,a3,hp];grind
  have hsq:0≤coP q d* coP q d:=by
   rcases Rat.le_total (a:=0) (b:=coP q d) with h|h
   exact Rat.mul_nonneg h h
   have:0≤ -coP q d:=by grind
   have:=Rat.mul_nonneg this this
   grind
  have hm:=Rat.mul_nonneg hsq (Rat.le_of_lt hN)
  refine⟨by rw[e];grind,fun h0=>?_⟩
  rw[e] at h0
  have hc0:coP q d* coP q d* oN m d=0:=by grind
  have hr0:bl2 m r r=0:=by grind
  have hcd:coP q d=0:=by
   rcases Rat.mul_eq_zero.1 hc0 with h|h
   rcases Rat.mul_eq_zero.1 h with h|h <;> exact h
   grind
  intro x
  rw[h2,hcd,i2 hr0 x];grind
theorem o_few2{m N:List Rat}{n:Nat}(hn:∀j,j< n→0< oN m j)(hN:Mon N n)(h:∀q:List Rat,(∀i,n≤i→coP q i=0)→bl2 m N q=0):Eqv N (oP m n):=by
 have hn0:∀j,j< n→oN m j≠0:=fun j hj=>by have:=hn j hj;grind
 obtain⟨p1,p2⟩:=(ix_ m n).1
 have hr:∀i,n≤i→coP (subP N (oP m n)) i=0:=fun i hi=>by
  rw[fl_]
  by_cases e:i=n
  subst e;rw[hN.1,p1];grind
  rw[hN.2 i (by omega),p2 i (by omega)];grind
 have h1:=h _ hr
 have h2:=qK_ m n hn0 n (Nat.le_refl _) n _ (Nat.le_refl _) hr
 have h3:=gL_ m (p:=N) (q:=oP m n) (r:=subP N (oP m n)) (u:=1) (v:= -1) (subP N (oP m n)) fun x=>by rw[bL_];grind
 rw[h1,eM_ m (oP m n),h2] at h3
 have h4:=(o_pos m n hn n _ (Nat.le_refl _) hr).2 (by rw[h3];grind)
 intro x
 have:=h4 x
 rw[bL_] at this
 grind
section
variable {N:List Rat}(hN:nz N)(hm:leadP N=1)(h1:1≤dg N)
include hN hm h1
end

def IB(x:Rat)(h:Nat):Prop:=∃z:Int,x=(z:Rat)∧bl z.natAbs≤h
theorem IB.mono{x:Rat}{h k:Nat}(H:IB x h)(hk:h≤k):IB x k:=by obtain⟨z,e,b⟩:=H;exact⟨z,e,by omega⟩
theorem IB.zero(h:Nat):IB 0 h:=⟨0,rfl,Nat.zero_le _⟩
theorem IB.one:IB 1 1:=⟨1,rfl,by decide⟩
theorem IB.mul{x y:Rat}{h k:Nat}(H:IB x h)(K:IB y k):IB (x* y) (h+k):=by
 obtain⟨z,e,b⟩:=H
 obtain⟨w,e',b'⟩:=K
 exact⟨z* w,by rw[e,e',Rat.intCast_mul],bu_ b b'⟩
theorem IB.add{x y:Rat}{h:Nat}(H:IB x h)(K:IB y h):IB (x+y) (h+1):=by
 obtain⟨z,e,b⟩:=H
 obtain⟨w,e',b'⟩:=K
 exact⟨z+w,by rw[e,e',Rat.intCast_add],jk_ b b'⟩
theorem IB.neg{x:Rat}{h:Nat}(H:IB x h):IB (-x) h:=by
 obtain⟨z,e,b⟩:=H
 exact⟨-z,by rw[e,Rat.intCast_neg],by rwa[Int.natAbs_neg]⟩
theorem IB.eq{x y:Rat}{h:Nat}(H:IB x h)(e:x=y):IB y h:=e▸H
structure HS (p:List Rat)(K:Rat)(h:Nat):Prop where
 ne:K≠0
 sc:IB K h
 co:∀i,IB (coP p i* K) h
theorem HS.ht{p:List Rat}{K:Rat}{h:Nat}(H:HS p K h):Ht p h:=⟨K,H.ne,fun i=>by
 obtain⟨z,e,b⟩:=H.co i
 exact⟨z,e,b⟩⟩
theorem HS.bd{p:List Rat}{K:Rat}{h n:Nat}(H:HS p K h)(hp:Mon p n)(h1:1≤h):bdL p h:=fun q hq=>by
 obtain⟨i,hi,e⟩:=je_ hq
 have:=H.ht.quot i n (by rw[hp.1];decide) h1
 rw[hp.1] at this
 rw[←e,show coP p i=coP p i/ 1 by grind]
 exact this
theorem coP_mulP(p q:List Rat)(n:Nat):coP (mulP p q) n=convP p q p.length n:=by
 rw[←kZ_]
 exact trim_iff.1 (fD_ fun x=>by rw[aL_,hr_]) n
theorem sa_{p q:List Rat}{K K':Rat}{h h':Nat}(H:HS p K h)(H':HS q K' h')(n:Nat):∀i,IB (convP p q i n* (K* K')) (h+h'+i)
 |0=>(IB.zero _).eq (by show 0=0* _;grind)
 |i+1=>by
  have ih:=sa_ H H' n i
  have hx:IB ((if i≤n then coP p i* coP q (n- i) else 0) * (K* K')) (h+h'+i):=by
   split
   exact(((H.co i).mul (H'.co (n- i))).eq (by grind)).mono (by omega)
   exact(IB.zero _).eq (by grind)
  exact((ih.add hx).eq (by rw[convP];grind)).mono (by omega)
theorem HS.mul{p q:List Rat}{K K':Rat}{h h' L:Nat}(H:HS p K h)(H':HS q K' h')(hl:p.length≤L):HS (mulP p q) (K* K') (h+h'+L) where
 ne e:=(Rat.mul_eq_zero.1 e).elim H.ne H'.ne
 sc:=(H.sc.mul H'.sc).mono (by omega)
 co i:=by
  rw[coP_mulP]
  exact(sa_ H H' i p.length).mono (by omega)
theorem ofQ_IB{p m:List Rat}{K k:Rat}{h M:Nat}(H:HS p K h)(hm:∀i,IB (coP m i* k) M):∀n,IB (ofQ p m n* (K* k)) (h+M+n)
 |0=>(IB.zero _).eq (by show 0=0* _;grind)
 |n+1=>by
  have ih:=ofQ_IB H hm n
  have hx:IB (coP p n* coP m n* (K* k)) (h+M+n):=(((H.co n).mul (hm n)).eq (by grind)).mono (by omega)
  exact((ih.add hx).eq (by rw[ofQ];grind)).mono (by omega)
theorem ofP_IB{p m:List Rat}{K k:Rat}{h M L:Nat}(H:HS p K h)(hm:∀i,IB (coP m i* k) M)(hl:p.length≤L):IB (ofP m p* (K* k)) (h+M+L):=by
 have hl2:=a2_ p
 rw[ofP_n (n:=p.length) hl2]
 exact(ofQ_IB H hm p.length).mono (by omega)
theorem HS.shift{p:List Rat}{K:Rat}{h:Nat}(H:HS p K h):HS (mulP p [0,1]) K h where
 ne:=H.ne
 sc:=H.sc
 co i:=by
  rw[coP_x]
  cases i with
  |zero=>exact(IB.zero h).eq (by show 0=0* K;grind)
  |succ i=>exact H.co i
theorem HS.step {p l r:List Rat} {K K' A B B' a b:Rat} {h h' M:Nat} (H:HS p K h) (H':HS l K' h') (hB:IB B (2* h+M)) (hA:IB A (2* h+M)) (hB':IB B' (2* h'+M)) (b0:B≠0) (b0':B'≠0) (ha:a* B=A)
    (hb:∀i,coP l i* b* (B'* K* K)=coP l i* K'* K'* B) (hr:∀i,coP r i=coP p i* -a+lag p i- coP l i* b):HS r (K* K* B* B') (4* h+2* h'+2* M+2) where
 ne e:=by
  rcases Rat.mul_eq_zero.1 e with e|e
  rcases Rat.mul_eq_zero.1 e with e|e
  rcases Rat.mul_eq_zero.1 e with e|e <;> exact H.ne e
  exact b0 e
  exact b0' e
 sc:=(((H.sc.mul H.sc).mul hB).mul hB').mono (by omega)
 co i:=by
  have hlag:IB (lag p i* K) h:=by
   cases i with
   |zero=>exact(IB.zero h).eq (by show 0=0* K;grind)
   |succ i=>exact H.co i
  have t1:=((((H.co i).mul H.sc).mul hB').mul hA).neg
  have t2:=((hlag.mul H.sc).mul hB').mul hB
  have t3:=((((H'.co i).mul H'.sc).mul hB).mul hB).neg
  have hb:=hb i
  have s1:=(t1.mono (show _≤4* h+2* h'+2* M by omega)).add (t2.mono (show _≤4* h+2* h'+2* M by omega))
  have s2:=s1.add (t3.mono (show _≤4* h+2* h'+2* M+1 by omega))
  refine s2.eq ?_
  rw[hr,←ha]
  have e3:coP l i* b* (K* K* B* B')=coP l i* K'* K'* B* B:=by
   have:coP l i* b* (K* K* B* B')=coP l i* b* (B'* K* K) * B:=by grind
   rw[this,hb]
  grind
def hhB(M:Nat):Nat→Nat×Nat
 |0=>(1,1)
 |j+1=>(4* (hhB M j).1+2* (hhB M j).2+2* M+2,(hhB M j).1)
theorem rd_(M:Nat):∀j,1≤(hhB M j).1∧1≤(hhB M j).2
 |0=>⟨Nat.le_refl _,Nat.le_refl _⟩
 |j+1=>by
  have:=rd_ M j
  exact⟨by show 1≤4* _+_+_+2;omega,this.1⟩
theorem sq_IB{m p:List Rat}{K k:Rat}{h M:Nat}(H:HS p K h)(hm:∀i,IB (coP m i* k) M)(hl:p.length≤8):IB (ofP m (mulP p p) * (K* K* k)) (2* h+(M+25))∧IB (ofP m (mulP (mulP p p) [0,1]) * (K* K* k)) (2* h+(M+25)):=by
 have h2:=H.mul H hl
 have l1:=lI_ p p
 have l2:=mulP_line_len' (mulP p p) 0 1
 exact⟨(ofP_IB h2 hm (L:=16) (by omega)).mono (by omega),(ofP_IB h2.shift hm (L:=17) (by omega)).mono (by omega)⟩
theorem HS.nil:HS [] 1 1:=⟨by decide,IB.one,fun i=>(IB.zero 1).eq (by show 0=(0:Rat) * 1;grind)⟩
theorem HS.one1:HS [1] 1 1:=⟨by decide,IB.one,fun i=>by
 cases i with
 |zero=>exact IB.one.eq (by show 1=(1:Rat) * 1;grind)
 |succ i=>exact(IB.zero 1).eq (by show 0=(0:Rat) * 1;grind)⟩
section
variable {m:List Rat}{k:Rat}{M n:Nat}(k0:k≠0)(hm:∀i,IB (coP m i* k) M)(hn:∀j,j< n→oN m j≠0)(h7:n≤7)
include k0 hm hn h7
theorem lad_HS:∀j,j≤n→∃K K' B':Rat,HS (oP m j) K (hhB (M+25) j).1∧HS (oL m j) K' (hhB (M+25) j).2∧IB B' (2* (hhB (M+25) j).2+(M+25))∧B'≠0∧(∀i,coP (oL m j) i* ldB m j* (B'* K* K)=coP (oL m j) i* K'* K'* (oN m j* (K* K* k)))
 |0,_=>⟨1,1,1,HS.one1,HS.nil,IB.one.mono (by show 1≤2* 1+_;omega),by decide,fun i=>by
    rw[show coP (oL m 0) i=0 from rfl];grind⟩
 |j+1,hj=>by
  obtain⟨K,K',B',H,H',hB',b0',hb⟩:=lad_HS j (by omega)
  have hN:=hn j (by omega)
  have hl:(oP m j).length≤j+1:=(dV_ m j).1
  obtain⟨q1,q2⟩:=sq_IB H hm (show(oP m j).length≤8 by omega)
  have hx:=bl2_x m j hN
  have hB0:oN m j* (K* K* k)≠0:=fun e=>by
   rcases Rat.mul_eq_zero.1 e with e|e
   exact hN e
   rcases Rat.mul_eq_zero.1 e with e|e
   rcases Rat.mul_eq_zero.1 e with e|e <;> exact H.ne e
   exact k0 e
  have st:=H.step H' (r:=oP m (j+1)) (A:=ofP m (mulP (mulP (oP m j) (oP m j)) [0,1]) * (K* K* k)) (B:=oN m j* (K* K* k)) (a:=ldAk m j) (b:=ldB m j) q1 q2 hB' hB0 b0' (by
   rw[show ofP m (mulP (mulP (oP m j) (oP m j)) [0,1])=ldAk m j* oN m j from hx];grind) hb (fun i=>by
   show coP (subP (mulP (ldr m j).1 [-ldA m (ldr m j).1,1]) (aJ_ (ldr m j).2.1 (if j=0 then 0 else ldN m (ldr m j).1/ (ldr m j).2.2))) i=_
   rw[fl_,gH_,bp_,Rat.mul_one]
   rfl)
  refine⟨_,K,oN m j* (K* K* k),st,H,q1,hB0,fun i=>?_⟩
  rw[oL_s,ldB_s]
  generalize oN m (j+1)=N1 at *
  generalize oN m j=N0 at *
  generalize coP (oP m j) i=c at *
  have e:N1/ N0* N0=N1:=Rat.div_mul_cancel hN
  generalize N1/ N0=d at *
  subst e
  grind
end
theorem st_{x y:Rat}{h:Nat}(H:IB x h)(K:IB y h)(y0:y≠0)(h1:1≤h):qs (x/ y)≤h:=by
 have hH:Ht [x,y] h:=⟨1,by decide,fun i=>by
  have:IB (coP [x,y] i* 1) h:=by
   match i with
   |0=>exact H.eq (by show x=x* 1;grind)
   |1=>exact K.eq (by show y=y* 1;grind)
   |i+2=>exact(IB.zero h).eq (by show 0=0* 1;grind)
  obtain⟨z,e,b⟩:=this
  exact⟨z,e,b⟩⟩
 exact hH.quot 0 1 y0 h1
theorem ol_{M M':Nat}(h:M≤M'):∀j,(hhB M j).1≤(hhB M' j).1∧(hhB M j).2≤(hhB M' j).2
 |0=>⟨Nat.le_refl _,Nat.le_refl _⟩
 |j+1=>by
  have:=ol_ h j
  exact⟨by show 4* _+2* _+2* M+2≤4* _+2* _+2* M'+2;omega,this.1⟩
theorem hhB_ok:((List.range 7).all fun j=>decide ((hhB 51026 j).1≤210000000) && decide (6≤j∨(hhB 51026 j).1≤50000000))=true:=by decide+kernel
theorem hhB_le{M j:Nat}(h:M≤51026)(hj:j≤6):(hhB M j).1≤210000000∧(j≤5→(hhB M j).1≤50000000):=by
 have h1:=List.all_eq_true.1 hhB_ok j (List.mem_range.2 (by omega))
 rw[Bool.and_eq_true] at h1
 have h2:=of_decide_eq_true h1.1
 have h3:=of_decide_eq_true h1.2
 have h4:=(ol_ h j).1
 exact⟨by omega,fun h=>by omega⟩
section
variable {m:List Rat}{s n:Nat}(hm:bdL m s)(hs1:1≤s)(hs:s≤3000)(hl:m.length≤16)(h6:n≤6)(hn:∀j,j< n→0< oN m j)
include hm hs1 hs hl h6 hn
theorem lM_:∀j,j≤n→bdL (oP m j) 210000000∧(j≤5→bdL (oP m j) 50000000)∧(j< n→qs (ldAk m j)≤500000000):=by
 intro j hj
 obtain⟨k,k0,hk⟩:=Ht.of hm
 have h1:=Nat.mul_le_mul hl hs
 have hk':∀i,IB (coP m i* k) (s+1+m.length* s):=fun i=>by
  obtain⟨z,e,b⟩:=hk i
  exact⟨z,e,b⟩
 have hn0:∀j,j< n→oN m j≠0:=fun j hj=>by have:=hn j hj;grind
 obtain⟨K,K',B',H,H',hB',b0',hb⟩:=lad_HS k0 hk' hn0 (by omega) j hj
 obtain⟨b1,b2⟩:=hhB_le (M:=s+1+m.length* s+25) (j:=j) (by omega) (by omega)
 have hM:=(ix_ m j).1
 have hb:=H.bd hM (rd_ _ j).1
 refine⟨cX_ hb b1,fun h5=>cX_ hb (b2 h5),fun hlt=>?_⟩
 have hlen:(oP m j).length≤j+1:=(dV_ m j).1
 obtain⟨q1,q2⟩:=sq_IB H hk' (show(oP m j).length≤8 by omega)
 have hN:=hn0 j hlt
 have hx:=bl2_x m j hN
 have hKK:K* K* k≠0:=fun e=>by
  rcases Rat.mul_eq_zero.1 e with e|e
  rcases Rat.mul_eq_zero.1 e with e|e <;> exact H.ne e
  exact k0 e
 have hB0:ofP m (mulP (oP m j) (oP m j)) * (K* K* k)≠0:=fun e=>(Rat.mul_eq_zero.1 e).elim hN hKK
 have hq:=st_ q2 q1 hB0 (by omega)
 have e:ldAk m j=ofP m (mulP (mulP (oP m j) (oP m j)) [0,1]) * (K* K* k) / (ofP m (mulP (oP m j) (oP m j)) * (K* K* k)):=by
  rw[show ofP m (mulP (mulP (oP m j) (oP m j)) [0,1])=ldAk m j* oN m j from hx]
  have e2:ldAk m j* oN m j* (K* K* k)=ldAk m j* (ofP m (mulP (oP m j) (oP m j)) * (K* K* k)):=by
   show _=ldAk m j* (oN m j* (K* K* k));grind
  rw[e2,Rat.mul_div_cancel hB0]
 rw[e]
 have:=b2 (by omega)
 omega
theorem iy_(j:Nat)(hj:j≤n):okMul (oP m j) (oP m j)∧bdL (mulP (oP m j) (oP m j)) 3000000000∧(mulP (oP m j) (oP m j)).length≤2* j+1∧(2* j+1≤m.length→okOf m (mulP (oP m j) (oP m j)))∧qs (oN m j)≤50000000000∧
    okMul (mulP (oP m j) (oP m j)) [0,1]∧(2* j+2≤m.length→okOf m (mulP (mulP (oP m j) (oP m j)) [0,1])∧qs (ofP m (mulP (mulP (oP m j) (oP m j)) [0,1]))≤50000000000):=by
 obtain⟨b1,_,_⟩:=lM_ hm hs1 hs hl h6 hn j hj
 have hlen:(oP m j).length≤j+1:=(dV_ m j).1
 have hl2:=lI_ (oP m j) (oP m j)
 have mx:=dc_ b1 (by omega)
 have mm:=dc_ hm hs1
 have h1:=Nat.mul_le_mul (show(oP m j).length≤7 by omega) (show mxL (oP m j)+mxL (oP m j)+1≤420000001 by omega)
 have h1':=Nat.mul_le_mul (show(oP m j).length≤7 by omega) (Nat.le_refl (210000000+210000000+1))
 have sq0:=kw_ b1 b1 (by omega) (by omega)
 have sq:bdL (mulP (oP m j) (oP m j)) 3000000000:=cX_ sq0 (Nat.le_trans (Nat.add_le_add_right h1' 1) (by decide))
 have msq:=dc_ sq (by omega)
 have sl:(mulP (oP m j) (oP m j)).length≤2* j+1:=by omega
 have htl:=a2_ (mulP (oP m j) (oP m j))
 have h2:=Nat.mul_le_mul (show(mulP (oP m j) (oP m j)).length+2≤15 by omega) (show mxL (mulP (oP m j) (oP m j))+mxL m+1≤3000003001 by omega)
 have e7:mxL [0,1]=1:=by decide+kernel
 have h3:=Nat.mul_le_mul (show(mulP (oP m j) (oP m j)).length≤13 by omega) (show mxL (mulP (oP m j) (oP m j))+mxL [0,1]+1≤3000000002 by omega)
 have xb:bdL (mulP (mulP (oP m j) (oP m j)) [0,1]) 3000000000:=gK_bd sq (by omega) 1
 have xl:=mulP_line_len' (mulP (oP m j) (oP m j)) 0 1
 have xt:=a2_ (mulP (mulP (oP m j) (oP m j)) [0,1])
 have xm:=dc_ xb (by omega)
 have h4:=Nat.mul_le_mul (show(mulP (mulP (oP m j) (oP m j)) [0,1]).length+2≤16 by omega) (show mxL (mulP (mulP (oP m j) (oP m j)) [0,1])+mxL m+1≤3000003001 by omega)
 have e7:mxL [0,1]=1:=by decide+kernel
 have v:∀p:List Rat,bdL p 3000000000→p.length≤14→qs (ofP m p)≤50000000000:=fun p hp hpl=>by
  have ht:=a2_ p
  have h5:=lD_ (p:=trimQ p) (m:=m) (fun q hq=>hp q (bl_ hq)) hm (by omega) hs1 (trimQ p).length
  have h6:=Nat.mul_le_mul (show(trimQ p).length≤14 by omega) (show 3000000000+s+1≤3000003001 by omega)
  show qs (ofQ _ _ _)≤_
  omega
 exact⟨⟨by omega,by omega,by omega,by omega⟩,sq,sl,fun hh=>⟨by omega,by omega,by omega⟩,v _ sq (by omega),⟨by omega,by omega,by omega,by simp⟩,fun hh=>⟨⟨by omega,by omega,by omega⟩,v _ xb (by omega)⟩⟩
theorem q3_(hlen:2* n≤m.length)(j:Nat)(hj:j< n):okLd m j:=by
 obtain⟨c1,c2,c3,c4,c5,c6,c7⟩:=iy_ hm hs1 hs hl h6 hn j (by omega)
 obtain⟨d1,d2⟩:=c7 (by omega)
 obtain⟨_,b5,ba⟩:=lM_ hm hs1 hs hl h6 hn j (by omega)
 have b5:=b5 (by omega)
 have ba:=ba hj
 have hpl:(ldr m j).1.length≤j+1∧(ldr m j).2.1.length≤j+1:=dV_ m j
 have d2:qs (ofP m (mulP (mulP (ldr m j).1 (ldr m j).1) [0,1]))≤50000000000:=d2
 have hlb:bdL (ldr m j).2.1 50000000∧qs (ldr m j).2.2≤50000000000:=by
  cases j with
  |zero=>exact⟨fun q hq=>(by cases hq),Nat.le_trans (by decide:qs 0≤1) (by omega)⟩
  |succ i=>exact⟨(lM_ hm hs1 hs hl h6 hn i (by omega)).2.1 (by omega),(iy_ hm hs1 hs hl h6 hn i (by omega)).2.2.2.2.1⟩
 have hB:qs (ldB m j)≤100000000000:=by
  unfold ldB
  split
  exact Nat.le_trans (by decide:qs 0≤1) (by omega)
  have:=dy_ (ldN m (ldr m j).1) (ldr m j).2.2
  have h9:qs (ldN m (ldr m j).1)≤50000000000:=c5
  omega
 have c5':qs (ldN m (ldr m j).1)≤50000000000:=c5
 have mx:mxL (ldr m j).1≤50000000:=dc_ b5 (by omega)
 have el:(oP m j).length=(ldr m j).1.length:=rfl
 have la:bdL [-ldAk m j,1] 500000000:=bd_uv (by rw[eQ_];exact ba) (Nat.le_trans (by decide:qs 1≤1) (by omega))
 have ma:=dc_ la (by omega)
 have h1:=Nat.mul_le_mul (show(ldr m j).1.length≤6 by omega) (show mxL (ldr m j).1+mxL [-ldAk m j,1]+1≤550000001 by omega)
 have h1':=Nat.mul_le_mul (show(ldr m j).1.length≤6 by omega) (Nat.le_refl (50000000+500000000+1))
 have hm0:=kw_ b5 la (by omega) (by omega)
 have hm1:bdL (mulP (ldr m j).1 [-ldAk m j,1]) 4000000000:=cX_ hm0 (Nat.le_trans (Nat.add_le_add_right h1' 1) (by decide))
 have hm2:=mulP_line_len' (ldr m j).1 (-ldAk m j) 1
 have hs1':bdL (aJ_ (ldr m j).2.1 (ldB m j)) 101000000000:=cX_ (ke_ hlb.1 (by omega)) (by omega)
 have hs2:=bT_ (ldr m j).2.1 (ldB m j)
 exact⟨c1,c4 (by omega),hn j hj,c6,d1,by omega,by omega,⟨by omega,by omega,by omega,by simp⟩,fun q hq=>Nat.le_trans (hlb.1 q hq) (by omega),Nat.le_trans hB (by omega),fun q hq=>Nat.le_trans (hm1 q hq) (by omega),fun q hq=>Nat.le_trans (hs1' q hq) (by omega),by omega,by omega,by omega⟩
end
theorem nz_int'{n:Int}(h:n≠0):(n:Rat)≠0:=fun e=>h (by have:=congrArg Rat.num e;exact this)
theorem fcN_pos':∀n,0< fcN n
 |0=>by decide
 |n+1=>Nat.mul_pos (fcN_pos' n) (Nat.succ_pos n)
theorem IB.nat{n h:Nat}(hn:bl n≤h):IB (((n:Nat):Int):Rat) h:=⟨n,rfl,by rwa[Int.natAbs_natCast]⟩
theorem IB_den{x:Rat}{h:Nat}(hx:qs x≤h):IB (x* ((x.den:Int):Rat)) h∧IB (((x.den:Nat):Int):Rat) h∧(((x.den:Nat):Int):Rat)≠0:=by
 have h1:=b6_ x
 have h2:=bW_ x
 refine⟨⟨x.num,?_,by omega⟩,IB.nat (by omega),nz_int' (by have:=x.den_pos;omega)⟩
 have hd:(((x.den:Nat):Int):Rat)≠0:=nz_int' (by have:=x.den_pos;omega)
 have e3:(x.num:Rat) / (((x.den:Nat):Int):Rat)=x:=by rw[←Rat.divInt_eq_div,Rat.num_divInt_den]
 have e2:(x.num:Rat) / (((x.den:Nat):Int):Rat) * (((x.den:Nat):Int):Rat)=(x.num:Rat):=Rat.div_mul_cancel hd
 rw[e3] at e2
 exact e2
theorem sv_{u v:Rat}{K:Rat}{h:Nat}(k0:K≠0)(hK:IB K h)(hu:IB (u* K) h)(hv:IB (v* K) h):HS [u,v] K h:=⟨k0,hK,fun i=>by
 match i with
 |0=>exact hu
 |1=>exact hv
 |i+2=>exact(IB.zero h).eq (by show 0=0* K;grind)⟩
theorem su_{u v K:Rat}(H:HS [u,v] K 20):∀n,n≤8→∃K',HS (powP [u,v] n) K' (1+37* n)
 |0,_=>⟨1,by
    have e:powP [u,v] 0=[1]:=by show trimQ [1]=[1];decide+kernel
    rw[e];exact HS.one1⟩
 |n+1,hn=>by
  obtain⟨K',H'⟩:=su_ H n (by omega)
  have h1:=H'.mul H (dA_ u v (n:=n) (by omega))
  exact⟨_,⟨h1.ne,h1.sc.mono (by omega),fun i=>(h1.co i).mono (by omega)⟩⟩
theorem HS.mono{p:List Rat}{K:Rat}{h k:Nat}(H:HS p K h)(hk:h≤k):HS p K k:=⟨H.ne,H.sc.mono hk,fun i=>(H.co i).mono hk⟩
theorem HS_gK{f:List Rat}{K:Rat}{h:Nat}(H:HS f K h):∀n,HS (gK f n) K h
 |0=>H
 |n+1=>(HS_gK H n).shift
theorem fc_dvd:∀n i,1≤i→i≤n→∃w,fcN n=i* w
 |0,i,h1,h2=>by omega
 |n+1,i,h1,h2=>by
  by_cases e:i=n+1
  exact⟨fcN n,by rw[e,fcN,Nat.mul_comm]⟩
  obtain⟨w,hw⟩:=fc_dvd n i h1 (by omega)
  exact⟨w* (n+1),by rw[fcN,hw,Nat.mul_assoc]⟩
theorem fc52:bl (fcN 52)≤230:=by decide+kernel
theorem HS_int{f:List Rat}{K:Rat}{h:Nat}(H:HS f K h)(hl:f.length≤52):HS (aK_ f) (K* (((fcN 52:Nat):Int):Rat)) (h+230) where
 ne e:=(Rat.mul_eq_zero.1 e).elim H.ne fun e=>by
  have:=fcN_pos' 52
  exact nz_int' (show((fcN 52:Nat):Int)≠0 by omega) e
 sc:=H.sc.mul (IB.nat fc52)
 co i:=by
  rw[bC_]
  by_cases h0:i=0
  rw[if_pos h0];exact(IB.zero _).eq (by grind)
  rw[if_neg h0]
  by_cases hi:i≤52
  obtain⟨w,hw⟩:=fc_dvd 52 i (by omega) hi
  have hwb:bl w≤230:=Nat.le_trans (bR_ (by rw[hw];exact Nat.le_mul_of_pos_left _ (by omega))) fc52
  refine((H.co (i- 1)).mul (IB.nat hwb)).eq ?_
  have hiz:(((i:Nat):Int):Rat)≠0:=nz_int' (by omega)
  have e:(((fcN 52:Nat):Int):Rat)=(((i:Nat):Int):Rat) * (((w:Nat):Int):Rat):=by rw[hw,Int.natCast_mul,Rat.intCast_mul]
  have e2:coP f (i- 1) / (((i:Nat):Int):Rat) * (((i:Nat):Int):Rat)=coP f (i- 1):=Rat.div_mul_cancel hiz
  rw[e]
  generalize coP f (i- 1) / (((i:Nat):Int):Rat)=d at *
  rw[←e2];grind
  rw[cn_ (by omega:f.length≤i- 1)]
  exact(IB.zero _).eq (by rw[Rat.div_def,Rat.zero_mul,Rat.zero_mul])
theorem nn_{x D K:Rat}{h:Nat}(hx:IB (x* D) 20)(hD:IB D 20)(hK:IB K h):∀l:List Rat,(∀c∈l,IB (c* K) h)→IB (evalP l x* (K* D^ l.length)) (h+22* l.length)∧IB (D^ l.length) (20* l.length+1)
 |[],_=>⟨(IB.zero _).eq (by rw[aZ_];grind),IB.one.eq (by rw[List.length_nil,Rat.pow_zero])⟩
 |c::l,hc=>by
  obtain⟨i1,i2⟩:=nn_ hx hD hK l fun c' h'=>hc c' (List.mem_cons_of_mem _ h')
  have h1:=i1.mul hx
  have h2:=(hc c (List.mem_cons_self ..)).mul (i2.mul hD)
  refine⟨((h1.mono (show _≤h+22* l.length+21 by omega)).add (h2.mono (show _≤h+22* l.length+21 by omega))).eq ?_|>.mono ?_,((i2.mul hD).mono (by rw[List.length_cons];omega)).eq (by rw[List.length_cons,Rat.pow_succ])⟩
  rw[aE_,List.length_cons,Rat.pow_succ];grind
  rw[List.length_cons];omega
theorem qD_{x:Rat}(h:x≠0):∀n:Nat,x^ n≠0
 |0=>by rw[Rat.pow_zero];decide
 |n+1=>by rw[Rat.pow_succ];exact fun e=>(Rat.mul_eq_zero.1 e).elim (qD_ h n) h
theorem jc_tame{a b:Rat}{p q k:Nat}(ha:qs a≤20)(hb:qs b≤20)(hp:p≤8)(hq:q≤8)(hk:k≤16):qs (moQ (jcF a b p q) (a,b) k)≤3000:=by
 obtain⟨a1,a2,a3⟩:=IB_den ha
 obtain⟨b1,b2,b3⟩:=IB_den hb
 have L1:HS [-a,1] (((a.den:Nat):Int):Rat) 20:=sv_ a3 a2 (a1.neg.eq (by grind)) (a2.eq (by grind))
 have L2:HS [b,-1] (((b.den:Nat):Int):Rat) 20:=sv_ b3 b2 b1 (b2.neg.eq (by grind))
 obtain⟨K1,H1⟩:=su_ L1 p hp
 obtain⟨K2,H2⟩:=su_ L2 q hq
 have hF:HS (jcF a b p q) (K1* K2) 611:=(H1.mul H2 (dA_ (-a) 1 hp)).mono (by omega)
 have hFl:=(q7_ (Nat.le_trans ha (by decide)) (Nat.le_trans hb (by decide)) hp hq).2
 have hG:=HS_gK hF k
 have hGl:=ri_ (jcF a b p q) k
 have hI:=HS_int hG (by omega)
 have hIl:=dD_ (gK (jcF a b p q) k)
 have hL:(aK_ (gK (jcF a b p q) k)).length≤51:=by omega
 show qs (evalP (aK_ (gK (jcF a b p q) k)) b- evalP (aK_ (gK (jcF a b p q) k)) a)≤3000
 generalize aK_ (gK (jcF a b p q) k)=I at *
 generalize (K1* K2* (((fcN 52:Nat):Int):Rat))=K at *
 have hc:∀c∈I,IB (c* K) 841:=fun c hc=>by
  obtain⟨i,_,e⟩:=je_ hc
  rw[←e];exact(hI.co i).mono (by omega)
 have hK:IB K 841:=hI.sc.mono (by omega)
 obtain⟨e1,e2⟩:=nn_ b1 b2 hK I hc
 obtain⟨f1,f2⟩:=nn_ a1 a2 hK I hc
 have S0:K* (((b.den:Nat):Int):Rat) ^ I.length* (((a.den:Nat):Int):Rat) ^ I.length≠0:=fun e=>by
  rcases Rat.mul_eq_zero.1 e with e|e
  rcases Rat.mul_eq_zero.1 e with e|e
  exact hI.ne e
  exact qD_ b3 _ e
  exact qD_ a3 _ e
 have S1:IB (K* (((b.den:Nat):Int):Rat) ^ I.length* (((a.den:Nat):Int):Rat) ^ I.length) 3000:=((hK.mul e2).mul f2).mono (by omega)
 have N1:IB ((evalP I b- evalP I a) * (K* (((b.den:Nat):Int):Rat) ^ I.length* (((a.den:Nat):Int):Rat) ^ I.length)) 3000:=by
  have g1:=(e1.mul f2).mono (show _≤2999 by omega)
  have g2:=((f1.mul e2).neg).mono (show _≤2999 by omega)
  exact(g1.add g2).eq (by grind)
 have:=st_ N1 S1 S0 (by omega)
 rwa[Rat.mul_div_cancel S0] at this

theorem j6_(p q:List Rat):divP (trimQ p) q=divP p q:=by unfold divP;rw[bc_]
theorem nx_(p:List Rat):aY_ (trimQ p)=aY_ p:=by
 have h1:trimQ (aY_ p)=aY_ p:=bc_ _
 have h2:trimQ (aY_ (trimQ p))=aY_ (trimQ p):=bc_ _
 rw[←h1,←h2]
 exact ev_ fun i=>by rw[ch_,ch_,bm_]
theorem pp_(p:List Rat):bf_ (trimQ p)=bf_ p:=by
 unfold bf_
 rw[bc_,jR_]
 split
 rfl
 rw[←eu_ p,←eu_ (trimQ p)]
 exact ev_ fun i=>by rw[bp_,bp_,bm_]
theorem rf_{f:Nat}{p q g g':List Rat}(h:gcdM f p q=some g)(h':gcdM f (trimQ p) q=some g'):g'=g:=by
 cases f with
 |zero=>cases h
 |succ f=>
  rw[gcdM] at h h'
  by_cases hq:trimQ q=[]
  rw[if_pos hq] at h h'
  rw[pp_] at h'
  split at h
  split at h'
  cases h;cases h';rfl
  cases h'
  cases h
  rw[if_neg hq] at h h'
  rw[j6_] at h'
  split at h
  split at h'
  rw[h] at h';cases h';rfl
  cases h'
  cases h
theorem pg_{f:Nat}{p s s':List Rat}(h:sqfM f p=some s)(h':sqfM f (trimQ p)=some s'):s'=s:=by
 unfold sqfM at h h'
 rw[nx_] at h'
 split at h
 split at h'
 cases e:gcdM f p (aY_ p) with
 |none=>rw[e] at h;cases h
 |some g=>
  cases e':gcdM f (trimQ p) (aY_ p) with
  |none=>rw[e'] at h';cases h'
  |some g'=>
   have eg:=rf_ e e'
   subst eg
   rw[e,Option.bind_some] at h
   rw[e',Option.bind_some,j6_] at h'
   split at h
   split at h'
   cases h;cases h';rfl
   cases h'
   cases h
 cases h'
 cases h
theorem ms_{f:Nat}{p:List Rat}{c c':Cnt}(h:dX_ f p=some c)(h':dX_ f (trimQ p)=some c'):c'=c:=by
 unfold dX_ at h h'
 cases e:sqfM f p with
 |none=>rw[e] at h;cases h
 |some s=>
  cases e':sqfM f (trimQ p) with
  |none=>rw[e'] at h';cases h'
  |some s'=>
   have es:=pg_ e e'
   subst es
   rw[e] at h
   rw[e',h] at h'
   cases h';rfl
def RealV(p:List Rat):Prop:=1≤degP p∧degP p≤25∧∃c,CN p c∧uptoV c (cB_ c.p)=degP p
theorem RealV.trim{p:List Rat}(hl:p.length≤7)(hb:bdL p 20)(h:RealV p):RealV (trimQ p):=by
 obtain⟨h1,h2,c,hc,h3⟩:=h
 have np:nz (trimQ p):=by unfold nz;rw[bc_];exact hc.np
 obtain⟨c',hc'⟩:=CN.ex np (by have:=a2_ p;omega) (fun q hq=>hb q (bl_ hq))
 have e:=ms_ hc.hc hc'.hc
 subst e
 rw[←mq_] at h1 h2 h3
 exact⟨h1,h2,_,hc',h3⟩
theorem leastN{P:Nat→Prop}:∀N,P N→∃d,d≤N∧P d∧∀k,k< d→¬P k:=by
 intro N
 induction N using Nat.strongRecOn with
 |ind N ih=>
  intro h
  by_cases e:∃k,k< N∧P k
  obtain⟨k,k1,k2⟩:=e
  obtain⟨d,d1,d2,d3⟩:=ih k k1 k2
  exact⟨d,by omega,d2,d3⟩
  exact⟨N,Nat.le_refl _,h,fun k hk hp=>e ⟨k,hk,hp⟩⟩
section
variable {T:List Rat}{n:Nat}(hn:1≤n∧n≤5)(hl:T.length=n+1)(ht:trimQ T=T)(hm:leadP T=1)(hb:bdL T 20)
include hn hl ht hm hb
end
def sQ(f:Nat→Rat):Nat→Rat
 |0=>0
 |n+1=>sQ f n+f n
theorem eA_{f g:Nat→Rat}:∀n,(∀j,j< n→f j=g j)→sQ f n=sQ g n
 |0,_=>rfl
 |n+1,h=>by rw[sQ,sQ,eA_ n fun j hj=>h j (by omega),h n (by omega)]
theorem qp_(f g:Nat→Rat)(u:Rat):∀n,sQ (fun j=>f j- u* g j) n=sQ f n- u* sQ g n
 |0=>by rw[sQ,sQ,sQ];grind
 |n+1=>by rw[sQ,sQ,sQ,qp_ f g u n];grind
theorem sQ_add(f g:Nat→Rat):∀n,sQ (fun j=>f j+g j) n=sQ f n+sQ g n
 |0=>by rw[sQ,sQ,sQ];grind
 |n+1=>by rw[sQ,sQ,sQ,sQ_add f g n];grind
theorem nV_(i:Nat)(a:Rat):∀n,sQ (fun j=>if j=i then a else 0) n=if i< n then a else 0
 |0=>by rw[sQ,if_neg (by omega)]
 |n+1=>by
  rw[sQ,nV_ i a n]
  by_cases h:i< n
  rw[if_pos h,if_neg (show¬n=i by omega),if_pos (show i< n+1 by omega)];grind
  by_cases e:n=i
  rw[if_neg h,if_pos e,if_pos (show i< n+1 by omega)];grind
  rw[if_neg h,if_neg e,if_neg (show¬i< n+1 by omega)];grind
abbrev Mx:=Nat→Nat→Rat
def Sol(c:Rat)(M:Mx)(n:Nat)(x:Nat→Rat):Prop:=∀i,i< n→sQ (fun j=>M i j* x j) n=c* M i n
def swM(M:Mx)(k p:Nat):Mx:=fun i j=>if i=k then M p j else if i=p then M k j else M i j
def elM(M:Mx)(k m:Nat):Mx:=fun i j=>if i< m∧i≠k∧k≤j then M i j- M i k/ M k k* M k j else M i j
def pvt(M:Mx)(n k:Nat):Option Nat:=(List.range n).find? fun p=>decide (k≤p∧M p k≠0)
def gjM(M:Mx)(n:Nat):Nat→Option Mx
 |0=>some M
 |k+1=>(gjM M n k).bind fun A=>(pvt A n k).map fun p=>elM (swM A k p) k n
theorem hT_{M:Mx}{n k p:Nat}(h:pvt M n k=some p):p< n∧k≤p∧M p k≠0:=by
 have h1:=List.find?_some h
 have h2:=List.mem_of_find?_eq_some h
 have h3:=of_decide_eq_true h1
 exact⟨List.mem_range.1 h2,h3⟩
theorem n0_{M:Mx}{n k:Nat}(h:pvt M n k=none):∀i,i< n→k≤i→M i k=0:=fun i hi hk=>by
 have h1:=List.find?_eq_none.1 h i (List.mem_range.2 hi)
 have h2:¬(k≤i∧M i k≠0):=fun e=>h1 (decide_eq_true e)
 exact Classical.byContradiction fun e=>h2 ⟨hk,e⟩
theorem pvt_of{M:Mx}{n k p:Nat}(hp:p< n)(hk:k≤p)(h:M p k≠0)(hb:∀i,k≤i→i< p→M i k=0):pvt M n k=some p:=by
 cases e:pvt M n k with
 |none=>exact absurd (n0_ e p hp hk) h
 |some q=>
  obtain⟨q1,q2,q3⟩:=hT_ e
  unfold pvt at e
  rw[List.find?_range_eq_some] at e
  obtain⟨e1,e2,e3⟩:=e
  by_cases h1:q< p
  exact absurd (hb q q2 h1) q3
  by_cases h2:p< q
  have:=e3 p h2
  simp[hk,h] at this
  rw[show q=p by omega]
theorem pvt_no{M:Mx}{n k:Nat}(hb:∀i,k≤i→i< n→M i k=0):pvt M n k=none:=by
 cases e:pvt M n k with
 |none=>rfl
 |some q=>
  obtain⟨q1,q2,q3⟩:=hT_ e
  exact absurd (hb q q2 q1) q3
theorem sol_sw{c:Rat}{M:Mx}{n k p:Nat}{x:Nat→Rat}(hk:k< n)(hp:p< n)(h:Sol c (swM M k p) n x):Sol c M n x:=fun i hi=>by
 by_cases e1:i=k
 subst e1
 by_cases e2:p=i
 have:=h i hi
 unfold swM at this
 simp only[if_pos rfl,e2] at this
 exact this
 have:=h p hp
 unfold swM at this
 simp only[if_neg e2,if_pos rfl] at this
 exact this
 by_cases e2:i=p
 subst e2
 have:=h k hk
 unfold swM at this
 simp only[if_pos rfl] at this
 exact this
 have:=h i hi
 unfold swM at this
 simp only[if_neg e1,if_neg e2] at this
 exact this
theorem sol_el{c:Rat}{M:Mx}{n k:Nat}{x:Nat→Rat}(hk:k< n)(hz:∀j,j< k→M k j=0)(h:Sol c (elM M k n) n x):Sol c M n x:=by
 have hrow:∀i j,i< n→i≠k→elM M k n i j=M i j- M i k/ M k k* M k j:=fun i j hi hik=>by
  unfold elM
  by_cases e:k≤j
  rw[if_pos ⟨hi,hik,e⟩]
  rw[if_neg (fun e'=>e e'.2.2),hz j (by omega)];grind
 have hkk:∀j,elM M k n k j=M k j:=fun j=>by unfold elM;rw[if_neg (fun e=>e.2.1 rfl)]
 have h0:sQ (fun j=>M k j* x j) n=c* M k n:=by
  have:=h k hk
  rw[hkk,eA_ (g:=fun j=>M k j* x j) n fun j _=>by rw[hkk]] at this
  exact this
 intro i hi
 by_cases e:i=k
 rw[e];exact h0
 have h1:=h i hi
 rw[hrow i n hi e,eA_ (g:=fun j=>M i j* x j- M i k/ M k k* (M k j* x j)) n fun j _=>by rw[hrow i j hi e];grind,qp_,h0] at h1
 grind
def DiagM(M:Mx)(n k:Nat):Prop:=∀j,j< k→M j j≠0∧∀i,i< n→i≠j→M i j=0
theorem diag_sw{M:Mx}{n k p:Nat}(h:DiagM M n k)(hk:k≤p)(hp:p< n):DiagM (swM M k p) n k:=fun j hj=>by
 obtain⟨h1,h2⟩:=h j hj
 constructor
 unfold swM;rw[if_neg (by omega),if_neg (by omega)];exact h1
 intro i hi hij
 unfold swM
 split
 exact h2 p hp (by omega)
 split
 exact h2 k (by omega) (by omega)
 exact h2 i hi hij
theorem diag_el{M:Mx}{n k:Nat}(h:DiagM M n k)(h0:M k k≠0):DiagM (elM M k n) n (k+1):=fun j hj=>by
 by_cases e:j=k
 subst e
 constructor
 unfold elM;rw[if_neg (fun e=>e.2.1 rfl)];exact h0
 intro i hi hij
 unfold elM
 rw[if_pos ⟨hi,hij,Nat.le_refl _⟩]
 have:=Rat.div_mul_cancel (a:=M i j) h0
 grind
 obtain⟨h1,h2⟩:=h j (by omega)
 constructor
 unfold elM;rw[if_neg (fun e=>by omega)];exact h1
 intro i hi hij
 unfold elM;rw[if_neg (fun e=>by omega)];exact h2 i hi hij
theorem iR_{M:Mx}{n:Nat}:∀k A,k≤n→gjM M n k=some A→(∀c x,Sol c A n x→Sol c M n x)∧DiagM A n k
 |0,A,_,h=>by cases h;exact⟨fun _ _ h=>h,fun j hj=>by omega⟩
 |k+1,A,hk,h=>by
  rw[gjM] at h
  cases e:gjM M n k with
  |none=>rw[e] at h;cases h
  |some B=>
   rw[e,Option.bind_some] at h
   obtain⟨i1,i2⟩:=iR_ k B (by omega) e
   cases e2:pvt B n k with
   |none=>rw[e2] at h;cases h
   |some p=>
    rw[e2] at h
    cases h
    obtain⟨p1,p2,p3⟩:=hT_ e2
    have d:=diag_sw i2 p2 p1
    have hkk:swM B k p k k≠0:=by unfold swM;rw[if_pos rfl];exact p3
    refine⟨fun c x hs=>i1 c x (sol_sw (by omega) p1 (sol_el (by omega) (fun j hj=>(d j hj).2 k (by omega) (by omega)) hs)),diag_el d hkk⟩
theorem re_{M:Mx}{n:Nat}:∀k,k≤n→gjM M n k=none→∃x:Nat→Rat,(∃j,j< n∧x j≠0)∧Sol 0 M n x
 |0,_,h=>by cases h
 |k+1,hk,h=>by
  rw[gjM] at h
  cases e:gjM M n k with
  |none=>exact re_ k (by omega) e
  |some B=>
   rw[e,Option.bind_some] at h
   obtain⟨i1,i2⟩:=iR_ k B (by omega) e
   cases e2:pvt B n k with
   |some p=>rw[e2] at h;cases h
   |none=>
    have hz:=n0_ e2
    refine⟨fun j=>if j=k then 1 else if j< k then -(B j k/ B j j) else 0,⟨k,by omega,by simp only[if_pos];decide⟩,i1 0 _ fun i hi=>?_⟩
    rw[Rat.zero_mul,eA_ (g:=fun j=>(if j=i then(if i< k then -(B i k) else 0) else 0)+(if j=k then B i k else 0)) n fun j hj=>?_,sQ_add,nV_,nV_,if_pos hi,if_pos (show k< n by omega)]
    by_cases h1:i< k
    rw[if_pos h1];grind
    rw[if_neg h1,hz i hi (by omega)];grind
    by_cases h1:j=k
    rw[if_pos h1,if_pos h1]
    by_cases h2:j=i
    rw[if_pos h2,if_neg (show¬i< k by omega),h1];grind
    rw[if_neg h2,h1];grind
    rw[if_neg h1,if_neg h1]
    by_cases h2:j< k
    rw[if_pos h2]
    obtain⟨d1,d2⟩:=i2 j h2
    by_cases h3:j=i
    subst h3
    rw[if_pos rfl,if_pos h2]
    have:=Rat.div_mul_cancel (a:=B j k) d1
    grind
    rw[if_neg h3,d2 i hi (fun e=>h3 e.symm)];grind
    rw[if_neg h2]
    by_cases h3:j=i
    rw[if_pos h3,if_neg (show¬i< k by omega)];grind
    rw[if_neg h3];grind
theorem gj_end{M A:Mx}{n:Nat}(h:gjM M n n=some A):Sol 1 M n (fun i=>A i n/ A i i):=by
 obtain⟨i1,i2⟩:=iR_ n A (Nat.le_refl _) h
 refine i1 1 _ fun i hi=>?_
 obtain⟨d1,d2⟩:=i2 i hi
 rw[Rat.one_mul,eA_ (g:=fun j=>if j=i then A i n else 0) n fun j hj=>?_,nV_,if_pos hi]
 by_cases e:j=i
 subst e
 rw[if_pos rfl]
 have:=Rat.div_mul_cancel (a:=A j n) d1
 grind
 rw[if_neg e,(i2 j hj).2 i hi (fun e'=>e e'.symm)];grind
def bdM(M:Mx)(n s:Nat):Prop:=∀i j,i< n→j≤n→qs (M i j)≤s
def gjB(s:Nat):Nat→Nat
 |0=>s
 |k+1=>4* gjB s k+1
theorem bd_sw{M:Mx}{n k p s:Nat}(h:bdM M n s)(hk:k< n)(hp:p< n):bdM (swM M k p) n s:=fun i j hi hj=>by
 unfold swM
 split
 exact h p j hp hj
 split
 exact h k j hk hj
 exact h i j hi hj
theorem bd_el{M:Mx}{n k m s:Nat}(h:bdM M n s)(hk:k< n):bdM (elM M k m) n (4* s+1):=fun i j hi hj=>by
 have h1:=h i j hi hj
 unfold elM
 split
 have h2:=h i k hi (by omega)
 have h3:=h k k hk (by omega)
 have h4:=h k j hk hj
 have h5:=dy_ (M i k) (M k k)
 have h6:=bZ_ (M i k/ M k k) (M k j)
 have h7:=qy_ (M i j) (M i k/ M k k* M k j)
 omega
 omega
theorem gj_bd{M:Mx}{n s:Nat}(hs:bdM M n s):∀k A,k≤n→gjM M n k=some A→bdM A n (gjB s k)
 |0,A,_,h=>by cases h;exact hs
 |k+1,A,hk,h=>by
  rw[gjM] at h
  cases e:gjM M n k with
  |none=>rw[e] at h;cases h
  |some B=>
   rw[e,Option.bind_some] at h
   have i1:=gj_bd hs k B (by omega) e
   cases e2:pvt B n k with
   |none=>rw[e2] at h;cases h
   |some p=>
    rw[e2] at h
    cases h
    exact bd_el (bd_sw i1 (by omega) (hT_ e2).1) (by omega)
theorem rj_{s:Nat}{k n:Nat}(h:k≤n):gjB s k≤gjB s n:=by
 induction n with
 |zero=>rw[show k=0 by omega];exact Nat.le_refl _
 |succ n ih=>
  by_cases e:k=n+1
  rw[e];exact Nat.le_refl _
  have:=ih (by omega)
  rw[gjB];omega
def orSy(m:List Rat)(n:Nat):Mx:=fun i j=>if j< n then coP m (j+i) else -(coP m (n+i))
theorem or_bd{m:List Rat}{s:Nat}(hb:bdL m s)(hs:1≤s)(n:Nat):bdM (orSy m n) n s:=fun i j _ _=>by
 unfold orSy
 split
 exact bE_ hb hs _
 rw[eQ_];exact bE_ hb hs _
theorem fJ_(n:Nat)(x:Nat→Rat)(i:Nat):coP (tabP n x) i=if i< n then x i else 0:=by
 unfold coP
 rw[List.getD_eq_getElem?_getD]
 by_cases h:i< n
 rw[if_pos h];simp[tabP,h]
 rw[if_neg h,List.getElem?_eq_none (by simp;omega)];rfl
theorem ofQ_sh(m:List Rat)(n i:Nat)(x:Nat→Rat):∀k,k≤n→ofQ (shP i (tabP n x)) m (i+k)=sQ (fun j=>coP m (j+i) * x j) k
 |0,_=>by
  rw[sQ]
  have key:∀a,a≤i→ofQ (shP i (tabP n x)) m a=0:=by
   intro a
   induction a with
   |zero=>intro _;rfl
   |succ a ih=>intro ha;rw[ofQ,ih (by omega),fU_,if_pos (by omega)];grind
  exact key i (Nat.le_refl _)
 |k+1,hk=>by
  rw[sQ,←ofQ_sh m n i x k (by omega),show i+(k+1)=i+k+1 by omega,ofQ,fU_,if_neg (by omega),show i+k- i=k by omega,fJ_,if_pos (by omega),Nat.add_comm k i]
  grind
theorem or_sum(m:List Rat)(n i:Nat)(x:Nat→Rat):bl2 m (tabP n x) (gK [1] i)=sQ (fun j=>coP m (j+i) * x j) n:=by
 rw[←ofQ_sh m n i x n (Nat.le_refl _),←ofP_n (p:=shP i (tabP n x)) (n:=i+n) (by
  have:=a2_ (shP i (tabP n x))
  rw[de_,fV_] at this
  exact this)]
 exact(dU_ m).eqv fun t=>by rw[aL_,iT_,h5_]
theorem qY_(m q:List Rat):Lin (fun r=>bl2 m q r) where
 eqv {a b} h:=(dU_ m).eqv fun x=>by rw[aL_,aL_,h]
 add a b:=by
  show ofP m (mulP q (addP a b))=ofP m (mulP q a)+ofP m (mulP q b)
  rw[←(dU_ m).add]
  exact(dU_ m).eqv fun x=>by rw[aL_,bM_,bM_,aL_,aL_];grind
 scale a k:=by
  show ofP m (mulP q (aJ_ a k))=ofP m (mulP q a) * k
  rw[←(dU_ m).scale]
  exact(dU_ m).eqv fun x=>by rw[aL_,aS_,aS_,aL_];grind
theorem kd_{m q:List Rat}{n:Nat}(h:∀i,i< n→bl2 m q (gK [1] i)=0)(r:List Rat)(hr:∀i,n≤i→coP r i=0):bl2 m q r=0:=by
 have hl:(trimQ r).length≤n:=by
  by_cases e:(trimQ r).length≤n
  exact e
  have h1:=hr ((trimQ r).length- 1) (by omega)
  have h2:=bH_ (l:=r) (n:=(trimQ r).length- 1) (by omega)
  have h3:trimQ r≠[]:=fun e'=>by rw[e'] at e;simp at e
  have h4:=b9_ h3
  rw[←bm_] at h1
  unfold coP at h1
  rw[List.getD_eq_getElem?_getD,h2] at h1
  exact absurd h1 h4
 have hz:∀k,k≤n→k≤(trimQ r).length→ofQ (trimQ r) (List.replicate n 0) k=0:=by
  intro k
  induction k with
  |zero=>intro _ _;rfl
  |succ k ih=>
   intro h1 h2
   rw[ofQ,ih (by omega) (by omega),show coP (List.replicate n 0) k=0 by
    unfold coP;rw[List.getD_eq_getElem?_getD,List.getElem?_replicate];split <;> rfl]
   grind
 have hk:=(qY_ m q).ofQ (m:=List.replicate n 0) (N:=n) (fun i hi=>by
  rw[h i hi]
  unfold coP;rw[List.getD_eq_getElem?_getD,List.getElem?_replicate];split <;> rfl) (trimQ r) (trimQ r).length hl (Nat.le_refl _)
 rw[hz _ hl (Nat.le_refl _),List.take_length] at hk
 have he:bl2 m q r=bl2 m q (trimQ r):=(qY_ m q).eqv fun x=>(bs_ r x).symm
 rw[he];exact hk.symm
theorem or_ok{m:List Rat}{n:Nat}(hn:∀j,j< n→0< oN m j):∃A,gjM (orSy m n) n n=some A:=by
 cases e:gjM (orSy m n) n n with
 |some A=>exact⟨A,rfl⟩
 |none=>
  exfalso
  obtain⟨x,⟨j,j1,j2⟩,hx⟩:=re_ n (Nat.le_refl _) e
  have h1:∀i,i< n→bl2 m (tabP n x) (gK [1] i)=0:=fun i hi=>by
   rw[or_sum]
   have:=hx i hi
   rw[Rat.zero_mul] at this
   rw[←this]
   exact eA_ n fun j hj=>by unfold orSy;rw[if_pos hj]
  have h2:=kd_ h1 (tabP n x) fun i hi=>by rw[fJ_,if_neg (by omega)]
  have h3:=(o_pos m n hn n (tabP n x) (Nat.le_refl _) fun i hi=>by rw[fJ_,if_neg (by omega)]).2 h2
  have h4:trimQ (tabP n x)=trimQ []:=fD_ fun t=>by rw[h3,aZ_]
  have h5:=trim_iff.1 h4 j
  rw[fJ_,if_pos j1] at h5
  exact j2 h5
theorem or_some{m:List Rat}{n:Nat}(hn:∀j,j< n→0< oN m j){A:Mx}(h:gjM (orSy m n) n n=some A):tabP n (fun i=>A i n/ A i i)++[1]=oP m n:=by
 have hs:=gj_end h
 obtain⟨q,hq⟩:∃q,q=tabP n (fun i=>A i n/ A i i)++[1]:=⟨_,rfl⟩
 have hq2:q=tabP (n+1) (fun i=>if i< n then A i n/ A i i else 1):=by
  rw[hq]
  apply List.ext_getElem?
  intro i
  by_cases h1:i< n
  rw[List.getElem?_append_left (by simp;exact h1)]
  simp[tabP,h1,show i< n+1 by omega]
  by_cases h2:i=n
  subst h2
  rw[List.getElem?_append_right (by simp)]
  simp[tabP]
  rw[List.getElem?_eq_none (by simp;omega),List.getElem?_eq_none (by simp;omega)]
 have hM:Mon q n:=by
  rw[hq2]
  exact⟨by rw[fJ_,if_pos (by omega),if_neg (by omega)],fun i hi=>by rw[fJ_,if_neg (by omega)]⟩
 have h1:∀i,i< n→bl2 m q (gK [1] i)=0:=fun i hi=>by
  rw[hq2,or_sum,sQ]
  have:=hs i hi
  rw[Rat.one_mul,eA_ (g:=fun j=>coP m (j+i) * (if j< n then A j n/ A j j else 1)) n fun j hj=>by
   show orSy m n i j* _=_
   unfold orSy;rw[if_pos hj,if_pos hj]] at this
  rw[this,if_neg (Nat.lt_irrefl n)]
  unfold orSy;rw[if_neg (Nat.lt_irrefl n)];grind
 have h2:=eqv_trim.1 (o_few2 hn hM fun r hr=>kd_ h1 r hr)
 have key:∀p:List Rat,Mon p n→p.length≤n+1→trimQ p=p:=fun p hp hl=>by
  have o4:=go_ (p:=p) (n:=n) ⟨by rw[hp.1];decide,hp.2⟩
  have o5:(trimQ p).length=n+1:=by
   have h3:=o4.2.1
   have h4:=List.length_pos_iff.2 o4.1
   unfold dg at h3;omega
  have h3:=eV_ p
  rw[List.take_of_length_le (by omega)] at h3
  exact h3
 rw[←hq,←key q hM (by rw[hq];simp),h2,key _ (ix_ m n).1 (dV_ m n).1]
end Go.Abs
namespace Go.Proofs.YtdjfjpeoddmamaaGreatDoor
open Go.Abs
set_option maxRecDepth 20000
theorem hmix:Tryz.prog.follows .mixedOrders=true:=by kernel_rfl
instance tz_2:TZ Tryz.prog 2 [Value.int IntKind.i64 0]:=⟨by kernel_rfl⟩
instance ts_2:TS Tryz.prog 2 1:=⟨by kernel_rfl⟩
instance tg_2:TG Tryz.prog 2 false:=⟨by kernel_rfl⟩
instance tb_2:TB Tryz.prog 2 8:=⟨by kernel_rfl⟩
instance tu_2:TU Tryz.prog 2 (.int .i64):=⟨by kernel_rfl⟩
instance tz_3:TZ Tryz.prog 3 [Value.int IntKind.i64 0]:=⟨by kernel_rfl⟩
instance ts_3:TS Tryz.prog 3 1:=⟨by kernel_rfl⟩
instance tg_3:TG Tryz.prog 3 false:=⟨by kernel_rfl⟩
instance tb_3:TB Tryz.prog 3 8:=⟨by kernel_rfl⟩
instance tu_3:TU Tryz.prog 3 (.int .i64):=⟨by kernel_rfl⟩
instance tz_4:TZ Tryz.prog 4 [Value.bool false]:=⟨by kernel_rfl⟩
instance ts_4:TS Tryz.prog 4 1:=⟨by kernel_rfl⟩
instance tg_4:TG Tryz.prog 4 false:=⟨by kernel_rfl⟩
instance tb_4:TB Tryz.prog 4 1:=⟨by kernel_rfl⟩
instance tu_4:TU Tryz.prog 4 .bool:=⟨by kernel_rfl⟩
instance tz_5:TZ Tryz.prog 5 [Value.int IntKind.u8 0]:=⟨by kernel_rfl⟩
instance ts_5:TS Tryz.prog 5 1:=⟨by kernel_rfl⟩
instance tg_5:TG Tryz.prog 5 false:=⟨by kernel_rfl⟩
instance tb_5:TB Tryz.prog 5 1:=⟨by kernel_rfl⟩
instance tu_5:TU Tryz.prog 5 (.int .u8):=⟨by kernel_rfl⟩
instance ts_9:TS Tryz.prog 9 1:=⟨by kernel_rfl⟩
instance tg_9:TG Tryz.prog 9 false:=⟨by kernel_rfl⟩
instance tb_9:TB Tryz.prog 9 16:=⟨by kernel_rfl⟩
instance tu_9:TU Tryz.prog 9 .string:=⟨by kernel_rfl⟩
instance tz_23:TZ Tryz.prog 23 [Value.int IntKind.i64 0,Value.int IntKind.i64 0,Value.int IntKind.u8 0]:=⟨by kernel_rfl⟩
instance ts_23:TS Tryz.prog 23 3:=⟨by kernel_rfl⟩
instance tg_23:TG Tryz.prog 23 true:=⟨by kernel_rfl⟩
instance tb_23:TB Tryz.prog 23 24:=⟨by kernel_rfl⟩
instance tp_23:TP Tryz.prog 23 [(0,1),(1,1),(2,1)]:=⟨by kernel_rfl⟩
instance tf_23_0:TF Tryz.prog 23 0 (0,1):=⟨by kernel_rfl⟩
instance tga_23_0:TA Tryz.prog 23 0 false:=⟨by kernel_rfl⟩
instance tf_23_1:TF Tryz.prog 23 1 (1,1):=⟨by kernel_rfl⟩
instance tga_23_1:TA Tryz.prog 23 1 false:=⟨by kernel_rfl⟩
instance tf_23_2:TF Tryz.prog 23 2 (2,1):=⟨by kernel_rfl⟩
instance tga_23_2:TA Tryz.prog 23 2 false:=⟨by kernel_rfl⟩
instance tz_25:TZ Tryz.prog 25 [Value.int IntKind.i64 0,Value.int IntKind.i64 0,Value.int IntKind.u8 0,Value.int IntKind.i64 0,Value.int IntKind.i64 0,Value.int IntKind.u8 0]:=⟨by kernel_rfl⟩
instance ts_25:TS Tryz.prog 25 6:=⟨by kernel_rfl⟩
instance tg_25:TG Tryz.prog 25 true:=⟨by kernel_rfl⟩
instance tb_25:TB Tryz.prog 25 48:=⟨by kernel_rfl⟩
instance tp_25:TP Tryz.prog 25 [(0,3),(3,3)]:=⟨by kernel_rfl⟩
instance tf_25_0:TF Tryz.prog 25 0 (0,3):=⟨by kernel_rfl⟩
instance tga_25_0:TA Tryz.prog 25 0 true:=⟨by kernel_rfl⟩
instance tf_25_1:TF Tryz.prog 25 1 (3,3):=⟨by kernel_rfl⟩
instance tga_25_1:TA Tryz.prog 25 1 true:=⟨by kernel_rfl⟩
instance tz_26:TZ Tryz.prog 26 [Value.slice none 0 0]:=⟨by kernel_rfl⟩
instance ts_26:TS Tryz.prog 26 1:=⟨by kernel_rfl⟩
instance tg_26:TG Tryz.prog 26 false:=⟨by kernel_rfl⟩
instance tb_26:TB Tryz.prog 26 24:=⟨by kernel_rfl⟩
instance te_26:TE Tryz.prog 26 (23,3):=⟨by kernel_rfl⟩
instance tz_29:TZ Tryz.prog 29 [Value.slice none 0 0]:=⟨by kernel_rfl⟩
instance ts_29:TS Tryz.prog 29 1:=⟨by kernel_rfl⟩
instance tg_29:TG Tryz.prog 29 false:=⟨by kernel_rfl⟩
instance tb_29:TB Tryz.prog 29 24:=⟨by kernel_rfl⟩
instance te_29:TE Tryz.prog 29 (236,1):=⟨by kernel_rfl⟩
instance tz_31:TZ Tryz.prog 31 [Value.slice none 0 0]:=⟨by kernel_rfl⟩
instance ts_31:TS Tryz.prog 31 1:=⟨by kernel_rfl⟩
instance tg_31:TG Tryz.prog 31 true:=⟨by kernel_rfl⟩
instance tb_31:TB Tryz.prog 31 24:=⟨by kernel_rfl⟩
instance tp_31:TP Tryz.prog 31 [(0,1)]:=⟨by kernel_rfl⟩
instance tf_31_0:TF Tryz.prog 31 0 (0,1):=⟨by kernel_rfl⟩
instance tga_31_0:TA Tryz.prog 31 0 false:=⟨by kernel_rfl⟩
instance tz_33:TZ Tryz.prog 33 [Value.slice none 0 0,Value.bool false]:=⟨by kernel_rfl⟩
instance ts_33:TS Tryz.prog 33 2:=⟨by kernel_rfl⟩
instance tg_33:TG Tryz.prog 33 true:=⟨by kernel_rfl⟩
instance tb_33:TB Tryz.prog 33 32:=⟨by kernel_rfl⟩
instance tp_33:TP Tryz.prog 33 [(0,1),(1,1)]:=⟨by kernel_rfl⟩
instance tf_33_0:TF Tryz.prog 33 0 (0,1):=⟨by kernel_rfl⟩
instance tga_33_0:TA Tryz.prog 33 0 true:=⟨by kernel_rfl⟩
instance tf_33_1:TF Tryz.prog 33 1 (1,1):=⟨by kernel_rfl⟩
instance tga_33_1:TA Tryz.prog 33 1 false:=⟨by kernel_rfl⟩
instance tz_35:TZ Tryz.prog 35 [Value.slice none 0 0,Value.bool false,Value.slice none 0 0]:=⟨by kernel_rfl⟩
instance ts_35:TS Tryz.prog 35 3:=⟨by kernel_rfl⟩
instance tg_35:TG Tryz.prog 35 true:=⟨by kernel_rfl⟩
instance tb_35:TB Tryz.prog 35 56:=⟨by kernel_rfl⟩
instance tp_35:TP Tryz.prog 35 [(0,2),(2,1)]:=⟨by kernel_rfl⟩
instance tf_35_0:TF Tryz.prog 35 0 (0,2):=⟨by kernel_rfl⟩
instance tga_35_0:TA Tryz.prog 35 0 true:=⟨by kernel_rfl⟩
instance tf_35_1:TF Tryz.prog 35 1 (2,1):=⟨by kernel_rfl⟩
instance tga_35_1:TA Tryz.prog 35 1 true:=⟨by kernel_rfl⟩
instance tz_37:TZ Tryz.prog 37 [Value.slice none 0 0,Value.bool false,Value.slice none 0 0,Value.slice none 0 0,Value.bool false,Value.slice none 0 0]:=⟨by kernel_rfl⟩
instance ts_37:TS Tryz.prog 37 6:=⟨by kernel_rfl⟩
instance tg_37:TG Tryz.prog 37 true:=⟨by kernel_rfl⟩
instance tb_37:TB Tryz.prog 37 112:=⟨by kernel_rfl⟩
instance tp_37:TP Tryz.prog 37 [(0,3),(3,3)]:=⟨by kernel_rfl⟩
instance tf_37_0:TF Tryz.prog 37 0 (0,3):=⟨by kernel_rfl⟩
instance tga_37_0:TA Tryz.prog 37 0 true:=⟨by kernel_rfl⟩
instance tf_37_1:TF Tryz.prog 37 1 (3,3):=⟨by kernel_rfl⟩
instance tga_37_1:TA Tryz.prog 37 1 true:=⟨by kernel_rfl⟩
instance tz_38:TZ Tryz.prog 38 [Value.slice none 0 0]:=⟨by kernel_rfl⟩
instance ts_38:TS Tryz.prog 38 1:=⟨by kernel_rfl⟩
instance tg_38:TG Tryz.prog 38 false:=⟨by kernel_rfl⟩
instance tb_38:TB Tryz.prog 38 24:=⟨by kernel_rfl⟩
instance te_38:TE Tryz.prog 38 (3,1):=⟨by kernel_rfl⟩
instance tz_40:TZ Tryz.prog 40 [Value.int IntKind.i64 0,Value.slice none 0 0]:=⟨by kernel_rfl⟩
instance ts_40:TS Tryz.prog 40 2:=⟨by kernel_rfl⟩
instance tg_40:TG Tryz.prog 40 true:=⟨by kernel_rfl⟩
instance tb_40:TB Tryz.prog 40 32:=⟨by kernel_rfl⟩
instance tp_40:TP Tryz.prog 40 [(0,1),(1,1)]:=⟨by kernel_rfl⟩
instance tf_40_0:TF Tryz.prog 40 0 (0,1):=⟨by kernel_rfl⟩
instance tga_40_0:TA Tryz.prog 40 0 false:=⟨by kernel_rfl⟩
instance tf_40_1:TF Tryz.prog 40 1 (1,1):=⟨by kernel_rfl⟩
instance tga_40_1:TA Tryz.prog 40 1 false:=⟨by kernel_rfl⟩
instance tz_42:TZ Tryz.prog 42 [Value.int IntKind.i64 0,Value.slice none 0 0,Value.int IntKind.i64 0,Value.slice none 0 0]:=⟨by kernel_rfl⟩
instance ts_42:TS Tryz.prog 42 4:=⟨by kernel_rfl⟩
instance tg_42:TG Tryz.prog 42 true:=⟨by kernel_rfl⟩
instance tb_42:TB Tryz.prog 42 64:=⟨by kernel_rfl⟩
instance tp_42:TP Tryz.prog 42 [(0,2),(2,2)]:=⟨by kernel_rfl⟩
instance tf_42_0:TF Tryz.prog 42 0 (0,2):=⟨by kernel_rfl⟩
instance tga_42_0:TA Tryz.prog 42 0 true:=⟨by kernel_rfl⟩
instance tf_42_1:TF Tryz.prog 42 1 (2,2):=⟨by kernel_rfl⟩
instance tga_42_1:TA Tryz.prog 42 1 true:=⟨by kernel_rfl⟩
instance tz_44:TZ Tryz.prog 44 [Value.int IntKind.i64 0,Value.slice none 0 0,Value.int IntKind.i64 0,Value.slice none 0 0,Value.int IntKind.i64 0,Value.slice none 0 0,Value.int IntKind.i64 0,Value.slice none 0 0]:=⟨by kernel_rfl⟩
instance ts_44:TS Tryz.prog 44 8:=⟨by kernel_rfl⟩
instance tg_44:TG Tryz.prog 44 true:=⟨by kernel_rfl⟩
instance tb_44:TB Tryz.prog 44 128:=⟨by kernel_rfl⟩
instance tp_44:TP Tryz.prog 44 [(0,4),(4,4)]:=⟨by kernel_rfl⟩
instance tf_44_0:TF Tryz.prog 44 0 (0,4):=⟨by kernel_rfl⟩
instance tga_44_0:TA Tryz.prog 44 0 true:=⟨by kernel_rfl⟩
instance tf_44_1:TF Tryz.prog 44 1 (4,4):=⟨by kernel_rfl⟩
instance tga_44_1:TA Tryz.prog 44 1 true:=⟨by kernel_rfl⟩
instance tz_49:TZ Tryz.prog 49 [Value.slice none 0 0]:=⟨by kernel_rfl⟩
instance ts_49:TS Tryz.prog 49 1:=⟨by kernel_rfl⟩
instance tg_49:TG Tryz.prog 49 false:=⟨by kernel_rfl⟩
instance tb_49:TB Tryz.prog 49 24:=⟨by kernel_rfl⟩
instance te_49:TE Tryz.prog 49 (35,3):=⟨by kernel_rfl⟩
instance tz_51:TZ Tryz.prog 51 [Value.slice none 0 0,Value.bool false,Value.bool false,Value.slice none 0 0,Value.bool false,Value.slice none 0 0,Value.slice none 0 0,Value.bool false,Value.slice none 0 0]:=⟨by kernel_rfl⟩
instance ts_51:TS Tryz.prog 51 9:=⟨by kernel_rfl⟩
instance tg_51:TG Tryz.prog 51 true:=⟨by kernel_rfl⟩
instance tb_51:TB Tryz.prog 51 144:=⟨by kernel_rfl⟩
instance tp_51:TP Tryz.prog 51 [(0,1),(1,1),(2,1),(3,3),(6,3)]:=⟨by kernel_rfl⟩
instance tf_51_0:TF Tryz.prog 51 0 (0,1):=⟨by kernel_rfl⟩
instance tga_51_0:TA Tryz.prog 51 0 false:=⟨by kernel_rfl⟩
instance tf_51_1:TF Tryz.prog 51 1 (1,1):=⟨by kernel_rfl⟩
instance tga_51_1:TA Tryz.prog 51 1 false:=⟨by kernel_rfl⟩
instance tf_51_2:TF Tryz.prog 51 2 (2,1):=⟨by kernel_rfl⟩
instance tga_51_2:TA Tryz.prog 51 2 false:=⟨by kernel_rfl⟩
instance tf_51_3:TF Tryz.prog 51 3 (3,3):=⟨by kernel_rfl⟩
instance tga_51_3:TA Tryz.prog 51 3 true:=⟨by kernel_rfl⟩
instance tf_51_4:TF Tryz.prog 51 4 (6,3):=⟨by kernel_rfl⟩
instance tga_51_4:TA Tryz.prog 51 4 true:=⟨by kernel_rfl⟩
instance tz_52:TZ Tryz.prog 52 [Value.int IntKind.i64 0]:=⟨by kernel_rfl⟩
instance ts_52:TS Tryz.prog 52 1:=⟨by kernel_rfl⟩
instance tg_52:TG Tryz.prog 52 false:=⟨by kernel_rfl⟩
instance tb_52:TB Tryz.prog 52 8:=⟨by kernel_rfl⟩
instance tu_52:TU Tryz.prog 52 (.int .i64):=⟨by kernel_rfl⟩
instance tz_55:TZ Tryz.prog 55 [Value.slice none 0 0]:=⟨by kernel_rfl⟩
instance ts_55:TS Tryz.prog 55 1:=⟨by kernel_rfl⟩
instance tg_55:TG Tryz.prog 55 false:=⟨by kernel_rfl⟩
instance tb_55:TB Tryz.prog 55 24:=⟨by kernel_rfl⟩
instance te_55:TE Tryz.prog 55 (35,3):=⟨by kernel_rfl⟩
instance tz_57:TZ Tryz.prog 57 [Value.slice none 0 0,Value.slice none 0 0]:=⟨by kernel_rfl⟩
instance ts_57:TS Tryz.prog 57 2:=⟨by kernel_rfl⟩
instance tg_57:TG Tryz.prog 57 true:=⟨by kernel_rfl⟩
instance tb_57:TB Tryz.prog 57 48:=⟨by kernel_rfl⟩
instance tp_57:TP Tryz.prog 57 [(0,1),(1,1)]:=⟨by kernel_rfl⟩
instance tf_57_0:TF Tryz.prog 57 0 (0,1):=⟨by kernel_rfl⟩
instance tga_57_0:TA Tryz.prog 57 0 false:=⟨by kernel_rfl⟩
instance tf_57_1:TF Tryz.prog 57 1 (1,1):=⟨by kernel_rfl⟩
instance tga_57_1:TA Tryz.prog 57 1 false:=⟨by kernel_rfl⟩
instance tz_65:TZ Tryz.prog 65 [Value.slice none 0 0]:=⟨by kernel_rfl⟩
instance ts_65:TS Tryz.prog 65 1:=⟨by kernel_rfl⟩
instance tg_65:TG Tryz.prog 65 false:=⟨by kernel_rfl⟩
instance tb_65:TB Tryz.prog 65 24:=⟨by kernel_rfl⟩
instance te_65:TE Tryz.prog 65 (42,4):=⟨by kernel_rfl⟩
instance tz_66:TZ Tryz.prog 66 [Value.slice none 0 0]:=⟨by kernel_rfl⟩
instance ts_66:TS Tryz.prog 66 1:=⟨by kernel_rfl⟩
instance tg_66:TG Tryz.prog 66 false:=⟨by kernel_rfl⟩
instance tb_66:TB Tryz.prog 66 24:=⟨by kernel_rfl⟩
instance te_66:TE Tryz.prog 66 (42,4):=⟨by kernel_rfl⟩
instance ts_75:TS Tryz.prog 75 19:=⟨by kernel_rfl⟩
instance tg_75:TG Tryz.prog 75 true:=⟨by kernel_rfl⟩
instance tb_75:TB Tryz.prog 75 160:=⟨by kernel_rfl⟩
instance tp_75:TP Tryz.prog 75 [(0,1),(1,6),(7,1),(8,1),(9,1),(10,1),(11,1),(12,1),(13,3),(16,3)]:=⟨by kernel_rfl⟩
instance tf_75_0:TF Tryz.prog 75 0 (0,1):=⟨by kernel_rfl⟩
instance tga_75_0:TA Tryz.prog 75 0 false:=⟨by kernel_rfl⟩
instance tf_75_1:TF Tryz.prog 75 1 (1,6):=⟨by kernel_rfl⟩
instance tga_75_1:TA Tryz.prog 75 1 true:=⟨by kernel_rfl⟩
instance tf_75_2:TF Tryz.prog 75 2 (7,1):=⟨by kernel_rfl⟩
instance tga_75_2:TA Tryz.prog 75 2 false:=⟨by kernel_rfl⟩
instance tf_75_3:TF Tryz.prog 75 3 (8,1):=⟨by kernel_rfl⟩
instance tga_75_3:TA Tryz.prog 75 3 false:=⟨by kernel_rfl⟩
instance tf_75_4:TF Tryz.prog 75 4 (9,1):=⟨by kernel_rfl⟩
instance tga_75_4:TA Tryz.prog 75 4 false:=⟨by kernel_rfl⟩
instance tf_75_5:TF Tryz.prog 75 5 (10,1):=⟨by kernel_rfl⟩
instance tga_75_5:TA Tryz.prog 75 5 false:=⟨by kernel_rfl⟩
instance tf_75_6:TF Tryz.prog 75 6 (11,1):=⟨by kernel_rfl⟩
instance tga_75_6:TA Tryz.prog 75 6 false:=⟨by kernel_rfl⟩
instance tf_75_7:TF Tryz.prog 75 7 (12,1):=⟨by kernel_rfl⟩
instance tga_75_7:TA Tryz.prog 75 7 false:=⟨by kernel_rfl⟩
instance tf_75_8:TF Tryz.prog 75 8 (13,3):=⟨by kernel_rfl⟩
instance tga_75_8:TA Tryz.prog 75 8 true:=⟨by kernel_rfl⟩
instance tf_75_9:TF Tryz.prog 75 9 (16,3):=⟨by kernel_rfl⟩
instance tga_75_9:TA Tryz.prog 75 9 true:=⟨by kernel_rfl⟩
instance tz_77:TZ Tryz.prog 77 [Value.slice none 0 0,Value.bool false,Value.bool false,Value.int IntKind.i64 0,Value.slice none 0 0,Value.int IntKind.i64 0,Value.slice none 0 0,Value.int IntKind.i64 0,Value.slice none 0 0,Value.int IntKind.i64 0,Value.slice none 0 0]:=⟨by kernel_rfl⟩
instance ts_77:TS Tryz.prog 77 11:=⟨by kernel_rfl⟩
instance tg_77:TG Tryz.prog 77 true:=⟨by kernel_rfl⟩
instance tb_77:TB Tryz.prog 77 160:=⟨by kernel_rfl⟩
instance tp_77:TP Tryz.prog 77 [(0,1),(1,1),(2,1),(3,4),(7,4)]:=⟨by kernel_rfl⟩
instance tf_77_0:TF Tryz.prog 77 0 (0,1):=⟨by kernel_rfl⟩
instance tga_77_0:TA Tryz.prog 77 0 false:=⟨by kernel_rfl⟩
instance tf_77_1:TF Tryz.prog 77 1 (1,1):=⟨by kernel_rfl⟩
instance tga_77_1:TA Tryz.prog 77 1 false:=⟨by kernel_rfl⟩
instance tf_77_2:TF Tryz.prog 77 2 (2,1):=⟨by kernel_rfl⟩
instance tga_77_2:TA Tryz.prog 77 2 false:=⟨by kernel_rfl⟩
instance tf_77_3:TF Tryz.prog 77 3 (3,4):=⟨by kernel_rfl⟩
instance tga_77_3:TA Tryz.prog 77 3 true:=⟨by kernel_rfl⟩
instance tf_77_4:TF Tryz.prog 77 4 (7,4):=⟨by kernel_rfl⟩
instance tga_77_4:TA Tryz.prog 77 4 true:=⟨by kernel_rfl⟩
instance tz_139:TZ Tryz.prog 139 [Value.nilFunc]:=⟨by kernel_rfl⟩
instance ts_139:TS Tryz.prog 139 1:=⟨by kernel_rfl⟩
instance tg_139:TG Tryz.prog 139 false:=⟨by kernel_rfl⟩
instance tb_139:TB Tryz.prog 139 8:=⟨by kernel_rfl⟩
instance tz_150:TZ Tryz.prog 150 [Value.slice none 0 0,Value.bool false,Value.bool false,Value.slice none 0 0,Value.bool false,Value.slice none 0 0,Value.slice none 0 0,Value.bool false,Value.slice none 0 0,Value.slice none 0 0,Value.slice none 0 0,Value.slice none 0 0,Value.bool false,Value.slice none 0 0,Value.slice none 0 0,Value.slice none 0 0]:=⟨by kernel_rfl⟩
instance ts_150:TS Tryz.prog 150 16:=⟨by kernel_rfl⟩
instance tg_150:TG Tryz.prog 150 true:=⟨by kernel_rfl⟩
instance tb_150:TB Tryz.prog 150 296:=⟨by kernel_rfl⟩
instance tp_150:TP Tryz.prog 150 [(0,9),(9,1),(10,1),(11,3),(14,1),(15,1)]:=⟨by kernel_rfl⟩
instance tf_150_0:TF Tryz.prog 150 0 (0,9):=⟨by kernel_rfl⟩
instance tga_150_0:TA Tryz.prog 150 0 true:=⟨by kernel_rfl⟩
instance tf_150_1:TF Tryz.prog 150 1 (9,1):=⟨by kernel_rfl⟩
instance tga_150_1:TA Tryz.prog 150 1 false:=⟨by kernel_rfl⟩
instance tf_150_2:TF Tryz.prog 150 2 (10,1):=⟨by kernel_rfl⟩
instance tga_150_2:TA Tryz.prog 150 2 false:=⟨by kernel_rfl⟩
instance tf_150_3:TF Tryz.prog 150 3 (11,3):=⟨by kernel_rfl⟩
instance tga_150_3:TA Tryz.prog 150 3 true:=⟨by kernel_rfl⟩
instance tf_150_4:TF Tryz.prog 150 4 (14,1):=⟨by kernel_rfl⟩
instance tga_150_4:TA Tryz.prog 150 4 false:=⟨by kernel_rfl⟩
instance tf_150_5:TF Tryz.prog 150 5 (15,1):=⟨by kernel_rfl⟩
instance tga_150_5:TA Tryz.prog 150 5 false:=⟨by kernel_rfl⟩
instance tz_151:TZ Tryz.prog 151 [Value.nilFunc]:=⟨by kernel_rfl⟩
instance ts_151:TS Tryz.prog 151 1:=⟨by kernel_rfl⟩
instance tg_151:TG Tryz.prog 151 false:=⟨by kernel_rfl⟩
instance tb_151:TB Tryz.prog 151 8:=⟨by kernel_rfl⟩
instance tz_157:TZ Tryz.prog 157 [Value.nilFunc]:=⟨by kernel_rfl⟩
instance ts_157:TS Tryz.prog 157 1:=⟨by kernel_rfl⟩
instance tg_157:TG Tryz.prog 157 false:=⟨by kernel_rfl⟩
instance tb_157:TB Tryz.prog 157 8:=⟨by kernel_rfl⟩
instance tz_183:TZ Tryz.prog 183 [Value.slice none 0 0]:=⟨by kernel_rfl⟩
instance ts_183:TS Tryz.prog 183 1:=⟨by kernel_rfl⟩
instance tg_183:TG Tryz.prog 183 false:=⟨by kernel_rfl⟩
instance tb_183:TB Tryz.prog 183 24:=⟨by kernel_rfl⟩
instance te_183:TE Tryz.prog 183 (65,1):=⟨by kernel_rfl⟩
instance tz_199:TZ Tryz.prog 199 [Value.pointer none]:=⟨by kernel_rfl⟩
instance ts_199:TS Tryz.prog 199 1:=⟨by kernel_rfl⟩
instance tg_199:TG Tryz.prog 199 false:=⟨by kernel_rfl⟩
instance tb_199:TB Tryz.prog 199 8:=⟨by kernel_rfl⟩
instance tz_220:TZ Tryz.prog 220 [Value.pointer none]:=⟨by kernel_rfl⟩
instance ts_220:TS Tryz.prog 220 1:=⟨by kernel_rfl⟩
instance tg_220:TG Tryz.prog 220 false:=⟨by kernel_rfl⟩
instance tb_220:TB Tryz.prog 220 8:=⟨by kernel_rfl⟩
instance tz_221:TZ Tryz.prog 221 [Value.slice none 0 0]:=⟨by kernel_rfl⟩
instance ts_221:TS Tryz.prog 221 1:=⟨by kernel_rfl⟩
instance tg_221:TG Tryz.prog 221 false:=⟨by kernel_rfl⟩
instance tb_221:TB Tryz.prog 221 24:=⟨by kernel_rfl⟩
instance te_221:TE Tryz.prog 221 (5,1):=⟨by kernel_rfl⟩
instance tz_223:TZ Tryz.prog 223 [Value.pointer none,Value.slice none 0 0]:=⟨by kernel_rfl⟩
instance ts_223:TS Tryz.prog 223 2:=⟨by kernel_rfl⟩
instance tg_223:TG Tryz.prog 223 true:=⟨by kernel_rfl⟩
instance tb_223:TB Tryz.prog 223 32:=⟨by kernel_rfl⟩
instance tp_223:TP Tryz.prog 223 [(0,1),(1,1)]:=⟨by kernel_rfl⟩
instance tf_223_0:TF Tryz.prog 223 0 (0,1):=⟨by kernel_rfl⟩
instance tga_223_0:TA Tryz.prog 223 0 false:=⟨by kernel_rfl⟩
instance tf_223_1:TF Tryz.prog 223 1 (1,1):=⟨by kernel_rfl⟩
instance tga_223_1:TA Tryz.prog 223 1 false:=⟨by kernel_rfl⟩
instance tz_230:TZ Tryz.prog 230 [Value.nilFunc]:=⟨by kernel_rfl⟩
instance ts_230:TS Tryz.prog 230 1:=⟨by kernel_rfl⟩
instance tg_230:TG Tryz.prog 230 false:=⟨by kernel_rfl⟩
instance tb_230:TB Tryz.prog 230 8:=⟨by kernel_rfl⟩
instance tz_235:TZ Tryz.prog 235 [Value.int IntKind.u64 0]:=⟨by kernel_rfl⟩
instance ts_235:TS Tryz.prog 235 1:=⟨by kernel_rfl⟩
instance tg_235:TG Tryz.prog 235 false:=⟨by kernel_rfl⟩
instance tb_235:TB Tryz.prog 235 8:=⟨by kernel_rfl⟩
instance tu_235:TU Tryz.prog 235 (.int .u64):=⟨by kernel_rfl⟩
instance tz_236:TZ Tryz.prog 236 [Value.int IntKind.u32 0]:=⟨by kernel_rfl⟩
instance ts_236:TS Tryz.prog 236 1:=⟨by kernel_rfl⟩
instance tg_236:TG Tryz.prog 236 false:=⟨by kernel_rfl⟩
instance tb_236:TB Tryz.prog 236 4:=⟨by kernel_rfl⟩
instance tu_236:TU Tryz.prog 236 (.int .u32):=⟨by kernel_rfl⟩
instance tz_261:TZ Tryz.prog 261 [Value.slice none 0 0]:=⟨by kernel_rfl⟩
instance ts_261:TS Tryz.prog 261 1:=⟨by kernel_rfl⟩
instance tg_261:TG Tryz.prog 261 false:=⟨by kernel_rfl⟩
instance tb_261:TB Tryz.prog 261 24:=⟨by kernel_rfl⟩
instance te_261:TE Tryz.prog 261 (55,1):=⟨by kernel_rfl⟩
instance tz_263:TZ Tryz.prog 263 [Value.slice none 0 0,Value.slice none 0 0,Value.int IntKind.i64 0]:=⟨by kernel_rfl⟩
instance ts_263:TS Tryz.prog 263 3:=⟨by kernel_rfl⟩
instance tg_263:TG Tryz.prog 263 true:=⟨by kernel_rfl⟩
instance tb_263:TB Tryz.prog 263 56:=⟨by kernel_rfl⟩
instance tp_263:TP Tryz.prog 263 [(0,1),(1,1),(2,1)]:=⟨by kernel_rfl⟩
instance tf_263_0:TF Tryz.prog 263 0 (0,1):=⟨by kernel_rfl⟩
instance tga_263_0:TA Tryz.prog 263 0 false:=⟨by kernel_rfl⟩
instance tf_263_1:TF Tryz.prog 263 1 (1,1):=⟨by kernel_rfl⟩
instance tga_263_1:TA Tryz.prog 263 1 false:=⟨by kernel_rfl⟩
instance tf_263_2:TF Tryz.prog 263 2 (2,1):=⟨by kernel_rfl⟩
instance tga_263_2:TA Tryz.prog 263 2 false:=⟨by kernel_rfl⟩
instance tz_266:TZ Tryz.prog 266 [Value.nilFunc]:=⟨by kernel_rfl⟩
instance ts_266:TS Tryz.prog 266 1:=⟨by kernel_rfl⟩
instance tg_266:TG Tryz.prog 266 false:=⟨by kernel_rfl⟩
instance tb_266:TB Tryz.prog 266 8:=⟨by kernel_rfl⟩
instance tz_288:TZ Tryz.prog 288 [Value.pointer none]:=⟨by kernel_rfl⟩
instance ts_288:TS Tryz.prog 288 1:=⟨by kernel_rfl⟩
instance tg_288:TG Tryz.prog 288 false:=⟨by kernel_rfl⟩
instance tb_288:TB Tryz.prog 288 8:=⟨by kernel_rfl⟩
instance tz_293:TZ Tryz.prog 293 [Value.nilFunc]:=⟨by kernel_rfl⟩
instance ts_293:TS Tryz.prog 293 1:=⟨by kernel_rfl⟩
instance tg_293:TG Tryz.prog 293 false:=⟨by kernel_rfl⟩
instance tb_293:TB Tryz.prog 293 8:=⟨by kernel_rfl⟩
instance tz_318:TZ Tryz.prog 318 [Value.int IntKind.u64 0]:=⟨by kernel_rfl⟩
instance ts_318:TS Tryz.prog 318 1:=⟨by kernel_rfl⟩
instance tg_318:TG Tryz.prog 318 false:=⟨by kernel_rfl⟩
instance tb_318:TB Tryz.prog 318 8:=⟨by kernel_rfl⟩
instance tu_318:TU Tryz.prog 318 (.int .u64):=⟨by kernel_rfl⟩
instance tz_323:TZ Tryz.prog 323 [Value.pointer none]:=⟨by kernel_rfl⟩
instance ts_323:TS Tryz.prog 323 1:=⟨by kernel_rfl⟩
instance tg_323:TG Tryz.prog 323 false:=⟨by kernel_rfl⟩
instance tb_323:TB Tryz.prog 323 8:=⟨by kernel_rfl⟩
instance ts_337:TS Tryz.prog 337 24:=⟨by kernel_rfl⟩
instance tg_337:TG Tryz.prog 337 true:=⟨by kernel_rfl⟩
instance tb_337:TB Tryz.prog 337 24:=⟨by kernel_rfl⟩
instance ts_351:TS Tryz.prog 351 20:=⟨by kernel_rfl⟩
instance tg_351:TG Tryz.prog 351 true:=⟨by kernel_rfl⟩
instance tb_351:TB Tryz.prog 351 160:=⟨by kernel_rfl⟩
instance ts_352:TS Tryz.prog 352 65:=⟨by kernel_rfl⟩
instance tg_352:TG Tryz.prog 352 true:=⟨by kernel_rfl⟩
instance tb_352:TB Tryz.prog 352 65:=⟨by kernel_rfl⟩
instance ts_356:TS Tryz.prog 356 32:=⟨by kernel_rfl⟩
instance tg_356:TG Tryz.prog 356 true:=⟨by kernel_rfl⟩
instance tb_356:TB Tryz.prog 356 32:=⟨by kernel_rfl⟩
instance ts_357:TS Tryz.prog 357 64:=⟨by kernel_rfl⟩
instance tg_357:TG Tryz.prog 357 true:=⟨by kernel_rfl⟩
instance tb_357:TB Tryz.prog 357 64:=⟨by kernel_rfl⟩
theorem rk_(l:List Nat):FSpec Tryz.prog 169 [.agg [.arr (dE l)]] (bln (l.length==0)):=by
 refine f_n Tryz.func169 ?_ ?_
 exact aa_ (aq_ (aa_ (by_ l) ab_)) ab_
 refine r_z 2 ?_
 refine r_z 5 ?_
 refine aj_ (aR_ rfl ?_ (ad_ _))
 simp only[bln,gF_]
 congr 2
 rw[Bool.eq_iff_iff];simp
theorem dJ_(l:List Nat)(hl:l.length≤281474976710656):FSpec Tryz.prog 182 [.arr (dE l)] (.agg [.arr (dE (trimD l))]):=by
 refine f_n Tryz.func182 ?_ ?_
 exact aa_ (by_ l) ab_
 refine r_z 1 ?_
 refine r_z 3 ?_
 refine aU_ (fun k:Nat=>⟨[(0,.arr (dE l)),(2,.lptr 1 0 0),(3,i64 k)],[(1,some ⟨31,1,[[.emp]]⟩)],2,23⟩) (fun k=>k≤l.length∧trimD l=l.take k) ?_ ?_
 refine ag_ (ax_ (fun k:Nat=>⟨[(0,.arr (dE l)),(2,.lptr 1 0 0),(3,i64 k)],[(1,some ⟨31,1,[[.emp]]⟩)],2,23⟩) (fun k=>k) (fun k=>k≤l.length∧∀i,k≤i→i< l.length→l[i]?=some 0) l.length ⟨Nat.le_refl _,fun i h1 h2=>by omega⟩ ?_ ?_)
 exact s_e []
 rintro k ⟨hk,hz⟩
 have fin:k=0∨l[k- 1]?≠some 0→trimD l=l.take k:=fu_ l k hk hz
 by_cases h0:k=0
 subst h0
 refine ac_ (s_r 10 ?_)
 refine a_3 ?_
 refine n_g rfl d_f ?_
 refine n_g rfl d_f ?_
 refine n_g rfl d_f ?_
 refine n_g rfl d_f ?_
 refine n_g rfl d_f ?_
 refine n_g rfl d_f ?_
 refine o_0 (.pickF rfl d_f rfl) ?_
 refine an_ ?_
 refine am_ rfl (fun h=>?_) (fun _=>?_)
 cases h
 refine av_ ⟨0,⟨hk,fin (.inl rfl)⟩,?_⟩
 exact s_e []
 have hk1:k- 1< l.length:=by omega
 obtain⟨d,hd⟩:∃d,l[k- 1]?=some d:=⟨_,List.getElem?_eq_getElem hk1⟩
 have hd':(dE l)[((k:Int)- 1).toNat]?=some [u32 d]:=by rw[show((k:Int)- 1).toNat=k- 1 by omega];exact ck_ hd
 refine ac_ (s_r 10 ?_)
 refine a_3 ?_
 refine y_g rfl d_t (.move rfl) ?_
 refine y_g rfl d_t (.move rfl) ?_
 refine y_g rfl d_t (.bin rfl rfl (gP_ (by omega))) ?_
 first|refine y_g rfl d_t (.index_l rfl rfl (by omega) (by omega) te_29.h) ?_|refine y_g rfl d_t (.index_a rfl rfl (by omega) hd' rfl te_29.h) ?_
 first|refine y_g rfl d_t (.load_l1 rfl rfl hd' tg_236.h rfl) ?_|refine y_g rfl d_t (.load_a1 rfl hd' tg_236.h rfl) ?_
 refine y_g rfl d_t (.bin rfl rfl a9_) ?_
 refine o_0 (.pickT rfl d_t rfl) ?_
 refine an_ ?_
 refine am_ rfl (fun h=>?_) (fun h=>?_)
 refine ah_ ?_
 have hd0:d=0:=by simpa using h
 subst hd0
 refine ag_ (r_m 3 ?_)
 refine a_z ?_
 refine⟨k- 1,by omega,⟨by omega,fun i h1 h2=>?_⟩,?_⟩
 by_cases hi:i=k- 1
 rw[hi];exact hd
 exact hz i (by omega) h2
 exact s_e []
 refine av_ ⟨k,⟨hk,fin (.inr ?_)⟩,?_⟩
 rw[hd];simp at h⊢;omega
 exact s_e []
 rintro k ⟨hk,ht⟩
 refine s_r 6 ?_
 refine a_3 ?_
 refine o_0 (.sa_hm rfl rfl rfl rfl rfl ⟨Nat.le_refl _,by simpa using hk⟩ te_29.h (nB_ l)) ?_
 refine a_z ?_
 refine aj_ (bY_ rfl rfl rfl tg_31.h ts_31.h (nle rfl) ?_ (aq_ (aa_ (by_ _) ab_)))
 rw[ht,←r8_]
 rfl
theorem jZ_(z:Int):FSpec Tryz.prog 247 [i64 z] (bln false):=by
 refine f_n Tryz.func247 ?_ ?_
 exact aa_ (ad_ _) ab_
 refine r_z 1 ?_
 refine r_z 4 ?_
 refine aj_ (aR_ rfl ?_ (ad_ _))
 simp[bln]
theorem jY_(z:Nat):FSpec Tryz.prog 248 [u32 z] (bln false):=by
 refine f_n Tryz.func248 ?_ ?_
 exact aa_ (ad_ _) ab_
 refine r_z 1 ?_
 refine r_z 4 ?_
 refine aj_ (aR_ rfl ?_ (ad_ _))
 simp[bln]
theorem mc_(a b:Int):FSpec Tryz.prog 190 [i64 a,i64 b] (i64 (cmpZ a b)):=by
 refine f_n Tryz.func190 ?_ ?_
 exact aa_ (ad_ _) (aa_ (ad_ _) ab_)
 refine r_z 1 ?_
 refine r_c 3 (jZ_ a) ?_
 refine a_z ?_
 refine r_c 3 (jZ_ b) ?_
 refine a_z ?_
 refine ac_ (r_z 1 ?_)
 refine am_ rfl (fun h=>?_) (fun _=>ah_ ?_)
 cases h
 refine ac_ (r_z 1 ?_)
 refine am_ rfl (fun h=>?_) (fun _=>ah_ ?_)
 cases h
 refine ac_ (r_z 3 ?_)
 refine am_ rfl (fun h=>?_) (fun h=>ah_ ?_)
 refine r_z 1 ?_
 refine aj_ (aR_ rfl ?_ (ad_ _))
 simp at h;simp[i64,ofV,cmpZ,h]
 refine ac_ (r_z 3 ?_)
 refine am_ rfl (fun h'=>?_) (fun h'=>ah_ ?_)
 refine r_z 1 ?_
 refine aj_ (aR_ rfl ?_ (ad_ _))
 simp at h h';simp[i64,ofV,cmpZ];omega
 refine r_z 1 ?_
 refine aj_ (aR_ rfl ?_ (ad_ _))
 simp at h h';simp[i64,ofV,cmpZ];omega
theorem mb_(a b:Nat):FSpec Tryz.prog 191 [u32 a,u32 b] (i64 (cmpZ a b)):=by
 refine f_n Tryz.func191 ?_ ?_
 exact aa_ (ad_ _) (aa_ (ad_ _) ab_)
 refine r_z 1 ?_
 refine r_c 3 (jY_ a) ?_
 refine a_z ?_
 refine r_c 3 (jY_ b) ?_
 refine a_z ?_
 refine ac_ (r_z 1 ?_)
 refine am_ rfl (fun h=>?_) (fun _=>ah_ ?_)
 cases h
 refine ac_ (r_z 1 ?_)
 refine am_ rfl (fun h=>?_) (fun _=>ah_ ?_)
 cases h
 refine ac_ (r_z 3 ?_)
 refine am_ rfl (fun h=>?_) (fun h=>ah_ ?_)
 refine r_z 1 ?_
 refine aj_ (aR_ rfl ?_ (ad_ _))
 simp at h;simp[i64,ofV,cmpZ,h]
 refine ac_ (r_z 3 ?_)
 refine am_ rfl (fun h'=>?_) (fun h'=>ah_ ?_)
 refine r_z 1 ?_
 refine aj_ (aR_ rfl ?_ (ad_ _))
 simp at h h';simp[i64,ofV,cmpZ];omega
 refine r_z 1 ?_
 refine aj_ (aR_ rfl ?_ (ad_ _))
 simp at h h';simp[i64,ofV,cmpZ];omega
theorem digs_one{n:Nat}:(digs MB n).length=1∧(digs MB n)[0]?=some 1↔n=1:=by
 constructor
 rintro⟨h1,h2⟩
 have:=a7_ (b:=MB) (by decide) n
 match hd:digs MB n,h1,h2 with
 |[d],_,h2=>rw[hd] at this;simp at h2;subst h2;simpa[ofD] using this.symm
 rintro rfl
 rw[cA_ (by decide) (by decide)]
 rw[show 1/ MB=0 by decide,bo_];simp
theorem fs_one(n:Nat):FSpec Tryz.prog 177 [.agg [mag n]] (bln (n==1)):=by
 refine f_n Tryz.func177 ?_ ?_
 exact aa_ (aq_ (aa_ (aQ_ n) ab_)) ab_
 refine r_z 2 ?_
 by_cases h1:(digs MB n).length=1
 obtain⟨d,hd⟩:∃d,(digs MB n)[0]?=some d:=⟨_,List.getElem?_eq_getElem (by omega)⟩
 have hd':(dE (digs MB n))[(0:Int).toNat]?=some [u32 d]:=ck_ hd
 refine s_r 12 ?_
 refine a_5 ?_
 first|refine y_g rfl (by simp;omega) (.fieldAddr_l rfl tf_31_0.h (by decide)) ?_|refine y_g rfl (by simp;omega) (.fieldAddr_a rfl tf_31_0.h (by decide)) ?_
 first|refine y_g rfl (by simp;omega) (.load_l1 rfl rfl rfl tg_29.h rfl) ?_|refine y_g rfl (by simp;omega) (.load_a1 rfl rfl tg_29.h rfl) ?_
 first|refine y_g rfl (by simp;omega) (.index_l rfl rfl (by omega) (by omega) te_29.h) ?_|refine y_g rfl (by simp;omega) (.index_a rfl rfl (by omega) hd' rfl te_29.h) ?_
 first|refine y_g rfl (by simp;omega) (.load_l1 rfl rfl hd' tg_236.h rfl) ?_|refine y_g rfl (by simp;omega) (.load_a1 rfl hd' tg_236.h rfl) ?_
 refine y_g rfl (by simp;omega) (.bin rfl rfl a9_) ?_
 refine o_0 (.pickT rfl (by simp;omega) rfl) ?_
 refine a_z ?_
 refine aj_ (aR_ rfl ?_ (ad_ _))
 simp only[bln]
 congr 2
 rw[Bool.eq_iff_iff]
 have:=digs_one (n:=n)
 simp only[h1,hd,true_and,Option.some.injEq] at this
 simp only[beq_iff_eq,←this]
 omega
 refine s_r 12 ?_
 refine a_5 ?_
 refine n_g rfl (by simp;omega) ?_
 refine n_g rfl (by simp;omega) ?_
 refine n_g rfl (by simp;omega) ?_
 refine n_g rfl (by simp;omega) ?_
 refine n_g rfl (by simp;omega) ?_
 refine o_0 (.pickF rfl (by simp;omega) rfl) ?_
 refine a_z ?_
 refine aj_ (aR_ rfl ?_ (ad_ _))
 simp only[bln,ofV]
 congr 2
 symm
 rw[beq_eq_false_iff_ne]
 intro h
 exact h1 (digs_one.2 h).1
def nO_(n:Nat):Nat→AState
 |0=>⟨[(0,u64 n),(2,.lptr 1 0 0),(3,.emp)],[(1,some ⟨31,1,[[.emp]]⟩)],2,16⟩
 |k+1=>⟨[(0,u64 (restD n (k+1))),(2,.lptr 1 0 0),(3,.lsl 2 0 (k+1) none 1)],[(1,some ⟨31,1,[[.emp]]⟩),(2,some ⟨236,1,dE (preD n (k+1))⟩)],3,16⟩
theorem d9_(n:Nat)(h:n< 18446744073709551616):FSpec Tryz.prog 180 [u64 n] (.agg [mag n]):=by
 have hlen:(digs MB n).length≤3:=cu_ (by decide) (Nat.lt_of_lt_of_le h (by decide))
 refine f_n Tryz.func180 ?_ ?_
 exact aa_ (ad_ _) ab_
 refine r_z 1 ?_
 refine r_z 1 ?_
 refine aU_ (nO_ n) (fun k=>k=(digs MB n).length) ?_ ?_
 refine ag_ (ax_ (nO_ n) (fun k=>(digs MB n).length- k) (fun k=>k≤(digs MB n).length) 0 (Nat.zero_le _) ?_ ?_)
 rw[nO_.eq_1]
 exact s_e []
 rintro k hk
 have hle:=restD_le hk
 have hz:=restD_eq hk
 have hpl:=fY_ hk
 cases k with
 |zero=>
  rw[jJ_] at hz
  refine ac_ (r_z 2 ?_)
  refine am_ rfl (fun h=>?_) (fun h=>?_)
  refine ah_ ?_
  have h0:0< n:=by simpa using h
  have hl1:0< (digs MB n).length:=by omega
  obtain⟨hq,ht⟩:=jK_ hl1
  rw[jJ_] at hq ht
  refine ac_ (ag_ (r_m 7 ?_))
  refine a_z ?_
  refine r_m 3 ?_
  refine a_z ?_
  refine⟨1,by omega,hl1,?_⟩
  rw[nO_.eq_2]
  refine ar_ [(2,3)] rfl rfl rfl ?_ (fun hs=>?_) (fun hs=>?_)
  ·repeat' (first|exact ShrL.nil|refine ShrL.cons rfl rfl rfl rfl (by first|rfl|(simp;done)|(simp[hq,ht,dR_]<;> omega)) ?_)
  ·repeat' (first|exact aA_|refine au_ rfl ?_ ?_)
   all_goals (first|exact au_c|(refine Cv.loE hs ?_ (ad_ _);first|rfl|(simp[i64,u64,u32,bln,hq,ht,dR_];done)|(simp[i64,u64,u32,bln,hq,ht,dR_]<;> omega)))
  ·repeat' (first|exact ap_|refine al_ rfl rfl rfl rfl ?_ ?_)
   all_goals (first|exact au_e|(refine aD_ hs ?_ (a3_ _);first|(simp[ed_,fk_,du_,hq,ht,dR_];done)|(simp[dE,u32,ofV,hq,ht,dR_];done))|(refine ae_ ?_;repeat' (first|exact ao_|refine af_ ?_ ?_)))
   all_goals (first|exact au_c|(refine Cv.loE hs ?_ (ad_ _);first|(simp[i64,u64,u32,bln,hq,ht,dR_];done)|(simp[i64,u64,u32,bln,hq,ht,dR_]<;> omega)))
  refine av_ ⟨0,?_,?_⟩
  have:¬0< n:=by simpa using h
  omega
  rw[nO_.eq_1]
  exact s_e []
 |succ k=>
  rw[nO_.eq_2]
  refine ac_ (r_z 2 ?_)
  refine am_ rfl (fun h=>?_) (fun h=>?_)
  refine ah_ ?_
  have h0:0< restD n (k+1):=by simpa using h
  have hl1:k+1< (digs MB n).length:=by omega
  obtain⟨hq,ht⟩:=jK_ hl1
  refine ac_ (ag_ (r_m 7 ?_))
  refine a_z ?_
  refine r_m 3 ?_
  refine a_z ?_
  refine⟨k+1+1,by omega,hl1,?_⟩
  rw[nO_.eq_2]
  refine ar_ [(2,3)] rfl rfl rfl ?_ (fun hs=>?_) (fun hs=>?_)
  ·repeat' (first|exact ShrL.nil|refine ShrL.cons rfl rfl rfl rfl (by first|rfl|(simp;done)|(simp[hq,ht,hpl]<;> omega)) ?_)
  ·repeat' (first|exact aA_|refine au_ rfl ?_ ?_)
   all_goals (first|exact au_c|(refine Cv.loE hs ?_ (ad_ _);first|rfl|(simp[i64,u64,u32,bln,hq,ht,hpl];done)|(simp[i64,u64,u32,bln,hq,ht,hpl]<;> omega)))
  ·repeat' (first|exact ap_|refine al_ rfl rfl rfl rfl ?_ ?_)
   all_goals (first|exact au_e|(refine aD_ hs ?_ (a3_ _);first|(simp[ed_,fk_,du_,hq,ht,hpl];done)|(simp[dE,u32,ofV,hq,ht,hpl];done))|(refine ae_ ?_;repeat' (first|exact ao_|refine af_ ?_ ?_)))
   all_goals (first|exact au_c|(refine Cv.loE hs ?_ (ad_ _);first|(simp[i64,u64,u32,bln,hq,ht,hpl];done)|(simp[i64,u64,u32,bln,hq,ht,hpl]<;> omega)))
  refine av_ ⟨k+1,?_,?_⟩
  have:¬0< restD n (k+1):=by simpa using h
  omega
  rw[nO_.eq_2]
  exact s_e []
 rintro k rfl
 cases hk:(digs MB n).length with
 |zero=>
  rw[nO_.eq_1]
  refine r_z 3 ?_
  refine aj_ (Fin.cell rfl rfl rfl tg_31.h ts_31.h (nle rfl) (Cv.agg (af_ (Cv.emp _ ?_) ao_)))
  unfold mag
  rw[List.length_eq_zero_iff] at hk
  rw[hk];rfl
 |succ k=>
  rw[nO_.eq_2]
  refine r_z 3 ?_
  refine aj_ (Fin.cell rfl rfl rfl tg_31.h ts_31.h (nle rfl) (Cv.agg (af_ (Cv.shut as_ rfl (fun _ _ h=>by cases h) ?_ ?_) ao_)))
  simp[fY_ (Nat.le_of_eq hk.symm)]
  refine aD_ as_ ?_ (a3_ _)
  have h1:(preD n (k+1)).length=k+1:=fY_ (Nat.le_of_eq hk.symm)
  have h2:=preD_end n
  rw[hk] at h2
  simp only[List.drop_zero,r8_]
  rw[List.take_of_length_le (Nat.le_of_eq h1),h2]
def plusS(p:Nat)(q:Nat):List Nat×Nat→AState
 |(s,c)=>⟨[(26,i64 s.length),(25,i64 (digs MB p).length),(24,mag p),(2,.lptr 1 0 0),(3,.lptr 2 0 0),(4,.lptr 3 0 0),(5,.lsl 4 0 ((digs MB p).length+1) (some ((digs MB p).length+1)) 1),(6,u32 c)],
  [(1,some ⟨31,1,[[mag p]]⟩),(2,some ⟨31,1,[[mag q]]⟩),(3,some ⟨31,1,[[.emp]]⟩),(4,some ⟨236,1,dE (s++List.replicate ((digs MB p).length+1- s.length) 0)⟩)],5,63⟩
structure PlusI (p q:Nat)(a:List Nat×Nat):Prop where
 le:a.1.length≤(digs MB p).length
 dig:∀d∈a.1,d< MB
 car:a.2≤1
 val:ofD MB a.1+MB^ a.1.length* a.2=ofD MB ((digs MB p).take a.1.length)+ofD MB ((digs MB q).take a.1.length)
theorem nb_(a b:Nat)(h:bl a+bl b≤17592186044416):FSpec Tryz.prog 181 [.agg [mag a],.agg [mag b]] (.agg [mag (a+b)]):=by
 have hla:=a6_ (b:=MB) (by decide) a
 have hlb:=a6_ (b:=MB) (by decide) b
 refine f_n Tryz.func181 ?_ ?_
 exact aa_ (aq_ (aa_ (aQ_ a) ab_)) (aa_ (aq_ (aa_ (aQ_ b) ab_)) ab_)
 refine r_z 3 ?_
 refine ac_ (r_z 7 ?_)
 refine aB_ (fun x:Nat×Nat=>⟨[(2,.lptr 1 0 0),(3,.lptr 2 0 0),(4,.lptr 3 0 0)],[(1,some ⟨31,1,[[mag x.1]]⟩),(2,some ⟨31,1,[[mag x.2]]⟩),(3,some ⟨31,1,[[.emp]]⟩)],4,63⟩)
  (fun x=>x.1+x.2=a+b∧(digs MB x.2).length≤(digs MB x.1).length∧(digs MB x.1).length≤17592186044416) ?_ ?_
 refine am_ rfl (fun h=>?_) (fun h=>?_)
 refine r_m 4 ?_
 refine a_z ?_
 refine⟨(b,a),⟨by simp;omega,?_,by simp;omega⟩,?_⟩
 simp at h;simp;omega
 exact s_e []
 refine ah_ ⟨(a,b),⟨rfl,?_,by simp;omega⟩,?_⟩
 simp at h;simpa using h
 exact s_e []
 rintro⟨p,q⟩ ⟨hpq,hqp,hp⟩
 simp only at hpq hqp hp⊢
 refine r_z 6 ?_
 refine r_z 1 ?_
 refine ac_ (r_z 4 ?_)
 refine aB_ (plusS p q) (fun x=>PlusI p q x∧x.1.length=(digs MB p).length) ?_ ?_
 refine ag_ (ax_ (plusS p q) (fun x=>(digs MB p).length- x.1.length) (PlusI p q) ([],0) ⟨by simp,by simp,by simp,by simp[ofD]⟩ ?_ ?_)
 rw[plusS.eq_1]
 exact s_e [(4,5)]
 rintro⟨s,c⟩ ⟨hle,hdig,hcar,hval⟩
 simp only at hle hdig hcar hval
 rw[plusS.eq_1]
 refine r_z 1 ?_
 refine ac_ (am_ rfl (fun h=>?_) (fun h=>?_))
 refine ah_ ?_
 have hlt:s.length< (digs MB p).length:=by simpa using h
 obtain⟨x,hx⟩:∃x,(digs MB p)[s.length]?=some x:=⟨_,List.getElem?_eq_getElem hlt⟩
 have hx1:x< 1000000000:=bq_ (by decide) hx
 have hx':(dE (digs MB p))[((s.length:Nat):Int).toNat]?=some [u32 x]:=ck_ hx
 refine ac_ (ag_ (s_r 5 ?_))
 refine a_1 ?_
 refine i_x hx' ?_
 refine l_1 hx' ?_
 refine a_z ?_
 refine r_z 4 ?_
 refine ac_ (r_z 5 ?_)
 have hq0:∀y,((digs MB q)[s.length]?.getD 0=y)→y< 1000000000:=by
  rintro y rfl
  cases hy:(digs MB q)[s.length]? with
  |none=>decide
  |some y=>exact bq_ (by decide) hy
 refine aB_ (fun v:Nat=>⟨[(26,i64 s.length),(25,i64 (digs MB p).length),(24,mag p),(2,.lptr 1 0 0),(3,.lptr 2 0 0),(4,.lptr 3 0 0),(5,.lsl 4 0 ((digs MB p).length+1) (some ((digs MB p).length+1)) 1),(7,i64 s.length),(8,u32 v)],
  [(1,some ⟨31,1,[[mag p]]⟩),(2,some ⟨31,1,[[mag q]]⟩),(3,some ⟨31,1,[[.emp]]⟩),(4,some ⟨236,1,dE (s++List.replicate ((digs MB p).length+1- s.length) 0)⟩)],5,63⟩)
  (fun v=>v=x+c+(digs MB q)[s.length]?.getD 0) ?_ ?_
 refine am_ rfl (fun h=>?_) (fun h=>?_)
 have hlt2:s.length< (digs MB q).length:=by simpa using h
 obtain⟨y,hy⟩:∃y,(digs MB q)[s.length]?=some y:=⟨_,List.getElem?_eq_getElem hlt2⟩
 have hy1:y< 1000000000:=bq_ (by decide) hy
 have hy':(dE (digs MB q))[((s.length:Nat):Int).toNat]?=some [u32 y]:=ck_ hy
 refine r_m 8 ?_
 refine a_4 ?_
 refine i_x hy' ?_
 refine l_1 hy' ?_
 refine a_z ?_
 refine⟨x+c+y,by rw[hy];rfl,?_⟩
 exact s_e []
 have hlt2:¬s.length< (digs MB q).length:=by simpa using h
 refine ah_ ⟨x+c,by rw[List.getElem?_eq_none (by omega)];rfl,?_⟩
 exact s_e []
 rintro v hv
 obtain⟨y,hy⟩:∃y,y=(digs MB q)[s.length]?.getD 0:=⟨_,rfl⟩
 have hy1:=hq0 y hy.symm
 rw[←hy] at hv
 refine r_z 1 ?_
 refine ac_ (r_z 2 ?_)
 have hg:(dE (s++List.replicate ((digs MB p).length+1- s.length) 0))[0+((s.length:Nat):Int).toNat]?=some [u32 0]:=by
  rw[Nat.zero_add,Int.toNat_natCast]
  exact ck_ (by rw[show(digs MB p).length+1- s.length=((digs MB p).length- s.length)+1 by omega];exact om_ _ _ _ rfl)
 have hset:∀w:Nat,(dE (s++List.replicate ((digs MB p).length+1- s.length) 0)).set (0+((s.length:Nat):Int).toNat) [u32 w]=dE ((s++[w])++List.replicate ((digs MB p).length+1- (s++[w]).length) 0):=by
  intro w
  rw[Nat.zero_add,Int.toNat_natCast,ed_,show(digs MB p).length+1- s.length=((digs MB p).length- s.length)+1 by omega,nS_ _ _ _ _ rfl,show(digs MB p).length+1- (s++[w]).length=(digs MB p).length- s.length by simp]
 have hnext:∀w c',w+1000000000* c'=x+c+y→w< 1000000000→c'≤1→PlusI p q (s++[w],c'):=by
  intro w c' hw hwb hc'
  refine⟨by simp;omega,?_,hc',?_⟩
  intro d hd
  rcases List.mem_append.1 hd with hd|hd
  exact hdig d hd
  simp at hd;subst hd;exact hwb
  simp only[List.length_append,List.length_singleton]
  rw[dC_,bx_ _ hx,ct_,←hy,Nat.pow_succ]
  have e:MB^ s.length* w+MB^ s.length* MB* c'=MB^ s.length* (w+MB* c'):=by rw[Nat.mul_add,Nat.mul_assoc]
  have e2:MB^ s.length* (x+c+y)=MB^ s.length* x+MB^ s.length* c+MB^ s.length* y:=by rw[Nat.mul_add,Nat.mul_add]
  rw[hw,e2] at e
  omega
 refine am_ rfl (fun h=>?_) (fun h=>?_)
 have hb:1000000000≤v:=by have:=of_decide_eq_true h;omega
 have hv1:((v:Int)- 1000000000)=((v- 1000000000:Nat):Int):=by omega
 refine r_m 4 ?_
 refine a_z ?_
 refine r_m 5 ?_
 refine a_4 ?_
 refine o_1n (.store rfl rfl hg rfl rfl rfl ts_236.h (nle rfl)) ?_
 refine an_ ?_
 refine r_m 2 ?_
 refine a_z ?_
 refine⟨(s++[v- 1000000000],1),by simp;omega,hnext _ _ (by omega) (by omega) (Nat.le_refl _),?_⟩
 rw[plusS.eq_1]
 refine ar_ [] rfl rfl rfl au_r (fun hs=>au_f) (fun hs=>?_)
 ·repeat' (first|exact ap_|refine al_ rfl rfl rfl rfl ?_ ?_)
  all_goals (first|(refine aD_ hs ?_ (a3_ _);rw[hv1];exact hset _)|exact au_e)
 have hb:v< 1000000000:=by have:=of_decide_eq_false h;omega
 refine ah_ (r_m 5 ?_)
 refine a_4 ?_
 refine o_1n (.store rfl rfl hg rfl rfl rfl ts_236.h (nle rfl)) ?_
 refine an_ ?_
 refine r_m 2 ?_
 refine a_z ?_
 refine⟨(s++[v],0),by simp;omega,hnext _ _ (by omega) hb (by omega),?_⟩
 rw[plusS.eq_1]
 refine ar_ [] rfl rfl rfl au_r (fun hs=>au_f) (fun hs=>?_)
 ·repeat' (first|exact ap_|refine al_ rfl rfl rfl rfl ?_ ?_)
  all_goals (first|(refine aD_ hs ?_ (a3_ _);exact hset _)|exact au_e)
 refine av_ ⟨(s,c),⟨⟨hle,hdig,hcar,hval⟩,?_⟩,?_⟩
 simp at h;simp;omega
 rw[plusS.eq_1]
 exact s_e []
 rintro⟨s,c⟩ ⟨⟨hle,hdig,hcar,hval⟩,hlen⟩
 simp only at hle hdig hcar hval hlen
 have hg:(dE (s++List.replicate ((digs MB p).length+1- s.length) 0))[0+(((digs MB p).length:Nat):Int).toNat]?=some [u32 0]:=by
  rw[Nat.zero_add,Int.toNat_natCast,←hlen]
  exact ck_ (by rw[show s.length+1- s.length=0+1 by omega];exact om_ _ _ _ rfl)
 have hset:(dE (s++List.replicate ((digs MB p).length+1- s.length) 0)).set (0+(((digs MB p).length:Nat):Int).toNat) [u32 c]=dE (s++[c]):=by
  rw[Nat.zero_add,Int.toNat_natCast,←hlen,ed_,show s.length+1- s.length=0+1 by omega,nS_ _ _ _ _ rfl];simp
 have hres:trimD (s++[c])=digs MB (a+b):=by
  rw[ew_ (b:=MB) (by decide),dC_,hval,dr_ _ (by omega),dr_ _ (by omega),a7_ (by decide),a7_ (by decide),hpq]
  intro d hd
  rcases List.mem_append.1 hd with hd|hd
  exact hdig d hd
  simp at hd;subst hd;show d< 1000000000;omega
 rw[plusS.eq_1]
 refine s_r 7 ?_
 refine a_6 ?_
 refine o_1n (.store rfl rfl hg rfl rfl rfl ts_236.h (nle rfl)) ?_
 refine an_ ?_
 refine AWp.ent (st':=⟨[(4,.lptr 3 0 0),(5,.arr (dE (s++[c])))],[(3,some ⟨31,1,[[.emp]]⟩)],4,63⟩) ?_ ?_
 refine ar_ [] rfl rfl rfl au_r (fun hs=>?_) (fun hs=>?_)
 ·repeat' (first|exact aA_|refine au_ rfl ?_ ?_)
  all_goals (first|(exact Cv.sealE hs rfl (aM_ rfl) hset (by simp[hlen]) (a3_ _))|exact au_c)
 ·repeat' (first|exact ap_|refine al_ rfl rfl rfl rfl ?_ ?_)
  all_goals (first|exact au_e|(refine ae_ ?_;repeat' (first|exact ao_|refine af_ ?_ ?_)))
  all_goals (first|(exact Cv.sealE hs rfl (aM_ rfl) hset (by simp[hlen]) (a3_ _))|exact au_c)
 refine s_r 3 ?_
 refine o_0 (.move rfl) ?_
 refine o_0 (.call rfl rfl rfl (dJ_ _ (by simp;omega))) ?_
 refine a_z ?_
 refine aj_ (bY_ rfl rfl rfl tg_31.h ts_31.h (nle rfl) ?_ (aq_ (aa_ (aQ_ _) ab_)))
 rw[hres];rfl
def agS(a:Nat)(b:Nat):Nat→AState
 |k=>⟨[(2,.lptr 1 0 0),(3,.lptr 2 0 0),(6,i64 ((k:Int)- 1))],[(1,some ⟨31,1,[[mag a]]⟩),(2,some ⟨31,1,[[mag b]]⟩)],3,40⟩
theorem hp_(a b:Nat)(h:bl a+bl b≤17592186044416):FSpec Tryz.prog 104 [.agg [mag a],.agg [mag b]] (i64 (cmpZ a b)):=by
 have hla:=a6_ (b:=MB) (by decide) a
 have hlb:=a6_ (b:=MB) (by decide) b
 refine f_n Tryz.func104 ?_ ?_
 exact aa_ (aq_ (aa_ (aQ_ a) ab_)) (aa_ (aq_ (aa_ (aQ_ b) ab_)) ab_)
 refine r_z 3 ?_
 refine ac_ (r_c 8 (mc_ _ _) ?_)
 refine a_z ?_
 refine r_z 2 ?_
 refine am_ rfl (fun h=>?_) (fun h=>?_)
 have hne:cmpZ (digs MB a).length (digs MB b).length≠0:=by simpa using h
 refine r_z 2 ?_
 refine aj_ (aR_ rfl ?_ (ad_ _))
 unfold i64
 congr 2
 rw[k0_] at hne
 rcases Nat.lt_or_ge (digs MB a).length (digs MB b).length with hl|hl
 have:=el_ (by decide) hl
 rw[gb_ (by omega),gb_ (by omega)]
 have:=el_ (m:=b) (n:=a) (b:=MB) (by decide) (by omega)
 rw[hs_ (by omega),hs_ (by omega)]
 have heq:(digs MB a).length=(digs MB b).length:=by
  have h0:¬cmpZ (digs MB a).length (digs MB b).length≠0:=by simpa using h
  rw[k0_] at h0;omega
 refine ah_ (ac_ (r_z 5 ?_))
 refine aB_ (agS a b) (fun k=>k=0∧a=b) ?_ ?_
 refine ag_ (ax_ (agS a b) (fun k=>k) (fun k=>k≤(digs MB a).length∧(digs MB a).drop k=(digs MB b).drop k) (digs MB a).length ⟨Nat.le_refl _,by rw[List.drop_length,heq,List.drop_length]⟩ ?_ ?_)
 rw[agS.eq_1]
 exact s_e []
 rintro k ⟨hk,hd⟩
 rw[agS.eq_1]
 refine ac_ (r_z 2 ?_)
 refine am_ rfl (fun h=>?_) (fun h=>?_)
 have hk0:0< k:=by have:=of_decide_eq_true h;omega
 obtain⟨x,hx⟩:∃x,(digs MB a)[k- 1]?=some x:=⟨_,List.getElem?_eq_getElem (by omega)⟩
 obtain⟨y,hy⟩:∃y,(digs MB b)[k- 1]?=some y:=⟨_,List.getElem?_eq_getElem (by omega)⟩
 have hx':(dE (digs MB a))[((k:Int)- 1).toNat]?=some [u32 x]:=by rw[show((k:Int)- 1).toNat=k- 1 by omega];exact ck_ hx
 have hy':(dE (digs MB b))[((k:Int)- 1).toNat]?=some [u32 y]:=by rw[show((k:Int)- 1).toNat=k- 1 by omega];exact ck_ hy
 rw[show k=(k- 1)+1 by omega] at hd
 refine ah_ (ac_ (ag_ (ac_ (r_d hmix 12 ?_))))
 refine a_3 ?_
 refine i_x hx' ?_
 refine l_1 hx' ?_
 refine a_3 ?_
 refine i_x hy' ?_
 refine l_1 hy' ?_
 refine c_s (mb_ x y) ?_
 refine a_1 ?_
 refine an_ (n_k ?_)
 refine r_z 2 ?_
 refine am_ rfl (fun h2=>?_) (fun h2=>?_)
 have hne:cmpZ x y≠0:=by simpa using h2
 refine r_z 2 ?_
 refine aj_ (aR_ rfl ?_ (ad_ _))
 unfold i64
 congr 2
 rw[k0_] at hne
 rcases Nat.lt_or_ge x y with hl|hl
 have:=gq_ (b:=MB) (b0_ (by decide) a) hx hy hd hl
 rw[a7_ (by decide),a7_ (by decide)] at this
 rw[gb_ (by omega),gb_ (by omega)]
 have:=gq_ (b:=MB) (b0_ (by decide) b) hy hx hd.symm (by omega)
 rw[a7_ (by decide),a7_ (by decide)] at this
 rw[hs_ (by omega),hs_ (by omega)]
 have hxy:x=y:=by
  have h0:¬cmpZ x y≠0:=by simpa using h2
  rw[k0_] at h0;omega
 refine ah_ (r_m 3 ?_)
 refine a_z ?_
 refine⟨k- 1,by omega,⟨by omega,?_⟩,?_⟩
 rw[da_ hx,da_ hy,hd,hxy]
 rw[agS.eq_1]
 exact s_e []
 have hk0:k=0:=by have:=of_decide_eq_false h;omega
 subst hk0
 refine av_ ⟨0,⟨rfl,?_⟩,?_⟩
 have:=congrArg (ofD MB) hd
 rwa[List.drop_zero,List.drop_zero,a7_ (by decide),a7_ (by decide)] at this
 rw[agS.eq_1]
 exact s_e []
 rintro k ⟨rfl,hab⟩
 rw[agS.eq_1]
 refine r_z 1 ?_
 refine aj_ (aR_ rfl ?_ (ad_ _))
 subst hab
 rw[se_ rfl];rfl
end Go.Proofs.YtdjfjpeoddmamaaGreatDoor
