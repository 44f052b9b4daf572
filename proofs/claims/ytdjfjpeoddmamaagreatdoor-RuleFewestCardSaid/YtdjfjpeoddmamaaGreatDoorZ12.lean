/- Part Z12 of the proof. -/
import Derived.Test.YtdjfjpeoddmamaaGreatDoorZ11
import Derived.Test.YtdjfjpeoddmamaaGreatDoorChecked
import Derived.KernelRfl
set_option linter.all false
namespace Go.Abs
def hhB(M:Nat):Nat→Nat×Nat
 |0=>(1,1)
 |j+1=>(4* (hhB M j).1+2* (hhB M j).2+2* M+2,(hhB M j).1)
theorem rv_(M:Nat):∀j,1≤(hhB M j).1∧1≤(hhB M j).2
 |0=>⟨Nat.le_refl _,Nat.le_refl _⟩
 |j+1=>by
  have:=rv_ M j
  exact⟨by show 1≤4* _+_+_+2;omega,this.1⟩
theorem sq_IB{m p:List Rat}{K k:Rat}{h M:Nat}(H:HS p K h)(hm:∀i,IB (coP m i* k) M)(hl:p.length≤8):IB (ofP m (mulP p p) * (K* K* k)) (2* h+(M+25))∧IB (ofP m (mulP (mulP p p) [0,1]) * (K* K* k)) (2* h+(M+25)):=by
 have h2:=H.mul H hl
 have l1:=d4_ p p
 have l2:=mulP_line_len' (mulP p p) 0 1
 exact⟨(ofP_IB h2 hm (L:=16) (by omega)).mono (by omega),(ofP_IB h2.shift hm (L:=17) (by omega)).mono (by omega)⟩
theorem HS.nil:HS [] 1 1:=⟨by decide,IB.one,fun i=>(IB.zero 1).eq (by show 0=(0:Rat) * 1;grind)⟩
theorem HS.one1:HS [1] 1 1:=⟨by decide,IB.one,fun i=>by
 cases i with
 |zero=>exact IB.one.eq (by show 1=(1:Rat) * 1;grind)
 |succ i=>exact(IB.zero 1).eq (by show 0=(0:Rat) * 1;grind)⟩
section
variable {m:List Rat}{k:Rat}{M n:Nat}(k0:k≠0)(hm:∀i,IB (coP m i* k) M)(hn:∀j,j< n→oN m j≠0)(h7:n≤7)
include k0 hm hn h7
theorem lad_HS:∀j,j≤n→∃K K' B':Rat,HS (oP m j) K (hhB (M+25) j).1∧HS (oL m j) K' (hhB (M+25) j).2∧IB B' (2* (hhB (M+25) j).2+(M+25))∧B'≠0∧(∀i,coP (oL m j) i* ldB m j* (B'* K* K)=coP (oL m j) i* K'* K'* (oN m j* (K* K* k)))
 |0,_=>⟨1,1,1,HS.one1,HS.nil,IB.one.mono (by show 1≤2* 1+_;omega),by decide,fun i=>by
    rw[show coP (oL m 0) i=0 from rfl];grind⟩
 |j+1,hj=>by
  obtain⟨K,K',B',H,H',hB',b0',hb⟩:=lad_HS j (by omega)
  have hN:=hn j (by omega)
  have hl:(oP m j).length≤j+1:=(fj_ m j).1
  obtain⟨q1,q2⟩:=sq_IB H hm (show(oP m j).length≤8 by omega)
  have hx:=bl2_x m j hN
  have hB0:oN m j* (K* K* k)≠0:=fun e=>by
   rcases Rat.mul_eq_zero.1 e with e|e
   exact hN e
   rcases Rat.mul_eq_zero.1 e with e|e
   rcases Rat.mul_eq_zero.1 e with e|e <;> exact H.ne e
   exact k0 e
  have st:=H.step H' (r:=oP m (j+1)) (A:=ofP m (mulP (mulP (oP m j) (oP m j)) [0,1]) * (K* K* k)) (B:=oN m j* (K* K* k)) (a:=ldAk m j) (b:=ldB m j) q1 q2 hB' hB0 b0' (by
   rw[show ofP m (mulP (mulP (oP m j) (oP m j)) [0,1])=ldAk m j* oN m j from hx];grind) hb (fun i=>by
   show coP (subP (mulP (ldr m j).1 [-ldA m (ldr m j).1,1]) (az_ (ldr m j).2.1 (if j=0 then 0 else ldN m (ldr m j).1/ (ldr m j).2.2))) i=_
   rw[ed_,gY_,a5_,Rat.mul_one]
   rfl)
  refine⟨_,K,oN m j* (K* K* k),st,H,q1,hB0,fun i=>?_⟩
  rw[oL_s,ldB_s]
  generalize oN m (j+1)=N1 at *
  generalize oN m j=N0 at *
  generalize coP (oP m j) i=c at *
  have e:N1/ N0* N0=N1:=Rat.div_mul_cancel hN
  generalize N1/ N0=d at *
  subst e
  grind
end
theorem sV_{x y:Rat}{h:Nat}(H:IB x h)(K:IB y h)(y0:y≠0)(h1:1≤h):qs (x/ y)≤h:=by
 have hH:Ht [x,y] h:=⟨1,by decide,fun i=>by
  have:IB (coP [x,y] i* 1) h:=by
   match i with
   |0=>exact H.eq (by show x=x* 1;grind)
   |1=>exact K.eq (by show y=y* 1;grind)
   |i+2=>exact(IB.zero h).eq (by show 0=0* 1;grind)
  obtain⟨z,e,b⟩:=this
  exact⟨z,e,b⟩⟩
 exact hH.quot 0 1 y0 h1
theorem oW_{M M':Nat}(h:M≤M'):∀j,(hhB M j).1≤(hhB M' j).1∧(hhB M j).2≤(hhB M' j).2
 |0=>⟨Nat.le_refl _,Nat.le_refl _⟩
 |j+1=>by
  have:=oW_ h j
  exact⟨by show 4* _+2* _+2* M+2≤4* _+2* _+2* M'+2;omega,this.1⟩
theorem hhB_ok:((List.range 7).all fun j=>decide ((hhB 51026 j).1≤210000000) && decide (6≤j∨(hhB 51026 j).1≤50000000))=true:=by decide+kernel
theorem hhB_le{M j:Nat}(h:M≤51026)(hj:j≤6):(hhB M j).1≤210000000∧(j≤5→(hhB M j).1≤50000000):=by
 have h1:=List.all_eq_true.1 hhB_ok j (List.mem_range.2 (by omega))
 rw[Bool.and_eq_true] at h1
 have h2:=of_decide_eq_true h1.1
 have h3:=of_decide_eq_true h1.2
 have h4:=(oW_ h j).1
 exact⟨by omega,fun h=>by omega⟩
section
variable {m:List Rat}{s n:Nat}(hm:bdL m s)(hs1:1≤s)(hs:s≤3000)(hl:m.length≤16)(h6:n≤6)(hn:∀j,j< n→0< oN m j)
include hm hs1 hs hl h6 hn
theorem rm_:∀j,j≤n→bdL (oP m j) 210000000∧(j≤5→bdL (oP m j) 50000000)∧(j< n→qs (ldAk m j)≤500000000):=by
 intro j hj
 obtain⟨k,k0,hk⟩:=Ht.of hm
 have h1:=Nat.mul_le_mul hl hs
 have hk':∀i,IB (coP m i* k) (s+1+m.length* s):=fun i=>by
  obtain⟨z,e,b⟩:=hk i
  exact⟨z,e,b⟩
 have hn0:∀j,j< n→oN m j≠0:=fun j hj=>by have:=hn j hj;grind
 obtain⟨K,K',B',H,H',hB',b0',hb⟩:=lad_HS k0 hk' hn0 (by omega) j hj
 obtain⟨b1,b2⟩:=hhB_le (M:=s+1+m.length* s+25) (j:=j) (by omega) (by omega)
 have hM:=(jK_ m j).1
 have hb:=H.bd hM (rv_ _ j).1
 refine⟨cN_ hb b1,fun h5=>cN_ hb (b2 h5),fun hlt=>?_⟩
 have hlen:(oP m j).length≤j+1:=(fj_ m j).1
 obtain⟨q1,q2⟩:=sq_IB H hk' (show(oP m j).length≤8 by omega)
 have hN:=hn0 j hlt
 have hx:=bl2_x m j hN
 have hKK:K* K* k≠0:=fun e=>by
  rcases Rat.mul_eq_zero.1 e with e|e
  rcases Rat.mul_eq_zero.1 e with e|e <;> exact H.ne e
  exact k0 e
 have hB0:ofP m (mulP (oP m j) (oP m j)) * (K* K* k)≠0:=fun e=>(Rat.mul_eq_zero.1 e).elim hN hKK
 have hq:=sV_ q2 q1 hB0 (by omega)
 have e:ldAk m j=ofP m (mulP (mulP (oP m j) (oP m j)) [0,1]) * (K* K* k) / (ofP m (mulP (oP m j) (oP m j)) * (K* K* k)):=by
  rw[show ofP m (mulP (mulP (oP m j) (oP m j)) [0,1])=ldAk m j* oN m j from hx]
  have e2:ldAk m j* oN m j* (K* K* k)=ldAk m j* (ofP m (mulP (oP m j) (oP m j)) * (K* K* k)):=by
   show _=ldAk m j* (oN m j* (K* K* k));grind
  rw[e2,Rat.mul_div_cancel hB0]
 rw[e]
 have:=b2 (by omega)
 omega
theorem nB_(j:Nat)(hj:j≤n):okMul (oP m j) (oP m j)∧bdL (mulP (oP m j) (oP m j)) 3000000000∧(mulP (oP m j) (oP m j)).length≤2* j+1∧(2* j+1≤m.length→okOf m (mulP (oP m j) (oP m j)))∧qs (oN m j)≤50000000000∧
    okMul (mulP (oP m j) (oP m j)) [0,1]∧(2* j+2≤m.length→okOf m (mulP (mulP (oP m j) (oP m j)) [0,1])∧qs (ofP m (mulP (mulP (oP m j) (oP m j)) [0,1]))≤50000000000):=by
 obtain⟨b1,_,_⟩:=rm_ hm hs1 hs hl h6 hn j hj
 have hlen:(oP m j).length≤j+1:=(fj_ m j).1
 have hl2:=d4_ (oP m j) (oP m j)
 have mx:=bP_ b1 (by omega)
 have mm:=bP_ hm hs1
 have h1:=Nat.mul_le_mul (show(oP m j).length≤7 by omega) (show mxL (oP m j)+mxL (oP m j)+1≤420000001 by omega)
 have h1':=Nat.mul_le_mul (show(oP m j).length≤7 by omega) (Nat.le_refl (210000000+210000000+1))
 have sq0:=fh_ b1 b1 (by omega) (by omega)
 have sq:bdL (mulP (oP m j) (oP m j)) 3000000000:=cN_ sq0 (Nat.le_trans (Nat.add_le_add_right h1' 1) (by decide))
 have msq:=bP_ sq (by omega)
 have sl:(mulP (oP m j) (oP m j)).length≤2* j+1:=by omega
 have htl:=aI_ (mulP (oP m j) (oP m j))
 have h2:=Nat.mul_le_mul (show(mulP (oP m j) (oP m j)).length+2≤15 by omega) (show mxL (mulP (oP m j) (oP m j))+mxL m+1≤3000003001 by omega)
 have e7:mxL [0,1]=1:=by decide+kernel
 have h3:=Nat.mul_le_mul (show(mulP (oP m j) (oP m j)).length≤13 by omega) (show mxL (mulP (oP m j) (oP m j))+mxL [0,1]+1≤3000000002 by omega)
 have xb:bdL (mulP (mulP (oP m j) (oP m j)) [0,1]) 3000000000:=gK_bd sq (by omega) 1
 have xl:=mulP_line_len' (mulP (oP m j) (oP m j)) 0 1
 have xt:=aI_ (mulP (mulP (oP m j) (oP m j)) [0,1])
 have xm:=bP_ xb (by omega)
 have h4:=Nat.mul_le_mul (show(mulP (mulP (oP m j) (oP m j)) [0,1]).length+2≤16 by omega) (show mxL (mulP (mulP (oP m j) (oP m j)) [0,1])+mxL m+1≤3000003001 by omega)
 have e7:mxL [0,1]=1:=by decide+kernel
 have v:∀p:List Rat,bdL p 3000000000→p.length≤14→qs (ofP m p)≤50000000000:=fun p hp hpl=>by
  have ht:=aI_ p
  have h5:=me_ (p:=trimQ p) (m:=m) (fun q hq=>hp q (bk_ hq)) hm (by omega) hs1 (trimQ p).length
  have h6:=Nat.mul_le_mul (show(trimQ p).length≤14 by omega) (show 3000000000+s+1≤3000003001 by omega)
  show qs (ofQ _ _ _)≤_
  omega
 exact⟨⟨by omega,by omega,by omega,by omega⟩,sq,sl,fun hh=>⟨by omega,by omega,by omega⟩,v _ sq (by omega),⟨by omega,by omega,by omega,by simp⟩,fun hh=>⟨⟨by omega,by omega,by omega⟩,v _ xb (by omega)⟩⟩
theorem lad_ok(hlen:2* n≤m.length)(j:Nat)(hj:j< n):okLd m j:=by
 obtain⟨c1,c2,c3,c4,c5,c6,c7⟩:=nB_ hm hs1 hs hl h6 hn j (by omega)
 obtain⟨d1,d2⟩:=c7 (by omega)
 obtain⟨_,b5,ba⟩:=rm_ hm hs1 hs hl h6 hn j (by omega)
 have b5:=b5 (by omega)
 have ba:=ba hj
 have hpl:(ldr m j).1.length≤j+1∧(ldr m j).2.1.length≤j+1:=fj_ m j
 have d2:qs (ofP m (mulP (mulP (ldr m j).1 (ldr m j).1) [0,1]))≤50000000000:=d2
 have hlb:bdL (ldr m j).2.1 50000000∧qs (ldr m j).2.2≤50000000000:=by
  cases j with
  |zero=>exact⟨fun q hq=>(by cases hq),Nat.le_trans (by decide:qs 0≤1) (by omega)⟩
  |succ i=>exact⟨(rm_ hm hs1 hs hl h6 hn i (by omega)).2.1 (by omega),(nB_ hm hs1 hs hl h6 hn i (by omega)).2.2.2.2.1⟩
 have hB:qs (ldB m j)≤100000000000:=by
  unfold ldB
  split
  exact Nat.le_trans (by decide:qs 0≤1) (by omega)
  have:=c8_ (ldN m (ldr m j).1) (ldr m j).2.2
  have h9:qs (ldN m (ldr m j).1)≤50000000000:=c5
  omega
 have c5':qs (ldN m (ldr m j).1)≤50000000000:=c5
 have mx:mxL (ldr m j).1≤50000000:=bP_ b5 (by omega)
 have el:(oP m j).length=(ldr m j).1.length:=rfl
 have la:bdL [-ldAk m j,1] 500000000:=bd_uv (by rw[dK_];exact ba) (Nat.le_trans (by decide:qs 1≤1) (by omega))
 have ma:=bP_ la (by omega)
 have h1:=Nat.mul_le_mul (show(ldr m j).1.length≤6 by omega) (show mxL (ldr m j).1+mxL [-ldAk m j,1]+1≤550000001 by omega)
 have h1':=Nat.mul_le_mul (show(ldr m j).1.length≤6 by omega) (Nat.le_refl (50000000+500000000+1))
 have hm0:=fh_ b5 la (by omega) (by omega)
 have hm1:bdL (mulP (ldr m j).1 [-ldAk m j,1]) 4000000000:=cN_ hm0 (Nat.le_trans (Nat.add_le_add_right h1' 1) (by decide))
 have hm2:=mulP_line_len' (ldr m j).1 (-ldAk m j) 1
 have hs1':bdL (az_ (ldr m j).2.1 (ldB m j)) 101000000000:=cN_ (ht_ hlb.1 (by omega)) (by omega)
 have hs2:=bK_ (ldr m j).2.1 (ldB m j)
 exact⟨c1,c4 (by omega),hn j hj,c6,d1,by omega,by omega,⟨by omega,by omega,by omega,by simp⟩,fun q hq=>Nat.le_trans (hlb.1 q hq) (by omega),Nat.le_trans hB (by omega),fun q hq=>Nat.le_trans (hm1 q hq) (by omega),fun q hq=>Nat.le_trans (hs1' q hq) (by omega),by omega,by omega,by omega⟩
end
theorem nz_int'{n:Int}(h:n≠0):(n:Rat)≠0:=fun e=>h (by have:=congrArg Rat.num e;exact this)
theorem fcN_pos':∀n,0< fcN n
 |0=>by decide
 |n+1=>Nat.mul_pos (fcN_pos' n) (Nat.succ_pos n)
theorem IB.nat{n h:Nat}(hn:bl n≤h):IB (((n:Nat):Int):Rat) h:=⟨n,rfl,by rwa[Int.natAbs_natCast]⟩
theorem IB_den{x:Rat}{h:Nat}(hx:qs x≤h):IB (x* ((x.den:Int):Rat)) h∧IB (((x.den:Nat):Int):Rat) h∧(((x.den:Nat):Int):Rat)≠0:=by
 have h1:=co_ x
 have h2:=b8_ x
 refine⟨⟨x.num,?_,by omega⟩,IB.nat (by omega),nz_int' (by have:=x.den_pos;omega)⟩
 have hd:(((x.den:Nat):Int):Rat)≠0:=nz_int' (by have:=x.den_pos;omega)
 have e3:(x.num:Rat) / (((x.den:Nat):Int):Rat)=x:=by rw[←Rat.divInt_eq_div,Rat.num_divInt_den]
 have e2:(x.num:Rat) / (((x.den:Nat):Int):Rat) * (((x.den:Nat):Int):Rat)=(x.num:Rat):=Rat.div_mul_cancel hd
 rw[e3] at e2
 exact e2
theorem sX_{u v:Rat}{K:Rat}{h:Nat}(k0:K≠0)(hK:IB K h)(hu:IB (u* K) h)(hv:IB (v* K) h):HS [u,v] K h:=⟨k0,hK,fun i=>by
 match i with
 |0=>exact hu
 |1=>exact hv
 |i+2=>exact(IB.zero h).eq (by show 0=0* K;grind)⟩
theorem sW_{u v K:Rat}(H:HS [u,v] K 20):∀n,n≤8→∃K',HS (powP [u,v] n) K' (1+37* n)
 |0,_=>⟨1,by
    have e:powP [u,v] 0=[1]:=by show trimQ [1]=[1];decide+kernel
    rw[e];exact HS.one1⟩
 |n+1,hn=>by
  obtain⟨K',H'⟩:=sW_ H n (by omega)
  have h1:=H'.mul H (dL_ u v (n:=n) (by omega))
  exact⟨_,⟨h1.ne,h1.sc.mono (by omega),fun i=>(h1.co i).mono (by omega)⟩⟩
theorem HS.mono{p:List Rat}{K:Rat}{h k:Nat}(H:HS p K h)(hk:h≤k):HS p K k:=⟨H.ne,H.sc.mono hk,fun i=>(H.co i).mono hk⟩
theorem HS_gK{f:List Rat}{K:Rat}{h:Nat}(H:HS f K h):∀n,HS (gK f n) K h
 |0=>H
 |n+1=>(HS_gK H n).shift
theorem fc_dvd:∀n i,1≤i→i≤n→∃w,fcN n=i* w
 |0,i,h1,h2=>by omega
 |n+1,i,h1,h2=>by
  by_cases e:i=n+1
  exact⟨fcN n,by rw[e,fcN,Nat.mul_comm]⟩
  obtain⟨w,hw⟩:=fc_dvd n i h1 (by omega)
  exact⟨w* (n+1),by rw[fcN,hw,Nat.mul_assoc]⟩
theorem fc52:bl (fcN 52)≤230:=by decide+kernel
theorem HS_int{f:List Rat}{K:Rat}{h:Nat}(H:HS f K h)(hl:f.length≤52):HS (aL_ f) (K* (((fcN 52:Nat):Int):Rat)) (h+230) where
 ne e:=(Rat.mul_eq_zero.1 e).elim H.ne fun e=>by
  have:=fcN_pos' 52
  exact nz_int' (show((fcN 52:Nat):Int)≠0 by omega) e
 sc:=H.sc.mul (IB.nat fc52)
 co i:=by
  rw[bM_]
  by_cases h0:i=0
  rw[if_pos h0];exact(IB.zero _).eq (by grind)
  rw[if_neg h0]
  by_cases hi:i≤52
  obtain⟨w,hw⟩:=fc_dvd 52 i (by omega) hi
  have hwb:bl w≤230:=Nat.le_trans (b6_ (by rw[hw];exact Nat.le_mul_of_pos_left _ (by omega))) fc52
  refine((H.co (i- 1)).mul (IB.nat hwb)).eq ?_
  have hiz:(((i:Nat):Int):Rat)≠0:=nz_int' (by omega)
  have e:(((fcN 52:Nat):Int):Rat)=(((i:Nat):Int):Rat) * (((w:Nat):Int):Rat):=by rw[hw,Int.natCast_mul,Rat.intCast_mul]
  have e2:coP f (i- 1) / (((i:Nat):Int):Rat) * (((i:Nat):Int):Rat)=coP f (i- 1):=Rat.div_mul_cancel hiz
  rw[e]
  generalize coP f (i- 1) / (((i:Nat):Int):Rat)=d at *
  rw[←e2];grind
  rw[cr_ (by omega:f.length≤i- 1)]
  exact(IB.zero _).eq (by rw[Rat.div_def,Rat.zero_mul,Rat.zero_mul])
theorem nY_{x D K:Rat}{h:Nat}(hx:IB (x* D) 20)(hD:IB D 20)(hK:IB K h):∀l:List Rat,(∀c∈l,IB (c* K) h)→IB (evalP l x* (K* D^ l.length)) (h+22* l.length)∧IB (D^ l.length) (20* l.length+1)
 |[],_=>⟨(IB.zero _).eq (by rw[aG_];grind),IB.one.eq (by rw[List.length_nil,Rat.pow_zero])⟩
 |c::l,hc=>by
  obtain⟨i1,i2⟩:=nY_ hx hD hK l fun c' h'=>hc c' (List.mem_cons_of_mem _ h')
  have h1:=i1.mul hx
  have h2:=(hc c (List.mem_cons_self ..)).mul (i2.mul hD)
  refine⟨((h1.mono (show _≤h+22* l.length+21 by omega)).add (h2.mono (show _≤h+22* l.length+21 by omega))).eq ?_|>.mono ?_,((i2.mul hD).mono (by rw[List.length_cons];omega)).eq (by rw[List.length_cons,Rat.pow_succ])⟩
  rw[aB_,List.length_cons,Rat.pow_succ];grind
  rw[List.length_cons];omega
theorem q1_{x:Rat}(h:x≠0):∀n:Nat,x^ n≠0
 |0=>by rw[Rat.pow_zero];decide
 |n+1=>by rw[Rat.pow_succ];exact fun e=>(Rat.mul_eq_zero.1 e).elim (q1_ h n) h
theorem jc_tame{a b:Rat}{p q k:Nat}(ha:qs a≤20)(hb:qs b≤20)(hp:p≤8)(hq:q≤8)(hk:k≤16):qs (moQ (jcF a b p q) (a,b) k)≤3000:=by
 obtain⟨a1,a2,a3⟩:=IB_den ha
 obtain⟨b1,b2,b3⟩:=IB_den hb
 have L1:HS [-a,1] (((a.den:Nat):Int):Rat) 20:=sX_ a3 a2 (a1.neg.eq (by grind)) (a2.eq (by grind))
 have L2:HS [b,-1] (((b.den:Nat):Int):Rat) 20:=sX_ b3 b2 b1 (b2.neg.eq (by grind))
 obtain⟨K1,H1⟩:=sW_ L1 p hp
 obtain⟨K2,H2⟩:=sW_ L2 q hq
 have hF:HS (jcF a b p q) (K1* K2) 611:=(H1.mul H2 (dL_ (-a) 1 hp)).mono (by omega)
 have hFl:=(rq_ (Nat.le_trans ha (by decide)) (Nat.le_trans hb (by decide)) hp hq).2
 have hG:=HS_gK hF k
 have hGl:=o0_ (jcF a b p q) k
 have hI:=HS_int hG (by omega)
 have hIl:=dO_ (gK (jcF a b p q) k)
 have hL:(aL_ (gK (jcF a b p q) k)).length≤51:=by omega
 show qs (evalP (aL_ (gK (jcF a b p q) k)) b- evalP (aL_ (gK (jcF a b p q) k)) a)≤3000
 generalize aL_ (gK (jcF a b p q) k)=I at *
 generalize (K1* K2* (((fcN 52:Nat):Int):Rat))=K at *
 have hc:∀c∈I,IB (c* K) 841:=fun c hc=>by
  obtain⟨i,_,e⟩:=i9_ hc
  rw[←e];exact(hI.co i).mono (by omega)
 have hK:IB K 841:=hI.sc.mono (by omega)
 obtain⟨e1,e2⟩:=nY_ b1 b2 hK I hc
 obtain⟨f1,f2⟩:=nY_ a1 a2 hK I hc
 have S0:K* (((b.den:Nat):Int):Rat) ^ I.length* (((a.den:Nat):Int):Rat) ^ I.length≠0:=fun e=>by
  rcases Rat.mul_eq_zero.1 e with e|e
  rcases Rat.mul_eq_zero.1 e with e|e
  exact hI.ne e
  exact q1_ b3 _ e
  exact q1_ a3 _ e
 have S1:IB (K* (((b.den:Nat):Int):Rat) ^ I.length* (((a.den:Nat):Int):Rat) ^ I.length) 3000:=((hK.mul e2).mul f2).mono (by omega)
 have N1:IB ((evalP I b- evalP I a) * (K* (((b.den:Nat):Int):Rat) ^ I.length* (((a.den:Nat):Int):Rat) ^ I.length)) 3000:=by
  have g1:=(e1.mul f2).mono (show _≤2999 by omega)
  have g2:=((f1.mul e2).neg).mono (show _≤2999 by omega)
  exact(g1.add g2).eq (by grind)
 have:=sV_ N1 S1 S0 (by omega)
 rwa[Rat.mul_div_cancel S0] at this
theorem pZ_{f:Nat}{p:List Rat}{c:Cnt}(h:cR_ f p=some c)(hp:nz p)(hall:uptoV c (bc_ c.p)=dg p):
    (∃A B:List Rat,∀x,evalP A x* evalP p x+evalP B x* dvE p x=1)∧uptoV c (bc_ p)- e6_ c (-bc_ p)=dg p:=by
 obtain⟨s0,s1,s2,s3,s4,s5⟩:=ft_ h hp
 obtain⟨u,L,k,e,k0,hu,H,hL,hdv,_⟩:=m2_ h hp
 have up:∀x,uptoV c x=c.far- chV c.ch x:=fun x=>rfl
 have nn0:∀x,0≤chV c.ch x∧chV c.ch x≤L.length:=fun x=>by
  unfold chV
  rw[e]
  rcases chL_nn ((u::L).map (sgE x)) with h|h
  simp only[List.length_map,List.length_cons] at h
  exact⟨h.1,by have:=h.2;push_cast at this;omega⟩
  cases h
 have hle:dg p≤dg c.p:=by
  have h1:=nn0 (bc_ c.p)
  have h2:=nn0 (-bc_ c.p)
  rw[up,s3] at hall
  omega
 obtain⟨κ,κ0,hκ,hsq⟩:∃κ:Rat,κ≠0∧(∀x,evalP c.p x=evalP p x* κ)∧∃A B:List Rat,∀x,evalP A x* evalP p x+evalP B x* dvE p x=1:=by
  unfold sqfM at s1
  split at s1
  cases hg:gcdM f p (ax_ p) with
  |none=>rw[hg] at s1;cases s1
  |some g=>
   rw[hg,Option.bind_some] at s1
   split at s1
   have e1:=Option.some.inj s1
   obtain⟨g0,⟨a,ha⟩,⟨b,hb⟩,A,B,hAB⟩:=hY_ f _ _ _ hg (.inl hp)
   obtain⟨m1,m2⟩:=cE_ p g0
   have hm:=eS_ (u:=a) (v:=[]) g0 (fun x=>by rw[ha x,aG_];exact(Rat.add_zero _).symm) (fun e=>absurd rfl e)
   have hq:∀x,evalP p x=evalP (divP p g).1 x* evalP g x:=fun x=>by
    have:=m1 x
    rw[hm x,aG_] at this
    rw[this];grind
   obtain⟨z1,_⟩:=eB_ hq hp
   obtain⟨_,d1,_⟩:=dg_mul' z1 g0 hq
   obtain⟨κ,κ',hkk,hmon⟩:=kR_ (divP p g).1
   have hκ0:κ≠0:=fun e=>by rw[e] at hkk;grind
   have hdc:dg c.p=dg (divP p g).1:=(dP_ z1 hκ0 fun x=>by rw[←e1,hmon]).2.1
   obtain⟨γ,γ0,hγ⟩:=ma_ g0 (by omega)
   refine⟨κ/ γ,fun e=>?_,fun x=>?_,az_ A (1/ γ),az_ B (1/ γ),fun x=>?_⟩
   have h0:κ=0:=by
    have:=Rat.div_mul_cancel (a:=κ) γ0
    rw[e] at this;grind
   exact hκ0 h0
   rw[←e1,hmon,hq,hγ]
   have:=Rat.div_mul_cancel (a:=κ) γ0
   grind
   have h1:=hAB x
   rw[hγ,br_] at h1
   rw[aA_,aA_]
   have h2:=Rat.div_mul_cancel (a:=1) γ0
   have h3:evalP A x* (1/ γ) * evalP p x+evalP B x* (1/ γ) * dvE p x=(evalP A x* evalP p x+evalP B x* dvE p x) * (1/ γ):=by grind
   rw[h3,←h1];grind
   cases s1
  cases s1
 refine⟨hsq,?_⟩
 have hbd:bc_ c.p=bc_ p:=nh_ κ0 hp hκ
 have h1:uptoV c (-bc_ p)=0:=s4 _ (by rw[hbd];exact Rat.le_refl)
 have h2:=(g0_ s0 (x:= -bc_ p) (by rw[hbd];exact Rat.le_refl)).1
 have h3:evalP c.p (-bc_ p)≠0:=fun e=>by
  rw[e] at h2
  have h4:=bF_ s0
  unfold ab at h2
  split at h2 <;> grind
 unfold e6_
 rw[if_neg h3,h1,←hbd,hall]
 omega
theorem j9_(p q:List Rat):divP (trimQ p) q=divP p q:=by unfold divP;rw[aN_]
theorem j8_(p q:List Rat):divP p (trimQ q)=divP p q:=by unfold divP;rw[aN_,dn_]
theorem n5_(p:List Rat):ax_ (trimQ p)=ax_ p:=by
 have h1:trimQ (ax_ p)=ax_ p:=aN_ _
 have h2:trimQ (ax_ (trimQ p))=ax_ (trimQ p):=aN_ _
 rw[←h1,←h2]
 exact dw_ fun i=>by rw[bt_,bt_,bf_]
theorem jM_(p:List Rat):a6_ (trimQ p)=a6_ p:=by
 unfold a6_
 rw[aN_,dn_]
 split
 rfl
 rw[←cb_ p,←cb_ (trimQ p)]
 exact dw_ fun i=>by rw[a5_,a5_,bf_]
theorem rx_{f:Nat}{p q g g':List Rat}(h:gcdM f p q=some g)(h':gcdM f (trimQ p) q=some g'):g'=g:=by
 cases f with
 |zero=>cases h
 |succ f=>
  rw[gcdM] at h h'
  by_cases hq:trimQ q=[]
  rw[if_pos hq] at h h'
  rw[jM_] at h'
  split at h
  split at h'
  cases h;cases h';rfl
  cases h'
  cases h
  rw[if_neg hq] at h h'
  rw[j9_] at h'
  split at h
  split at h'
  rw[h] at h';cases h';rfl
  cases h'
  cases h
theorem pR_{f:Nat}{p s s':List Rat}(h:sqfM f p=some s)(h':sqfM f (trimQ p)=some s'):s'=s:=by
 unfold sqfM at h h'
 rw[n5_] at h'
 split at h
 split at h'
 cases e:gcdM f p (ax_ p) with
 |none=>rw[e] at h;cases h
 |some g=>
  cases e':gcdM f (trimQ p) (ax_ p) with
  |none=>rw[e'] at h';cases h'
  |some g'=>
   have eg:=rx_ e e'
   subst eg
   rw[e,Option.bind_some] at h
   rw[e',Option.bind_some,j9_] at h'
   split at h
   split at h'
   cases h;cases h';rfl
   cases h'
   cases h
 cases h'
 cases h
theorem m3_{f:Nat}{p:List Rat}{c c':Cnt}(h:cR_ f p=some c)(h':cR_ f (trimQ p)=some c'):c'=c:=by
 unfold cR_ at h h'
 cases e:sqfM f p with
 |none=>rw[e] at h;cases h
 |some s=>
  cases e':sqfM f (trimQ p) with
  |none=>rw[e'] at h';cases h'
  |some s'=>
   have es:=pR_ e e'
   subst es
   rw[e] at h
   rw[e',h] at h'
   cases h';rfl
def RealV(p:List Rat):Prop:=1≤degP p∧degP p≤25∧∃c,CN p c∧uptoV c (bc_ c.p)=degP p
theorem RealV.trim{p:List Rat}(hl:p.length≤7)(hb:bdL p 20)(h:RealV p):RealV (trimQ p):=by
 obtain⟨h1,h2,c,hc,h3⟩:=h
 have np:nz (trimQ p):=by unfold nz;rw[aN_];exact hc.np
 obtain⟨c',hc'⟩:=CN.ex np (by have:=aI_ p;omega) (fun q hq=>hb q (bk_ hq))
 have e:=m3_ hc.hc hc'.hc
 subst e
 rw[←i6_] at h1 h2 h3
 exact⟨h1,h2,_,hc',h3⟩
theorem RealV.facts{p:List Rat}(h:RealV p):nz p∧(∃A B:List Rat,∀x,evalP A x* evalP p x+evalP B x* dvE p x=1)∧∃c,CN p c∧uptoV c (bc_ p)- e6_ c (-bc_ p)=degP p:=by
 obtain⟨h1,h2,c,hc,h3⟩:=h
 have hd:=gk_ hc.np
 obtain⟨f1,f2⟩:=pZ_ hc.hc hc.np (by omega)
 exact⟨hc.np,f1,c,hc,by omega⟩
theorem leastN{P:Nat→Prop}:∀N,P N→∃d,d≤N∧P d∧∀k,k< d→¬P k:=by
 intro N
 induction N using Nat.strongRecOn with
 |ind N ih=>
  intro h
  by_cases e:∃k,k< N∧P k
  obtain⟨k,k1,k2⟩:=e
  obtain⟨d,d1,d2,d3⟩:=ih k k1 k2
  exact⟨d,by omega,d2,d3⟩
  exact⟨N,Nat.le_refl _,h,fun k hk hp=>e ⟨k,hk,hp⟩⟩
theorem zOK_r:zOK 6 24 1110000=true:=by decide+kernel
section
variable {T:List Rat}{n:Nat}(hn:1≤n∧n≤5)(hl:T.length=n+1)(ht:trimQ T=T)(hm:leadP T=1)(hb:bdL T 20)
include hn hl ht hm hb
theorem r_len:nz T∧dg T=n∧degP T=(n:Int):=by
 have h0:nz T:=by
  intro e
  have e:trimQ T=[]:=e
  rw[ht] at e;rw[e] at hl;cases hl
 have h1:dg T=n:=by unfold dg;rw[ht];omega
 exact⟨h0,h1,by rw[gk_ h0,h1]⟩
theorem r_su:bdL (suL T n (n- 1)) 3000∧∀j,j< n- 1→okSu T n j:=by
 have hB:∀j,j< 5→suB 20 j≤3000:=by decide+kernel
 exact⟨bdL_mono' (qy_ hb (by omega) (by omega) (n- 1) (by omega)).1 (hB _ (by omega)),fun j hj=>okSu_of hb (by omega) (by omega) (by omega) (Nat.le_trans (hB _ (by omega)) (by omega))⟩
theorem r_apply{p W f:List Rat}(hp:trimQ p=T)(hpl:p.length≤6)(hpb:bdL p 20)(hWt:(trimQ W).length≤n)(hWl:W.length≤6)(hWb:bdL W 180000000)(hf:f.length≤11)(hfb:bdL f 1):
    okDiv f p∧okMul W (divP f p).2∧okDiv (mulP W (divP f p).2) p∧bdL (apR p W f) 17400000000∧(apR p W f).length≤n∧qs (ofQ (apR p W f) (suL T n (n- 1)) (apR p W f).length)≤137438953472∧
    ofQ (apR p W f) (suL T n (n- 1)) (apR p W f).length=trP T (mulP W f):=by
 obtain⟨n1,n2,n3⟩:=r_len hn hl ht hm hb
 obtain⟨s1,s2⟩:=r_su hn hl ht hm hb
 have hp0:trimQ p≠[]:=by rw[hp];intro e;rw[e] at hl;cases hl
 have htl:(trimQ p).length=n+1:=by rw[hp,hl]
 have m1:=bP_ hpb (by omega)
 have m2:=bP_ hfb (by omega)
 have m3:=bP_ hWb (by omega)
 have tf:=aI_ f
 have e1:2^ ((trimQ f).length+1- (trimQ p).length)≤2^ 10:=Nat.pow_le_pow_right (by decide) (by omega)
 have e2:=Nat.mul_le_mul e1 (show mxL f+2* mxL p+1≤42 by omega)
 have r1:bdL (divP f p).2 43008:=(ex_ hfb hpb (by omega) (by omega) hp0 (by
  have:=Nat.mul_le_mul e1 (show 1+2* 20+1≤42 by omega)
  omega)).2
 have rl:(divP f p).2.length≤n:=by
  have a:=(cp_ f p hp0).2
  rw[(eg_ _ _).2] at a
  omega
 have m4:=bP_ r1 (by omega)
 have p1:=fh_ hWb r1 (by omega) (by omega)
 have p2:=d4_ W (divP f p).2
 have p3:bdL (mulP W (divP f p).2) 1080258055:=bdL_mono' p1 (Nat.le_trans (Nat.succ_le_succ (Nat.mul_le_mul_right _ hWl)) (by decide))
 have m5:=bP_ p3 (by omega)
 have p4:(trimQ (mulP W (divP f p).2)).length≤(n- 1)+n:=nG_ (by omega) (by rw[(eg_ _ _).2];exact rl)
 have e3:2^ ((trimQ (mulP W (divP f p).2)).length+1- (trimQ p).length)≤2^ 4:=Nat.pow_le_pow_right (by decide) (by omega)
 have e4:=Nat.mul_le_mul e3 (show mxL (mulP W (divP f p).2)+2* mxL p+1≤1080258096 by omega)
 have r2:bdL (apR p W f) 17400000000:=(ex_ p3 hpb (by omega) (by omega) hp0 (by
  have:=Nat.mul_le_mul e3 (show 1080258055+2* 20+1≤1080258096 by omega)
  omega)).2
 have rl2:(apR p W f).length≤n:=by
  have q:(trimQ (apR p W f)).length< (trimQ p).length:=(cp_ _ p hp0).2
  have e:trimQ (apR p W f)=apR p W f:=(eg_ _ _).2
  rw[e] at q
  omega
 have e5:=Nat.mul_le_mul hWl (show mxL W+mxL (divP f p).2+1≤180043009 by omega)
 have o1:=me_ r2 s1 (by omega) (by omega) (apR p W f).length
 have o2:=Nat.mul_le_mul_right (17400000000+3000+1) (show(apR p W f).length≤5 by omega)
 have ea:apR p W f=apR T W f:=by unfold apR;rw[←hp,j8_,j8_]
 have tr:=apply_tr (W:=W) (f:=f) n1 hm ht (by omega)
 rw[n2,←ea] at tr
 exact⟨⟨by omega,by omega,by omega⟩,⟨by omega,by omega,by omega,by omega⟩,⟨by omega,by omega,by omega⟩,r2,rl2,by omega,tr⟩
theorem r_own{m A B:List Rat}(hmb:bdL m 3000)(hco:∀x,evalP A x* evalP T x+evalP B x* dvE T x=1):∃G A',bzL 9 (ax_ T) T (cU_ ((1:Int):Rat)) []=some (G,A')∧okBz (ax_ T) T G A'∧okMul (tpQ T m) (bzA T G A')∧okDiv (mulP (tpQ T m) (bzA T G A')) T∧
    ∃W,W=(divP (mulP (tpQ T m) (bzA T G A')) T).2∧bdL W 180000000∧W.length≤n∧(∃z,∀x,evalP W x* dvE T x=evalP (tpQ T m) x+evalP z x* evalP T x)∧(nz W→dg W< dg T):=by
 obtain⟨n1,n2,n3⟩:=r_len hn hl ht hm hb
 have hdl:=c0_ T
 have hH:Ht T (20+1+6* 20):=(Ht.of hb).mono (by rw[hl];have:=Nat.mul_le_mul_right 20 (show n+1≤6 by omega);omega)
 have hdd:=(gV_ (by rw[ht,hl];omega) hb (by omega) hH).1
 obtain⟨G,A',g1,g2,g3,g4,g5⟩:=okBz_of zOK_r (p:=ax_ T) (q:=T) (B:=B) (C:=A) (bdL_mono' hdd (by omega)) (bdL_mono' hb (by omega)) (by omega) (by omega) (by omega) n1 ht fun x=>by rw[br_];have:=hco x;grind
 obtain⟨w,hw⟩:=bzA_inv g1 n1 (B:=B) (C:=A) fun x=>by rw[br_];have:=hco x;grind
 have htl:(tpQ T m).length=n:=by unfold tpQ tabP;simp[hl]
 have htb:bdL (tpQ T m) 18127:=by
  intro q hq
  unfold tpQ tabP at hq
  obtain⟨i,hi,rfl⟩:=List.mem_map.1 hq
  have:=qu_ hb hmb (by omega) (by omega) i T.length
  have h6:=Nat.mul_le_mul_right (20+3000+1) (show T.length≤6 by omega)
  omega
 have m1:=bP_ htb (by omega)
 have m2:=bP_ g3 (by omega)
 have m3:=bP_ hb (by omega)
 have p1:=fh_ htb g3 (by omega) (by omega)
 have p2:=d4_ (tpQ T m) (bzA T G A')
 rw[htl] at p1 p2
 have p3:bdL (mulP (tpQ T m) (bzA T G A')) 11190931:=bdL_mono' p1 (Nat.le_trans (Nat.succ_le_succ (Nat.mul_le_mul_right _ hn.2)) (by decide))
 have m4:=bP_ p3 (by omega)
 have p4:=aI_ (mulP (tpQ T m) (bzA T G A'))
 have e3:2^ ((trimQ (mulP (tpQ T m) (bzA T G A'))).length+1- (trimQ T).length)≤2^ 4:=Nat.pow_le_pow_right (by decide) (by rw[ht];omega)
 obtain⟨v1,v2⟩:=wt_spec (T:=tpQ T m) n1 (iv:=bzA T G A') (w:=w) fun x=>by rw[←br_];exact hw x
 refine⟨G,A',g1,g2,⟨?_,by omega,by omega,by omega⟩,⟨?_,by omega,by omega⟩,_,rfl,?_,?_,v1,v2⟩
 rw[htl]
 have:=Nat.mul_le_mul hn.2 (show mxL (tpQ T m)+mxL (bzA T G A')+1≤2238186 by omega)
 omega
 have:=Nat.mul_le_mul e3 (show mxL (mulP (tpQ T m) (bzA T G A'))+2* mxL T+1≤11190972 by omega)
 omega
 refine(ex_ p3 hb (by omega) (by omega) n1 ?_).2
 have:=Nat.mul_le_mul e3 (show 11190931+2* 20+1≤11190972 by omega)
 omega
 have a:=(cp_ (mulP (tpQ T m) (bzA T G A')) T n1).2
 rw[(eg_ _ _).2,ht] at a
 omega
theorem r_first{m:List Rat}(W:List Rat)(hpos:∀j,j< n+1→0< oN m j):∃d,d≤2* n∧(∀k,k< d→trP T (mulP W (gK [1] k))=coP m k)∧trP T (mulP W (gK [1] d))≠coP m d:=by
 obtain⟨n1,n2,n3⟩:=r_len hn hl ht hm hb
 obtain⟨i,i1,i2⟩:=few_deg (W:=W) n1 hm n2 hpos
 obtain⟨d,d1,d2,d3⟩:=leastN (P:=fun k=>trP T (mulP W (gK [1] k))≠coP m k) i (fun e=>i2 e.symm)
 exact⟨d,by omega,fun k hk=>Classical.not_not.1 (d3 k hk),d2⟩
theorem qW_ {m W V A B:List Rat} (hpos:∀j,j< n+1→0< oN m j) (hco:∀x,evalP A x* evalP T x+evalP B x* dvE T x=1) (hr:∀k,k< 2* n→trP T (mulP W (gK [1] k))=coP m k) (dW:nz W→dg W< dg T)
    (hV:∃z,∀x,evalP V x* dvE T x=evalP (tpQ T m) x+evalP z x* evalP T x) (dV:nz V→dg V< dg T):oP m n=T∧Eqv W V:=by
 obtain⟨n1,n2,n3⟩:=r_len hn hl ht hm hb
 have h1:=r9_ (W:=W) n1 hm n2 (fun j hj=>hpos j (by omega)) fun i hi=>(hr i hi).symm
 refine⟨?_,few_wt n1 hm (by omega) ht (fun x=>rfl) hco (fun i hi=>(hr i (by omega)).symm) dW hV dV⟩
 have h2:=eqv_trim.1 h1
 obtain⟨o1,o2⟩:=(jK_ m n).1
 have o3:=(fj_ m n).1
 have o4:=gz_ (p:=oP m n) (n:=n) ⟨by rw[o1];decide,o2⟩
 have o5:(trimQ (oP m n)).length=n+1:=by
  have h3:=o4.2.1
  have h4:=List.length_pos_iff.2 o4.1
  unfold dg at h3;omega
 have o6:trimQ (oP m n)=oP m n:=by
  have h3:=fa_ (oP m n)
  rw[List.take_of_length_le (by rw[o5];exact o3)] at h3
  exact h3
 rw[←o6,←h2,ht]
end
end Go.Abs
namespace Go.Proofs.YtdjfjpeoddmamaaGreatDoor
open Go.Abs
set_option maxRecDepth 20000
theorem hmix:Tryz.prog.follows .mixedOrders=true:=by kernel_rfl
instance tz_2:TZ Tryz.prog 2 [Value.int IntKind.i64 0]:=⟨by kernel_rfl⟩
instance ts_2:TS Tryz.prog 2 1:=⟨by kernel_rfl⟩
instance tg_2:TG Tryz.prog 2 false:=⟨by kernel_rfl⟩
instance tb_2:TB Tryz.prog 2 8:=⟨by kernel_rfl⟩
instance tu_2:TU Tryz.prog 2 (.int .i64):=⟨by kernel_rfl⟩
instance tz_3:TZ Tryz.prog 3 [Value.int IntKind.i64 0]:=⟨by kernel_rfl⟩
instance ts_3:TS Tryz.prog 3 1:=⟨by kernel_rfl⟩
instance tg_3:TG Tryz.prog 3 false:=⟨by kernel_rfl⟩
instance tb_3:TB Tryz.prog 3 8:=⟨by kernel_rfl⟩
instance tu_3:TU Tryz.prog 3 (.int .i64):=⟨by kernel_rfl⟩
instance tz_4:TZ Tryz.prog 4 [Value.bool false]:=⟨by kernel_rfl⟩
instance ts_4:TS Tryz.prog 4 1:=⟨by kernel_rfl⟩
instance tg_4:TG Tryz.prog 4 false:=⟨by kernel_rfl⟩
instance tb_4:TB Tryz.prog 4 1:=⟨by kernel_rfl⟩
instance tu_4:TU Tryz.prog 4 .bool:=⟨by kernel_rfl⟩
instance tz_5:TZ Tryz.prog 5 [Value.int IntKind.u8 0]:=⟨by kernel_rfl⟩
instance ts_5:TS Tryz.prog 5 1:=⟨by kernel_rfl⟩
instance tg_5:TG Tryz.prog 5 false:=⟨by kernel_rfl⟩
instance tb_5:TB Tryz.prog 5 1:=⟨by kernel_rfl⟩
instance tu_5:TU Tryz.prog 5 (.int .u8):=⟨by kernel_rfl⟩
instance ts_9:TS Tryz.prog 9 1:=⟨by kernel_rfl⟩
instance tg_9:TG Tryz.prog 9 false:=⟨by kernel_rfl⟩
instance tb_9:TB Tryz.prog 9 16:=⟨by kernel_rfl⟩
instance tu_9:TU Tryz.prog 9 .string:=⟨by kernel_rfl⟩
instance tz_23:TZ Tryz.prog 23 [Value.int IntKind.i64 0,Value.int IntKind.i64 0,Value.int IntKind.u8 0]:=⟨by kernel_rfl⟩
instance ts_23:TS Tryz.prog 23 3:=⟨by kernel_rfl⟩
instance tg_23:TG Tryz.prog 23 true:=⟨by kernel_rfl⟩
instance tb_23:TB Tryz.prog 23 24:=⟨by kernel_rfl⟩
instance tp_23:TP Tryz.prog 23 [(0,1),(1,1),(2,1)]:=⟨by kernel_rfl⟩
instance tf_23_0:TF Tryz.prog 23 0 (0,1):=⟨by kernel_rfl⟩
instance tga_23_0:TA Tryz.prog 23 0 false:=⟨by kernel_rfl⟩
instance tf_23_1:TF Tryz.prog 23 1 (1,1):=⟨by kernel_rfl⟩
instance tga_23_1:TA Tryz.prog 23 1 false:=⟨by kernel_rfl⟩
instance tf_23_2:TF Tryz.prog 23 2 (2,1):=⟨by kernel_rfl⟩
instance tga_23_2:TA Tryz.prog 23 2 false:=⟨by kernel_rfl⟩
instance tz_25:TZ Tryz.prog 25 [Value.int IntKind.i64 0,Value.int IntKind.i64 0,Value.int IntKind.u8 0,Value.int IntKind.i64 0,Value.int IntKind.i64 0,Value.int IntKind.u8 0]:=⟨by kernel_rfl⟩
instance ts_25:TS Tryz.prog 25 6:=⟨by kernel_rfl⟩
instance tg_25:TG Tryz.prog 25 true:=⟨by kernel_rfl⟩
instance tb_25:TB Tryz.prog 25 48:=⟨by kernel_rfl⟩
instance tp_25:TP Tryz.prog 25 [(0,3),(3,3)]:=⟨by kernel_rfl⟩
instance tf_25_0:TF Tryz.prog 25 0 (0,3):=⟨by kernel_rfl⟩
instance tga_25_0:TA Tryz.prog 25 0 true:=⟨by kernel_rfl⟩
instance tf_25_1:TF Tryz.prog 25 1 (3,3):=⟨by kernel_rfl⟩
instance tga_25_1:TA Tryz.prog 25 1 true:=⟨by kernel_rfl⟩
instance tz_26:TZ Tryz.prog 26 [Value.slice none 0 0]:=⟨by kernel_rfl⟩
instance ts_26:TS Tryz.prog 26 1:=⟨by kernel_rfl⟩
instance tg_26:TG Tryz.prog 26 false:=⟨by kernel_rfl⟩
instance tb_26:TB Tryz.prog 26 24:=⟨by kernel_rfl⟩
instance te_26:TE Tryz.prog 26 (23,3):=⟨by kernel_rfl⟩
instance tz_29:TZ Tryz.prog 29 [Value.slice none 0 0]:=⟨by kernel_rfl⟩
instance ts_29:TS Tryz.prog 29 1:=⟨by kernel_rfl⟩
instance tg_29:TG Tryz.prog 29 false:=⟨by kernel_rfl⟩
instance tb_29:TB Tryz.prog 29 24:=⟨by kernel_rfl⟩
instance te_29:TE Tryz.prog 29 (236,1):=⟨by kernel_rfl⟩
instance tz_31:TZ Tryz.prog 31 [Value.slice none 0 0]:=⟨by kernel_rfl⟩
instance ts_31:TS Tryz.prog 31 1:=⟨by kernel_rfl⟩
instance tg_31:TG Tryz.prog 31 true:=⟨by kernel_rfl⟩
instance tb_31:TB Tryz.prog 31 24:=⟨by kernel_rfl⟩
instance tp_31:TP Tryz.prog 31 [(0,1)]:=⟨by kernel_rfl⟩
instance tf_31_0:TF Tryz.prog 31 0 (0,1):=⟨by kernel_rfl⟩
instance tga_31_0:TA Tryz.prog 31 0 false:=⟨by kernel_rfl⟩
instance tz_33:TZ Tryz.prog 33 [Value.slice none 0 0,Value.bool false]:=⟨by kernel_rfl⟩
instance ts_33:TS Tryz.prog 33 2:=⟨by kernel_rfl⟩
instance tg_33:TG Tryz.prog 33 true:=⟨by kernel_rfl⟩
instance tb_33:TB Tryz.prog 33 32:=⟨by kernel_rfl⟩
instance tp_33:TP Tryz.prog 33 [(0,1),(1,1)]:=⟨by kernel_rfl⟩
instance tf_33_0:TF Tryz.prog 33 0 (0,1):=⟨by kernel_rfl⟩
instance tga_33_0:TA Tryz.prog 33 0 true:=⟨by kernel_rfl⟩
instance tf_33_1:TF Tryz.prog 33 1 (1,1):=⟨by kernel_rfl⟩
instance tga_33_1:TA Tryz.prog 33 1 false:=⟨by kernel_rfl⟩
instance tz_35:TZ Tryz.prog 35 [Value.slice none 0 0,Value.bool false,Value.slice none 0 0]:=⟨by kernel_rfl⟩
instance ts_35:TS Tryz.prog 35 3:=⟨by kernel_rfl⟩
instance tg_35:TG Tryz.prog 35 true:=⟨by kernel_rfl⟩
instance tb_35:TB Tryz.prog 35 56:=⟨by kernel_rfl⟩
instance tp_35:TP Tryz.prog 35 [(0,2),(2,1)]:=⟨by kernel_rfl⟩
instance tf_35_0:TF Tryz.prog 35 0 (0,2):=⟨by kernel_rfl⟩
instance tga_35_0:TA Tryz.prog 35 0 true:=⟨by kernel_rfl⟩
instance tf_35_1:TF Tryz.prog 35 1 (2,1):=⟨by kernel_rfl⟩
instance tga_35_1:TA Tryz.prog 35 1 true:=⟨by kernel_rfl⟩
instance tz_37:TZ Tryz.prog 37 [Value.slice none 0 0,Value.bool false,Value.slice none 0 0,Value.slice none 0 0,Value.bool false,Value.slice none 0 0]:=⟨by kernel_rfl⟩
instance ts_37:TS Tryz.prog 37 6:=⟨by kernel_rfl⟩
instance tg_37:TG Tryz.prog 37 true:=⟨by kernel_rfl⟩
instance tb_37:TB Tryz.prog 37 112:=⟨by kernel_rfl⟩
instance tp_37:TP Tryz.prog 37 [(0,3),(3,3)]:=⟨by kernel_rfl⟩
instance tf_37_0:TF Tryz.prog 37 0 (0,3):=⟨by kernel_rfl⟩
instance tga_37_0:TA Tryz.prog 37 0 true:=⟨by kernel_rfl⟩
instance tf_37_1:TF Tryz.prog 37 1 (3,3):=⟨by kernel_rfl⟩
instance tga_37_1:TA Tryz.prog 37 1 true:=⟨by kernel_rfl⟩
instance tz_38:TZ Tryz.prog 38 [Value.slice none 0 0]:=⟨by kernel_rfl⟩
instance ts_38:TS Tryz.prog 38 1:=⟨by kernel_rfl⟩
instance tg_38:TG Tryz.prog 38 false:=⟨by kernel_rfl⟩
instance tb_38:TB Tryz.prog 38 24:=⟨by kernel_rfl⟩
instance te_38:TE Tryz.prog 38 (3,1):=⟨by kernel_rfl⟩
instance tz_40:TZ Tryz.prog 40 [Value.int IntKind.i64 0,Value.slice none 0 0]:=⟨by kernel_rfl⟩
instance ts_40:TS Tryz.prog 40 2:=⟨by kernel_rfl⟩
instance tg_40:TG Tryz.prog 40 true:=⟨by kernel_rfl⟩
instance tb_40:TB Tryz.prog 40 32:=⟨by kernel_rfl⟩
instance tp_40:TP Tryz.prog 40 [(0,1),(1,1)]:=⟨by kernel_rfl⟩
instance tf_40_0:TF Tryz.prog 40 0 (0,1):=⟨by kernel_rfl⟩
instance tga_40_0:TA Tryz.prog 40 0 false:=⟨by kernel_rfl⟩
instance tf_40_1:TF Tryz.prog 40 1 (1,1):=⟨by kernel_rfl⟩
instance tga_40_1:TA Tryz.prog 40 1 false:=⟨by kernel_rfl⟩
instance tz_42:TZ Tryz.prog 42 [Value.int IntKind.i64 0,Value.slice none 0 0,Value.int IntKind.i64 0,Value.slice none 0 0]:=⟨by kernel_rfl⟩
instance ts_42:TS Tryz.prog 42 4:=⟨by kernel_rfl⟩
instance tg_42:TG Tryz.prog 42 true:=⟨by kernel_rfl⟩
instance tb_42:TB Tryz.prog 42 64:=⟨by kernel_rfl⟩
instance tp_42:TP Tryz.prog 42 [(0,2),(2,2)]:=⟨by kernel_rfl⟩
instance tf_42_0:TF Tryz.prog 42 0 (0,2):=⟨by kernel_rfl⟩
instance tga_42_0:TA Tryz.prog 42 0 true:=⟨by kernel_rfl⟩
instance tf_42_1:TF Tryz.prog 42 1 (2,2):=⟨by kernel_rfl⟩
instance tga_42_1:TA Tryz.prog 42 1 true:=⟨by kernel_rfl⟩
instance tz_44:TZ Tryz.prog 44 [Value.int IntKind.i64 0,Value.slice none 0 0,Value.int IntKind.i64 0,Value.slice none 0 0,Value.int IntKind.i64 0,Value.slice none 0 0,Value.int IntKind.i64 0,Value.slice none 0 0]:=⟨by kernel_rfl⟩
instance ts_44:TS Tryz.prog 44 8:=⟨by kernel_rfl⟩
instance tg_44:TG Tryz.prog 44 true:=⟨by kernel_rfl⟩
instance tb_44:TB Tryz.prog 44 128:=⟨by kernel_rfl⟩
instance tp_44:TP Tryz.prog 44 [(0,4),(4,4)]:=⟨by kernel_rfl⟩
instance tf_44_0:TF Tryz.prog 44 0 (0,4):=⟨by kernel_rfl⟩
instance tga_44_0:TA Tryz.prog 44 0 true:=⟨by kernel_rfl⟩
instance tf_44_1:TF Tryz.prog 44 1 (4,4):=⟨by kernel_rfl⟩
instance tga_44_1:TA Tryz.prog 44 1 true:=⟨by kernel_rfl⟩
instance tz_49:TZ Tryz.prog 49 [Value.slice none 0 0]:=⟨by kernel_rfl⟩
instance ts_49:TS Tryz.prog 49 1:=⟨by kernel_rfl⟩
instance tg_49:TG Tryz.prog 49 false:=⟨by kernel_rfl⟩
instance tb_49:TB Tryz.prog 49 24:=⟨by kernel_rfl⟩
instance te_49:TE Tryz.prog 49 (35,3):=⟨by kernel_rfl⟩
instance tz_51:TZ Tryz.prog 51 [Value.slice none 0 0,Value.bool false,Value.bool false,Value.slice none 0 0,Value.bool false,Value.slice none 0 0,Value.slice none 0 0,Value.bool false,Value.slice none 0 0]:=⟨by kernel_rfl⟩
instance ts_51:TS Tryz.prog 51 9:=⟨by kernel_rfl⟩
instance tg_51:TG Tryz.prog 51 true:=⟨by kernel_rfl⟩
instance tb_51:TB Tryz.prog 51 144:=⟨by kernel_rfl⟩
instance tp_51:TP Tryz.prog 51 [(0,1),(1,1),(2,1),(3,3),(6,3)]:=⟨by kernel_rfl⟩
instance tf_51_0:TF Tryz.prog 51 0 (0,1):=⟨by kernel_rfl⟩
instance tga_51_0:TA Tryz.prog 51 0 false:=⟨by kernel_rfl⟩
instance tf_51_1:TF Tryz.prog 51 1 (1,1):=⟨by kernel_rfl⟩
instance tga_51_1:TA Tryz.prog 51 1 false:=⟨by kernel_rfl⟩
instance tf_51_2:TF Tryz.prog 51 2 (2,1):=⟨by kernel_rfl⟩
instance tga_51_2:TA Tryz.prog 51 2 false:=⟨by kernel_rfl⟩
instance tf_51_3:TF Tryz.prog 51 3 (3,3):=⟨by kernel_rfl⟩
instance tga_51_3:TA Tryz.prog 51 3 true:=⟨by kernel_rfl⟩
instance tf_51_4:TF Tryz.prog 51 4 (6,3):=⟨by kernel_rfl⟩
instance tga_51_4:TA Tryz.prog 51 4 true:=⟨by kernel_rfl⟩
instance tz_52:TZ Tryz.prog 52 [Value.int IntKind.i64 0]:=⟨by kernel_rfl⟩
instance ts_52:TS Tryz.prog 52 1:=⟨by kernel_rfl⟩
instance tg_52:TG Tryz.prog 52 false:=⟨by kernel_rfl⟩
instance tb_52:TB Tryz.prog 52 8:=⟨by kernel_rfl⟩
instance tu_52:TU Tryz.prog 52 (.int .i64):=⟨by kernel_rfl⟩
instance tz_55:TZ Tryz.prog 55 [Value.slice none 0 0]:=⟨by kernel_rfl⟩
instance ts_55:TS Tryz.prog 55 1:=⟨by kernel_rfl⟩
instance tg_55:TG Tryz.prog 55 false:=⟨by kernel_rfl⟩
instance tb_55:TB Tryz.prog 55 24:=⟨by kernel_rfl⟩
instance te_55:TE Tryz.prog 55 (35,3):=⟨by kernel_rfl⟩
instance tz_57:TZ Tryz.prog 57 [Value.slice none 0 0,Value.slice none 0 0]:=⟨by kernel_rfl⟩
instance ts_57:TS Tryz.prog 57 2:=⟨by kernel_rfl⟩
instance tg_57:TG Tryz.prog 57 true:=⟨by kernel_rfl⟩
instance tb_57:TB Tryz.prog 57 48:=⟨by kernel_rfl⟩
instance tp_57:TP Tryz.prog 57 [(0,1),(1,1)]:=⟨by kernel_rfl⟩
instance tf_57_0:TF Tryz.prog 57 0 (0,1):=⟨by kernel_rfl⟩
instance tga_57_0:TA Tryz.prog 57 0 false:=⟨by kernel_rfl⟩
instance tf_57_1:TF Tryz.prog 57 1 (1,1):=⟨by kernel_rfl⟩
instance tga_57_1:TA Tryz.prog 57 1 false:=⟨by kernel_rfl⟩
instance tz_65:TZ Tryz.prog 65 [Value.slice none 0 0]:=⟨by kernel_rfl⟩
instance ts_65:TS Tryz.prog 65 1:=⟨by kernel_rfl⟩
instance tg_65:TG Tryz.prog 65 false:=⟨by kernel_rfl⟩
instance tb_65:TB Tryz.prog 65 24:=⟨by kernel_rfl⟩
instance te_65:TE Tryz.prog 65 (42,4):=⟨by kernel_rfl⟩
instance tz_66:TZ Tryz.prog 66 [Value.slice none 0 0]:=⟨by kernel_rfl⟩
instance ts_66:TS Tryz.prog 66 1:=⟨by kernel_rfl⟩
instance tg_66:TG Tryz.prog 66 false:=⟨by kernel_rfl⟩
instance tb_66:TB Tryz.prog 66 24:=⟨by kernel_rfl⟩
instance te_66:TE Tryz.prog 66 (42,4):=⟨by kernel_rfl⟩
instance ts_75:TS Tryz.prog 75 19:=⟨by kernel_rfl⟩
instance tg_75:TG Tryz.prog 75 true:=⟨by kernel_rfl⟩
instance tb_75:TB Tryz.prog 75 160:=⟨by kernel_rfl⟩
instance tp_75:TP Tryz.prog 75 [(0,1),(1,6),(7,1),(8,1),(9,1),(10,1),(11,1),(12,1),(13,3),(16,3)]:=⟨by kernel_rfl⟩
instance tf_75_0:TF Tryz.prog 75 0 (0,1):=⟨by kernel_rfl⟩
instance tga_75_0:TA Tryz.prog 75 0 false:=⟨by kernel_rfl⟩
instance tf_75_1:TF Tryz.prog 75 1 (1,6):=⟨by kernel_rfl⟩
instance tga_75_1:TA Tryz.prog 75 1 true:=⟨by kernel_rfl⟩
instance tf_75_2:TF Tryz.prog 75 2 (7,1):=⟨by kernel_rfl⟩
instance tga_75_2:TA Tryz.prog 75 2 false:=⟨by kernel_rfl⟩
instance tf_75_3:TF Tryz.prog 75 3 (8,1):=⟨by kernel_rfl⟩
instance tga_75_3:TA Tryz.prog 75 3 false:=⟨by kernel_rfl⟩
instance tf_75_4:TF Tryz.prog 75 4 (9,1):=⟨by kernel_rfl⟩
instance tga_75_4:TA Tryz.prog 75 4 false:=⟨by kernel_rfl⟩
instance tf_75_5:TF Tryz.prog 75 5 (10,1):=⟨by kernel_rfl⟩
instance tga_75_5:TA Tryz.prog 75 5 false:=⟨by kernel_rfl⟩
instance tf_75_6:TF Tryz.prog 75 6 (11,1):=⟨by kernel_rfl⟩
instance tga_75_6:TA Tryz.prog 75 6 false:=⟨by kernel_rfl⟩
instance tf_75_7:TF Tryz.prog 75 7 (12,1):=⟨by kernel_rfl⟩
instance tga_75_7:TA Tryz.prog 75 7 false:=⟨by kernel_rfl⟩
instance tf_75_8:TF Tryz.prog 75 8 (13,3):=⟨by kernel_rfl⟩
instance tga_75_8:TA Tryz.prog 75 8 true:=⟨by kernel_rfl⟩
instance tf_75_9:TF Tryz.prog 75 9 (16,3):=⟨by kernel_rfl⟩
instance tga_75_9:TA Tryz.prog 75 9 true:=⟨by kernel_rfl⟩
instance tz_77:TZ Tryz.prog 77 [Value.slice none 0 0,Value.bool false,Value.bool false,Value.int IntKind.i64 0,Value.slice none 0 0,Value.int IntKind.i64 0,Value.slice none 0 0,Value.int IntKind.i64 0,Value.slice none 0 0,Value.int IntKind.i64 0,Value.slice none 0 0]:=⟨by kernel_rfl⟩
instance ts_77:TS Tryz.prog 77 11:=⟨by kernel_rfl⟩
instance tg_77:TG Tryz.prog 77 true:=⟨by kernel_rfl⟩
instance tb_77:TB Tryz.prog 77 160:=⟨by kernel_rfl⟩
instance tp_77:TP Tryz.prog 77 [(0,1),(1,1),(2,1),(3,4),(7,4)]:=⟨by kernel_rfl⟩
instance tf_77_0:TF Tryz.prog 77 0 (0,1):=⟨by kernel_rfl⟩
instance tga_77_0:TA Tryz.prog 77 0 false:=⟨by kernel_rfl⟩
instance tf_77_1:TF Tryz.prog 77 1 (1,1):=⟨by kernel_rfl⟩
instance tga_77_1:TA Tryz.prog 77 1 false:=⟨by kernel_rfl⟩
instance tf_77_2:TF Tryz.prog 77 2 (2,1):=⟨by kernel_rfl⟩
instance tga_77_2:TA Tryz.prog 77 2 false:=⟨by kernel_rfl⟩
instance tf_77_3:TF Tryz.prog 77 3 (3,4):=⟨by kernel_rfl⟩
instance tga_77_3:TA Tryz.prog 77 3 true:=⟨by kernel_rfl⟩
instance tf_77_4:TF Tryz.prog 77 4 (7,4):=⟨by kernel_rfl⟩
instance tga_77_4:TA Tryz.prog 77 4 true:=⟨by kernel_rfl⟩
instance tz_102:TZ Tryz.prog 102 [Value.slice none 0 0,Value.slice none 0 0]:=⟨by kernel_rfl⟩
instance ts_102:TS Tryz.prog 102 2:=⟨by kernel_rfl⟩
instance tg_102:TG Tryz.prog 102 true:=⟨by kernel_rfl⟩
instance tb_102:TB Tryz.prog 102 48:=⟨by kernel_rfl⟩
instance tp_102:TP Tryz.prog 102 [(0,1),(1,1)]:=⟨by kernel_rfl⟩
instance tf_102_0:TF Tryz.prog 102 0 (0,1):=⟨by kernel_rfl⟩
instance tga_102_0:TA Tryz.prog 102 0 false:=⟨by kernel_rfl⟩
instance tf_102_1:TF Tryz.prog 102 1 (1,1):=⟨by kernel_rfl⟩
instance tga_102_1:TA Tryz.prog 102 1 false:=⟨by kernel_rfl⟩
instance tz_122:TZ Tryz.prog 122 [Value.slice none 0 0,Value.slice none 0 0]:=⟨by kernel_rfl⟩
instance ts_122:TS Tryz.prog 122 2:=⟨by kernel_rfl⟩
instance tg_122:TG Tryz.prog 122 true:=⟨by kernel_rfl⟩
instance tb_122:TB Tryz.prog 122 48:=⟨by kernel_rfl⟩
instance tp_122:TP Tryz.prog 122 [(0,1),(1,1)]:=⟨by kernel_rfl⟩
instance tf_122_0:TF Tryz.prog 122 0 (0,1):=⟨by kernel_rfl⟩
instance tga_122_0:TA Tryz.prog 122 0 false:=⟨by kernel_rfl⟩
instance tf_122_1:TF Tryz.prog 122 1 (1,1):=⟨by kernel_rfl⟩
instance tga_122_1:TA Tryz.prog 122 1 false:=⟨by kernel_rfl⟩
instance tz_128:TZ Tryz.prog 128 [Value.slice none 0 0]:=⟨by kernel_rfl⟩
instance ts_128:TS Tryz.prog 128 1:=⟨by kernel_rfl⟩
instance tg_128:TG Tryz.prog 128 false:=⟨by kernel_rfl⟩
instance tb_128:TB Tryz.prog 128 24:=⟨by kernel_rfl⟩
instance te_128:TE Tryz.prog 128 (57,2):=⟨by kernel_rfl⟩
instance tz_139:TZ Tryz.prog 139 [Value.nilFunc]:=⟨by kernel_rfl⟩
instance ts_139:TS Tryz.prog 139 1:=⟨by kernel_rfl⟩
instance tg_139:TG Tryz.prog 139 false:=⟨by kernel_rfl⟩
instance tb_139:TB Tryz.prog 139 8:=⟨by kernel_rfl⟩
instance tz_150:TZ Tryz.prog 150 [Value.slice none 0 0,Value.bool false,Value.bool false,Value.slice none 0 0,Value.bool false,Value.slice none 0 0,Value.slice none 0 0,Value.bool false,Value.slice none 0 0,Value.slice none 0 0,Value.slice none 0 0,Value.slice none 0 0,Value.bool false,Value.slice none 0 0,Value.slice none 0 0,Value.slice none 0 0]:=⟨by kernel_rfl⟩
instance ts_150:TS Tryz.prog 150 16:=⟨by kernel_rfl⟩
instance tg_150:TG Tryz.prog 150 true:=⟨by kernel_rfl⟩
instance tb_150:TB Tryz.prog 150 296:=⟨by kernel_rfl⟩
instance tp_150:TP Tryz.prog 150 [(0,9),(9,1),(10,1),(11,3),(14,1),(15,1)]:=⟨by kernel_rfl⟩
instance tf_150_0:TF Tryz.prog 150 0 (0,9):=⟨by kernel_rfl⟩
instance tga_150_0:TA Tryz.prog 150 0 true:=⟨by kernel_rfl⟩
instance tf_150_1:TF Tryz.prog 150 1 (9,1):=⟨by kernel_rfl⟩
instance tga_150_1:TA Tryz.prog 150 1 false:=⟨by kernel_rfl⟩
instance tf_150_2:TF Tryz.prog 150 2 (10,1):=⟨by kernel_rfl⟩
instance tga_150_2:TA Tryz.prog 150 2 false:=⟨by kernel_rfl⟩
instance tf_150_3:TF Tryz.prog 150 3 (11,3):=⟨by kernel_rfl⟩
instance tga_150_3:TA Tryz.prog 150 3 true:=⟨by kernel_rfl⟩
instance tf_150_4:TF Tryz.prog 150 4 (14,1):=⟨by kernel_rfl⟩
instance tga_150_4:TA Tryz.prog 150 4 false:=⟨by kernel_rfl⟩
instance tf_150_5:TF Tryz.prog 150 5 (15,1):=⟨by kernel_rfl⟩
instance tga_150_5:TA Tryz.prog 150 5 false:=⟨by kernel_rfl⟩
instance tz_151:TZ Tryz.prog 151 [Value.nilFunc]:=⟨by kernel_rfl⟩
instance ts_151:TS Tryz.prog 151 1:=⟨by kernel_rfl⟩
instance tg_151:TG Tryz.prog 151 false:=⟨by kernel_rfl⟩
instance tb_151:TB Tryz.prog 151 8:=⟨by kernel_rfl⟩
instance tz_157:TZ Tryz.prog 157 [Value.nilFunc]:=⟨by kernel_rfl⟩
instance ts_157:TS Tryz.prog 157 1:=⟨by kernel_rfl⟩
instance tg_157:TG Tryz.prog 157 false:=⟨by kernel_rfl⟩
instance tb_157:TB Tryz.prog 157 8:=⟨by kernel_rfl⟩
instance tz_159:TZ Tryz.prog 159 [Value.nilFunc]:=⟨by kernel_rfl⟩
instance ts_159:TS Tryz.prog 159 1:=⟨by kernel_rfl⟩
instance tg_159:TG Tryz.prog 159 false:=⟨by kernel_rfl⟩
instance tb_159:TB Tryz.prog 159 8:=⟨by kernel_rfl⟩
instance tz_199:TZ Tryz.prog 199 [Value.pointer none]:=⟨by kernel_rfl⟩
instance ts_199:TS Tryz.prog 199 1:=⟨by kernel_rfl⟩
instance tg_199:TG Tryz.prog 199 false:=⟨by kernel_rfl⟩
instance tb_199:TB Tryz.prog 199 8:=⟨by kernel_rfl⟩
instance tz_220:TZ Tryz.prog 220 [Value.pointer none]:=⟨by kernel_rfl⟩
instance ts_220:TS Tryz.prog 220 1:=⟨by kernel_rfl⟩
instance tg_220:TG Tryz.prog 220 false:=⟨by kernel_rfl⟩
instance tb_220:TB Tryz.prog 220 8:=⟨by kernel_rfl⟩
instance tz_221:TZ Tryz.prog 221 [Value.slice none 0 0]:=⟨by kernel_rfl⟩
instance ts_221:TS Tryz.prog 221 1:=⟨by kernel_rfl⟩
instance tg_221:TG Tryz.prog 221 false:=⟨by kernel_rfl⟩
instance tb_221:TB Tryz.prog 221 24:=⟨by kernel_rfl⟩
instance te_221:TE Tryz.prog 221 (5,1):=⟨by kernel_rfl⟩
instance tz_223:TZ Tryz.prog 223 [Value.pointer none,Value.slice none 0 0]:=⟨by kernel_rfl⟩
instance ts_223:TS Tryz.prog 223 2:=⟨by kernel_rfl⟩
instance tg_223:TG Tryz.prog 223 true:=⟨by kernel_rfl⟩
instance tb_223:TB Tryz.prog 223 32:=⟨by kernel_rfl⟩
instance tp_223:TP Tryz.prog 223 [(0,1),(1,1)]:=⟨by kernel_rfl⟩
instance tf_223_0:TF Tryz.prog 223 0 (0,1):=⟨by kernel_rfl⟩
instance tga_223_0:TA Tryz.prog 223 0 false:=⟨by kernel_rfl⟩
instance tf_223_1:TF Tryz.prog 223 1 (1,1):=⟨by kernel_rfl⟩
instance tga_223_1:TA Tryz.prog 223 1 false:=⟨by kernel_rfl⟩
instance tz_230:TZ Tryz.prog 230 [Value.nilFunc]:=⟨by kernel_rfl⟩
instance ts_230:TS Tryz.prog 230 1:=⟨by kernel_rfl⟩
instance tg_230:TG Tryz.prog 230 false:=⟨by kernel_rfl⟩
instance tb_230:TB Tryz.prog 230 8:=⟨by kernel_rfl⟩
instance tz_235:TZ Tryz.prog 235 [Value.int IntKind.u64 0]:=⟨by kernel_rfl⟩
instance ts_235:TS Tryz.prog 235 1:=⟨by kernel_rfl⟩
instance tg_235:TG Tryz.prog 235 false:=⟨by kernel_rfl⟩
instance tb_235:TB Tryz.prog 235 8:=⟨by kernel_rfl⟩
instance tu_235:TU Tryz.prog 235 (.int .u64):=⟨by kernel_rfl⟩
instance tz_236:TZ Tryz.prog 236 [Value.int IntKind.u32 0]:=⟨by kernel_rfl⟩
instance ts_236:TS Tryz.prog 236 1:=⟨by kernel_rfl⟩
instance tg_236:TG Tryz.prog 236 false:=⟨by kernel_rfl⟩
instance tb_236:TB Tryz.prog 236 4:=⟨by kernel_rfl⟩
instance tu_236:TU Tryz.prog 236 (.int .u32):=⟨by kernel_rfl⟩
instance tz_261:TZ Tryz.prog 261 [Value.slice none 0 0]:=⟨by kernel_rfl⟩
instance ts_261:TS Tryz.prog 261 1:=⟨by kernel_rfl⟩
instance tg_261:TG Tryz.prog 261 false:=⟨by kernel_rfl⟩
instance tb_261:TB Tryz.prog 261 24:=⟨by kernel_rfl⟩
instance te_261:TE Tryz.prog 261 (55,1):=⟨by kernel_rfl⟩
instance tz_263:TZ Tryz.prog 263 [Value.slice none 0 0,Value.slice none 0 0,Value.int IntKind.i64 0]:=⟨by kernel_rfl⟩
instance ts_263:TS Tryz.prog 263 3:=⟨by kernel_rfl⟩
instance tg_263:TG Tryz.prog 263 true:=⟨by kernel_rfl⟩
instance tb_263:TB Tryz.prog 263 56:=⟨by kernel_rfl⟩
instance tp_263:TP Tryz.prog 263 [(0,1),(1,1),(2,1)]:=⟨by kernel_rfl⟩
instance tf_263_0:TF Tryz.prog 263 0 (0,1):=⟨by kernel_rfl⟩
instance tga_263_0:TA Tryz.prog 263 0 false:=⟨by kernel_rfl⟩
instance tf_263_1:TF Tryz.prog 263 1 (1,1):=⟨by kernel_rfl⟩
instance tga_263_1:TA Tryz.prog 263 1 false:=⟨by kernel_rfl⟩
instance tf_263_2:TF Tryz.prog 263 2 (2,1):=⟨by kernel_rfl⟩
instance tga_263_2:TA Tryz.prog 263 2 false:=⟨by kernel_rfl⟩
instance tz_266:TZ Tryz.prog 266 [Value.nilFunc]:=⟨by kernel_rfl⟩
instance ts_266:TS Tryz.prog 266 1:=⟨by kernel_rfl⟩
instance tg_266:TG Tryz.prog 266 false:=⟨by kernel_rfl⟩
instance tb_266:TB Tryz.prog 266 8:=⟨by kernel_rfl⟩
instance tz_288:TZ Tryz.prog 288 [Value.pointer none]:=⟨by kernel_rfl⟩
instance ts_288:TS Tryz.prog 288 1:=⟨by kernel_rfl⟩
instance tg_288:TG Tryz.prog 288 false:=⟨by kernel_rfl⟩
instance tb_288:TB Tryz.prog 288 8:=⟨by kernel_rfl⟩
instance tz_293:TZ Tryz.prog 293 [Value.nilFunc]:=⟨by kernel_rfl⟩
instance ts_293:TS Tryz.prog 293 1:=⟨by kernel_rfl⟩
instance tg_293:TG Tryz.prog 293 false:=⟨by kernel_rfl⟩
instance tb_293:TB Tryz.prog 293 8:=⟨by kernel_rfl⟩
instance tz_303:TZ Tryz.prog 303 [Value.slice none 0 0]:=⟨by kernel_rfl⟩
instance ts_303:TS Tryz.prog 303 1:=⟨by kernel_rfl⟩
instance tg_303:TG Tryz.prog 303 false:=⟨by kernel_rfl⟩
instance tb_303:TB Tryz.prog 303 24:=⟨by kernel_rfl⟩
instance te_303:TE Tryz.prog 303 (66,1):=⟨by kernel_rfl⟩
instance tz_323:TZ Tryz.prog 323 [Value.pointer none]:=⟨by kernel_rfl⟩
instance ts_323:TS Tryz.prog 323 1:=⟨by kernel_rfl⟩
instance tg_323:TG Tryz.prog 323 false:=⟨by kernel_rfl⟩
instance tb_323:TB Tryz.prog 323 8:=⟨by kernel_rfl⟩
instance ts_337:TS Tryz.prog 337 24:=⟨by kernel_rfl⟩
instance tg_337:TG Tryz.prog 337 true:=⟨by kernel_rfl⟩
instance tb_337:TB Tryz.prog 337 24:=⟨by kernel_rfl⟩
theorem rA_(l:List Nat):FSpec Tryz.prog 169 [.agg [.arr (dE l)]] (bln (l.length==0)):=by
 refine f_n Tryz.func169 ?_ ?_
 exact aa_ (ao_ (aa_ (bJ_ l) ab_)) ab_
 refine r_z 2 ?_
 refine r_z 5 ?_
 refine ag_ (aS_ rfl ?_ (ad_ _))
 simp only[bln,i7_]
 congr 2
 rw[Bool.eq_iff_iff];simp
theorem dU_(l:List Nat)(hl:l.length≤281474976710656):FSpec Tryz.prog 182 [.arr (dE l)] (.agg [.arr (dE (trimD l))]):=by
 refine f_n Tryz.func182 ?_ ?_
 exact aa_ (bJ_ l) ab_
 refine r_z 1 ?_
 refine r_z 3 ?_
 refine a2_ (fun k:Nat=>⟨[(0,.arr (dE l)),(2,.lptr 1 0 0),(3,i64 k)],[(1,some ⟨31,1,[[.emp]]⟩)],2,23⟩) (fun k=>k≤l.length∧trimD l=l.take k) ?_ ?_
 refine ah_ (aw_ (fun k:Nat=>⟨[(0,.arr (dE l)),(2,.lptr 1 0 0),(3,i64 k)],[(1,some ⟨31,1,[[.emp]]⟩)],2,23⟩) (fun k=>k) (fun k=>k≤l.length∧∀i,k≤i→i< l.length→l[i]?=some 0) l.length ⟨Nat.le_refl _,fun i h1 h2=>by omega⟩ ?_ ?_)
 exact s_e []
 rintro k ⟨hk,hz⟩
 have fin:k=0∨l[k- 1]?≠some 0→trimD l=l.take k:=fG_ l k hk hz
 by_cases h0:k=0
 subst h0
 refine ac_ (s_r 10 ?_)
 refine a_3 ?_
 refine n_g rfl d_f ?_
 refine n_g rfl d_f ?_
 refine n_g rfl d_f ?_
 refine n_g rfl d_f ?_
 refine n_g rfl d_f ?_
 refine n_g rfl d_f ?_
 refine o_0 (.pickF rfl d_f rfl) ?_
 refine ak_ ?_
 refine aj_ rfl (fun h=>?_) (fun _=>?_)
 cases h
 refine av_ ⟨0,⟨hk,fin (.inl rfl)⟩,?_⟩
 exact s_e []
 have hk1:k- 1< l.length:=by omega
 obtain⟨d,hd⟩:∃d,l[k- 1]?=some d:=⟨_,List.getElem?_eq_getElem hk1⟩
 have hd':(dE l)[((k:Int)- 1).toNat]?=some [u32 d]:=by rw[show((k:Int)- 1).toNat=k- 1 by omega];exact ct_ hd
 refine ac_ (s_r 10 ?_)
 refine a_3 ?_
 refine y_g rfl d_t (.move rfl) ?_
 refine y_g rfl d_t (.move rfl) ?_
 refine y_g rfl d_t (.bin rfl rfl (h9_ (by omega))) ?_
 first|refine y_g rfl d_t (.index_l rfl rfl (by omega) (by omega) te_29.h) ?_|refine y_g rfl d_t (.index_a rfl rfl (by omega) hd' rfl te_29.h) ?_
 first|refine y_g rfl d_t (.load_l1 rfl rfl hd' tg_236.h rfl) ?_|refine y_g rfl d_t (.load_a1 rfl hd' tg_236.h rfl) ?_
 refine y_g rfl d_t (.bin rfl rfl bq_) ?_
 refine o_0 (.pickT rfl d_t rfl) ?_
 refine ak_ ?_
 refine aj_ rfl (fun h=>?_) (fun h=>?_)
 refine ai_ ?_
 have hd0:d=0:=by simpa using h
 subst hd0
 refine ah_ (r_m 3 ?_)
 refine a_z ?_
 refine⟨k- 1,by omega,⟨by omega,fun i h1 h2=>?_⟩,?_⟩
 by_cases hi:i=k- 1
 rw[hi];exact hd
 exact hz i (by omega) h2
 exact s_e []
 refine av_ ⟨k,⟨hk,fin (.inr ?_)⟩,?_⟩
 rw[hd];simp at h⊢;omega
 exact s_e []
 rintro k ⟨hk,ht⟩
 refine s_r 6 ?_
 refine a_3 ?_
 refine o_0 (.sa_hm rfl rfl rfl rfl rfl ⟨Nat.le_refl _,by simpa using hk⟩ te_29.h (n9_ l)) ?_
 refine a_z ?_
 refine ag_ (b7_ rfl rfl rfl tg_31.h ts_31.h (nle rfl) ?_ (ao_ (aa_ (bJ_ _) ab_)))
 rw[ht,←st_]
 rfl
theorem jY_(z:Int):FSpec Tryz.prog 247 [i64 z] (bln false):=by
 refine f_n Tryz.func247 ?_ ?_
 exact aa_ (ad_ _) ab_
 refine r_z 1 ?_
 refine r_z 4 ?_
 refine ag_ (aS_ rfl ?_ (ad_ _))
 simp[bln]
theorem jX_(z:Nat):FSpec Tryz.prog 248 [u32 z] (bln false):=by
 refine f_n Tryz.func248 ?_ ?_
 exact aa_ (ad_ _) ab_
 refine r_z 1 ?_
 refine r_z 4 ?_
 refine ag_ (aS_ rfl ?_ (ad_ _))
 simp[bln]
theorem mM_(a b:Int):FSpec Tryz.prog 190 [i64 a,i64 b] (i64 (cmpZ a b)):=by
 refine f_n Tryz.func190 ?_ ?_
 exact aa_ (ad_ _) (aa_ (ad_ _) ab_)
 refine r_z 1 ?_
 refine r_c 3 (jY_ a) ?_
 refine a_z ?_
 refine r_c 3 (jY_ b) ?_
 refine a_z ?_
 refine ac_ (r_z 1 ?_)
 refine aj_ rfl (fun h=>?_) (fun _=>ai_ ?_)
 cases h
 refine ac_ (r_z 1 ?_)
 refine aj_ rfl (fun h=>?_) (fun _=>ai_ ?_)
 cases h
 refine ac_ (r_z 3 ?_)
 refine aj_ rfl (fun h=>?_) (fun h=>ai_ ?_)
 refine r_z 1 ?_
 refine ag_ (aS_ rfl ?_ (ad_ _))
 simp at h;simp[i64,ofV,cmpZ,h]
 refine ac_ (r_z 3 ?_)
 refine aj_ rfl (fun h'=>?_) (fun h'=>ai_ ?_)
 refine r_z 1 ?_
 refine ag_ (aS_ rfl ?_ (ad_ _))
 simp at h h';simp[i64,ofV,cmpZ];omega
 refine r_z 1 ?_
 refine ag_ (aS_ rfl ?_ (ad_ _))
 simp at h h';simp[i64,ofV,cmpZ];omega
theorem mL_(a b:Nat):FSpec Tryz.prog 191 [u32 a,u32 b] (i64 (cmpZ a b)):=by
 refine f_n Tryz.func191 ?_ ?_
 exact aa_ (ad_ _) (aa_ (ad_ _) ab_)
 refine r_z 1 ?_
 refine r_c 3 (jX_ a) ?_
 refine a_z ?_
 refine r_c 3 (jX_ b) ?_
 refine a_z ?_
 refine ac_ (r_z 1 ?_)
 refine aj_ rfl (fun h=>?_) (fun _=>ai_ ?_)
 cases h
 refine ac_ (r_z 1 ?_)
 refine aj_ rfl (fun h=>?_) (fun _=>ai_ ?_)
 cases h
 refine ac_ (r_z 3 ?_)
 refine aj_ rfl (fun h=>?_) (fun h=>ai_ ?_)
 refine r_z 1 ?_
 refine ag_ (aS_ rfl ?_ (ad_ _))
 simp at h;simp[i64,ofV,cmpZ,h]
 refine ac_ (r_z 3 ?_)
 refine aj_ rfl (fun h'=>?_) (fun h'=>ai_ ?_)
 refine r_z 1 ?_
 refine ag_ (aS_ rfl ?_ (ad_ _))
 simp at h h';simp[i64,ofV,cmpZ];omega
 refine r_z 1 ?_
 refine ag_ (aS_ rfl ?_ (ad_ _))
 simp at h h';simp[i64,ofV,cmpZ];omega
theorem digs_one{n:Nat}:(digs MB n).length=1∧(digs MB n)[0]?=some 1↔n=1:=by
 constructor
 rintro⟨h1,h2⟩
 have:=a8_ (b:=MB) (by decide) n
 match hd:digs MB n,h1,h2 with
 |[d],_,h2=>rw[hd] at this;simp at h2;subst h2;simpa[ofD] using this.symm
 rintro rfl
 rw[cY_ (by decide) (by decide)]
 rw[show 1/ MB=0 by decide,by_];simp
theorem fs_one(n:Nat):FSpec Tryz.prog 177 [.agg [mag n]] (bln (n==1)):=by
 refine f_n Tryz.func177 ?_ ?_
 exact aa_ (ao_ (aa_ (aT_ n) ab_)) ab_
 refine r_z 2 ?_
 by_cases h1:(digs MB n).length=1
 obtain⟨d,hd⟩:∃d,(digs MB n)[0]?=some d:=⟨_,List.getElem?_eq_getElem (by omega)⟩
 have hd':(dE (digs MB n))[(0:Int).toNat]?=some [u32 d]:=ct_ hd
 refine s_r 12 ?_
 refine a_5 ?_
 first|refine y_g rfl (by simp;omega) (.fieldAddr_l rfl tf_31_0.h (by decide)) ?_|refine y_g rfl (by simp;omega) (.fieldAddr_a rfl tf_31_0.h (by decide)) ?_
 first|refine y_g rfl (by simp;omega) (.load_l1 rfl rfl rfl tg_29.h rfl) ?_|refine y_g rfl (by simp;omega) (.load_a1 rfl rfl tg_29.h rfl) ?_
 first|refine y_g rfl (by simp;omega) (.index_l rfl rfl (by omega) (by omega) te_29.h) ?_|refine y_g rfl (by simp;omega) (.index_a rfl rfl (by omega) hd' rfl te_29.h) ?_
 first|refine y_g rfl (by simp;omega) (.load_l1 rfl rfl hd' tg_236.h rfl) ?_|refine y_g rfl (by simp;omega) (.load_a1 rfl hd' tg_236.h rfl) ?_
 refine y_g rfl (by simp;omega) (.bin rfl rfl bq_) ?_
 refine o_0 (.pickT rfl (by simp;omega) rfl) ?_
 refine a_z ?_
 refine ag_ (aS_ rfl ?_ (ad_ _))
 simp only[bln]
 congr 2
 rw[Bool.eq_iff_iff]
 have:=digs_one (n:=n)
 simp only[h1,hd,true_and,Option.some.injEq] at this
 simp only[beq_iff_eq,←this]
 omega
 refine s_r 12 ?_
 refine a_5 ?_
 refine n_g rfl (by simp;omega) ?_
 refine n_g rfl (by simp;omega) ?_
 refine n_g rfl (by simp;omega) ?_
 refine n_g rfl (by simp;omega) ?_
 refine n_g rfl (by simp;omega) ?_
 refine o_0 (.pickF rfl (by simp;omega) rfl) ?_
 refine a_z ?_
 refine ag_ (aS_ rfl ?_ (ad_ _))
 simp only[bln,ofV]
 congr 2
 symm
 rw[beq_eq_false_iff_ne]
 intro h
 exact h1 (digs_one.2 h).1
def on_(n:Nat):Nat→AState
 |0=>⟨[(0,u64 n),(2,.lptr 1 0 0),(3,.emp)],[(1,some ⟨31,1,[[.emp]]⟩)],2,16⟩
 |k+1=>⟨[(0,u64 (restD n (k+1))),(2,.lptr 1 0 0),(3,.lsl 2 0 (k+1) none 1)],[(1,some ⟨31,1,[[.emp]]⟩),(2,some ⟨236,1,dE (preD n (k+1))⟩)],3,16⟩
theorem f8_(n:Nat):on_ n 0=⟨[(0,u64 n),(2,.lptr 1 0 0),(3,.emp)],[(1,some ⟨31,1,[[.emp]]⟩)],2,16⟩:=rfl
theorem dY_(n k:Nat):on_ n (k+1)=⟨[(0,u64 (restD n (k+1))),(2,.lptr 1 0 0),(3,.lsl 2 0 (k+1) none 1)],[(1,some ⟨31,1,[[.emp]]⟩),(2,some ⟨236,1,dE (preD n (k+1))⟩)],3,16⟩:=rfl
theorem ep_(n:Nat)(h:n< 18446744073709551616):FSpec Tryz.prog 180 [u64 n] (.agg [mag n]):=by
 have hlen:(digs MB n).length≤3:=cT_ (by decide) (Nat.lt_of_lt_of_le h (by decide))
 refine f_n Tryz.func180 ?_ ?_
 exact aa_ (ad_ _) ab_
 refine r_z 1 ?_
 refine r_z 1 ?_
 refine a2_ (on_ n) (fun k=>k=(digs MB n).length) ?_ ?_
 refine ah_ (aw_ (on_ n) (fun k=>(digs MB n).length- k) (fun k=>k≤(digs MB n).length) 0 (Nat.zero_le _) ?_ ?_)
 rw[f8_]
 exact s_e []
 rintro k hk
 have hle:=restD_le hk
 have hz:=restD_eq hk
 have hpl:=gb_ hk
 cases k with
 |zero=>
  rw[jE_] at hz
  refine ac_ (r_z 2 ?_)
  refine aj_ rfl (fun h=>?_) (fun h=>?_)
  refine ai_ ?_
  have h0:0< n:=by simpa using h
  have hl1:0< (digs MB n).length:=by omega
  obtain⟨hq,ht⟩:=jF_ hl1
  rw[jE_] at hq ht
  refine ac_ (ah_ (r_m 7 ?_))
  refine a_z ?_
  refine r_m 3 ?_
  refine a_z ?_
  refine⟨1,by omega,hl1,?_⟩
  rw[dY_]
  refine at_ [(2,3)] rfl rfl rfl ?_ (fun hs=>?_) (fun hs=>?_)
  ·repeat' (first|exact ShrL.nil|refine ShrL.cons rfl rfl rfl rfl (by first|rfl|(simp;done)|(simp[hq,ht,d2_]<;> omega)) ?_)
  ·repeat' (first|exact aK_|refine aE_ rfl ?_ ?_)
   all_goals (first|exact au_c|(refine Cv.loE hs ?_ (ad_ _);first|rfl|(simp[i64,u64,u32,bln,hq,ht,d2_];done)|(simp[i64,u64,u32,bln,hq,ht,d2_]<;> omega)))
  ·repeat' (first|exact aq_|refine al_ rfl rfl rfl rfl ?_ ?_)
   all_goals (first|exact au_e|(refine aH_ hs ?_ (a4_ _);first|(simp[eu_,fs_,dF_,hq,ht,d2_];done)|(simp[dE,u32,ofV,hq,ht,d2_];done))|(refine ae_ ?_;repeat' (first|exact ap_|refine af_ ?_ ?_)))
   all_goals (first|exact au_c|(refine Cv.loE hs ?_ (ad_ _);first|(simp[i64,u64,u32,bln,hq,ht,d2_];done)|(simp[i64,u64,u32,bln,hq,ht,d2_]<;> omega)))
  refine av_ ⟨0,?_,?_⟩
  have:¬0< n:=by simpa using h
  omega
  rw[f8_]
  exact s_e []
 |succ k=>
  rw[dY_]
  refine ac_ (r_z 2 ?_)
  refine aj_ rfl (fun h=>?_) (fun h=>?_)
  refine ai_ ?_
  have h0:0< restD n (k+1):=by simpa using h
  have hl1:k+1< (digs MB n).length:=by omega
  obtain⟨hq,ht⟩:=jF_ hl1
  refine ac_ (ah_ (r_m 7 ?_))
  refine a_z ?_
  refine r_m 3 ?_
  refine a_z ?_
  refine⟨k+1+1,by omega,hl1,?_⟩
  rw[dY_]
  refine at_ [(2,3)] rfl rfl rfl ?_ (fun hs=>?_) (fun hs=>?_)
  ·repeat' (first|exact ShrL.nil|refine ShrL.cons rfl rfl rfl rfl (by first|rfl|(simp;done)|(simp[hq,ht,hpl]<;> omega)) ?_)
  ·repeat' (first|exact aK_|refine aE_ rfl ?_ ?_)
   all_goals (first|exact au_c|(refine Cv.loE hs ?_ (ad_ _);first|rfl|(simp[i64,u64,u32,bln,hq,ht,hpl];done)|(simp[i64,u64,u32,bln,hq,ht,hpl]<;> omega)))
  ·repeat' (first|exact aq_|refine al_ rfl rfl rfl rfl ?_ ?_)
   all_goals (first|exact au_e|(refine aH_ hs ?_ (a4_ _);first|(simp[eu_,fs_,dF_,hq,ht,hpl];done)|(simp[dE,u32,ofV,hq,ht,hpl];done))|(refine ae_ ?_;repeat' (first|exact ap_|refine af_ ?_ ?_)))
   all_goals (first|exact au_c|(refine Cv.loE hs ?_ (ad_ _);first|(simp[i64,u64,u32,bln,hq,ht,hpl];done)|(simp[i64,u64,u32,bln,hq,ht,hpl]<;> omega)))
  refine av_ ⟨k+1,?_,?_⟩
  have:¬0< restD n (k+1):=by simpa using h
  omega
  rw[dY_]
  exact s_e []
 rintro k rfl
 cases hk:(digs MB n).length with
 |zero=>
  rw[f8_]
  refine r_z 3 ?_
  refine ag_ (Fin.cell rfl rfl rfl tg_31.h ts_31.h (nle rfl) (Cv.agg (af_ (Cv.emp _ ?_) ap_)))
  unfold mag
  rw[List.length_eq_zero_iff] at hk
  rw[hk];rfl
 |succ k=>
  rw[dY_]
  refine r_z 3 ?_
  refine ag_ (Fin.cell rfl rfl rfl tg_31.h ts_31.h (nle rfl) (Cv.agg (af_ (Cv.shut au_ rfl (fun _ _ h=>by cases h) ?_ ?_) ap_)))
  simp[gb_ (Nat.le_of_eq hk.symm)]
  refine aH_ au_ ?_ (a4_ _)
  have h1:(preD n (k+1)).length=k+1:=gb_ (Nat.le_of_eq hk.symm)
  have h2:=preD_end n
  rw[hk] at h2
  simp only[List.drop_zero,st_]
  rw[List.take_of_length_le (Nat.le_of_eq h1),h2]
end Go.Proofs.YtdjfjpeoddmamaaGreatDoor
