/- Part Y16 of the proof. -/
import Derived.Test.YtjmkjicckobojaaGreatDoorY15
import Derived.Lib.ItoaNum
set_option linter.all false
namespace Go.Abs
theorem qiN(n:Int):qs (n:Rat)<=max (bl n.natAbs) 1:=by
 have e1:(n:Rat).num=n:=rfl;have e2:(n:Rat).den=1:=rfl;unfold qs;rw[e2,jx];grind
theorem qi21{n:Int}(h: -2000000<=n/\n<=2000000):qs (n:Rat)<=21:=by
 have a:=qiN n;have b:bl n.natAbs<=21:=fx ω;omega
theorem Ca{p:Lq}{s:Nat}(h:bdL p s)(hs:1<=s)(hl:p.length<=1000000):bdL (aH p) (s+21):=λq a=>by
 obtain⟨i,g,e⟩:=u5 a;have b:=lx p;rw[<-e,dd];split;exact fo (by decide:qs 0<=1) ω;have d:=fS (coP p (i- 1)) (((i:Nat):Int):Rat);have c:=dc h hs (i- 1);have f:=qi21 (n:=((i:Nat):Int)) ω;omega
theorem KT(f:Lq):∀k,(gK f k).length<=f.length+k
 |0=>ir _
 |k+1=>by
  have a:=KT f k;have b:=mulP_line_len' (gK f k) 0 1;rw[gK];omega
section
variable {a b:Rat}{p q:Nat}(ha:qs a<=256)(hb:qs b<=256)(hp:p<=8)(hq:q<=8)
include ha in
end




section
variable {N p q:Lq}
def si(N g:Lq):Rat:=coP (md g N) (dg N- 1)
theorem vL{r:Lq}{u v:Rat}(hN:nz N)(h:∀x,ag r x=ag p x* u+ag q x* v):si N r=si N p* u+si N q* v:=by
 have b:=Er hN h;have a:=trim_iff.1 (eM (p:=md r N) (q:=ec (aW (md p N) u) (aW (md q N) v)) λx=>by rw[b,cb,aT,aT]) (dg N- 1);rw[fi,bY,bY] at a;exact a
theorem Gk(h:Eqv p q):si N p=si N q:=by unfold si;rw[Es h (λ_=>rfl)]
theorem JL{z:Lq}(hN:nz N)(h:∀x,ag p x=ag z x* ag N x+ag q x):si N p=si N q:=by
 have a:=Ku hN h;exact trim_iff.1 (eM a) _
theorem qk(hN:nz N)(h:nz p->dg p< dg N):si N p=coP p (dg N- 1):=trim_iff.1 (eM (GG hN h)) _
theorem C0{n:Nat}(h:∀i,n<=i->coP p i=0):nz p->dg p< n:=λb=>Np λa=>(cD b).1.1 (h _ a)
theorem Kz(h:nz p->dg p< dg N):∀i,dg N<=i->coP p i=0:=λi a=>by
 by_cases hz:nz p;exact(cD hz).1.2 i φ;exact trim_nil_iff.1 (OZ.1 hz) i
theorem w4:∀(p:Lq) (r:Rat) (i:Nat),coP (kJ p r) i=ag (p.drop (i+1)) r
 |[],_,i=>by rfl
 |[a],_,i=>by rw[List.drop_succ_cons,List.drop_nil];rfl
 |a::b::l,r,0=>rfl
 |a::b::l,r,i+1=>by
  show coP (kJ (b::l) r) i=_;rw[w4 (b::l) r i];rfl
theorem wP{l:Lq}(h:∀i,1<=i->coP l i=0)(x:Rat):ag l x=coP l 0:=by
 rw[eG (q:=[coP l 0]) λi=>by
  cases i with
  |zero=>rfl
  |succ i=>rw[h (i+1) ω];rfl]
 rw[aO,aS];grind
theorem rM(l:Lq)(k i:Nat):coP (l.drop k) i=coP l (k+i):=by
 unfold coP;grind
section
variable {N:Lq}(hN:nz N)(hm:aL N=1)(h1:1<=dg N)
include hN hm h1
theorem syn_top(x:Rat):coP (kJ N x) (dg N- 1)=1/\∀i,dg N<=i->coP (kJ N x) i=0:=by
 obtain⟨⟨d1,d2⟩,a⟩:=cD hN;constructor;rw[w4,show dg N- 1+1=dg N by omega,wP (λi b=>by rw[rM];grind),rM,M6,a,hm];intro i b;rw[w4,wP (λj c=>by rw[rM];grind),rM];grind
theorem Gj(x:Rat):∀k,k< dg N->si N (aG (gK [1] k) (kJ N x))=x^ k
 |0,_=>by
  obtain⟨s1,s2⟩:=syn_top hN hm h1 x;rw[Gk (q:=kJ N x) λt=>by rw[az,eP];grind,qk hN (C0 s2),s1,Nh]
 |k+1,hk=>by
  have d:=Gj x k ω
  have b:∀i,dg N<=i+1->coP (gK [1] k) i=0:=λi a=>by
   have f:=KT [1] k;unfold coP;grind
  have g:si N (gK [1] k)=0:=by
   rw[qk hN (C0 λi a=>b i ω)];grind
  have c:si N (aG (gK [1] k) N)=0:=by
   rw[JL (q:=[]) (z:=gK [1] k) hN λt=>by rw[az,aS];grind,qk hN λh=>(h (show am []=[] from rfl)).elim];rfl
  have e:=vL (N:=N) (r:=aG (gK [1] (k+1)) (kJ N x)) (p:=aG (gK [1] k) (kJ N x)) (q:=dC (aG (gK [1] k) N) (aW (gK [1] k) (ag N x))) (u:=x) (v:=1) hN λt=>by
   have:=lJ N x t;rw[az,az,cv,az,aT,eP,eP,Nr,this];grind
  have e2:=vL (N:=N) (r:=dC (aG (gK [1] k) N) (aW (gK [1] k) (ag N x))) (p:=aG (gK [1] k) N) (q:=gK [1] k) (u:=1) (v:= -ag N x) hN λt=>by
   rw[cv,aT];grind
  grind
theorem vK(x:Rat)(h:Lq):∀n,n<=dg N->si N (aG (h.take n) (kJ N x))=ag (h.take n) x
 |0,_=>by
  rw[List.take_zero,Gk (q:=[]) λt=>by rw[az,aS];grind,qk hN λh=>(h (show am []=[] from rfl)).elim];rfl
 |n+1,hn=>by
  by_cases hl:n< h.length;have a:=vK x h n ω
  rw[vL (p:=aG (h.take n) (kJ N x)) (q:=aG (gK [1] n) (kJ N x)) (u:=1) (v:=coP h n) hN λt=>by
   rw[az,az,az,gu _ _ _ hl,eP];grind,Gj hN hm h1 x n ω,gu _ _ _ hl]
  grind;rw[nk ω];have a:=vK x h n ω;rw[nk ω] at a;grind
theorem tr_syn(W:Lq)(x:Rat):trP N (aG W (kJ N x))=ag (md (aG W (aQ N)) N) x:=by
 obtain⟨a,d⟩:=eO (aG W (aQ N)) hN;have c:=Kz d;generalize md (aG W (aQ N)) N=h at *
 have b:ag h x=ag (h.take (dg N)) x/\∀t,ag h t=ag (h.take (dg N)) t:=by
  have:∀t,ag h t=ag (h.take (dg N)) t:=λt=>eG (λi=>by
   unfold coP;rw[jH,jH,Na];by_cases hi:i< dg N;rw[if_pos hi];have:=c i ω;unfold coP at this;grind) t
  grind
 rw[b.1,<-vK hN hm h1 x h (dg N) (ir _)]
 exact JL (z:=aG (bJ (aG W (aQ N)) N).1 (kJ N x)) hN λt=>by
  have:=a t;rw[az] at this;rw[az,az,az,az];grind
end
end
section
variable {N W m:Lq}
theorem qG(hN:nz N)(W:Lq):Lin (λg=>trP N (aG W g)) where
 eqv {p q} h:=(fc hN).eqv λx=>by rw[az,az,h]
 add p q:=by
  rw[<-(fc hN).add];exact(fc hN).eqv λx=>by rw[cb,az,az,az,cb];grind
 scale p k:=by
  rw[<-(fc hN).scale];exact(fc hN).eqv λx=>by rw[aT,az,az,aT];grind
theorem BS{D:Nat}(hN:nz N)(hr:∀i,i< D->coP m i=trP N (aG W (gK [1] i))){p:Lq}(h:(am p).length<=D):ofP m p=trP N (aG W p):=by
 have H:=qG hN W;unfold ofP;rw[H.ofQ hr _ _ h (ir _),qj];exact H.eqv λx=>b7 p x
theorem HT{q:Lq}(hN:nz N):trP N (aG W (aG N q))=0:=by
 rw[DN (u:=aG W q) (h:=[]) hN λx=>by rw[az,az,az,aS];grind,(fc hN).zero]
theorem wt_rule(hN:nz N)(hm:aL N=1)(h1:1<=dg N)(ht:am N=N)(hr:∀i,i< dg N->coP m i=trP N (aG W (gK [1] i))):∃z,∀x,ag W x* dvE N x=ag (tpQ N m) x+ag z x* ag N x:=by
 have b:N.length<=dg N+1:=by unfold dg;rw[ht];omega
 obtain⟨d,_⟩:=eO (aG W (aQ N)) hN;refine⟨(bJ (aG W (aQ N)) N).1,λx=>?_⟩;have c:=top_lin (qG hN W) hr N b x;have e:=tr_syn hN hm h1 W x;have a:=d x;rw[az,cC] at a;rw[c,e,a];grind
theorem len_mul{p q:Lq}{a b:Nat}(hp:(am p).length<=a+1)(hq:(am q).length<=b):(am (aG p q)).length<=a+b:=by
 rw[show am (aG p q)=am (aG (am p) (am q)) from eM λx=>by rw[az,az,b7,b7],kf];have:=jl (am p) (am q);omega
theorem LI {N' W' A B:Lq} (hN:nz N) (hm:aL N=1) (h1:1<=dg N) (ht:am N=N) (hE:Eqv N' N) (hco:∀x,ag A x* ag N x+ag B x* dvE N x=1)
    (hr:∀i,i< dg N->coP m i=trP N' (aG W (gK [1] i))) (dW:nz W->dg W< dg N) (hW':∃z,∀x,ag W' x* dvE N x=ag (tpQ N m) x+ag z x* ag N x) (dW':nz W'->dg W'< dg N):Eqv W W':=by
 have a:∀i,i< dg N->coP m i=trP N (aG W (gK [1] i)):=λi b=>by
  rw[hr i b];unfold trP;rw[L3 hE,Es (p:=aG (aG W (gK [1] i)) (aQ N')) (p':=aG (aG W (gK [1] i)) (aQ N)) (λx=>by simp only[az,cC];rw[oO hE]) hE]
 exact wt_uniq hN hco (wt_rule hN hm h1 ht a) hW' dW dW'
end
section
variable {x y:Rat}{h:Nat}
def IB(x:Rat)(h:Nat):Prop:=∃z:Int,x=(z:Rat)/\bl z.natAbs<=h
theorem IB.mono{k:Nat}(H:IB x h)(hk:h<=k):IB x k:=by obtain⟨z,e,b⟩:=H;exact⟨z,e,ω⟩
theorem IB.zero(h:Nat):IB 0 h:=⟨0,rfl,mN _⟩
theorem IB.one:IB 1 1:=⟨1,rfl,δ⟩
theorem IB.mul{k:Nat}(H:IB x h)(K:IB y k):IB (x* y) (h+k):=by
 obtain⟨z,e,b⟩:=H;obtain⟨w,c,a⟩:=K;exact⟨z* w,φ,dI b a⟩
theorem IB.add(H:IB x h)(K:IB y h):IB (x+y) (h+1):=by
 obtain⟨z,e,b⟩:=H;obtain⟨w,c,a⟩:=K;exact⟨z+w,φ,tP b a⟩
theorem IB.neg(H:IB x h):IB (-x) h:=by
 obtain⟨z,e,b⟩:=H;exact⟨-z,φ,φ⟩
theorem IB.eq(H:IB x h)(e:x=y):IB y h:=e▸H
structure HS (p:Lq)(K:Rat)(h:Nat):Prop where
 ne:K≠0
 sc:IB K h
 co:∀i,IB (coP p i* K) h
theorem Mb(p q:Lq)(n:Nat):coP (aG p q) n=kX p q p.length n:=by
 rw[<-w6];exact trim_iff.1 (eM λx=>by rw[az,pF]) n
theorem Hj{p q:Lq}{K K':Rat}{h h':Nat}(H:HS p K h)(H':HS q K' h')(n:Nat):∀i,IB (kX p q i n* (K* K')) (h+h'+i)
 |0=>(IB.zero _).eq (by show 0=0* _;grind)
 |i+1=>by
  have a:=Hj H H' n i
  have b:IB ((if i<=n then coP p i* coP q (n- i) else 0) * (K* K')) (h+h'+i):=by
   split;exact(((H.co i).mul (H'.co (n- i))).eq φ).mono ω;exact(IB.zero _).eq φ
  exact((a.add b).eq (by rw[kX];grind)).mono ω
theorem HS.mul{p q:Lq}{K K':Rat}{h' L:Nat}(H:HS p K h)(H':HS q K' h')(hl:p.length<=L):HS (aG p q) (K* K') (h+h'+L) where
 ne e:=(y4.1 e).elim H.ne H'.ne
 sc:=(H.sc.mul H'.sc).mono ω
 co i:=by
  rw[Mb];exact(Hj H H' i p.length).mono ω
end
theorem HS.nil:HS [] 1 1:=⟨δ,IB.one,λi=>(IB.zero 1).eq (by show 0=(0:Rat) * 1;grind)⟩
section
variable {m:Lq}{k:Rat}{M n:Nat}(k0:k≠0)(hm:∀i,IB (coP m i* k) M)(h7:n<=7)
end
theorem Hz{x y:Rat}{h:Nat}(H:IB x h)(K:IB y h)(y0:y≠0)(h1:1<=h):qs (x/ y)<=h:=by
 have a:Ht [x,y] h:=⟨1,δ,λi=>by
  have:IB (coP [x,y] i* 1) h:=by
   match i with
   |0=>exact H.eq (by show x=x* 1;grind)
   |1=>exact K.eq (by show y=y* 1;grind)
   |i+2=>exact(IB.zero h).eq (by show 0=0* 1;grind)
  obtain⟨z,e,b⟩:=this;exact⟨z,e,b⟩⟩
 exact a.quot 0 1 y0 h1
section
variable {m:Lq}{s n:Nat}(hm:bdL m s)(hs1:1<=s)(hs:s<=3000)(hl:m.length<=16)(h6:n<=6)
end
theorem nz_int'{n:Int}(h:n≠0):(n:Rat)≠0:=λe=>h (by have:=congrArg Rat.num e;exact this)
theorem IB.nat{n h:Nat}(hn:bl n<=h):IB (((n:Nat):Int):Rat) h:=⟨n,rfl,by rwa[y2]⟩
theorem FN{x:Rat}{h:Nat}(hx:qs x<=h):IB (x* ((x.den:Int):Rat)) h/\IB (((x.den:Nat):Int):Rat) h/\(((x.den:Nat):Int):Rat)≠0:=by
 have d:=eJ x;have c:=eu x;refine⟨⟨x.num,?_,ω⟩,IB.nat ω,nz_int' (by have:=x.den_pos;omega)⟩;have a:(((x.den:Nat):Int):Rat)≠0:=nz_int' (by have:=x.den_pos;omega);have b:(x.num:Rat) / (((x.den:Nat):Int):Rat)=x:=by rw[<-Rat.divInt_eq_div,OS]
 have e2:(x.num:Rat) / (((x.den:Nat):Int):Rat) * (((x.den:Nat):Int):Rat)=(x.num:Rat):=zp a;rw[b] at e2;exact e2
theorem HS.mono{p:Lq}{K:Rat}{h k:Nat}(H:HS p K h)(hk:h<=k):HS p K k:=⟨H.ne,H.sc.mono hk,λi=>(H.co i).mono hk⟩
theorem JX{x:Rat}(h:x≠0):∀n:Nat,x^ n≠0
 |0=>by rw[Nh];decide
 |n+1=>by rw[Nr];exact λe=>(y4.1 e).elim (JX h n) h

theorem leastN{P:Nat->Prop}:∀N,P N->∃d,d<=N/\P d/\∀k,k< d->¬P k:=by
 intro N
 induction N using Nat.strongRecOn with
 |ind N g=>
  intro h;by_cases e:∃k,k< N/\P k;obtain⟨k,a,c⟩:=e;obtain⟨d,d1,d2,f⟩:=g k a c;exact⟨d,ω,d2,f⟩;exact⟨N,ir _,h,λk b hp=>e ⟨k,b,hp⟩⟩
section
variable {T:Lq}{n:Nat}(hn:1<=n/\n<=5)(hl:T.length=n+1)(ht:am T=T)(hm:aL T=1)(hb:bdL T 20)
include hn hl ht hm hb
end
section
variable {n k p s:Nat}
def sQ(f:Nat->Rat):Nat->Rat
 |0=>0
 |n+1=>sQ f n+f n
theorem cw{f g:Nat->Rat}:∀n,(∀j,j< n->f j=g j)->sQ f n=sQ g n
 |0,_=>rfl
 |n+1,h=>by rw[sQ,sQ,cw n λj a=>h j ω,h n ω]
theorem ot(f g:Nat->Rat)(u:Rat):∀n,sQ (λj=>f j- u* g j) n=sQ f n- u* sQ g n
 |0=>by rw[sQ,sQ,sQ];grind
 |n+1=>by rw[sQ,sQ,sQ,ot f g u n];grind
theorem vC(f g:Nat->Rat):∀n,sQ (λj=>f j+g j) n=sQ f n+sQ g n
 |0=>by rw[sQ,sQ,sQ];grind
 |n+1=>by rw[sQ,sQ,sQ,vC f g n];grind
theorem jV(i:Nat)(a:Rat):∀n,sQ (λj=>if j=i then a else 0) n=if i< n then a else 0
 |0=>by rw[sQ,if_neg ω]
 |n+1=>by
  rw[sQ,jV i a n];grind
abbrev Mx:=Nat->Nat->Rat
def Sol(c:Rat)(M:Mx)(n:Nat)(x:Nat->Rat):Prop:=∀i,i< n->sQ (λj=>M i j* x j) n=c* M i n
def swM(M:Mx)(k p:Nat):Mx:=λi j=>if i=k then M p j else if i=p then M k j else M i j
def elM(M:Mx)(k m:Nat):Mx:=λi j=>if i< m/\i≠k/\k<=j then M i j- M i k/ M k k* M k j else M i j
def pvt(M:Mx)(n k:Nat):Option Nat:=(List.range n).find? λp=>decide (k<=p/\M p k≠0)
def gjM(M:Mx)(n:Nat):Nat->Option Mx
 |0=>some M
 |k+1=>(gjM M n k).bind λA=>(pvt A n k).map λp=>elM (swM A k p) k n
theorem vQ{M:Mx}(h:pvt M n k=some p):p< n/\k<=p/\M p k≠0:=by
 have a:=List.find?_some h;have b:=Oo h;grind
theorem JU{M:Mx}(h:pvt M n k=none):∀i,i< n->k<=i->M i k=0:=λi a c=>by
 have b:=OV.1 h i (xd.2 a);grind
theorem DW{c:Rat}{M:Mx}{x:Nat->Rat}(hk:k< n)(hp:p< n)(h:Sol c (swM M k p) n x):Sol c M n x:=λi a=>by
 by_cases e1:i=k;subst e1;by_cases e2:p=i;have:=h i a;unfold swM at this;simp only[e2] at this;exact this;have:=h p hp;unfold swM at this;simp only[if_neg e2] at this;exact this;by_cases e2:i=p;subst e2;have:=h k hk;unfold swM at this;simp only[if_pos rfl] at this;exact this;have:=h i a;unfold swM at this;grind
theorem sol_el{c:Rat}{M:Mx}{x:Nat->Rat}(hk:k< n)(hz:∀j,j< k->M k j=0)(h:Sol c (elM M k n) n x):Sol c M n x:=by
 have a:∀i j,i< n->i≠k->elM M k n i j=M i j- M i k/ M k k* M k j:=λi j b d=>by
  unfold elM;grind
 have m:∀j,elM M k n k j=M k j:=λj=>by unfold elM;grind
 have l:sQ (λj=>M k j* x j) n=c* M k n:=by
  have:=h k hk;grind
 intro i b;by_cases e:i=k;rw[e];exact l;have f:=h i b;rw[cw (g:=λj=>M i j* x j- M i k/ M k k* (M k j* x j)) n λj _=>by grind,ot] at f;grind
def Dx(M:Mx)(n k:Nat):Prop:=∀j,j< k->M j j≠0/\∀i,i< n->i≠j->M i j=0
theorem Hf{M:Mx}(h:Dx M n k)(hk:k<=p)(hp:p< n):Dx (swM M k p) n k:=λj a=>by
 obtain⟨b,c⟩:=h j a;constructor;unfold swM;rw[if_neg ω,if_neg ω];exact b;unfold swM;grind
theorem diag_el{M:Mx}(h:Dx M n k)(h0:M k k≠0):Dx (elM M k n) n (k+1):=λj c=>by
 by_cases e:j=k;subst e;constructor;unfold elM;rw[if_neg (λe=>e.2.1 rfl)];exact h0;intro i f a;unfold elM;grind;obtain⟨b,d⟩:=h j ω;constructor;unfold elM;rw[if_neg (λe=>ω)];exact b;unfold elM;grind
theorem qR{M:Mx}{n:Nat}:∀k A,k<=n->gjM M n k=some A->(∀c x,Sol c A n x->Sol c M n x)/\Dx A n k
 |0,A,_,h=>by cases h;exact⟨λ_ _ h=>h,λj b=>by omega⟩
 |k+1,A,hk,h=>by
  rw[gjM] at h;cases e:gjM M n k with
  |none=>grind
  |some B=>
   rw[e,zL] at h;obtain⟨i1,i2⟩:=qR k B ω e;cases e2:pvt B n k with
   |none=>grind
   |some p=>
    rw[e2] at h;cases h;obtain⟨p1,p2,f⟩:=vQ e2;have d:=Hf i2 p2 p1;have a:swM B k p k k≠0:=by unfold swM;grind
    refine⟨λc x hs=>i1 c x (DW ω p1 (sol_el ω (λj b=>(d j b).2 k ω ω) hs)),diag_el d a⟩
theorem Af{M:Mx}{n:Nat}:∀k,k<=n->gjM M n k=none->∃x:Nat->Rat,(∃j,j< n/\x j≠0)/\Sol 0 M n x
 |0,_,h=>by cases h
 |k+1,hk,h=>by
  rw[gjM] at h;cases e:gjM M n k with
  |none=>exact Af k ω e
  |some B=>
   obtain⟨i1,i2⟩:=qR k B ω e;cases e2:pvt B n k with
   |some p=>grind
   |none=>
    have c:=JU e2;refine⟨λj=>if j=k then 1 else if j< k then -(B j k/ B j j) else 0,⟨k,ω,φ⟩,i1 0 _ λi b=>?_⟩;rw[cw (g:=λj=>(if j=i then(if i< k then -(B i k) else 0) else 0)+(if j=k then B i k else 0)) n λj a=>?_,vC,jV,jV];by_cases h1:i< k;grind;grind;by_cases h1:j=k;by_cases h2:j=i;grind;grind;by_cases h2:j< k;obtain⟨d1,d2⟩:=i2 j h2;by_cases h3:j=i;subst h3;grind;grind;grind
theorem EG{M A:Mx}(h:gjM M n n=some A):Sol 1 M n (λi=>A i n/ A i i):=by
 obtain⟨i1,i2⟩:=qR n A (ir _) h;refine i1 1 _ λi a=>?_;obtain⟨d1,d2⟩:=i2 i a;rw[O6,cw (g:=λj=>if j=i then A i n else 0) n λj b=>?_,jV,if_pos a];by_cases e:j=i;subst e;grind;rw[(i2 j b).2 i a (λc=>e c.symm)];grind
def bdM(M:Mx)(n s:Nat):Prop:=∀i j,i< n->j<=n->qs (M i j)<=s
def gjB(s:Nat):Nat->Nat
 |0=>s
 |k+1=>4* gjB s k+1
theorem Mp{M:Mx}(h:bdM M n s)(hk:k< n)(hp:p< n):bdM (swM M k p) n s:=λi j b a=>by
 unfold swM;split;exact h p j hp a;split;exact h k j hk a;exact h i j b a
theorem bd_el{M:Mx}{m:Nat}(h:bdM M n s)(hk:k< n):bdM (elM M k m) n (4* s+1):=λi j b a=>by
 have f:=h i j b a;unfold elM;split;have d:=h i k b ω;have o:=h k k hk ω;have e:=h k j hk a;have l:=fS (M i k) (M k k);have c:=cP (M i k/ M k k) (M k j);have g:=po (M i j) (M i k/ M k k* M k j);omega;omega
theorem gj_bd{M:Mx}{n s:Nat}(hs:bdM M n s):∀k A,k<=n->gjM M n k=some A->bdM A n (gjB s k)
 |0,A,_,h=>by cases h;exact hs
 |k+1,A,hk,h=>by
  rw[gjM] at h;cases e:gjM M n k with
  |none=>grind
  |some B=>
   rw[e,zL] at h;have i1:=gj_bd hs k B ω e;cases e2:pvt B n k with
   |none=>grind
   |some p=>
    rw[e2] at h;cases h;exact bd_el (Mp i1 ω (vQ e2).1) ω
theorem gB_mono(h:k<=n):gjB s k<=gjB s n:=by
 induction n with
 |zero=>grind
 |succ n a=>
  by_cases e:k=n+1;rw[e];exact ir _;rw[gjB];omega
end
theorem ie(n:Nat)(x:Nat->Rat)(i:Nat):coP (aI n x) i=if i< n then x i else 0:=by
 unfold coP;rw[jH];by_cases h:i< n;rw[if_pos h];simp[aI,h];rw[if_neg h,zt χ];rfl
def rsA(N:Lq)(n:Nat)(S:Nat->Rat)(k:Nat):Nat->Rat
 |0=>0
 |i+1=>rsA N n S k i- coP N (n- (i+1)) * S (k- (i+1))
def rsF(N:Lq)(n:Nat)(S:Nat->Rat)(k:Nat):Rat:=if k<=n then rsA N n S k (min n (k- 1))- (((k:Nat):Int):Rat) * coP N (n- k) else rsA N n S k (min n (k- 1))
theorem JH(N:Lq)(n:Nat)(out:Lq)(k:Nat):∀i,nwA N n out k i=coP N (n- k) * (((k:Nat):Int):Rat)- rsA N n (λj=>coP out j) k i
 |0=>by rw[nwA,rsA];grind
 |i+1=>by rw[nwA,rsA,JH N n out k i];grind
theorem Gg{N:Lq}{n k:Nat}{S S':Nat->Rat}(h:∀j,j< k->S j=S' j)(hk:k≠0):∀i,rsA N n S k i=rsA N n S' k i
 |0=>rfl
 |i+1=>by rw[rsA,rsA,Gg h hk i,h _ ω]
theorem Bz(f:Nat->Rat):∀n,sQ f (n+1)=f 0+sQ (λi=>f (i+1)) n
 |0=>by rw[sQ,sQ,sQ];grind
 |n+1=>by rw[sQ,Bz f n,sQ];grind
theorem Gf(N:Lq)(S:Nat->Rat)(j:Nat):∀n i,i<=n->rsA N n S (j+n) i= -(sQ (λt=>coP N (n- i+t) * S (j+(n- i)+t)) i)
 |n,0,_=>by rw[rsA,sQ];grind
 |n,i+1,h=>by
  rw[rsA,Gf N S j n i ω,Bz];grind
theorem Ei(p m:Lq):∀n,ofQ p m n=sQ (λi=>coP p i* coP m i) n
 |0=>rfl
 |n+1=>by rw[ofQ,sQ,Ei p m n]
theorem Eb(x:Rat)(i:Nat):∀j,x^ (i+j)=x^ i* x^ j
 :=φ
section
variable {N:Lq}{n:Nat}(hN:nz N)(hm:aL N=1)(hd:dg N=n)(h1:1<=n)(ht:am N=N)
include hN hm hd h1 ht
theorem pow_rel(j:Nat):sQ (λi=>coP N i* trP N (gK [1] (j+i))) (n+1)=0:=by
 have d:N.length=n+1:=by
  have:=nB.2 hN;unfold dg at hd;grind
 have H:Lin (λr=>trP N (aG r (gK [1] j))):={
  eqv:=fun{p q} h=>(fc hN).eqv λx=>by rw[az,az,h]
  add:=λp q=>by
   show trP N (aG (ec p q) (gK [1] j))=trP N (aG p (gK [1] j))+trP N (aG q (gK [1] j));rw[<-(fc hN).add];exact(fc hN).eqv λx=>by rw[az,cb,cb,az,az];grind
  scale:=λp k=>by
   show trP N (aG (aW p k) (gK [1] j))=trP N (aG p (gK [1] j)) * k;rw[<-(fc hN).scale];exact(fc hN).eqv λx=>by rw[az,aT,aT,az];grind}
 have a:=H.ofQ (m:=aI (n+1) λi=>trP N (gK [1] (j+i))) (N:=n+1) (λi b=>by
  rw[ie,if_pos b];exact(fc hN).eqv λx=>by rw[az,eP,eP,eP,Pp j i,Eb]) N (n+1) (ir _) ω
 rw[nk ω,Ei] at a
 have c:trP N (aG N (gK [1] j))=0:=by
  rw[DN hN (h:=[]) (u:=gK [1] j) λx=>by rw[az,aS];grind];exact(fc hN).zero
 rw[c] at a;rw[<-a];exact cw _ λi b=>by rw[ie,if_pos b]
theorem JY(k:Nat)(hk:k≠0):trP N (gK [1] k)=rsF N n (λj=>trP N (gK [1] j)) k:=by
 have b:coP N n=1:=by rw[<-hd,(cD hN).2,hm]
 by_cases hkn:k< n;have c:∀j,j< k->coP (aI k λj=>sL N j) j=sL N j:=λj a=>by rw[ie,if_pos a]
 have h:=xU hN hm (show k< dg N by omega) c hk;rw[JH] at h;rw[pV hN hm ω,h];unfold rsF;rw[Gg (S:=λj=>coP (aI k λj=>sL N j) j) (S':=λj=>trP N (gK [1] j)) (λj a=>by rw[pV hN hm ω];grind) hk];grind;obtain⟨j,rfl⟩:∃j,k=j+n:=⟨k- n,ω⟩;have h:=pow_rel hN hm hd h1 ht j;rw[sQ] at h;have d:=Gf N (λj=>trP N (gK [1] j)) j n n (ir _);unfold rsF;by_cases a:j=0;subst a
 have f:rsA N n (λj=>trP N (gK [1] j)) (0+n) n=rsA N n (λj=>trP N (gK [1] j)) (0+n) (n- 1)- coP N 0* trP N (gK [1] 0):=by
  conv=>lhs;rw[show n=n- 1+1 by omega]
  rw[rsA,show n- 1+1=n by omega,show n- n=0 by omega,show 0+n- n=0 by omega]
 have e:trP N (gK [1] 0)=((n:Nat):Int):=by
  rw[pV hN hm ω];show coP (aQ N) (dg N- 1)=_;rw[db,hd,show n- 1+1=n by omega];grind
 grind;grind
end
theorem Bc{K:Rat}{h:Nat}(H:IB K h):∀j:Nat,IB (K^ j) (h* j+1)
 |0=>by rw[Nh];exact IB.one.mono ω
 |j+1=>by
  rw[Nr];exact((Bc H j).mul H).mono φ
theorem Ht_mon{T:Lq}{n h:Nat}(H:Ht T h)(ht:coP T n=1):∃K:Rat,K≠0/\IB K h/\∀i,IB (coP T i* K) h:=by
 obtain⟨K,c,F⟩:=H
 have d:∀i,IB (coP T i* K) h:=λi=>by
  obtain⟨z,b,a⟩:=F i;exact⟨z,b,a⟩
 grind
section
variable {T:Lq}{n:Nat}(hn:1<=n/\n<=5)(hl:T.length=n+1)(ht:am T=T)(hm:aL T=1)
include hn hl ht hm
theorem tV:nz T/\dg T=n/\a8 T=(n:Int)/\coP T n=1:=by
 have b:nz T:=by
  intro e;grind
 have a:dg T=n:=by unfold dg;grind
 exact⟨b,a,by rw[uZ b,a],by rw[<-a,(cD b).2,hm]⟩
theorem JI{K:Rat}{h k:Nat}(hK:IB K h)(hT:∀i,IB (coP T i* K) h)(h1:1<=h){S:Nat->Rat}(hS:∀j,j< k->IB (S j* K^ j) ((h+20) * j+10)):∀i,i< k->IB (rsA T n S k i* K^ k) ((h+20) * k+2+i)
 |0,_=>(IB.zero _).eq (by rw[rsA];grind)
 |i+1,hi=>by
  have g:=JI hK hT h1 hS i ω;have a:=hT (n- (i+1));have b:=hS (k- (i+1)) ω;have c:=Bc hK i
  have e:(coP T (n- (i+1)) * K) * (S (k- (i+1)) * K^ (k- (i+1))) * K^ i=coP T (n- (i+1)) * S (k- (i+1)) * K^ k:=by
   have h1:K^ k=K^ (k- (i+1)) * K^ i* K:=by
    rw[<-Eb,<-Nr];grind
   grind
  have f:IB (coP T (n- (i+1)) * S (k- (i+1)) * K^ k) ((h+20) * k+2+i):=by
   refine(((a.mul b).mul c).eq e).mono ?_;obtain⟨d,rfl⟩:∃d,k=d+(i+1):=⟨k- (i+1),ω⟩;grind
  exact((g.add f.neg).eq (by rw[rsA];grind)).mono ω
theorem pow_IB{K:Rat}{h:Nat}(hK:IB K h)(hT:∀i,IB (coP T i* K) h)(h1:1<=h):∀k,k<=31->IB (trP T (gK [1] k) * K^ k) ((h+20) * k+10):=by
 obtain⟨f,g,r,p⟩:=tV hn hl ht hm;intro k
 induction k using Nat.strongRecOn with
 |ind k m=>
  intro q;by_cases hk0:k=0;subst hk0
  have:trP T (gK [1] 0)=((n:Nat):Int):=by
   rw[pV f hm ω];show coP (aQ T) (dg T- 1)=_;rw[db,g,show n- 1+1=n by omega,p];grind
  rw[this,Nh,Rat.mul_one];exact(IB.nat (h:=3) (fx ω)).mono ω;have o:∀j,j< k->IB (trP T (gK [1] j) * K^ j) ((h+20) * j+10):=λj l=>m j l ω;rw[JY f hm g hn.1 ht k hk0];have a:=JI hn hl ht hm hK hT h1 (S:=λj=>trP T (gK [1] j)) o (min n (k- 1)) ω;unfold rsF;by_cases hkn:k<=n;have b:=((IB.nat (n:=k) (h:=5) (fx ω)).mul (hT (n- k))).mul (Bc hK (k- 1))
  have e:(((k:Nat):Int):Rat) * (coP T (n- k) * K) * K^ (k- 1)=(((k:Nat):Int):Rat) * coP T (n- k) * K^ k:=by
   have h1:K^ k=K^ (k- 1) * K:=by rw[<-Nr];grind
   grind
  have c:IB ((((k:Nat):Int):Rat) * coP T (n- k) * K^ k) ((h+20) * k+8):=(b.eq e).mono (by
   obtain⟨d,rfl⟩:∃d,k=d+1:=⟨k- 1,ω⟩;grind)
  exact(((a.mono (show _<=(h+20) * k+8 by omega)).add c.neg).eq φ).mono ω;rw[if_neg hkn];exact a.mono ω
theorem pow_qs(hH:Ht T 141)(k:Nat)(hk:k<=20):qs (trP T (gK [1] k))<=3500:=by
 obtain⟨h,i,j,g⟩:=tV hn hl ht hm;obtain⟨K,e,d,f⟩:=Ht_mon hH g;have a:=pow_IB hn hl ht hm d f ω k ω;have b:=Bc d k;have hp:K^ k≠0:=JX e k;have c:=Hz (a.mono (show _<=3500 by omega)) (b.mono (show _<=3500 by omega)) hp ω;grind
def hkM(T m:Lq)(n:Nat):Mx:=λi j=>if j< n then trP T (gK [1] (i+j)) else coP m i
theorem hk_bd{m:Lq}(hH:Ht T 141)(hmb:bdL m 3000):bdM (hkM T m n) n 3500:=λi j b a=>by
 unfold hkM;split;exact pow_qs hn hl ht hm hH _ ω;have:=dc hmb ω i;omega
theorem Jf(x:Nat->Rat)(L i:Nat):trP T (aG (aI L x) (gK [1] i))=sQ (λj=>trP T (gK [1] (i+j)) * x j) L:=by
 obtain⟨a,d,e,f⟩:=tV hn hl ht hm
 have H:Lin (λr=>trP T (aG r (gK [1] i))):={
  eqv:=fun{p q} h=>(fc a).eqv λx=>by rw[az,az,h]
  add:=λp q=>by
   rw[<-(fc a).add];exact(fc a).eqv λx=>by rw[az,cb,cb,az,az];grind
  scale:=λp k=>by
   rw[<-(fc a).scale];exact(fc a).eqv λx=>by rw[az,aT,aT,az];grind}
 have c:=H.ofQ (m:=aI L λj=>trP T (gK [1] (i+j))) (N:=L) (λj b=>by
  rw[ie,if_pos b];exact(fc a).eqv λx=>by rw[az,eP,eP,eP,Pp i j,Eb]) (aI L x) L (ir _) ψ
 rw[nk ψ,Ei] at c;rw[<-c];exact cw _ λj b=>by rw[ie,ie];grind
variable {A B:Lq}(hco:∀x,ag A x* ag T x+ag B x* dvE T x=1)
include hco
theorem hk_ok(m:Lq):∃C,gjM (hkM T m n) n n=some C:=by
 obtain⟨q,w,s,t⟩:=tV hn hl ht hm;cases e:gjM (hkM T m n) n n with
 |some C=>grind
 |none=>
  exfalso;obtain⟨x,⟨j,g,r⟩,o⟩:=Af n (ir _) e
  have k:∀i,i< n->coP ([]:Lq) i=trP T (aG (aI n x) (gK [1] i)):=λi d=>by
   rw[Jf hn hl ht hm];have:=o i d;rw[MZ] at this;rw[show coP ([]:Lq) i=0 from rfl,<-this];exact cw n λj v=>by unfold hkM;grind
  have h:∃z:Lq,∀x,ag ([]:Lq) x* dvE T x=ag (tpQ T []) x+ag z x* ag T x:=⟨[],λx=>by
   have a:ag (tpQ T []) x=0:=jr (λi=>by
    unfold tpQ;rw[ie];split
    have b:∀j,tpV T [] i j=0:=λj=>by
     induction j with
     |zero=>rfl
     |succ j p=>
      rw[tpV,p];split;rw[show coP ([]:Lq) (j- 1- i)=0 from rfl];grind;rfl
    exact b _;rfl) x
   rw[a,aS];grind⟩
  have f:=LI q hm ω ht (λx=>rfl) hco (W:=aI n x) (W':=[]) (m:=[]) (λi d=>k i ω) (λa=>by
   have l:=bm (aI n x);have u:=nB.2 a;rw[fY] at l;unfold dg;grind) h (λa=>absurd rfl a)
  have c:=trim_iff.1 (eqv_trim.1 f) j;rw[ie,if_pos g] at c;exact r c
theorem hk_some{m V:Lq}{C:Mx}(h:gjM (hkM T m n) n n=some C)(hV:∃z,∀x,ag V x* dvE T x=ag (tpQ T m) x+ag z x* ag T x)(dV:nz V->dg V< dg T)(hVt:am V=V):am (aI n λi=>C i n/ C i i)=V/\∀i,i< n->coP m i=trP T (aG V (gK [1] i)):=by
 obtain⟨b,g,k,l⟩:=tV hn hl ht hm;have hs:=EG h
 have d:∀i,i< n->coP m i=trP T (aG (aI n λi=>C i n/ C i i) (gK [1] i)):=λi a=>by
  rw[Jf hn hl ht hm];have:=hs i a;rw[O6,show hkM T m n i n=coP m i by unfold hkM;grind] at this;rw[<-this];exact cw n λj f=>by unfold hkM;grind
 have c:=LI b hm ω ht (λx=>rfl) hco (m:=m) (λi a=>d i ω) (λo=>by
  have e:=bm (aI n λi=>C i n/ C i i);rw[fY] at e;unfold dg;grind) hV dV
 refine⟨by rw[eqv_trim.1 c,hVt],λi a=>?_⟩;rw[d i a];exact(qG b _).eqv (λx=>rfl)▸(fc b).eqv λx=>by rw[az,az,c]
theorem hk_size{m V:Lq}{C:Mx}(hH:Ht T 141)(hmb:bdL m 3000)(h:gjM (hkM T m n) n n=some C)(hV:am (aI n λi=>C i n/ C i i)=V):bdL V 7200000:=by
 have hb:=gj_bd (hk_bd hn hl ht hm hH hmb) n C (ir _) h;have g:gjB 3500 n<=3600000:=fo (gB_mono hn.2) (by decide+kernel);rw[<-hV];intro q e;have f:=cS e;obtain⟨i,d,rfl⟩:=sd.1 f;have d:=xd.1 d;have a:=hb i n d (ir _);have b:=hb i i d ω;have c:=fS (C i n) (C i i);omega
end
theorem zOK_w:zOK 6 44 2000000=true:=by decide+kernel
section
variable {T:Lq}{n:Nat}(hn:1<=n/\n<=5)(hl:T.length=n+1)(ht:am T=T)(hm:aL T=1)(hb:bdL T 40)
include hn hl ht hm hb
theorem w_su:bdL (suL T n (n- 1)) 4000/\∀j,j< n- 1->Kc T n j:=by
 have a:∀j,j< 5->suB 40 j<=4000:=by decide+kernel
 exact⟨bdL_mono' (DT hb ω ω (n- 1) ω).1 (a _ ω),λj b=>okSu_of hb ω ω ω (fo (a _ ω) ω)⟩
theorem w_apply{W f:Lq}(hWl:W.length<=n)(hWb:bdL W 7200000)(hf:f.length<=15)(hfb:bdL f 256):
    iz f T/\gQ W (bJ f T).2/\iz (aG W (bJ f T).2) T/\bdL (apR T W f) 1100000000/\(apR T W f).length<=n/\qs (ofQ (apR T W f) (suL T n (n- 1)) (apR T W f).length)<=137438953472/\
    ofQ (apR T W f) (suL T n (n- 1)) (apR T W f).length=trP T (aG W f):=by
 obtain⟨b,l,p,r⟩:=tV hn hl ht hm;obtain⟨s1,s2⟩:=w_su hn hl ht hm hb;have m1:=mxL_le hb ω;have m2:=mxL_le hfb ω;have o:=mxL_le hWb ω;have s:=bm f;have e1:2^ ((am f).length+1- (am T).length)<=2^ 14:=vi δ φ;have e2:=vj e1 (show mxL f+2* mxL T+1<=337 by omega);have g:bdL (bJ f T).2 5521408:=(oQ hfb hb ω ω b (fo (vj e1 (show 256+2* 40+1<=337 by omega)) δ)).2
 have u:(bJ f T).2.length<=n:=by
  have a:=(eU f T b).2;rw[(kG _ _).2,ht] at a;omega
 have v:=mxL_le g ω;have p1:=mO hWb g ω ω;have p2:=jl W (bJ f T).2;have d:bdL (aG W (bJ f T).2) 63607046:=bdL_mono' p1 (fo (Ox (mC _ (show W.length<=5 by omega))) δ);have t:=mxL_le d ω;have m:=bm (aG W (bJ f T).2);have i:2^ ((am (aG W (bJ f T).2)).length+1- (am T).length)<=2^ 4:=vi δ φ;have k:=vj i (show mxL (aG W (bJ f T).2)+2* mxL T+1<=63607127 by omega);have h:bdL (apR T W f) 1100000000:=(oQ d hb ω ω b (fo (vj i (show 63607046+2* 40+1<=63607127 by omega)) δ)).2
 have c:(apR T W f).length<=n:=by
  have q:(am (apR T W f)).length< (am T).length:=(eU _ T b).2;have e:am (apR T W f)=apR T W f:=(kG _ _).2;grind
 have j:=vj (show W.length<=5 by omega) (show mxL W+mxL (bJ f T).2+1<=12721409 by omega);have o1:=Ej h s1 ω ω (apR T W f).length;have o2:=mC (1100000000+4000+1) (show(apR T W f).length<=5 by omega);have tr:=MH (W:=W) (f:=f) b hm ht ω;rw[l] at tr;refine⟨⟨?_,ω,ω⟩,⟨?_,ω,ω,ω⟩,⟨?_,ω,ω⟩,h,c,?_,tr⟩;exact fo e2 δ;exact fo (Ox j) δ;exact fo k δ;grind
theorem w_own{m A B:Lq}(hmb:bdL m 3000)(hco:∀x,ag A x* ag T x+ag B x* dvE T x=1):∃G A',bzL 9 (aQ T) T (dk ((1:Int):Rat)) []=some (G,A')/\Kh (aQ T) T G A'/\gQ (tpQ T m) (bzA T G A')/\iz (aG (tpQ T m) (bzA T G A')) T/\
    ∃W,W=(bJ (aG (tpQ T m) (bzA T G A')) T).2/\W.length<=n/\am W=W/\(∃z,∀x,ag W x* dvE T x=ag (tpQ T m) x+ag z x* ag T x)/\(nz W->dg W< dg T):=by
 obtain⟨d,J,u,v⟩:=tV hn hl ht hm;have o:=iC T;have l:Ht T (40+1+6* 40):=(Ht.of hb).mono φ;have e:=(tH φ hb ω l).1;obtain⟨G,A',g,k,h,D,F⟩:=okBz_of zOK_w (p:=aQ T) (q:=T) (B:=B) (C:=A) (bdL_mono' e ω) (bdL_mono' hb ω) ω ω ω d ht λx=>by rw[cC];grind
 obtain⟨w,y⟩:=bzA_inv g d (B:=B) (C:=A) λx=>by rw[cC];grind
 have b:(tpQ T m).length=n:=by unfold tpQ aI;grind
 have c:bdL (tpQ T m) 18247:=by
  intro q f;unfold tpQ aI at f;obtain⟨i,E,rfl⟩:=sd.1 f;have:=DO hb hmb ω ω i T.length;grind
 have m1:=mxL_le c ω;have m2:=mxL_le h ω;have t:=mxL_le hb ω;have p1:=mO c h ω ω;have p2:=jl (tpQ T m) (bzA T G A');rw[b] at p1 p2;have j:bdL (aG (tpQ T m) (bzA T G A')) 20091731:=bdL_mono' p1 (fo (Ox (mC _ hn.2)) δ);have H:=mxL_le j ω;have s:=bm (aG (tpQ T m) (bzA T G A'));have r:2^ ((am (aG (tpQ T m) (bzA T G A'))).length+1- (am T).length)<=2^ 4:=vi δ φ;obtain⟨v1,v2⟩:=wt_spec (T:=tpQ T m) d (iv:=bzA T G A') (w:=w) λx=>by rw[<-cC];grind
 refine⟨G,A',g,k,⟨?_,ω,ω,ω⟩,⟨?_,ω,ω⟩,_,rfl,?_,(kG _ _).2,v1,v2⟩;rw[b];exact fo (Ox (vj hn.2 (show mxL (tpQ T m)+mxL (bzA T G A')+1<=4018346 by omega))) δ;exact fo (vj r (show mxL (aG (tpQ T m) (bzA T G A'))+2* mxL T+1<=20091812 by omega)) δ;have a:=(eU (aG (tpQ T m) (bzA T G A')) T d).2;rw[(kG _ _).2,ht] at a;omega
end
theorem cOK_w:cOK 6 40 40000 240500 40000000=true:=by decide+kernel
theorem ab_rng(x y:Rat):0<=ab x+ab y:=by have:=jb x;have:=jb y;grind
theorem LX{p s g:Lq}(h:∀x,ag p x=ag s x* ag g x)(x:Rat):dvE p x=dvE s x* ag g x+ag s x* dvE g x:=by
 rw[<-rG];exact oO (λx=>by rw[h,az]) x
section
variable {f:Nat}{p:Lq}{c:Cnt}(h:e8 f p=some c)(hp:nz p)
include h hp
end
def ndP(x:Nat->Rat):Nat->Lq
 |0=>[1]
 |n+1=>aG (ndP x n) [-(x n),1]
def ndQ(x:Nat->Rat)(i:Nat):Nat->Lq
 |0=>[1]
 |n+1=>if n=i then ndP x n else aG (ndQ x i n) [-(x n),1]
theorem wQ(t:Rat):ag [1] t=1:=by simp only[ag];grind
theorem Gy(x:Nat->Rat)(n:Nat)(t:Rat):ag (ndP x (n+1)) t=ag (ndP x n) t* (t- x n):=by
 rw[ndP,az,kV]
theorem Ko{x:Nat->Rat}{i n:Nat}(h:n≠i)(t:Rat):ag (ndQ x i (n+1)) t=ag (ndQ x i n) t* (t- x n):=by
 rw[ndQ,if_neg h,az,kV]
theorem we{x:Nat->Rat}{i:Nat}:∀{n:Nat},i< n->∀t,ag (ndP x n) t=ag (ndQ x i n) t* (t- x i)
 |0,h,_=>by omega
 |n+1,h,t=>by
  rw[Gy];by_cases e:n=i;rw[ndQ,if_pos e,e];rw[Ko e,we (show i< n by omega) t];grind
theorem BY{x:Nat->Rat}{i n:Nat}(h:i< n):ag (ndP x n) (x i)=0:=by
 rw[we h];grind
theorem Kq{x:Nat->Rat}{t:Rat}:∀{n:Nat},(∀j,j< n->t≠x j)->ag (ndP x n) t≠0
 |0,_=>by rw[ndP,wQ];decide
 |n+1,h=>by
  rw[Gy];have b:=Kq (n:=n) λj c=>h j ω;have a:=h n ω;intro e;rcases y4.1 e with e|e
  exact b e;exact a φ
section
variable {x:Nat->Rat}{n:Nat}(hx:∀i j,i< n->j< n->x i=x j->i=j)
theorem BX{i j:Nat}:∀{n:Nat},i< n->j< n->j≠i->ag (ndQ x i n) (x j)=0
 |0,h,_,_=>by omega
 |n+1,h,hj,hji=>by
  by_cases e:n=i;rw[ndQ,if_pos e];exact BY ω;rw[Ko e];by_cases e2:j=n;rw[e2];grind;rw[BX (show i< n by omega) (show j< n by omega) hji];grind
include hx in
theorem Kp{i:Nat}:∀{m:Nat},i< m->m<=n->ag (ndQ x i m) (x i)≠0
 |0,h,_=>by omega
 |m+1,h,hm=>by
  by_cases e:m=i;rw[ndQ,if_pos e];exact Kq λj b a=>by have:=hx i j ω ω a;omega
  rw[Ko e];intro e2;rcases y4.1 e2 with e2|e2
  exact Kp (show i< m by omega) ω e2;exact e (hx m i ω ω φ)
end
theorem B5(c:Rat):nz [-c,1]/\dg [-c,1]=1/\aL [-c,1]=1:=by
 have h:ue [-c,1] 1:=⟨by show(1:Rat)≠0;decide,λi a=>eC χ⟩;exact kP h
theorem jC(x:Nat->Rat):∀n,nz (ndP x n)/\dg (ndP x n)=n/\aL (ndP x n)=1
 |0=>kP (p:=[1]) (n:=0) ⟨by show(1:Rat)≠0;decide,λi g=>eC χ⟩
 |n+1=>by
  obtain⟨a,b,c⟩:=jC x n;obtain⟨d,e,f⟩:=B5 (x n);obtain⟨p,q,r⟩:=wU a d;rw[ndP];exact⟨p,by rw[q,b,e],by rw[r,c,f];grind⟩
theorem Gx(x:Nat->Rat)(i:Nat):∀{n:Nat},i< n->nz (ndQ x i n)/\dg (ndQ x i n)=n- 1/\aL (ndQ x i n)=1
 |0,h=>by omega
 |n+1,h=>by
  rw[ndQ];by_cases e:n=i;rw[if_pos e];exact jC x n;rw[if_neg e];obtain⟨a,b,c⟩:=Gx x i (show i< n by omega);obtain⟨d,e2,f⟩:=B5 (x n);obtain⟨p,q,r⟩:=wU a d;exact⟨p,by rw[q,b,e2];omega,by rw[r,c,f];grind⟩
theorem lV(x:Nat->Rat):∀n,am (ndP x n)=ndP x n/\(ndP x n).length=n+1
 |0=>by rw[ndP];exact⟨δ,δ⟩
 |n+1=>by
  have c:am (ndP x (n+1))=ndP x (n+1):=by rw[ndP];exact kf _ _
  obtain⟨a,b,_⟩:=jC x (n+1);refine⟨c,?_⟩;have:=nB.2 a;unfold dg at b;rw[c] at b this;omega
theorem dv_nd{x:Nat->Rat}{i n:Nat}(h:i< n):dvE (ndP x n) (x i)=ag (ndQ x i n) (x i):=by
 rw[LX (s:=ndQ x i n) (g:=[-(x i),1]) (λt=>by rw[we h,kV]),kV,dvE_uv];grind
def ndC(x:Nat->Rat)(n:Nat)(c:Nat->Rat):Nat->Lq
 |0=>[]
 |i+1=>ec (ndC x n c i) (aW (ndQ x i n) (c i))
theorem En{x:Nat->Rat}{n:Nat}{c:Nat->Rat}{j:Nat}(hj:j< n):∀m,m<=n->ag (ndC x n c m) (x j)=if j< m then ag (ndQ x j n) (x j) * c j else 0
 |0,_=>by rw[if_neg ω];rfl
 |m+1,hm=>by
  rw[ndC,cb,aT,En hj m ω];by_cases e:m=j;subst e;rw[if_neg ω,if_pos ω];grind;rw[BX (show m< n by omega) hj (Nz e)];by_cases h:j< m;rw[if_pos h,if_pos ω];grind;rw[if_neg h,if_neg ω];grind
theorem Gz{x:Nat->Rat}{n:Nat}{c:Nat->Rat}:∀m,m<=n->coP (ndC x n c m) (n- 1)=sQ c m/\∀i,n<=i->coP (ndC x n c m) i=0
 |0,_=>⟨by rw[ndC];rfl,λi _=>by rw[ndC];rfl⟩
 |m+1,hm=>by
  obtain⟨a,b⟩:=Gz (x:=x) (n:=n) (c:=c) m ω;obtain⟨d1,d2,e⟩:=Gx x m (show m< n by omega);obtain⟨⟨e1,e2⟩,d⟩:=cD d1;rw[d2] at e2 d;rw[ndC];refine⟨?_,λi f=>?_⟩;rw[fi,bY,a,d,e,sQ];grind;rw[fi,bY,b i f,e2 i ω];grind
section
variable {x:Nat->Rat}{n:Nat}(hx:∀i j,i< n->j< n->x i=x j->i=j)
include hx
theorem BW:(aI n x).Nodup:=by
 unfold aI List.Nodup;rw[List.pairwise_map];exact Ow (fun{i j} hi hj h e=>h (hx i j (xd.1 hi) (xd.1 hj) e)) List.nodup_range
theorem Gw{w:Lq}(hw:∀i,i< n->ag w (x i)=0):∃u,∀t,ag w t=ag u t* ag (ndP x n) t:=by
 obtain⟨e,b,_⟩:=jC x n;obtain⟨m1,m2⟩:=eO w e
 have f:∀t,ag (md w (ndP x n)) t=0:=by
  by_cases h:nz (md w (ndP x n));have g:=m2 h;intro t;rw[<-b7];refine mI n (am (md w (ndP x n))) (aI n x) (by unfold dg at g b;omega) ψ (BW hx) (λy d=>?_) t;obtain⟨i,a,rfl⟩:=sd.1 d;have a:=xd.1 a;have c:=m1 (x i);rw[hw i a,BY a] at c;rw[b7];grind;intro t;rw[<-b7,Nc h];rfl
 exact⟨(bJ w (ndP x n)).1,λt=>by rw[m1 t,f t];grind⟩
theorem tr_nd(hn:1<=n)(g:Lq):trP (ndP x n) g=sQ (λi=>ag g (x i)) n:=by
 obtain⟨f,b,_⟩:=jC x n;obtain⟨k,d⟩:=Gz (x:=x) (n:=n) (c:=λi=>ag g (x i)) n (ir _)
 obtain⟨u,j⟩:=Gw hx (w:=dC (aG g (aQ (ndP x n))) (ndC x n (λi=>ag g (x i)) n)) λi a=>by
  rw[cv,az,cC,dv_nd a,En a n (ir _),if_pos a];grind
 have e:=j6 (p:=aG g (aQ (ndP x n))) (u:=u) (v:=ndC x n (λi=>ag g (x i)) n) f (λt=>by
  have:=j t;rw[cv] at this
  grind) λhv=>by
   rw[b];obtain⟨⟨e1,e2⟩,_⟩:=cD hv;refine Np λh=>e1 (d _ h)
 unfold trP;rw[b,trim_iff.1 (eqv_trim.1 e),k]
theorem nd_co:∃A B:Lq,∀t,ag A t* ag (ndP x n) t+ag B t* dvE (ndP x n) t=1:=by
 obtain⟨B,f⟩:∃B,B=ndC x n (λi=>1/ (ag (ndQ x i n) (x i) * ag (ndQ x i n) (x i))) n:=⟨_,rfl⟩
 obtain⟨u,g⟩:=Gw hx (w:=dC [1] (aG B (aQ (ndP x n)))) λi b=>by
  rw[cv,az,cC,dv_nd b,f,En b n (ir _),if_pos b];have d:=Kp hx b (ir n);have c:=wQ (x i);rw[c];generalize ag (ndQ x i n) (x i)=q at *
  have j:q* q≠0:=λe=>by rcases y4.1 e with e|e <;> exact d e
  have k:=zp (a:=1) j;generalize 1/ (q* q)=w at *
  grind
 refine⟨u,B,λt=>?_⟩;have h:=g t;rw[cv,az,cC] at h;have c:=wQ t;rw[c] at h;grind
end

section
variable {f:Nat}{p:Lq}{c:Cnt}(h:e8 f p=some c)(hp:nz p)
include h hp
end




theorem rise{q:Lq}{x y e:Rat}(hxy:x<=y)(he:0< e)(hd:∀z,x<=z->z<=y->e<=dvE q z):ag q x<=ag q y:=by
 have i:=ab_rng x y;have k:=Hs i q;obtain⟨h,j,r⟩:=part e (d:=bT (ab x+ab y) q+1) he φ
 have w:=way (f:=λz=>if ag q x<=ag q z then(1:Int) else 0) (λs t=>s=1->t=1) (λ_ h=>h) (λ_ _ _ a b h=>b (a h)) j hxy λu v c p m l A=>by
  by_cases g:ag q x<=ag q u;have t:=sX i (yS c (show u<=y by grind)) (yS (show x<=v by grind) m) q;rw[show ab (v- u)=v- u by unfold ab;grind] at t;have t2:=(ab_le.1 t).1;have n:=vc (hd u c φ) (show 0<=v- u by grind);have o:=vc l k;have B:=zf (show bT (ab x+ab y) q* (v- u)<=e by grind) (show 0<=v- u by grind);rw[if_pos φ];grind
 grind
section
variable {f:Nat}{q d:Lq}{c:Cnt}{σ:Rat}(h:e8 f d=some c)(hd:nz d)(hσ:σ=1\/σ= -1)(hdq:∀z,dvE q z=σ* ag d z)
include hσ hdq
end
theorem Bp{H:Lq}{x y:Rat}(hxy:x<=y)(hd:∀z,x<=z->z<=y->0<=dvE H z):ag H x<=ag H y:=by
 by_cases g:ag H x<=ag H y;exact g;obtain⟨ε,e0,e1⟩:=part (ag H x- ag H y) (d:=2* (y- x+1)) φ φ
 have:=rise (q:=oe H [0,ε]) hxy e0 λz a b=>by
  rw[CX,show dvE [0,ε] z=ε from by rw[eN,eN,aO,aS,show dvE [] z=0 from rfl];grind];grind
 rw[io,io,aO,aO,aS,aO,aO,aS] at this;grind
def ry:Nat->Rat
 |0=>1
 |n+1=>ry n* (((n+1:Nat):Int):Rat)
theorem wL:∀n,0< ry n
 |0=>by decide+kernel
 |n+1=>by
  exact ED (wL n) (by rw[show(0:Rat)=((0:Int):Rat) from rfl,Rat.intCast_lt_intCast];omega)
theorem nat_ne(k:Nat):(((k+1:Nat):Int):Rat)≠0:=λe=>by have:=NL.1 (e.trans O2.symm);omega
section
variable {h:Nat}{p:Lq}{K:Rat}
theorem MN{n:Nat}(hn:bl n<=h):IB ((n:Int):Rat) h:=⟨n,rfl,φ⟩
theorem Az:∀n,n<=255->IB (ry n) (8* n+1)
 |0,_=>IB.one
 |n+1,h=>by
  exact((Az n ω).mul (MN (h:=8) (fx ω))).mono ω
theorem CO:∀n i,i< n->n<=255->∃z:Rat,IB z (8* n+1)/\z* (((i+1:Nat):Int):Rat)=ry n
 |0,_,h,_=>by omega
 |n+1,i,h,hn=>by
  by_cases e:i=n;subst e;exact⟨ry i,(Az i ω).mono ω,by rw[ry]⟩;obtain⟨z,a,b⟩:=CO n i ω ω;refine⟨z* (((n+1:Nat):Int):Rat),(a.mul (MN (h:=8) (fx ω))).mono ω,?_⟩;rw[ry];grind
theorem HS.bdL(H:HS p K h)(h1:1<=h):Abs.bdL p h:=λq a=>by
 obtain⟨i,_,e⟩:=u5 a;have:=Hz (H.co i) H.sc H.ne h1;rw[Rat.mul_div_cancel H.ne] at this;grind
theorem HS.integral{L:Nat}(H:HS p K h)(hl:p.length<=L)(hL:L<=255):HS (aH p) (K* ry L) (h+8* L+1) where
 ne e:=(y4.1 e).elim H.ne (by have:=wL L;grind)
 sc:=(H.sc.mul (Az L hL)).mono ω
 co i:=by
  rw[dd];cases i with
  |zero=>exact(IB.zero _).eq φ
  |succ i=>
   by_cases g:i< L;obtain⟨z,b,c⟩:=CO L i g hL;refine((H.co i).mul b).eq ?_|>.mono ω;have:=zp (a:=coP p i) (nat_ne i);grind;rw[eC ω];exact(IB.zero _).eq φ
theorem CP{K x d:Rat}{h e:Nat}(hd:IB d e)(hx:IB (x* d) e):∀(l:Lq),(∀c∈l,IB (c* K) h)->IB (ag l x* (K* d^ l.length)) (h+l.length* (e+2))
 |[],_=>(IB.zero _).eq (by rw[aS];grind)
 |a::l,hl=>by
  have b:=CP hd hx l λc f=>hl c (lQ _ f);have ha:=hl a (mu ..)
  have hp:∀n:Nat,IB (d^ n) (n* e+1):=λn=>by
   induction n with
   |zero=>rw[Nh];exact IB.one.mono ω
   |succ n b=>rw[Nr];exact(b.mul hd).mono φ
  have e2:(a::l).length* (e+2)=l.length* (e+2)+e+2:=φ
  have s1:=b.mul hx;have s2:=ha.mul (hp (l.length+1));have g:l.length* (e+2)=l.length* e+l.length* 2:=φ
  have i:(l.length+1) * e=l.length* e+e:=Ni _ _;refine(((s1.mono (show _<=h+l.length* (e+2)+e+1 by omega)).add (s2.mono ω)).eq ?_).mono ω;rw[aO];grind
theorem HS.all(H:HS p K h):∀c∈p,IB (c* K) h:=λc a=>by
 obtain⟨i,_,e⟩:=u5 a;rw[<-e];exact H.co i
theorem HS.k{l d:Rat}{e:Nat}(H:HS p K h)(d0:d≠0)(hd:IB d e)(hl:IB (l* d) e):HS (aW p l) (K* d) (h+e) where
 ne g:=(y4.1 g).elim H.ne d0
 sc:=H.sc.mul hd
 co i:=by rw[bY];exact((H.co i).mul hl).eq φ
theorem HS.rescale{d:Rat}{e:Nat}(H:HS p K h)(d0:d≠0)(hd:IB d e):HS p (K* d) (h+e) where
 ne g:=(y4.1 g).elim H.ne d0
 sc:=H.sc.mul hd
 co i:=((H.co i).mul hd).eq φ
theorem HS.less{v:Rat}(H:HS p K h)(hv:IB (v* K) h):HS (dC p (dk v)) K (h+1) where
 ne:=H.ne
 sc:=H.sc.mono ω
 co i:=by
  rw[jE,tJ];split;exact((H.co i).add hv.neg).eq φ;exact((H.co i).mono ω).eq φ
theorem HS.plus{q:Lq}(H:HS p K h)(G:HS q K h):HS (ec p q) K (h+1) where
 ne:=H.ne
 sc:=H.sc.mono ω
 co i:=by rw[fi];exact((H.co i).add (G.co i)).eq φ
end
theorem Jn(p:Lq)(v:Rat):dC p [v]=dC p (dk v):=by
 have a:am (dC p [v])=dC p [v]:=by unfold dC ec;exact bU _
 have b:am (dC p (dk v))=dC p (dk v):=by unfold dC ec;exact bU _
 rw[<-a,<-b];exact eqv_trim.1 λx=>by rw[cv,cv,iB,aO,aS];grind
theorem mK{d:Rat}{e:Nat}(hd:IB d e):∀n:Nat,IB (d^ n) (n* e+1)
 |0=>by rw[Nh];exact IB.one.mono ω
 |n+1=>by rw[Nr];exact((mK hd n).mul hd).mono (by rw[Ni];omega)
end Go.Abs
