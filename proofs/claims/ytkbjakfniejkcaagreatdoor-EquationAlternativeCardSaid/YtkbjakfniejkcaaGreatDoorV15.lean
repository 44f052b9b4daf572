/- Part V15 of the proof. -/
import Derived.Test.YtkbjakfniejkcaaGreatDoorV14
set_option linter.all false
namespace Go.Abs
set_option maxRecDepth 20000
section
variable {x y:Rat}{p:Lq}
def Far(p:Lq)(x y:Rat):Prop:=∃e:Rat,0< e/\∀z,x<=z->z<=y->e<=ab (ak p z)
theorem Er(h:x≠0):0< ab x:=by unfold ab;grind
theorem F1:ab 0=0:=by decide+kernel
theorem Far.ne{z:Rat}(h:Far p x y)(h1:x<=z)(h2:z<=y):ak p z≠0:=fun g=>by
 obtain⟨e,b,a⟩:=h;have:=a z h1 h2;rw[g,F1] at this;grind
theorem Far.dv{d:Lq}(h:Far p x y)(hd:Dv d p):Far d x y:=by
 obtain⟨e,k,j⟩:=h;obtain⟨w,i⟩:=hd;have f:=Ai x y;have m:=ru f w;obtain⟨c,l,q⟩:=part e (d:=bV (ab x+ab y) w+1) k (by grind);refine⟨c,l,fun z a b=>?_⟩;by_cases g:c<=ab (ak d z);exact g;have n:=j z a b;rw[i,fR] at n;have o:=gE (jl f (pg a b) w) (show ab (ak d z)<=c by grind) (gi _) m;grind
theorem Far.mul{q r:Lq}(hp:Far p x y)(hq:Far q x y)(h:∀z,ak r z=ak p z* ak q z):Far r x y:=by
 obtain⟨e,d,c⟩:=hp;obtain⟨g,f,hG⟩:=hq;refine⟨e* g,Rat.mul_pos d f,fun z a b=>?_⟩;rw[h,fR];exact gE (c z a b) (hG z a b) (by grind) (gi _)
theorem Far.const{c:Rat}(hc:c≠0)(h:∀z,ak p z=c):Far p x y:=⟨ab c,Er hc,fun z _ _=>by grind⟩
theorem Far.k{p r:Lq}{k x y:Rat}(hk:k≠0)(h:∀z,ak r z=ak p z* k)(hp:Far p x y):Far r x y:=
 hp.mul (Far.const (p:=[k]) hk fun z=>by rw[aO,aV];grind) fun z=>by rw[aO,aV];grind
def SF(p s:Lq):Prop:=∃g t a b:Lq,nz g/\(∀x,ak p x=ak s x* ak g x)/\(∀x,dvE p x=ak t x* ak g x)/\∀x,ak g x=ak a x* ak p x+ak b x* dvE p x
theorem SF.ex(hp:nz p):∃s,SF p s:=by
 obtain⟨g,a,b,c,⟨s,hs⟩,⟨t,d⟩,e⟩:=bez _ p (bi p) rfl (.inl hp);exact⟨s,g,t,a,b,c,hs,fun x=>by rw[<-cQ,d],fun x=>by rw[e,cQ]⟩
theorem FY{g u v:Lq}(hg:nz g)(h:∀x,ak g x* ak u x=ak g x* ak v x)(x:Rat):ak u x=ak v x:=by
 have hs:∀x,ak g x* ak (eg u v) x=0:=fun x=>by rw[dp];grind
 have n:¬nz (eg u v):=fun e=>by
  have:=(dg_mul' (r:=[]) hg e fun x=>by rw[hs,aV]).1;exact this rfl
 have:=jz n x;rw[dp] at this;grind
theorem JF{s g:Lq}(h:∀x,ak p x=ak s x* ak g x)(x:Rat):dvE p x=dvE s x* ak g x+ak s x* dvE g x:=by
 rw[<-oR];exact re (fun x=>by rw[h,a6]) x
theorem SF.far:∀(n:Nat) (p s:Lq),dg p<=n->nz p->SF p s->∀x y,Far s x y->Far p x y
 |n,p,s,hn,hp,⟨g,t,a,b,g0,h1,h2,h3⟩,x,y,hf=>by
  have q:Dv g p:=⟨s,h1⟩;by_cases hd:dg g=0;obtain⟨c,u,B⟩:=yT g0 hd;exact hf.mul (Far.const u B) h1;have h:dg p≠0:=fun e=>by have:=q.dg hp;omega
  obtain⟨z,pl⟩:=xW h hp;have gl:dg g<=dg (bi p):=Dv.dg (p:=bi p) ⟨t,fun x=>by rw[cQ,h2]⟩ z;cases n with
  |zero=>omega
  |succ n=>
  obtain⟨d,l⟩:=SF.ex g0;have f:=l;obtain⟨j,e,k,b1,i,m,A,r⟩:=f
  have one:∀x,ak (fQ (aK k d) (aK b1 e)) x=ak [1] x:=FY i fun x=>by
   have:=r x;rw[m,A] at this;rw[eW,a6,a6,aO,aV];grind
  have two:∀x,ak (aK s e) x=ak (aK (eg t (bi s)) d) x:=FY i fun x=>by
   have D:=h2 x;have F:=JF h1 x;have C:ak g x* (ak s x* ak e x- (ak t x- dvE s x) * ak d x)=0:=by grind
   have E:ak j x* (ak s x* ak e x)=ak j x* ((ak t x- dvE s x) * ak d x):=by grind
   rw[a6,a6,dp,cQ];grind
  have v:Dv d s:=⟨fQ (aK k s) (aK b1 (eg t (bi s))),fun x=>by
   have o:=one x;have w:=two x;rw[eW,a6,a6,aO,aV] at o;rw[a6,a6] at w;rw[eW,a6,a6];grind⟩
  exact hf.mul (SF.far n g d (by omega) g0 l x y (hf.dv v)) h1
theorem xX{f:Nat}{c:Cnt}(h:dz f p=some c)(hp:nz p):SF p c.p/\Dv c.p p/\∃(L:Lw) (k:Rat),c.ch=b4 c.p::L/\0< k/\(∀x,ak (b4 c.p) x=ak c.p x* k)/\Sq (b4 c.p) L:=by
 obtain⟨D,i,n,_,_,_⟩:=fZ h hp;have B:=h;have l:=rG i hp
 have r:SF p c.p/\Dv c.p p:=by
  unfold o5 at i;split at i;cases hg:pu f p (bi p) with
  |none=>grind
  |some g=>
   rw[hg,Option.bind_some] at i;split at i;have q:=Option.some.inj i;obtain⟨z,O,⟨t,G⟩,a,b,S⟩:=lD f _ _ _ hg (.inl hp);obtain⟨m1,m2⟩:=jb p z;obtain⟨u,Q⟩:=O;have R:=qv (u:=u) (v:=[]) z (fun x=>by rw[Q x,aV];grind) (fun e=>absurd rfl e)
   have hs:∀x,ak p x=ak (dq p g).1 x* ak g x:=fun x=>by
    have:=m1 x;rw[R x,aV] at this;grind
   obtain⟨k,o,s,m⟩:=oF (dq p g).1;rw[q] at m;have e1:∀x,ak p x=ak c.p x* ak (ba g o) x:=fun x=>by rw[hs,m,bG];grind
   have y:o≠0:=fun e=>by grind
   refine⟨⟨ba g o,ba t k,ba a o,ba b o,(jn z y (bG g o)).1,e1,fun x=>?_,fun x=>?_⟩,ba g o,fun x=>by grind⟩;rw[bG,bG,<-cQ,G];grind;rw[bG,bG,bG,S,cQ];grind;grind
  grind
 refine⟨r.1,r.2,?_⟩;unfold l8 at n;split at n;obtain⟨L,e,J⟩:=ob _ _ _ _ _ _ n;obtain⟨k,C,s⟩:=oz D;have j:k≠0:=by grind
 have A:nz (b4 c.p):=(jn D j s).1;have E:k* (1/ k)=1:=by grind
 have w:0< 1/ k:=by
  obtain⟨m,m0,m1⟩:=part 1 (d:=k) (by decide+kernel) C;rw[<-m1,Rat.mul_div_cancel j];exact m0
 obtain⟨K,N⟩:=J.ch A fun d d0 d1 d2=>l.2 d d0 (d1.scale (k:=1/ k) fun x=>by rw[s];generalize 1/ k=m at *;grind) d2;refine⟨L,k,e,C,s,K,fun v M hv=>?_⟩;obtain⟨F,H,hv⟩:=N v M hv;refine⟨F* (1/ k),Rat.mul_pos H w,fun x=>?_⟩;rw[hv,cQ,JH s x];generalize 1/ k=m at *
 grind;grind
section
variable {f:Nat}{p:Lq}{c:Cnt}(h:dz f p=some c)(hp:nz p)
include h hp
theorem k7(hxy:x<=y):cD c x<=cD c y:=(fZ h hp).2.2.2.2.2 x y hxy
theorem CC{w:Rat}(hwx:w< x):cD c w<=ca c x:=by
 obtain⟨_,_,L,k,e,d,b,a⟩:=xX h hp;unfold ca;by_cases g:ak c.p x=0;have:=a.root hwx (by grind);unfold cD;rw[e];unfold chV at this;omega;rw[if_neg g];exact k7 h hp (by grind)
theorem pI(x:Rat):ca c x<=cD c x/\cD c x<=ca c x+1:=by unfold ca;grind
theorem Ha(hxy:x<=y):cD c y=ca c x↔Far p x y:=by
 obtain⟨f,j,L,k,e,u,r,m⟩:=xX h hp;have q:k≠0:=by grind
 have v:=k7 h hp hxy;have d:∀z,cD c z=c.far- chV (b4 c.p::L) z:=fun z=>by unfold cD chV;rw[e]
 constructor;intro g;have l:ak c.p x≠0:=fun s=>by unfold ca at g;grind
 unfold ca at g;rw[if_neg l,d,d] at g;obtain⟨ε,ε0,hε⟩:=m.away hxy (fun s=>l (by grind)) (by omega);have i:Far (b4 c.p) x y:=⟨ε,ε0,fun z a b=>(hε z a b).1⟩;have o:Dv c.p (b4 c.p):=⟨[k],fun x=>by rw[aO,aV];grind⟩;exact SF.far _ p c.p (Nat.le_refl _) hp f x y (i.dv o);intro i;have n:=i.dv j;have t:Far (b4 c.p) x y:=n.k q r;obtain⟨ε,ε0,hε⟩:=t;have:=m.calm ε0 hxy hε;unfold ca;rw[if_neg (n.ne (by grind) hxy),d,d];omega
end
end
def lag(v:Lq):Nat->Rat
 |0=>0
 |m+1=>coP v m
theorem JU(v:Lq)(c:Rat)(n:Nat):coP (aK v [c,1]) n=coP v n* c+lag v n:=by
 have e:ao (aK v [c,1])=ao (aK [c,1] v):=iw fun x=>by rw[a6,a6];grind
 rw[trim_iff.1 e n,oV];show coP (pK (kV v c) (0::pK (kV v 1) (0::[]))) n=_;rw[jo,gS];cases n with
 |zero=>rw[dA];rfl
 |succ m=>
  rw[df,jo,gS];have:coP [(0:Rat)] m=0:=by cases m <;> rfl
  rw[this];show _+(coP v m* 1+0)=_+coP v m;grind
theorem o7(v:Lq)(c:Rat):(aK v [c,1]).length<=v.length+1:=by
 by_cases h:v=[];subst h;unfold aK;simp;have:=xi v [c,1] h;simpa using this
theorem gF(p:Lq):(aH p).length<=p.length+1:=by
 have:=bR (aN (p.length+1) fun i=>if i=0 then 0 else coP p (i- 1) / ((i:Nat):Int));simp at this;unfold aH;omega
theorem Aq(p q:Lq):(eg p q).length<=max p.length q.length:=by
 have a:=lX p (ba q (-1));have b:=dJ q (-1);unfold eg;omega
theorem J8{p:Lq}{s:Nat}(h:bdL p s):bdL (ao p) s:=fun q a=>h q (cI a)




theorem Ce{B x:Rat}(hB:1<=B)(hx:B<=x):∀(l:Lq) (lead:Rat),l.getLast?=some lead->lead≠0->(∀c∈l.dropLast,ab c<=(B- 1) * ab lead)->
    ab lead<=ab (ak l x)
 |[],_,h,_,_=>by cases h
 |[a],lead,h,h0,_=>by
  have e:a=lead:=by simpa using h
  subst e;have e:ak [a] x=a:=by rw[aO,aV];grind
  rw[e];grind
 |a::b::m,lead,h,h0,hc=>by
  rw[List.getLast?_cons_cons] at h;rw[List.dropLast_cons_cons] at hc;have i1:=Ce hB hx (b::m) lead h h0 fun c d=>hc c (List.mem_cons_of_mem _ d);have ha:=hc a (List.mem_cons_self ..);have e:ak (a::b::m) x=ak (b::m) x* x+a:=aO ..;generalize ak (b::m) x=w at *
  have j:=Rat.mul_le_mul_of_nonneg_left i1 (show 0<=B- 1 by grind);have f:=sT (w* x+a) (-a);rw[Es,show w* x+a+ -a=w* x by grind,fR] at f;have g:ab x=x:=by unfold ab;rw[if_neg (by grind)]
  have i:=Rat.mul_le_mul_of_nonneg_left (show B<=ab x by rw[g];exact hx) (gi w);rw[e];grind
theorem wo{q:Lq}(h:nz q){x:Rat}(hx:a8 q<=x):ab (aM q)<=ab (ak q x):=by
 have g:=List.length_pos_iff.2 h;have f:=dn (l:=q) (n:=(ao q).length- 1) (by omega)
 have e:=Ce (o0 q) hx (ao q) (aM q) (by rw[List.getLast?_eq_getElem?];exact f) (dd h) fun c b=>by
  rw[List.dropLast_eq_take] at b;have d:=(rl (aM q) _ 0).2 c b;have a:=fR (c/ aM q) (aM q);rw[Rat.div_mul_cancel (dd h)] at a;rw[a];have i:=Rat.mul_le_mul_of_nonneg_right d (gi (aM q));unfold a8;grind
 rwa[cP] at e
theorem xh(p q:Lq):(aK p q).length<=p.length+q.length- 1:=by
 by_cases h:p=[];subst h;unfold aK;simp;exact xi p q h
def eL(N:Lq):Nat->Lq
 |0=>bi N
 |k+1=>eg (aK (eL N k) [0,1]) (ba N (coP (eL N k) (dg N- 1)))
theorem Ea(a b:Lq)(j:Nat):coP (a++b) j=if j< a.length then coP a j else coP b (j- a.length):=by
 unfold coP;grind

section
variable {a b:Rat}(h:a< b){k:Nat}(hk:1<=k/\k<=4)
include h hk
end

theorem bdL_mono'{l:Lq}{a b:Nat}(h:bdL l a)(hab:a<=b):bdL l b:=fun q c=>Nat.le_trans (h q c) hab
section
variable {a b:Rat}(h:a< b){k:Nat}(hk:1<=k/\k<=4)(ha:qs a<=20)(hb:qs b<=20)
include ha hb
end
section
variable {a b:Rat}(h:a< b){k:Nat}(hk:1<=k/\k<=4)
include h hk
variable (ha:qs a<=20)(hb:qs b<=20)
include ha hb
end
section
variable {a b:Rat}(h:a< b){k:Nat}(hk:1<=k/\k<=4)(ha:qs a<=20)(hb:qs b<=20)
include h hk ha hb
end
section
variable {a b a' b':Rat}(h:a< b)(h':a'< b'){k:Nat}(hk:1<=k/\k<=4)
include h h'
end
section
variable {a b a' b':Rat}(ha:qs a<=20)(hb:qs b<=20)(ha':qs a'<=20)(hb':qs b'<=20)
include ha hb ha' hb'
end

theorem uf{l:Lq}{q:Rat}(h:q∈l):∃i,i< l.length/\coP l i=q:=by
 obtain⟨i,a,e⟩:=List.getElem_of_mem h;exact⟨i,a,by rw[<-e];unfold coP;rw[List.getD_eq_getElem?_getD,List.getElem?_eq_getElem a];rfl⟩
theorem qiN(n:Int):qs (n:Rat)<=max (bl n.natAbs) 1:=by
 have e1:(n:Rat).num=n:=rfl;have e2:(n:Rat).den=1:=rfl;unfold qs;rw[e2,jE];grind
theorem qi21{n:Int}(h: -2000000<=n/\n<=2000000):qs (n:Rat)<=21:=by
 have a:=qiN n;have b:bl n.natAbs<=21:=gM (by omega);omega
theorem nS{p:Lq}{s:Nat}(h:bdL p s)(hs:1<=s)(hl:p.length<=1000000):bdL (aH p) (s+21):=fun q a=>by
 obtain⟨i,g,e⟩:=uf a;have b:=gF p;rw[<-e,fg];split;exact Nat.le_trans (by decide:qs 0<=1) (by omega);have d:=ik (coP p (i- 1)) (((i:Nat):Int):Rat);have c:=eM h hs (i- 1);have f:=qi21 (n:=((i:Nat):Int)) (by omega);omega
section
variable {a b:Rat}{p q:Nat}(ha:qs a<=256)(hb:qs b<=256)(hp:p<=8)(hq:q<=8)
include ha in
end



section
variable {N:Lq}(hN:nz N)(hm:aM N=1)(h1:1<=dg N)
include hN hm h1
end

section
variable {x y:Rat}{h:Nat}
def IB(x:Rat)(h:Nat):Prop:=∃z:Int,x=(z:Rat)/\bl z.natAbs<=h
theorem IB.mono{k:Nat}(H:IB x h)(hk:h<=k):IB x k:=by obtain⟨z,e,b⟩:=H;exact⟨z,e,by omega⟩
theorem IB.zero(h:Nat):IB 0 h:=⟨0,rfl,Nat.zero_le _⟩
theorem IB.one:IB 1 1:=⟨1,rfl,by decide⟩
theorem IB.mul{k:Nat}(H:IB x h)(K:IB y k):IB (x* y) (h+k):=by
 obtain⟨z,e,b⟩:=H;obtain⟨w,c,a⟩:=K;exact⟨z* w,by grind,dC b a⟩
theorem IB.add(H:IB x h)(K:IB y h):IB (x+y) (h+1):=by
 obtain⟨z,e,b⟩:=H;obtain⟨w,c,a⟩:=K;exact⟨z+w,by grind,sO b a⟩
theorem IB.neg(H:IB x h):IB (-x) h:=by
 obtain⟨z,e,b⟩:=H;exact⟨-z,by grind,by grind⟩
theorem IB.eq(H:IB x h)(e:x=y):IB y h:=e▸H
structure HS (p:Lq)(K:Rat)(h:Nat):Prop where
 ne:K≠0
 sc:IB K h
 co:∀i,IB (coP p i* K) h
theorem JT(p q:Lq)(n:Nat):coP (aK p q) n=ky p q p.length n:=by
 rw[<-vZ];exact trim_iff.1 (iw fun x=>by rw[a6,pz]) n
theorem FT{p q:Lq}{K K':Rat}{h h':Nat}(H:HS p K h)(H':HS q K' h')(n:Nat):∀i,IB (ky p q i n* (K* K')) (h+h'+i)
 |0=>(IB.zero _).eq (by show 0=0* _;grind)
 |i+1=>by
  have a:=FT H H' n i
  have b:IB ((if i<=n then coP p i* coP q (n- i) else 0) * (K* K')) (h+h'+i):=by
   split;exact(((H.co i).mul (H'.co (n- i))).eq (by grind)).mono (by omega);exact(IB.zero _).eq (by grind)
  exact((a.add b).eq (by rw[ky];grind)).mono (by omega)
theorem HS.mul{p q:Lq}{K K':Rat}{h' L:Nat}(H:HS p K h)(H':HS q K' h')(hl:p.length<=L):HS (aK p q) (K* K') (h+h'+L) where
 ne e:=(Rat.mul_eq_zero.1 e).elim H.ne H'.ne
 sc:=(H.sc.mul H'.sc).mono (by omega)
 co i:=by
  rw[JT];exact(FT H H' i p.length).mono (by omega)
end

section
variable {f:Nat}{p:Lq}{c:Cnt}(h:dz f p=some c)(hp:nz p)
include h hp
end




section
variable {f:Nat}{q d:Lq}{c:Cnt}{σ:Rat}(h:dz f d=some c)(hd:nz d)(hσ:σ=1\/σ= -1)(hdq:∀z,dvE q z=σ* ak d z)
include hσ hdq
end
def qY:Nat->Rat
 |0=>1
 |n+1=>qY n* (((n+1:Nat):Int):Rat)
theorem vI:∀n,0< qY n
 |0=>by decide+kernel
 |n+1=>by
  exact Rat.mul_pos (vI n) (by rw[show(0:Rat)=((0:Int):Rat) from rfl,Rat.intCast_lt_intCast];omega)
theorem De(k:Nat):(((k+1:Nat):Int):Rat)≠0:=fun e=>by have:=Rat.intCast_inj.1 (e.trans Rat.intCast_zero.symm);omega
theorem HS.nil:HS [] 1 1:=⟨by decide,IB.one,fun i=>(IB.zero 1).eq (by show 0=(0:Rat) * 1;grind)⟩
section
variable {m:Lq}{k:Rat}{M n:Nat}(k0:k≠0)(hm:∀i,IB (coP m i* k) M)(h7:n<=7)
end
theorem IB_quot{x y:Rat}{h:Nat}(H:IB x h)(K:IB y h)(y0:y≠0)(h1:1<=h):qs (x/ y)<=h:=by
 have a:Ht [x,y] h:=⟨1,by decide,fun i=>by
  have:IB (coP [x,y] i* 1) h:=by
   match i with
   |0=>exact H.eq (by show x=x* 1;grind)
   |1=>exact K.eq (by show y=y* 1;grind)
   |i+2=>exact(IB.zero h).eq (by show 0=0* 1;grind)
  obtain⟨z,e,b⟩:=this;exact⟨z,e,b⟩⟩
 exact a.quot 0 1 y0 h1
section
variable {m:Lq}{s n:Nat}(hm:bdL m s)(hs1:1<=s)(hs:s<=3000)(hl:m.length<=16)(h6:n<=6)
end
theorem nz_int'{n:Int}(h:n≠0):(n:Rat)≠0:=fun e=>h (by have:=congrArg Rat.num e;exact this)
theorem IB.nat{n h:Nat}(hn:bl n<=h):IB (((n:Nat):Int):Rat) h:=⟨n,rfl,by rwa[Int.natAbs_natCast]⟩
theorem Eu{x:Rat}{h:Nat}(hx:qs x<=h):IB (x* ((x.den:Int):Rat)) h/\IB (((x.den:Nat):Int):Rat) h/\(((x.den:Nat):Int):Rat)≠0:=by
 have d:=ez x;have c:=ed x;refine⟨⟨x.num,?_,by omega⟩,IB.nat (by omega),nz_int' (by have:=x.den_pos;omega)⟩;have a:(((x.den:Nat):Int):Rat)≠0:=nz_int' (by have:=x.den_pos;omega);have b:(x.num:Rat) / (((x.den:Nat):Int):Rat)=x:=by rw[<-Rat.divInt_eq_div,Rat.num_divInt_den]
 have e2:(x.num:Rat) / (((x.den:Nat):Int):Rat) * (((x.den:Nat):Int):Rat)=(x.num:Rat):=Rat.div_mul_cancel a;rw[b] at e2;exact e2
theorem HS.mono{p:Lq}{K:Rat}{h k:Nat}(H:HS p K h)(hk:h<=k):HS p K k:=⟨H.ne,H.sc.mono hk,fun i=>(H.co i).mono hk⟩
section
variable {h:Nat}{p:Lq}{K:Rat}
theorem Kn{n:Nat}(hn:bl n<=h):IB ((n:Int):Rat) h:=⟨n,rfl,by grind⟩
theorem zA:∀n,n<=255->IB (qY n) (8* n+1)
 |0,_=>IB.one
 |n+1,h=>by
  exact((zA n (by omega)).mul (Kn (h:=8) (gM (by omega)))).mono (by omega)
theorem BK:∀n i,i< n->n<=255->∃z:Rat,IB z (8* n+1)/\z* (((i+1:Nat):Int):Rat)=qY n
 |0,_,h,_=>by omega
 |n+1,i,h,hn=>by
  by_cases e:i=n;subst e;exact⟨qY i,(zA i (by omega)).mono (by omega),by rw[qY]⟩;obtain⟨z,a,b⟩:=BK n i (by omega) (by omega);refine⟨z* (((n+1:Nat):Int):Rat),(a.mul (Kn (h:=8) (gM (by omega)))).mono (by omega),?_⟩;rw[qY];grind
theorem HS.bdL(H:HS p K h)(h1:1<=h):Abs.bdL p h:=fun q a=>by
 obtain⟨i,_,e⟩:=uf a;have:=IB_quot (H.co i) H.sc H.ne h1;rw[Rat.mul_div_cancel H.ne] at this;grind
theorem HS.integral{L:Nat}(H:HS p K h)(hl:p.length<=L)(hL:L<=255):HS (aH p) (K* qY L) (h+8* L+1) where
 ne e:=(Rat.mul_eq_zero.1 e).elim H.ne (by have:=vI L;grind)
 sc:=(H.sc.mul (zA L hL)).mono (by omega)
 co i:=by
  rw[fg];cases i with
  |zero=>exact(IB.zero _).eq (by grind)
  |succ i=>
   by_cases g:i< L;obtain⟨z,b,c⟩:=BK L i g hL;refine((H.co i).mul b).eq ?_|>.mono (by omega);have:=Rat.div_mul_cancel (a:=coP p i) (De i);grind;rw[eH (by omega)];exact(IB.zero _).eq (by grind)
theorem BL{K x d:Rat}{h e:Nat}(hd:IB d e)(hx:IB (x* d) e):∀(l:Lq),(∀c∈l,IB (c* K) h)->IB (ak l x* (K* d^ l.length)) (h+l.length* (e+2))
 |[],_=>(IB.zero _).eq (by rw[aV];grind)
 |a::l,hl=>by
  have b:=BL hd hx l fun c f=>hl c (List.mem_cons_of_mem _ f);have ha:=hl a (List.mem_cons_self ..)
  have hp:∀n:Nat,IB (d^ n) (n* e+1):=fun n=>by
   induction n with
   |zero=>rw[Rat.pow_zero];exact IB.one.mono (by omega)
   |succ n b=>rw[Rat.pow_succ];exact(b.mul hd).mono (by grind)
  have e2:(a::l).length* (e+2)=l.length* (e+2)+e+2:=by grind
  have s1:=b.mul hx;have s2:=ha.mul (hp (l.length+1));have g:l.length* (e+2)=l.length* e+l.length* 2:=by grind
  have i:(l.length+1) * e=l.length* e+e:=Nat.succ_mul _ _;refine(((s1.mono (show _<=h+l.length* (e+2)+e+1 by omega)).add (s2.mono (by omega))).eq ?_).mono (by omega);rw[aO];grind
theorem HS.all(H:HS p K h):∀c∈p,IB (c* K) h:=fun c a=>by
 obtain⟨i,_,e⟩:=uf a;rw[<-e];exact H.co i
theorem HS.k{l d:Rat}{e:Nat}(H:HS p K h)(d0:d≠0)(hd:IB d e)(hl:IB (l* d) e):HS (ba p l) (K* d) (h+e) where
 ne g:=(Rat.mul_eq_zero.1 g).elim H.ne d0
 sc:=H.sc.mul hd
 co i:=by rw[cy];exact((H.co i).mul hl).eq (by grind)
theorem HS.rescale{d:Rat}{e:Nat}(H:HS p K h)(d0:d≠0)(hd:IB d e):HS p (K* d) (h+e) where
 ne g:=(Rat.mul_eq_zero.1 g).elim H.ne d0
 sc:=H.sc.mul hd
 co i:=((H.co i).mul hd).eq (by grind)
theorem HS.less{v:Rat}(H:HS p K h)(hv:IB (v* K) h):HS (eg p (eJ v)) K (h+1) where
 ne:=H.ne
 sc:=H.sc.mono (by omega)
 co i:=by
  rw[ff,sJ];split;exact((H.co i).add hv.neg).eq (by grind);exact((H.co i).mono (by omega)).eq (by grind)
theorem HS.plus{q:Lq}(H:HS p K h)(G:HS q K h):HS (fQ p q) K (h+1) where
 ne:=H.ne
 sc:=H.sc.mono (by omega)
 co i:=by rw[iB];exact((H.co i).add (G.co i)).eq (by grind)
end
theorem HK(p:Lq)(v:Rat):eg p [v]=eg p (eJ v):=by
 have a:ao (eg p [v])=eg p [v]:=by unfold eg fQ;exact cw _
 have b:ao (eg p (eJ v))=eg p (eJ v):=by unfold eg fQ;exact cw _
 rw[<-a,<-b];exact eqv_trim.1 fun x=>by rw[dp,dp,BM,aO,aV];grind
theorem mf{d:Rat}{e:Nat}(hd:IB d e):∀n:Nat,IB (d^ n) (n* e+1)
 |0=>by rw[Rat.pow_zero];exact IB.one.mono (by omega)
 |n+1=>by rw[Rat.pow_succ];exact((mf hd n).mul hd).mono (by rw[Nat.succ_mul];omega)
def D9(p:Lq)(n:Nat):Lq:=ao (p.take (n+1))
theorem BX(p:Lq)(n i:Nat):coP (p.take n) i=if i< n then coP p i else 0:=by
 unfold coP;rw[List.getD_eq_getElem?_getD,List.getD_eq_getElem?_getD,List.getElem?_take];split <;> rfl
theorem coP_cut(p:Lq)(n i:Nat):coP (D9 p n) i=if i<=n then coP p i else 0:=by
 rw[D9,bv,BX];by_cases h:i<=n;rw[if_pos h,if_pos (by omega)];rw[if_neg h,if_neg (by omega)]
theorem BW(p:Lq)(n:Nat):(D9 p n).length<=n+1:=by
 have a:=bR (p.take (n+1));have b:(p.take (n+1)).length<=n+1:=by rw[List.length_take];omega
 unfold D9;omega
theorem HS.cut{p:Lq}{K:Rat}{h:Nat}(H:HS p K h)(n:Nat):HS (D9 p n) K h:=⟨H.ne,H.sc,fun i=>by
 rw[coP_cut];split;exact H.co i;exact(IB.zero h).eq (by grind)⟩
theorem HS.plus2{p q:Lq}{K K':Rat}{h h':Nat}(H:HS p K h)(G:HS q K' h'):HS (fQ p q) (K* K') (h+h'+1):=
 (H.rescale G.ne G.sc).plus ((Rat.mul_comm K' K▸G.rescale H.ne H.sc).mono (by omega))
theorem Ak{s:Nat}:∀(l:Lq),Abs.bdL l s->∃K,HS l K (s* l.length+1)
 |[],_=>⟨1,HS.nil⟩
 |c::l,hl=>by
  obtain⟨K,H⟩:=Ak l fun q b=>hl q (List.mem_cons_of_mem _ b);obtain⟨d,a,f⟩:=Eu (hl c (List.mem_cons_self ..));have e:s* (c::l).length=s* l.length+s:=by grind
  refine⟨K* ((c.den:Int):Rat),(fun g=>(Rat.mul_eq_zero.1 g).elim H.ne f),(H.sc.mul a).mono (by omega),fun i=>?_⟩;cases i with
  |zero=>rw[dA];exact((H.sc.mul d).eq (by grind)).mono (by omega)
  |succ i=>rw[df];exact(((H.co i).mul a).eq (by grind)).mono (by omega)
theorem ww{c d K:Rat}{h:Nat}(d0:d≠0)(hd:IB d 20)(hc:IB (c* d) 20):∀(l:Lq) (b:Rat),HS (b::l) K h->HS (cn [c,1] (b::l)) (K* d^ l.length) (h+22* l.length)
 |[],b,H=>by
  refine⟨by rw[List.length_nil,Rat.pow_zero];have:=H.ne;grind,H.sc.eq (by simp),fun i=>?_⟩;rw[show cn [c,1] [b]=fQ (aK [] [c,1]) (eJ b) from rfl,iB,sJ,show aK [] [c,1]=[] from if_pos (.inl rfl),ue];have e:=H.co 0;rw[dA] at e;split;exact e.eq (by rw[List.length_nil,Rat.pow_zero];grind);exact(IB.zero _).eq (by grind)
 |b'::l,b,H=>by
  have Ht:HS (b'::l) K h:=⟨H.ne,H.sc,fun i=>H.co (i+1)⟩;have a:=ww d0 hd hc l b' Ht;have hp:=mf hd (l.length+1);have hb:=H.co 0;rw[List.length_cons];refine⟨fun g=>(Rat.mul_eq_zero.1 g).elim H.ne fun g=>?_,(H.sc.mul hp).mono (by omega),fun i=>?_⟩
  have:∀n:Nat,d^ n≠0:=fun n=>by
   induction n with
   |zero=>grind
   |succ n a=>grind
  exact this _ g;rw[show cn [c,1] (b::b'::l)=fQ (aK (cn [c,1] (b'::l)) [c,1]) (eJ b) from rfl,iB,JU,sJ];generalize cn [c,1] (b'::l)=X at *
  have s1:=(a.co i).mul hc
  have s2:IB (lag X i* (K* d^ l.length) * d) (h+22* l.length+20):=by
   cases i with
   |zero=>exact(IB.zero _).eq (by rw[show lag X 0=0 from rfl];grind)
   |succ i=>exact(a.co i).mul hd
  have f:IB ((if i=0 then b else 0) * K* d^ (l.length+1)) (h+22* l.length+21):=by
   split;exact(hb.mul hp).mono (by omega);exact(IB.zero _).eq (by grind)
  refine(((s1.add s2).add f).eq ?_).mono (by omega);grind
theorem HS_shift'{c d K:Rat}{h N:Nat}(d0:d≠0)(hd:IB d 20)(hc:IB (c* d) 20){l:Lq}(H:HS l K h)(hl:l.length<=N+1):∃K',HS (cn [c,1] l) K' (h+22* N):=by
 cases l with
 |nil=>exact⟨K,H.mono (by omega)⟩
 |cons b l=>
  rw[List.length_cons] at hl;exact⟨_,(ww d0 hd hc l b H).mono (by omega)⟩
theorem kz(c:Rat):∀l:Lq,(cn [c,1] l).length<=l.length
 |[]=>Nat.le_refl _
 |a::l=>by
  have b:=lX (aK (cn [c,1] l) [c,1]) (eJ a);have d:=o7 (cn [c,1] l) c;have f:=kz c l;have e:=pF a;rw[List.length_cons];show(fQ (aK (cn [c,1] l) [c,1]) (eJ a)).length<=_;omega
theorem oC{c d K:Rat}{h N:Nat}(d0:d≠0)(hd:IB d 20)(hc:IB (c* d) 20)(hq:qs c<=20)(h1:1<=h)(hN:(N+1) * (h+22* N+22)<=100000000)(hN2:N<=1000):∀(l:Lq),l.length<=N+1->HS l K h->gP [c,1] l
 |[],_,_=>trivial
 |a::l,hl,H=>by
  rw[List.length_cons] at hl;have Ht:HS l K h:=⟨H.ne,H.sc,fun i=>H.co (i+1)⟩;obtain⟨n,j⟩:=HS_shift' (N:=N) d0 hd hc Ht (by omega);have hb:=j.bdL (by omega);have m:=mxL_le hb (by omega);have g:=kz c l;have k:=o7 (cn [c,1] l) c
  have f:mxL [c,1]<=20:=mxL_le (fun q b=>by
   rcases List.mem_cons.1 b with rfl|b
   exact hq;rw[List.mem_singleton.1 b];exact Nat.le_trans (by decide:qs 1<=1) (by decide)) (by decide)
  have ha:=H.bdL h1 a (List.mem_cons_self ..);have e:(cn [c,1] l).length* (mxL (cn [c,1] l)+mxL [c,1]+1)<=(N+1) * (h+22* N+22):=Nat.mul_le_mul (by omega) (by omega);have e2:h<=(N+1) * (h+22* N+22):=Nat.le_trans (by omega) (Nat.le_mul_of_pos_left _ (by omega));refine⟨oC d0 hd hc hq h1 hN hN2 l (by omega) Ht,⟨by omega,by omega,by omega,by simp⟩,by unfold sm;omega,by omega⟩
abbrev Ke:=List (Lq×Lq)
def upF(a:Rat)(u o:Lq)(p:Lq×Lq):Lq:=fQ o (aK p.1 (eg (aH (aK p.2 u)) [ak (aH (aK p.2 u)) a]))
def upL(a:Rat)(u:Lq):Ke->Lq->Lq
 |[],o=>o
 |p::k,o=>upL a u k (upF a u o p)
def upK(k:Ke)(a:Rat)(u:Lq):Lq:=upL a u k []
theorem Ap(a:Rat)(u:Lq):∀(k:Ke) (o:Lq) (p:Lq×Lq),upL a u (k++[p]) o=upF a u (upL a u k o) p
 |[],_,_=>rfl
 |q::k,o,p=>Ap a u k (upF a u o q) p
structure OkUF (a:Rat)(u o:Lq)(p:Lq×Lq):Prop where
 m1:j7 p.2 u
 i1:(aK p.2 u).length<=1099511627775
 i2:smL (aH (aK p.2 u))
 e1:gz (aH (aK p.2 u)) a
 l1:(aH (aK p.2 u)).length<=1099511627776
 m2:j7 p.1 (eg (aH (aK p.2 u)) [ak (aH (aK p.2 u)) a])
 o1:smL o
 o2:o.length<=1099511627776
 l2:(aK p.1 (eg (aH (aK p.2 u)) [ak (aH (aK p.2 u)) a])).length<=1099511627776
def AT(k:Ke)(a:Rat)(u:Lq):Prop:=∀i p,k[i]?=some p->OkUF a u (upL a u (k.take i) []) p
structure KHS (k:Ke)(KA KB:Rat)(h:Nat):Prop where
 len:∀p∈k,p.1.length<=4/\p.2.length<=4
 a:∀p∈k,HS p.1 KA h
 b:∀p∈k,HS p.2 KB h
theorem pow_nz'{d:Rat}(h:d≠0):∀n:Nat,d^ n≠0
 |0=>by grind
 |n+1=>by rw[Rat.pow_succ];intro g;rcases Rat.mul_eq_zero.1 g with g|g;exact pow_nz' h n g;grind
structure TeB (A B u:Lq)(a S:Rat)(h:Nat):Prop where
 m:(aK B u).length<=u.length+4
 il:(aH (aK B u)).length<=u.length+5
 ib:bdL (aH (aK B u)) h
 sb:bdL (eg (aH (aK B u)) [ak (aH (aK B u)) a]) h
 sl:(eg (aH (aK B u)) [ak (aH (aK B u)) a]).length<=u.length+5
 l:(aK A (eg (aH (aK B u)) [ak (aH (aK B u)) a])).length<=u.length+9
 H:HS (aK A (eg (aH (aK B u)) [ak (aH (aK B u)) a])) S h
theorem te_HS{A B u:Lq}{a d KA KB K:Rat}{h h':Nat}(hA:A.length<=4)(hB:B.length<=4)(hu:u.length<=245)(HA:HS A KA h)(HB:HS B KB h)(H:HS u K h')(d0:d≠0)(hd:IB d 20)(ha:IB (a* d) 20)(h1:1<=h):TeB A B u a (KA* (KB* K* qY 250* d^ 255)) (h'+2* h+13000):=by
 have m1:=vd B u;have i1:=gF (aK B u);have k:=HB.mul H hB;have c:=k.integral (L:=250) (by omega) (by decide);have j:=Aq (aH (aK B u)) [ak (aH (aK B u)) a];rw[List.length_singleton] at j;have o:=vd A (eg (aH (aK B u)) [ak (aH (aK B u)) a]);have e:=c.bdL (by omega);generalize l:aH (aK B u)=f at *
 have m:f.length<=250:=by omega
 have hp:=mf hd 255;have g:=mf hd (255- f.length);have hv:=(BL hd ha f c.all).mul g;have e0:d^ f.length* d^ (255- f.length)=d^ 255:=by rw[<-tc,show f.length+(255- f.length)=255 by omega]
 have n:=(c.rescale (pow_nz' d0 255) hp).mono (show _<=h'+h+12800 by omega);have b:=n.less (v:=ak f a) ((hv.eq (by grind)).mono (by omega));rw[<-HK] at b;have i:=HA.mul b hA;subst l;exact⟨by omega,by omega,bdL_mono' e (by omega),bdL_mono' (b.bdL (by omega)) (by omega),by omega,by omega,i.mono (by omega)⟩
theorem Hu{a d KA KB K:Rat}{u:Lq}{h h':Nat}(hu:u.length<=240)(H:HS u K h')(d0:d≠0)(hd:IB d 20)(ha:IB (a* d) 20)(hq:qs a<=20)(h1:1<=h)(hlim:h'+2* h+14000<=400000000):∀(k:Ke) (o:Lq) (n:Nat),KHS k KA KB h->n+k.length<=900->o.length<=u.length+9->HS o (KA* (KB* K* qY 250* d^ 255)) (h'+2* h+13000+n)->
    HS (upL a u k o) (KA* (KB* K* qY 250* d^ 255)) (h'+2* h+13000+(n+k.length))/\(upL a u k o).length<=u.length+9/\∀i p,k[i]?=some p->OkUF a u (upL a u (k.take i) o) p
 |[],o,n,_,_,ho,Ho=>⟨Ho,ho,fun i p hp=>by grind⟩
 |p::k,o,n,hk,hn,ho,Ho=>by
  rw[List.length_cons] at hn;obtain⟨l1,l2⟩:=hk.len p (List.mem_cons_self ..);have f:=hk.a p (List.mem_cons_self ..);have e:=hk.b p (List.mem_cons_self ..);have T:=te_HS l1 l2 (show u.length<=245 by omega) f e H d0 hd ha h1;have al:=lX o (aK p.1 (eg (aH (aK p.2 u)) [ak (aH (aK p.2 u)) a]));have v:=T.l;have r:HS (upF a u o p) (KA* (KB* K* qY 250* d^ 255)) (h'+2* h+13000+(n+1)):=(Ho.plus (T.H.mono (by omega))).mono (by omega);obtain⟨j,s,g⟩:=Hu hu H d0 hd ha hq h1 hlim k (upF a u o p) (n+1) ⟨fun q hq=>hk.len q (List.mem_cons_of_mem _ hq),fun q hq=>hk.a q (List.mem_cons_of_mem _ hq),fun q hq=>hk.b q (List.mem_cons_of_mem _ hq)⟩ (by omega) (by unfold upF;omega) r;refine⟨by rw[List.length_cons,show n+(k.length+1)=n+1+k.length by omega];exact j,s,fun i q c=>?_⟩;cases i with
  |zero=>
   cases c;show OkUF a u o p;have x:=mxL_le (f.bdL h1) h1;have b1:=mxL_le (e.bdL h1) h1;have u1:=mxL_le ((H.mono (show h'<=h'+1 by omega)).bdL (by omega)) (by omega);have i1:=mxL_le T.ib (by omega);have s1:=mxL_le T.sb (by omega);have o1:=Ho.bdL (by omega);have t:=T.m;have il:=T.il;have sl:=T.sl;have e1:p.2.length* (mxL p.2+mxL u+1)<=4* (h+h'+2):=Nat.mul_le_mul l2 (by omega);have e2:p.1.length* (mxL p.1+mxL (eg (aH (aK p.2 u)) [ak (aH (aK p.2 u)) a])+1)<=4* (h'+3* h+13002):=Nat.mul_le_mul l1 (by omega);have w:(aH (aK p.2 u)).length* (mxL (aH (aK p.2 u))+qs a+1)<=250* (h'+2* h+13021):=Nat.mul_le_mul (by omega) (by omega);exact⟨⟨by omega,by omega,by omega,by omega⟩,by omega,dG T.ib (by omega),⟨by omega,by omega⟩,by omega,⟨by omega,by omega,by omega,by omega⟩,dG o1 (by omega),by omega,by omega⟩
  |succ i=>exact g i q (by grind)
theorem yk{k:Ke}{a d KA KB K:Rat}{u:Lq}{h h':Nat}(hk:KHS k KA KB h)(hkl:k.length<=900)(hu:u.length<=240)(H:HS u K h')(d0:d≠0)(hd:IB d 20)(ha:IB (a* d) 20)(hq:qs a<=20)(h1:1<=h)(A0:KA≠0)(B0:KB≠0)(IA:IB KA h)(IBB:IB KB h)(hlim:h'+2* h+14000<=400000000):HS (upK k a u) (KA* (KB* K* qY 250* d^ 255)) (h'+2* h+13000+k.length)/\(upK k a u).length<=u.length+9/\AT k a u:=by
 have c:HS [] (KA* (KB* K* qY 250* d^ 255)) (h'+2* h+13000+0):=by
  refine⟨fun g=>?_,?_,fun i=>(IB.zero _).eq (by show 0=(0:Rat) * _;grind)⟩;rcases Rat.mul_eq_zero.1 g with g|g
  exact A0 g;rcases Rat.mul_eq_zero.1 g with g|g
  rcases Rat.mul_eq_zero.1 g with g|g
  rcases Rat.mul_eq_zero.1 g with g|g
  exact B0 g;exact H.ne g;have:=vI 250;grind;exact pow_nz' d0 255 g;have b:=zA 250 (by omega);have hp:=mf hd 255;exact(IA.mul (((IBB.mul H.sc).mul b).mul hp)).mono (by omega)
 have:=Hu hu H d0 hd ha hq h1 hlim k [] 0 hk (by omega) (Nat.zero_le _) c;rw[Nat.zero_add] at this;exact this
def seK(k:Ke)(G:Lq)(L:Rat)(n:Nat):Nat->Lq
 |0=>[]
 |r+1=>D9 (fQ G (ba (upK k 0 (seK k G L n r)) L)) n
theorem yA(k:Ke)(G:Lq)(L:Rat)(n:Nat):∀r,(seK k G L n r).length<=n+1
 |0=>by rw[seK];grind
 |r+1=>by exact BW _ _
section
variable {k:Ke}{G:Lq}{L dL KA KB KG:Rat}{h:Nat}(hk:KHS k KA KB h)(hkl:k.length<=900)(h1:1<=h)(h2:h<=1000)(A0:KA≠0)(B0:KB≠0)(IA:IB KA h)(IBB:IB KB h)(HG:HS G KG 3000)(l0:dL≠0)(l1:IB dL 20)(l2:IB (L* dL) 20)
include hk hkl h1 h2 A0 B0 IA IBB HG l0 l1 l2
theorem HR{n:Nat}(hn:n<=40):∀r,r<=1000->(∃K,HS (seK k G L n r) K (20000* r+1))/\AT k 0 (seK k G L n r)
 |0,_=>⟨⟨1,HS.nil.mono (by omega)⟩,(yk (u:=[]) (d:=1) hk hkl (by decide) HS.nil (by decide) (IB.one.mono (by omega)) ((IB.zero 20).eq (by grind)) (by decide) h1 A0 B0 IA IBB (by omega)).2.2⟩
 |r+1,hr=>by
  obtain⟨⟨K,H⟩,_⟩:=HR hn r (by omega);have f:=yA k G L n r;have e:=(yk (a:=0) (d:=1) hk hkl (by omega) H (by decide) (IB.one.mono (by omega)) ((IB.zero 20).eq (by grind)) (by decide) h1 A0 B0 IA IBB (by omega)).1;have c:=e.k l0 l1 l2;have b:=((HG.plus2 c).cut n).mono (show _<=20000* (r+1)+1 by omega);exact⟨⟨_,b⟩,(yk (a:=0) (d:=1) hk hkl (by have:=BW (fQ G (ba (upK k 0 (seK k G L n r)) L)) n;omega) b (by decide) (IB.one.mono (by omega)) ((IB.zero 20).eq (by grind)) (by decide) h1 A0 B0 IA IBB (by omega)).2.2⟩
end
def Ep(v:Sp):Rat:=if 0<=v.1 then v.2 else if v.2<=0 then -v.1 else lr [-v.1,v.2]
def jG{α:Type}(f:α->Rat):List α->Rat
 |[]=>0
 |p::k=>f p+jG f k
def mvK(a:Rat)(k:Ke):Ke:=k.map fun p=>(cn [a,1] p.1,cn [a,1] p.2)
def jh(b:Nat):Nat->Nat->Ln
 |0,_=>[]
 |n+1,m=>m % b::jh b n (m/ b)
@[simp] theorem kL (b:Nat):∀n m,(jh b n m).length=n
 |0,_=>rfl
 |n+1,m=>by simp[jh,kL b n]
theorem tF{b:Nat}(hb:0< b):∀n m,∀d∈jh b n m,d< b
 |0,_,d,h=>by cases h
 |n+1,m,d,h=>by
  rcases List.mem_cons.1 h with rfl|h
  exact Nat.mod_lt _ hb;exact tF hb n _ d h
theorem qm{b:Nat}(hb:0< b):∀{n m:Nat},m< b^ n->ofD b (jh b n m)=m
 |0,m,h=>by simp at h;subst h;rfl
 |n+1,m,h=>by
  rw[jh,ofD,qm hb (by rw[Nat.div_lt_iff_lt_mul hb];exact h)];exact Nat.mod_add_div m b
theorem AP{b:Nat}:∀{l:Ln},(∀d∈l,d< b)->jh b l.length (ofD b l)=l
 |[],_=>rfl
 |d::l,h=>by
  have a:=h d (List.mem_cons_self ..);have e:ofD b (d::l) % b=d:=by rw[ofD,Nat.add_mul_mod_self_left];exact Nat.mod_eq_of_lt a
  have c:ofD b (d::l) / b=ofD b l:=by rw[ofD,Nat.add_mul_div_left _ _ (by omega),Nat.div_eq_of_lt a];omega
  rw[List.length_cons,jh,e,c,AP fun x f=>h x (List.mem_cons_of_mem _ f)]
theorem zH{b n m:Nat}{l:Ln}(h:∀d∈l,d< b)(hl:l.length=n)(hv:ofD b l=m):l=jh b n m:=by
 subst hl hv;exact(AP h).symm
theorem Gf{v:Nat}(h1:1<=v)(h2:v< 1000000000):500000000<=v* (1000000000/ (v+1))/\(v+1) * (1000000000/ (v+1))<=1000000000/\1<=1000000000/ (v+1):=by
 have a:(v+1) * (1000000000/ (v+1))<=1000000000:=Nat.mul_div_le _ _;have c:1000000000< (v+1) * (1000000000/ (v+1))+(v+1):=Nat.lt_mul_div_succ _ (by omega);have b:1<=1000000000/ (v+1):=by grind
 refine⟨?_,a,b⟩;obtain⟨q,d⟩:∃q,q=1000000000/ (v+1):=⟨_,rfl⟩;rw[<-d] at a c b⊢;rw[Nat.add_mul] at a c;by_cases c1:500000000<=v;have:=Nat.mul_le_mul_left v b;omega;by_cases c2:250000000<=v;have:2<=q:=by grind
 have:=Nat.mul_le_mul_left v this;omega;by_cases c3:166666666<=v
 have:4<=q:=by
  rw[d,Nat.le_div_iff_mul_le (by omega)];omega
 have:=Nat.mul_le_mul_left v this;omega;by_cases c4:v=1;subst c4;omega
 have:q<=333333333:=by
  have:1000000000/ (v+1)<=1000000000/ 3:=Nat.div_le_div_left (by omega) (by omega);omega
 omega
theorem IR{b n p w u v lo lw:Nat}(hb:0< b)(hp:p=lo+b^ n* u)(hlo:lo< b^ n)(hw:w=lw+b^ n* v)(hlw:lw< b^ n)(hv:b<=2* v)(hvb:v< b)(hq:p< w* b):
    p/ w<=min (u/ v) (b- 1)/\min (u/ v) (b- 1)<=p/ w+2:=by
 have e:0< v:=by omega
 have m:0< b^ n:=Nat.pow_pos hb;have c:0< w:=by grind
 have q1:w* (p/ w)<=p:=Nat.mul_div_le _ _;have q2:p< w* (p/ w)+w:=Nat.lt_mul_div_succ _ c;have q3:p/ w< b:=by rw[Nat.div_lt_iff_lt_mul c,Nat.mul_comm];grind
 obtain⟨q,f⟩:∃q,q=p/ w:=⟨_,rfl⟩;rw[<-f] at q1 q2 q3⊢;have j:v* (u/ v)<=u:=Nat.mul_div_le _ _;obtain⟨g,a⟩:∃g,g=u/ v:=⟨_,rfl⟩;rw[<-a] at j;constructor;refine Nat.le_min.2 ⟨?_,by omega⟩;rw[<-a,a,Nat.le_div_iff_mul_le e]
 -- q v<=u,for q v b^n<=q w<=p< (u+1) b^n
 have i:b^ n* (q* v)<=w* q:=by rw[hw,Nat.add_mul,Nat.mul_assoc,Nat.mul_comm v q];omega
 have h:b^ n* (q* v)< b^ n* (u+1):=by grind
 have:=Nat.lt_of_mul_lt_mul_left h;omega;rw[<-a]
 -- if min g (b- 1)≥q+3 then(q+3) v<=u and so p≥b^n (q+3) v,but p< w (q+1)
 refine Nat.le_of_not_lt fun k=>?_;have d:q+3<=g:=by grind
 have o:q+3<=b- 1:=by grind
 have i:v* (q+3)<=u:=Nat.le_trans (Nat.mul_le_mul_left _ d) j;have h:b^ n* (v* (q+3))<=p:=by rw[hp];have:=Nat.mul_le_mul_left (b^ n) i;omega
 have s:w* (q+1)< b^ n* ((v+1) * (q+1))+1:=by
  have:w<=b^ n* (v+1):=by grind
  have:=Nat.mul_le_mul_right (q+1) this;grind
 have r:p< w* (q+1):=by grind
 have l:b^ n* (v* (q+3))< b^ n* ((v+1) * (q+1)):=by omega
 have t:=Nat.lt_of_mul_lt_mul_left l;grind
section
variable {U v n L s b k:Nat}{R T:Ln}
structure DivI (U v n L:Nat)(R T:Ln)(k:Nat):Prop where
 len:R.length=L
 dig:∀d∈R,d< MB
 digT:∀d∈T,d< MB
 k_le:k+n+T.length=L
 val:U=ofD MB R+v* (MB^ k* ofD MB T)
 top:ofD MB (R.drop k)< v
theorem DivI.start(hR:R.length=L)(hd:∀d∈R,d< MB)(hU:ofD MB R=U)(hn:n<=L)(hb:MB^ (n- 1)<=b)(hn1:1<=n)(hv:v=b* s)(hlt:U< MB^ (L- 1) * s):DivI U v n L R [] (L- n):=by
 refine⟨hR,hd,by simp,by grind,by simp[ofD,hU],?_⟩;have f:=er MB (L- n) R (by omega);have c:MB^ (L- 1)=MB^ (L- n) * MB^ (n- 1):=by rw[<-Nat.pow_add];grind
 rw[c,Nat.mul_assoc] at hlt;have a:MB^ (L- n) * ofD MB (R.drop (L- n))< MB^ (L- n) * (MB^ (n- 1) * s):=by omega
 have g:=Nat.lt_of_mul_lt_mul_left a;have e:MB^ (n- 1) * s<=b* s:=Nat.mul_le_mul_right _ hb;omega
theorem DivI.parts(h:DivI U v n L R T (k+1))(hv:v< MB^ n):
    ofD MB (R.drop (k+n+1))=0/\ofD MB ((R.drop k).take (n+1))=ofD MB (R.drop k)/\ofD MB (R.drop k)< v* MB/\((R.drop k).take (n+1)).length=n+1/\R=R.take k++(R.drop k).take (n+1)++R.drop (k+n+1):=by
 have j:=h.k_le;have c:=h.len;have f:k< R.length:=by omega
 obtain⟨x,d⟩:∃x,R[k]?=some x:=⟨_,List.getElem?_eq_getElem f⟩;have i:x< MB:=h.dig x (List.mem_of_getElem? d);have e1:=lj MB d;have a:=h.top;have e2:=er MB n (R.drop (k+1)) (by grind);rw[List.drop_drop,show k+1+n=k+n+1 by omega] at e2
 have e:ofD MB (R.drop (k+n+1))=0:=by
  rcases Nat.eq_zero_or_pos (ofD MB (R.drop (k+n+1))) with b|b
  exact b;have:MB^ n* 1<=MB^ n* ofD MB (R.drop (k+n+1)):=Nat.mul_le_mul_left _ b;omega
 have g:=er MB (n+1) (R.drop k) (by grind);rw[List.drop_drop,show k+(n+1)=k+n+1 by omega,e] at g;refine⟨e,by omega,?_,by grind,?_⟩;have:MB* (ofD MB (R.drop (k+1))+1)<=MB* v:=Nat.mul_le_mul_left _ a;rw[Nat.mul_add] at this;rw[Nat.mul_comm v MB];omega;rw[List.append_assoc]
 conv=>lhs;rw[<-List.take_append_drop k R]
 conv=>lhs;rw[<-List.take_append_drop (n+1) (R.drop k)]
 rw[List.drop_drop,show k+(n+1)=k+n+1 by omega]
theorem DivI.next{A:Ln}(h:DivI U v n L R T (k+1))(hv:v< MB^ n)(hv0:0< v)(hA:A=jh MB (n+1) (ofD MB (R.drop k) % v)):
    DivI U v n L (R.take k++A++R.drop (k+n+1)) (ofD MB (R.drop k) / v::T) k:=by
 obtain⟨p1,p2,l,m,o⟩:=h.parts hv;have p:=h.k_le;have i:=h.len
 have j:ofD MB (R.drop k) % v< MB^ (n+1):=by
  have:=Nat.mod_lt (ofD MB (R.drop k)) hv0;have q:MB^ n<=MB^ (n+1):=Nat.pow_le_pow_right (by decide) (by omega);omega
 have f:A.length=n+1:=by rw[hA];simp
 have c:ofD MB A=ofD MB (R.drop k) % v:=by rw[hA];exact qm (by decide) j
 have g:(R.take k).length=k:=by simp;omega
 have b:ofD MB (R.take k++A++R.drop (k+n+1))=ofD MB (R.take k)+MB^ k* (ofD MB (R.drop k) % v):=by
  rw[gQ,gQ,p1,g,c];simp
 refine⟨by simp[f];omega,?_,?_,by simp;omega,?_,?_⟩;intro d a;rcases List.mem_append.1 a with a|a
 rcases List.mem_append.1 a with a|a
 exact h.dig d (List.mem_of_mem_take a);rw[hA] at a;exact tF (by decide) _ _ d a;exact h.dig d (List.mem_of_mem_drop a);intro d a;rcases List.mem_cons.1 a with rfl|a
 rw[Nat.div_lt_iff_lt_mul hv0,Nat.mul_comm];exact l;exact h.digT d a;rw[b,ofD,h.val,er MB k R (by omega),Nat.pow_succ];have e:=Nat.mod_add_div (ofD MB (R.drop k)) v
 have e2:MB^ k* (ofD MB (R.drop k) % v)+v* (MB^ k* (ofD MB (R.drop k) / v))=MB^ k* ofD MB (R.drop k):=by
  rw[Nat.mul_left_comm,<-Nat.mul_add,e]
 rw[Nat.mul_add,Nat.mul_add,<-Nat.mul_assoc (MB^ k) MB];omega;rw[List.append_assoc,List.drop_append,g,Nat.sub_self,List.drop_zero,List.drop_of_length_le (by omega),List.nil_append,gQ,p1,c];simp;exact Nat.mod_lt _ hv0
theorem DivI.last{a:Nat}(h:DivI U v n L R T 0)(hU:U=a* s)(hv:v=b* s)(hb:0< b)(hs:0< s):ofD MB T=a/ b/\ofD MB R/ s=a % b:=by
 have c:=h.val;have d:=h.top;rw[List.drop_zero,hv] at d;rw[Nat.pow_zero,Nat.one_mul,hU,hv] at c
 have e:ofD MB T=a/ b:=by
  have e1:a/ b=a* s/ (b* s):=(Nat.mul_div_mul_right a b hs).symm;rw[e1,c,Nat.add_mul_div_left _ _ (Nat.mul_pos hb hs),Nat.div_eq_of_lt d];omega
 have e2:ofD MB R=(a % b) * s:=by
  rw[e] at c
  have f:a* s=(a % b) * s+b* s* (a/ b):=by
   conv=>lhs;rw[<-Nat.mod_add_div a b]
   grind
  omega
 simp_all
theorem BU(hl:(aw MB n).length=k+1){d:Nat}(hd:(aw MB n)[k]?=some d):∃lo,n=lo+MB^ k* d/\lo< MB^ k:=by
 refine⟨ofD MB ((aw MB n).take k),?_,?_⟩;have a:=cX MB hd;rw[<-hl,List.take_length,bU (by decide)] at a;exact a;have:=fG (b:=MB) (l:=(aw MB n).take k) fun d hd=>ec (by decide) n d (List.mem_of_mem_take hd);grind
theorem D4{vt:Nat}(hl:(aw MB b).length=k+1)(hvt:(aw MB b)[k]?=some vt)(h0:1<=vt)(h1:500000000<=vt* s)(h2:(vt+1) * s<=1000000000):
    (aw MB (b* s)).length=k+1/\MB^ k<=b/\b* s< MB^ (k+1)/\∃v lw,(aw MB (b* s))[k]?=some v/\b* s=lw+MB^ k* v/\lw< MB^ k/\500000000<=v/\v< 1000000000:=by
 obtain⟨lo,e1,e2⟩:=BU hl hvt
 have f:MB^ k<=b:=by
  have:=Nat.mul_le_mul_left (MB^ k) h0;omega
 have e:b< MB^ k* (vt+1):=by grind
 have d:0< s:=by grind
 have c:b* s< MB^ (k+1):=by
  have l:b* s< MB^ k* (vt+1) * s:=Nat.mul_lt_mul_of_pos_right e d;have j:MB^ k* ((vt+1) * s)<=MB^ k* MB:=Nat.mul_le_mul_left _ h2;grind
 have h:MB^ k* 500000000<=b* s:=by
  have l:MB^ k* vt* s<=b* s:=Nat.mul_le_mul_right _ (by omega);have j:MB^ k* 500000000<=MB^ k* (vt* s):=Nat.mul_le_mul_left _ h1;grind
 have a:(aw MB (b* s)).length=k+1:=by
  have u1:=fM (b:=MB) (by decide) c
  have u2:k< (aw MB (b* s)).length:=by
   refine Nat.lt_of_not_le fun g=>?_;have:=fG (b:=MB) (ec (by decide) (b* s));rw[bU (by decide)] at this;have o:MB^ (aw MB (b* s)).length<=MB^ k:=Nat.pow_le_pow_right (by decide) g;omega
  omega
 obtain⟨v,hv⟩:∃v,(aw MB (b* s))[k]?=some v:=⟨_,List.getElem?_eq_getElem (by omega)⟩;obtain⟨lw,i,m⟩:=BU a hv;refine⟨a,f,c,v,lw,hv,i,m,?_,cO (by decide) hv⟩;have n:MB^ k* 500000000< MB^ k* (v+1):=by grind
 have:=Nat.lt_of_mul_lt_mul_left n;omega
theorem Io{A:Ln}{x0 x1:Nat}(hA:A.length=k+2)(h0:A[k]?=some x0)(h1:A[k+1]?=some x1)(hd:∀d∈A,d< MB):∃lo,ofD MB A=lo+MB^ k* (x1* 1000000000+x0)/\lo< MB^ k:=by
 refine⟨ofD MB (A.take k),?_,?_⟩;have e1:=cX MB h1;rw[show k+1+1=A.length by omega,List.take_length] at e1;rw[e1,cX MB h0,Nat.pow_succ,Nat.mul_add,Nat.mul_assoc];have:MB^ k* (MB* x1)=MB^ k* (x1* 1000000000):=by grind
 omega;have:=fG (b:=MB) (l:=A.take k) fun d h=>hd d (List.mem_of_mem_take h);grind
end


section
variable {T:Lq}{n:Nat}(hn:1<=n/\n<=5)(hl:T.length=n+1)(ht:ao T=T)(hm:aM T=1)(hb:bdL T 20)
include hn hl ht hm hb
end
end Go.Abs
