/- Part Y15 of the proof. -/
import Derived.Test.YtjmkjicckobojaaGreatDoorY14
set_option linter.all false
namespace Go.Abs
def ofQ(p m:Lq):Nat->Rat
 |0=>0
 |n+1=>ofQ p m n+coP p n* coP m n
theorem Ej{p m:Lq}{s t:Nat}(hp:bdL p s)(hm:bdL m t)(hs:1<=s)(ht:1<=t):∀n,qs (ofQ p m n)<=n* (s+t+1)+1
 |0=>by rw[JR];exact(by decide:qs 0<=0+1)
 |n+1=>by
  have c:=Ej hp hm hs ht n;have a:=gT (ofQ p m n) (coP p n* coP m n);have e:=cP (coP p n) (coP m n);have b:=dc hp hs n;have d:=dc hm ht n;rw[ofQ,Ni];omega
def gK(f:Lq):Nat->Lq
 |0=>f
 |k+1=>aG (gK f k) [0,1]
def moQ(f:Lq)(s:Sp)(k:Nat):Rat:=ag (aH (gK f k)) s.2- ag (aH (gK f k)) s.1
def Kf(f:Lq)(s:Sp)(k:Nat):Prop:=smL (gK f k)/\(gK f k).length<=1000000/\eg (aH (gK f k)) s.1/\eg (aH (gK f k)) s.2/\gQ (gK f k) [0,1]
def sqL(sq:Nat->Rat)(n:Nat):Lq:=(List.range n).map sq
theorem Jq(sq:Nat->Rat)(n:Nat):sqL sq (n+1)=sqL sq n++[sq n]:=by simp[sqL,FI]
@[simp] theorem sqL_length (sq:Nat->Rat)(n:Nat):(sqL sq n).length=n:=by simp[sqL]
theorem IZ{p:Lq}{s:Nat}(h:bdL p s)(hs:1<=s)(n:Nat):bdL (List.replicate n 0++p) s:=λq a=>by
 rcases n7.1 a with a|a
 rw[Ov a];have:qs 0=1:=δ
 omega;exact h q a
def ofP(m p:Lq):Rat:=ofQ (am p) m (am p).length
def okBs(g nx a c:Lq):Prop:=iz g nx/\gQ (bJ g nx).1 c/\(∀q∈a,sm q)/\(∀q∈aG (bJ g nx).1 c,sm q)/\a.length<=1099511627776/\(aG (bJ g nx).1 c).length<=1099511627776
instance (g nx a c:Lq):Decidable (okBs g nx a c):=by unfold okBs;infer_instance
def bzL:Nat->Lq->Lq->Lq->Lq->Option (Lq×Lq)
 |0,_,_,_,_=>none
 |f+1,g,nx,a,c=>if am nx=[] then some (g,a) else if okBs g nx a c/\nx.length<=1099511627776 then bzL f nx (bJ g nx).2 c (dC a (aG (bJ g nx).1 c)) else none
def bzG(g:Lq):Lq:=aW g (((1:Int):Rat) / aL g)
def bzA(q g a:Lq):Lq:=(bJ (aW a (((1:Int):Rat) / aL g)) (bJ q (bzG g)).1).2
def bzB(p q g a:Lq):Lq:=(bJ (dC (bzG g) (aG (bzA q g a) p)) q).1
def Kh(p q g a:Lq):Prop:=
 am g≠[]/\g.length<=1099511627776/\a.length<=1099511627776/\(∀x∈g,sm x)/\(∀x∈a,sm x)/\qs (aL g)<=68719476736/\iz q (bzG g)/\am (bzG g)≠[]/\
 iz (aW a (((1:Int):Rat) / aL g)) (bJ q (bzG g)).1/\am (bJ q (bzG g)).1≠[]/\gQ (bzA q g a) p/\(∀x∈bzG g,sm x)/\(∀x∈aG (bzA q g a) p,sm x)/\
 (bzG g).length<=1099511627776/\(aG (bzA q g a) p).length<=1099511627776/\iz (dC (bzG g) (aG (bzA q g a) p)) q
instance (p q g a:Lq):Decidable (Kh p q g a):=by unfold Kh;infer_instance
def tpV(p m:Lq)(i:Nat):Nat->Rat
 |0=>0
 |j+1=>if i< j then tpV p m i j+coP p j* coP m (j- 1- i) else tpV p m i j
def tpI(p m:Lq)(j i0 i:Nat):Rat:=if i< i0 then tpV p m i (j+1) else tpV p m i j
theorem tpI_0(p m:Lq)(j:Nat):tpI p m j 0=λi=>tpV p m i j:=rfl
theorem tpI_e(p m:Lq)(j:Nat):tpI p m j j=λi=>tpV p m i (j+1):=by
 funext i;unfold tpI;by_cases h:i< j;rw[if_pos h];rw[if_neg h,tpV,if_neg h]
theorem lI{d i:Nat}(f:Nat->Rat)(h:i< d):(aI d f)[i]?=some (f i):=by simp[aI,h]
theorem Jk(d i:Nat)(f g:Nat->Rat)(h:i< d)(hg:∀x,x≠i->f x=g x):(aI d f).set i (g i)=aI d g:=by
 refine DE λx=>?_;rw[Aa];by_cases e:i=x;subst e;simp[aI,h];rw[if_neg e];by_cases hx:x< d;rw[lI f hx,lI g hx,hg x (λe2=>e e2.symm)];simp_all
theorem tpI_set(p m:Lq)(d j i:Nat)(hi:i< j)(hj:j<=d):(aI d (tpI p m j i)).set i (tpV p m i j+coP p j* coP m (j- 1- i))=aI d (tpI p m j (i+1)):=by
 have e:tpV p m i j+coP p j* coP m (j- 1- i)=tpI p m j (i+1) i:=by unfold tpI;rw[if_pos (Ed i),tpV,if_pos hi]
 rw[e];refine Jk d i _ _ ω λx a=>?_;unfold tpI;grind
theorem DO{p m:Lq}{s t:Nat}(hp:bdL p s)(hm:bdL m t)(hs:1<=s)(ht:1<=t)(i:Nat):∀j,qs (tpV p m i j)<=j* (s+t+1)+1
 |0=>by rw[JR];exact(by decide:qs 0<=0+1)
 |j+1=>by
  have c:=DO hp hm hs ht i j;have a:=gT (tpV p m i j) (coP p j* coP m (j- 1- i));have e:=cP (coP p j) (coP m (j- 1- i));have b:=dc hp hs j;have d:=dc hm ht (j- 1- i);rw[tpV];grind
def tpQ(p m:Lq):Lq:=aI (p.length- 1) λi=>tpV p m i p.length
theorem HJ(d:Nat)(p m:Lq):aI d (λi=>tpV p m i 0)=List.replicate d 0:=by
 show(List.range d).map (λ_=>(0:Rat))=_;rw[List.map_const',List.length_range]
def apR(p w f:Lq):Lq:=(bJ (aG w (bJ f p).2) p).2
def nwA(T:Lq)(n:Nat)(out:Lq)(k:Nat):Nat->Rat
 |0=>coP T (n- k) * ((k:Int):Rat)
 |i+1=>nwA T n out k i+coP T (n- (i+1)) * coP out (k- (i+1))
def suL(T:Lq)(n:Nat):Nat->Lq
 |0=>[((n:Int):Rat)]
 |k+1=>suL T n k++[-(nwA T n (suL T n k) (k+1) k)]
theorem jc(T:Lq)(n:Nat):∀k,(suL T n k).length=k+1
 |0=>rfl
 |k+1=>by rw[suL,zq,jc T n k];rfl
def Kc(T:Lq)(n k:Nat):Prop:=qs (coP T (n- (k+1)))+qs (((k+1:Nat):Int):Rat)<=549755813888/\
 ∀i,i< k->qs (coP T (n- (i+1)))+qs (coP (suL T n k) (k+1- (i+1)))<=549755813888/\qs (nwA T n (suL T n k) (k+1) i)+qs (coP T (n- (i+1)) * coP (suL T n k) (k+1- (i+1)))<=549755813888
theorem IM(a x:Rat):dvE (dk a) x=0:=by
 show dvE (am [a]) x=0;rw[AH (q:=[a]) (cu [a]) x,eN];show(0:Rat)+0* x=0;grind
theorem wM(u v x:Rat):ag [u,v] x=u+v* x:=by rw[aO,aO,aS];grind
theorem dvE_uv(u v x:Rat):dvE [u,v] x=v:=by
 show(0* x+v)+(0+(0:Rat) * x) * x=v;grind
def itP(a b:Rat)(p:Lq):Rat:=ag (aH p) b- ag (aH p) a
theorem qK{p q:Lq}(h:∀i,coP p i=coP q i)(x:Rat):ag (aH p) x=ag (aH q) x:=
 eG (λi=>by rw[dd,dd,h]) x
theorem KL{p q:Lq}(h:Eqv p q)(a b:Rat):itP a b p=itP a b q:=by
 have:=trim_iff.1 (eqv_trim.1 h);unfold itP;rw[qK this,qK this]
theorem it_add(a b:Rat)(p q:Lq):itP a b (ec p q)=itP a b p+itP a b q:=by
 have e:∀x,ag (aH (ec p q)) x=ag (aH p) x+ag (aH q) x:=λx=>by
  rw[<-cb];refine eG (λi=>?_) x;rw[fi (aH p),dd,dd,dd,fi];grind
 unfold itP;grind
theorem KK(a b:Rat)(p:Lq)(k:Rat):itP a b (aW p k)=itP a b p* k:=by
 have e:∀x,ag (aH (aW p k)) x=ag (aH p) x* k:=λx=>by
  rw[<-aT];refine eG (λi=>?_) x;rw[bY (aH p),dd,dd,bY];grind
 unfold itP;grind
theorem CV(p:Lq)(x:Rat):dvE (aH p) x=ag p x:=by
 rw[<-cC,<-b7,uu,b7]
theorem eP(x:Rat):∀n,ag (gK [1] n) x=x^ n
 |0=>by rw[Nh];show ag [1] x=1;rw[aO,aS];grind
 |n+1=>by rw[gK,az,eP x n,wM];grind
theorem Ki{a b:Rat}{m:Lq}{N:Nat}(hm:∀i,i< N->coP m i=itP a b (gK [1] i))(p:Lq):∀n,n<=N->n<=p.length->ofQ p m n=itP a b (p.take n)
 |0,_,_=>by
  show(0:Rat)=itP a b [];unfold itP
  have e:∀x,ag (aH []) x=0:=λx=>jr (λi=>by
   rw[dd];split;rfl;show(0:Rat) / _=0;grind) x
  grind
 |n+1,h1,h2=>by
  rw[ofQ,Ki hm p n ω ω,KL (p:=p.take (n+1)) (q:=ec (p.take n) (aW (gK [1] n) (coP p n))) (λx=>by
   rw[gu _ _ _ ω,cb,aT,eP];grind),it_add,KK]
  grind
theorem Kj{a b:Rat}{m:Lq}{N:Nat}(hm:∀i,i< N->coP m i=itP a b (gK [1] i)){p:Lq}(h:(am p).length<=N):ofP m p=itP a b p:=by
 unfold ofP;rw[Ki hm _ _ h (ir _),qj];exact KL (λx=>b7 p x) a b
theorem mulP_line_len'(v:Lq)(u w:Rat):(aG v [u,w]).length<=v.length+1:=by
 by_cases h:v=[];subst h;unfold aG;simp;have:=sG v [u,w] h;grind
section
variable {k:Rat}{p q:Lq}
theorem xc:∀(f k:Nat) (last next:Lq) (acc out:Lw),lF f k last next acc=some out->out.length<=acc.length+(am next).length
 |_,0,_,_,_,_,h=>by cases h
 |f,k+1,last,next,acc,out,h=>by
  rw[lF] at h;split at h;cases h;omega
  ·rename_i a
   split at h
   ·have e:=xc f k _ _ _ _ h
    obtain⟨c,i,g⟩:=mJ a;obtain⟨d1,d2,_⟩:=iR a (show c≠0 by grind) g;have b:(-1:Rat)≠0:=φ
    have d:=(eU last _ d1).2;have j:=nB.2 a;rw[oq b] at e;unfold dg at d2;grind
   cases h
theorem A4{e:Int}(he:e=1\/e= -1):∀(l:List Int) (t:Int),(t=1\/t= -1)->(∀s∈l,-1<=s/\s<=1)->(t::l).getLast?=some e->chL l 0 t % 2=if t=e then 0 else 1
 |[],t,ht,_,h=>by
  have:t=e:=φ
  rw[if_pos this];rfl
 |s::l,t,ht,hs,h=>by
  have c:=hs s (mu ..);by_cases hz:s≠0;have b:=A4 he l s ω (λx a=>hs x (lQ _ a)) φ;rw[chL,if_pos hz,rN];by_cases h1:s=e;by_cases h2:s= -t;omega;omega;by_cases h2:s= -t;omega;omega;rw[chL,if_neg hz];refine A4 he l t ht (λx a=>hs x (lQ _ a)) ?_;grind
theorem Ch.last{u:Lq}{L:Lw}(H:Ch u L):∃e:Int,(e=1\/e= -1)/\∀x,((u::L).map (sgE x)).getLast?=some e:=by
 induction H with
 | @one u c hc hu=>
  have h:=Ch.sg (.one hc hu) 0;have hb:=jd 0 u;exact⟨sgE 0 u,by have:=(h 0).2;omega,λx=>(φ)⟩
 | @pair u v _ ih=>
  simp_all
 | @step u v w L a c q _ _ _ _ ih=>
  simp_all
theorem Ch.drop{u v:Lq}{L:Lw}(H:Ch u (v::L))(hk:0< k)(hd:∀x,ag v x=k* dvE u x){x y:Rat}(hxy:x<=y)(hs:ag u x* ag u y< 0):chV (u::v::L) y+1<=chV (u::v::L) x:=by
 have o:=H.fall hk hd hxy;obtain⟨e,j,h⟩:=H.last
 have d:∀z,sgE z u≠0->chV (u::v::L) z % 2=if sgE z u=e then 0 else 1:=λz i=>by
  have hb:=jd z u;unfold chV;rw[zo,chL,if_pos i,if_neg ω]
  exact A4 j _ _ ω (λs hs=>by
   obtain⟨q,_,rfl⟩:=sd.1 hs;exact jd z q) φ
 have f:sgE x u≠0/\sgE y u≠0/\sgE x u≠sgE y u:=by
  rcases iw x u with⟨a,b⟩|⟨a,b⟩|⟨a,b⟩<;> rcases iw y u with⟨g,c⟩|⟨g,c⟩|⟨g,c⟩
  have:=ED b c;grind;omega;rw[c] at hs;grind;omega;have:=ED (show 0< -ag u x by grind) (show 0< -ag u y by grind);grind;rw[c] at hs;grind;rw[b] at hs;grind;rw[b] at hs;grind;rw[b] at hs;grind
 have m:=d x f.1;have n:=d y f.2.1;have l:=jd x u;have p:=jd y u;grind
theorem AS{f:Nat}{c:Cnt}(h:e8 f p=some c)(hp:nz p):∃u L k,c.ch=u::L/\0< k/\(∀x,ag u x=ag c.p x* k)/\Ch u L/\L.length<=dg c.p/\(∀v L',L=v::L'->∃c':Rat,0< c'/\∀x,ag v x=c'* dvE u x)/\(∀d,nz d->Dv d c.p->Dv d (aQ c.p)->dg d=0):=by
 unfold e8 at h;cases hs:vn f p with
 |none=>grind
 |some s=>
  rw[hs,zL] at h;cases hc:lr f s with
  |none=>grind
  |some ch=>
   rw[hc,zL] at h;split at h
   ·cases h
    obtain⟨q,s1⟩:=xP hs hp;unfold lr at hc;split at hc;have a:=xc _ _ _ _ _ _ hc;obtain⟨L,e,w⟩:=oa _ _ _ _ _ _ hc;obtain⟨k,o,l⟩:=mJ q;have b:k≠0:=φ
    have n:nz (cn s):=(iR q b l).1;have r:k* (1/ k)=1:=φ
    have g:0< 1/ k:=by
     obtain⟨m,m0,m1⟩:=part 1 (d:=k) φ o;grind
    obtain⟨y,z⟩:=w.ch n λd d0 d1 d2=>s1 d d0 (d1.scale (k:=1/ k) λx=>φ) d2;refine⟨cn s,L,k,e,o,l,y,?_,λv L' hv=>?_,s1⟩;rw[e] at a;have B:=iC (am s);have A:am (aQ s)=am (aQ (am s)):=kF λi=>by rw[db,db,cu]
    have C:=bm (aQ (am s));simp only[zq,xb] at a;rw[A] at a;show L.length<=dg s;unfold dg;omega;obtain⟨c',t,j⟩:=z v L' hv;refine⟨c'* (1/ k),ED t g,λx=>?_⟩;rw[j,cC,LZ l x];generalize 1/ k=m at *
    grind;grind
   cases h
theorem Mf(l:List Int):0<=chL l 0 0/\chL l 0 0<=(l.length:Int)- 1\/l=[]:=by
 cases l with
 |nil=>grind
 |cons s l=>
  by_cases hs:s≠0;rw[chL,if_pos hs,if_neg ω];have:=pP l 0 s;simp only[vX];omega;rw[chL];have:=pP l 0 0;grind
theorem Dl{B x:Rat}(hB:1<=B)(hx:B<=x):∀(l:Lq) (lead:Rat),l.getLast?=some lead->lead≠0->(∀c∈l.dropLast,ab c<=(B- 1) * ab lead)->
    ab lead<=ab (ag l x)
 |[],_,h,_,_=>by cases h
 |[a],lead,h,h0,_=>by
  have e:a=lead:=by simpa using h
  subst e;have e:ag [a] x=a:=by rw[aO,aS];grind
  rw[e];grind
 |a::b::m,lead,h,h0,hc=>by
  rw[List.getLast?_cons_cons] at h;rw[List.dropLast_cons_cons] at hc;have i1:=Dl hB hx (b::m) lead h h0 λc d=>hc c (lQ _ d);have ha:=hc a (mu ..);have e:ag (a::b::m) x=ag (b::m) x* x+a:=aO ..;generalize ag (b::m) x=w at *
  have j:=vc i1 (show 0<=B- 1 by grind);have f:=xj (w* x+a) (-a);rw[FM,show w* x+a+ -a=w* x by grind,iY] at f;have g:ab x=x:=by unfold ab;rw[if_neg φ]
  have i:=vc (show B<=ab x by rw[g];exact hx) (jb w);rw[e];grind
theorem Fy(h:nz q){x:Rat}(hx:cg q<=x):ab (aL q)<=ab (ag q x):=by
 have g:=nB.2 h;have f:=dt (l:=q) (n:=(am q).length- 1) ω
 have e:=Dl (tN q) hx (am q) (aL q) (by rw[List.getLast?_eq_getElem?];exact f) (df h) λc b=>by
  rw[List.dropLast_eq_take] at b;have d:=(rO (aL q) _ 0).2 c b;have a:=iY (c/ aL q) (aL q);rw[zp (df h)] at a;rw[a];have i:=zf d (jb (aL q));unfold cg;grind
 rwa[b7] at e
theorem yK{k:Rat}(hk:k≠0)(lead:Rat):∀(l:Lq) (m:Rat),boL (lead* k) (l.map (· * k)) m=boL lead l m
 |[],m=>rfl
 |c::l,m=>by
  rw[zo,boL,boL,yK hk lead l,show c* k/ (lead* k)=c/ lead by
   grind]
theorem Bi(hk:k≠0)(h:∀x,ag q x=ag p x* k):am q=(am p).map (· * k):=by
 have e:∀i,coP q i=coP p i* k:=λi=>by
  have:=trim_iff.1 (eM (p:=q) (q:=aW p k) λx=>by rw[h,aT]) i;rw[this,bY]
 have e2:am q=am (aW (am p) k):=kF λi=>by rw[bY,cu,e]
 rw[e2,jz,HQ (bU p) hk]
theorem A5(hk:k≠0)(hp:nz p)(h:∀x,ag q x=ag p x* k):cg q=cg p:=by
 have e:=Bi hk h;unfold cg;rw[(iR hp hk h).2.2,e,Ey,<-Pk,yK hk]
theorem Fl{f:Nat}{c:Cnt}(h:e8 f p=some c)(hp:nz p){A B:Lq}(hsq:∀x,ag A x* ag p x+ag B x* dvE p x=1)(xs:Nat->Rat)(hx:∀i,i< dg p->xs i< xs (i+1))(hs:∀i,i< dg p->ag p (xs i) * ag p (xs (i+1))< 0)(hd:dg p≠0):
    dR c (cg p)- dN c (-cg p)=dg p:=by
 obtain⟨s,s1,s2,s3,w,R⟩:=AQ h hp;obtain⟨u,L,k,e,D,G,H,M,F,_⟩:=AS h hp
 -- the square-free part is a multiple
 obtain⟨κ,O,t⟩:∃κ:Rat,κ≠0/\∀x,ag c.p x=ag p x* κ:=by
  unfold vn at s1;split at s1;cases hg:ut f p (aQ p) with
  |none=>rw[hg] at s1;cases s1
  |some g=>
   rw[hg,zL] at s1;split at s1;have e1:=Option.some.inj s1;obtain⟨E,⟨a,ha⟩,⟨b,hb⟩,_⟩:=qV f _ _ _ hg (.inl hp)
   have m:Dv g [1]:=⟨ec (aG A a) (aG B b),λx=>by
    have d:=hsq x;rw[ha,<-cC,hb] at d;rw[aO,aS,cb,az,az];grind⟩
   have X:=m.dg wa;have Y:dg [1]=0:=by decide+kernel
   obtain⟨γ,K,q⟩:=zN E ω;obtain⟨m1,m2⟩:=eO p E;have Z:=j6 (u:=a) (v:=[]) E (λx=>by rw[ha x,aS];exact(Rat.add_zero _).symm) (λe=>absurd rfl e)
   have T:∀x,ag p x=ag (bJ p g).1 x* γ:=λx=>by
    have:=m1 x;rw[Z x,aS,q] at this;rw[this];grind
   obtain⟨κ,κ',C,l⟩:=uI (bJ p g).1;refine⟨κ/ γ,λe=>?_,λx=>?_⟩
   have S:κ=0:=by
    have:=zp (a:=κ) K;rw[e] at this;grind
   rw[S] at C;grind;rw[<-e1,l,T];grind;cases s1
  cases s1
 have o:cg c.p=cg p:=A5 O hp t;have y:dg c.p=dg p:=(iR hp O t).2.1
 have j:∀i,i< dg p->ag u (xs i) * ag u (xs (i+1))< 0:=λi Q=>by
  have d:=hs i Q;rw[G,G,t,t]
  have r:0< κ* κ:=by
   rcases(show κ< 0\/0< κ by grind) with g|g
   have:=ED (show 0< -κ by grind) (show 0< -κ by grind);grind;exact ED g g
  have J:=ED r (ED D D);have h4:=ED J (show 0< -(ag p (xs i) * ag p (xs (i+1))) by grind);grind
 have up:∀x,dR c x=c.far- chV c.ch x:=λx=>rfl;cases L with
 |nil=>
  obtain⟨γ,K,q⟩:=H.const;have:=j 0 ω;rw[q,q] at this;rcases(show γ< 0\/0< γ by grind) with g|g
  have:=ED (show 0< -γ by grind) (show 0< -γ by grind);grind;have:=ED g g;grind
 |cons v L=>
  obtain⟨c',W,hv⟩:=F v L rfl
  have step:∀i,i<=dg p->dR c (xs 0)+i<=dR c (xs i):=λi=>by
   induction i with
   |zero=>intro _;omega
   |succ i ih=>
    intro Q;have d:=ih ω;have r:=H.drop W hv (show xs i<=xs (i+1) by have:=hx i ω;grind) (j i ω);rw[up,e] at d⊢;rw[up,e] at d⊢
    push_cast
    omega
  have V:∀x,0<=dR c x:=λx=>by
   by_cases hxb:x<= -cg c.p;rw[w x hxb];exact N5 _;have:=R (-cg c.p) x φ;rw[w _ φ] at this;exact this
  have n:∀x,dR c x<=dg p:=λx=>by
   rw[up,s3]
   have d:0<=chV c.ch x:=by
    unfold chV;rcases Mf (c.ch.map (sgE x)) with h|h
    exact h.1;rw[h];exact N5 _
   have r:chV c.ch (-cg c.p)<=dg p:=by
    unfold chV;rcases Mf (c.ch.map (sgE (-cg c.p))) with h|h
    rw[e] at h⊢;simp only[Ey,vX] at h M;have:=h.2;rw[y] at M
    push_cast at this
    omega;rw[h];exact Int.natCast_nonneg _
   omega
  have N:(dg p:Int)<=dR c (cg p):=by
   have d:=step (dg p) (ir _);have r:=V (xs 0);by_cases hb:xs (dg p)<=cg p;have:=R _ _ hb;omega
   have J:chV (u::v::L) (cg p)=chV (u::v::L) (xs (dg p)):=H.same (e:=ab (aL c.p) * k) (ED (by have:=df s;unfold ab;split <;> grind) D) φ λz U z2=>by
    rw[G,iY,show ab k=k by unfold ab;rw[if_neg φ]];exact zf (Fy s (by rw[o];exact U)) φ
   rw[up,e,J,<-e,<-up];omega
  have low:dN c (-cg p)=0:=by
   unfold dN;have d:=(oW s (x:= -cg c.p) φ).1
   rw[<-o,if_neg (λe=>by
    rw[e] at d;have:=df s;unfold ab at d;split at d <;> grind)]
   exact w _ φ
  have:=n (cg p);rw[low];omega
end
theorem IN(p q:Lq):(bJ p q).1.length<=(am p).length+1- (am q).length:=by
 have b:=jQ (am q) (aL q) ((am p).length+1- (am q).length) (List.replicate ((am p).length+1- (am q).length) 0) (am p);have a:=bm (j9 (am q) (aL q) ((am p).length+1- (am q).length) (List.replicate ((am p).length+1- (am q).length) 0) (am p)).1;rw[b.1,OG] at a;exact a
theorem jl(p q:Lq):(aG p q).length<=p.length+q.length- 1:=by
 by_cases h:p=[];subst h;unfold aG;simp;exact sG p q h
def zB:Nat->Nat->Nat->Nat->Nat->Nat->Nat->Nat->Nat->Nat->Nat->Bool
 |0,_,_,_,_,_,_,_,_,_,_=>false
 |f+1,m,n,s,t,u,v,la,lc,X,W=>if n=0 then decide (s<=X) && decide (u<=X) && decide (la<=W) else
  decide (2^ (m+1- n) * (s+2* t+1)<=137438953472) && decide ((m+1- n) * (2^ (m+1- n) * (s+2* t+1)+v+1)+1<=137438953472) && decide (u<=137438953472) && decide (v<=137438953472) && decide (la+lc+m<=1000) &&
  (List.range n).all λk=>zB f n k t (2^ (m+1- n) * (s+2* t+1)) v (u+((m+1- n) * (2^ (m+1- n) * (s+2* t+1)+v+1)+1)+1) lc (max la (m+1- n+lc- 1)) X W
theorem Dg:∀f m n s t u v la lc X W (g nx a c:Lq),zB f m n s t u v la lc X W=true->(am g).length=m->(am nx).length=n->bdL g s->bdL nx t->bdL a u->bdL c v->a.length<=la->c.length<=lc->1<=s->1<=t->1<=u->1<=v->g.length<=1000->nx.length<=1000->
    ∃G A,bzL f g nx a c=some (G,A)/\bdL G X/\bdL A X/\A.length<=W/\G.length<=1000
 |0,_,_,_,_,_,_,_,_,_,_,_,_,_,_,h,_,_,_,_,_,_,_,_,_,_,_,_,_,_=>by rw[zB] at h;cases h
 |f+1,m,n,s,t,u,v,la,lc,X,W,g,nx,a,c,h,hm,hn,hg,b,ha,hc,hla,hlc,hs,ht,hu,hv,hgl,hxl=>by
  rw[zB] at h;rw[bzL];by_cases h0:n=0;rw[if_pos h0] at h;simp only[sj,decide_eq_true_eq] at h;have e:am nx=[]:=vv.1 ω;rw[if_pos e];exact⟨g,a,rfl,λx b=>fo (hg x b) h.1.1,λx b=>fo (ha x b) h.1.2,ω,hgl⟩;rw[if_neg h0] at h;simp only[sj,decide_eq_true_eq,pZ,xd] at h;obtain⟨⟨⟨⟨⟨H,B⟩,C⟩,M⟩,J⟩,z⟩:=h;have d:am nx≠[]:=λe=>by grind
  rw[if_neg d];have i:1<=2^ (m+1- n) * (s+2* t+1):=M7 (Nat.two_pow_pos _) ω;obtain⟨d1,d2⟩:=oQ (L:=2^ (m+1- n) * (s+2* t+1)) hg b hs ht d φ;have j:=IN g nx;rw[hm,hn] at j;have o:=mO d1 hc i hv;have y:=jl (bJ g nx).1 c;generalize F:2^ (m+1- n) * (s+2* t+1)=L at *
  have k:bdL (aG (bJ g nx).1 c) ((m+1- n) * (L+v+1)+1):=λx b=>fo (o x b) (by have:=mC (L+v+1) j;omega);have mg:=mxL_le hg hs;have K:=mxL_le b ht;have mk:=mxL_le d1 i;have E:=mxL_le hc hv;have D:=(me (p:=g) (q:=nx)).2
  have w:okBs g nx a c/\nx.length<=1099511627776:=by
   refine⟨⟨⟨?_,ω,ω⟩,⟨?_,ω,ω,ω⟩,λq r=>fo (ha q r) C,λq r=>fo (k q r) B,ω,ω⟩,ω⟩;rw[hm,hn];have:=sO (2^ (m+1- n)) (show mxL g+2* mxL nx+1<=s+2* t+1 by omega);omega;have:=vj j (show mxL (bJ g nx).1+mxL c+1<=L+v+1 by omega);omega
  rw[if_pos w];have l:(am (bJ g nx).2).length< n:=by rw[<-hn];exact(eU g nx d).2
  refine Dg f n _ t L v _ lc _ X W nx (bJ g nx).2 c _ (z _ l) hn rfl b d2 hc (Do ha k hu ω) hlc ?_ ht i hv ω hxl ω;have:=pX a (aG (bJ g nx).1 c);omega
theorem Df:∀f (g nx a c G A p q:Lq),bzL f g nx a c=some (G,A)->(∃b,∀x,ag g x=ag a x* ag p x+ag b x* ag q x)->(∃d,∀x,ag nx x=ag c x* ag p x+ag d x* ag q x)->
    Dv G g/\Dv G nx/\∃b,∀x,ag G x=ag A x* ag p x+ag b x* ag q x
 |0,_,_,_,_,_,_,_,_,h,_,_=>by cases h
 |f+1,g,nx,a,c,G,A,p,q,h,hb,i=>by
  rw[bzL] at h;by_cases h0:am nx=[];obtain⟨rfl,rfl⟩:g=G/\a=A:=φ
  exact⟨.refl _,.zero _ (jk λe=>e h0),hb⟩;rw[if_neg h0] at h;split at h;obtain⟨b,hb⟩:=hb;obtain⟨d,i⟩:=i;have j:=(eU g nx h0).1
  obtain⟨i1,i2,k⟩:=Df f nx (bJ g nx).2 c (dC a (aG (bJ g nx).1 c)) G A p q h ⟨d,i⟩ ⟨dC b (aG (bJ g nx).1 d),λx=>by
   have l:=j x;rw[cv,az,cv,az];grind⟩
  refine⟨i1.lin i2 (u:=(bJ g nx).1) (v:=[1]) λx=>?_,i1,k⟩;rw[aO,aS];grind;cases h
theorem xh{f:Nat}{p q G A B C:Lq}(h:bzL f p q (dk ((1:Int):Rat)) []=some (G,A))(hq:nz q)(hco:∀x,ag B x* ag p x+ag C x* ag q x=1):
    ∃γ:Rat,γ≠0/\(∀x,ag G x=γ)/\nz G/\dg G=0/\aL G=γ/\∃b,∀x,ag A x* ag p x+ag b x* ag q x=γ:=by
 obtain⟨l,d,b,hb⟩:=Df f _ _ _ _ G A p q h ⟨[],λx=>by rw[iB,aS];grind⟩ ⟨[1],λx=>by rw[aO,aS];grind⟩
 have hG:nz G:=λe=>by
  obtain⟨w,g⟩:=d;refine hq ((eqv_trim (p:=q) (q:=[])).1 λx=>?_);rw[g,jk (p:=G) (λm=>m e),aS];grind
 have n:=(l.lin d (r:=[1]) (u:=B) (v:=C) λx=>by rw[aO,aS];grind).dg wa;have j:dg [1]=0:=by decide+kernel
 have a:dg G=0:=ω
 obtain⟨γ,i,c⟩:=zN hG a
 have k:aL G=γ:=by
  have e:=(cD hG).2;rw[a] at e;rw[<-e,<-c 0];have:am G=am [γ]:=eqv_trim.1 λx=>by rw[aO,aS];grind
  have e2:=trim_iff.1 this 0;rw[e2,c];rfl
 exact⟨γ,i,c,hG,a,k,b,λx=>by grind⟩
theorem Hr{G:Lq}{γ:Rat}(h0:γ≠0)(hl:aL G=γ)(hG:∀x,ag G x=γ):bzG G=[1]:=by
 have e:am (bzG G)=am [1]:=eqv_trim.1 λx=>by
  unfold bzG;rw[aT,aO,aS];grind
 unfold bzG at e⊢;rw[jz] at e;rw[e];decide+kernel
theorem div_one(q:Lq):(bJ q [1]).1=am q:=by
 have b:nz [1]:=wa;obtain⟨m1,m2⟩:=eO q b;have a:dg [1]=0:=by decide+kernel
 have c:¬nz (md q [1]):=λe=>by grind
 have:am (bJ q [1]).1=am q:=eqv_trim.1 λx=>by
  have:=m1 x;rw[jk c,aO,aS] at this;grind
 rw[<-this];exact(kG q [1]).1.symm
theorem bzA_inv{f:Nat}{p q G A B C:Lq}(h:bzL f p q (dk ((1:Int):Rat)) []=some (G,A))(hq:nz q)(hco:∀x,ag B x* ag p x+ag C x* ag q x=1):∃w,∀x,ag (bzA q G A) x* ag p x=1+ag w x* ag q x:=by
 obtain⟨γ,d,e,hG,i,g,b,hb⟩:=xh h hq hco;unfold bzA;rw[Hr d g e,div_one];have a:nz (am q):=by unfold nz;rw[bU];exact hq
 have m1:=(eO (aW A (((1:Int):Rat) / γ)) a).1;refine⟨ec (aW b (-1/ γ)) (aW (aG (bJ (aW A (((1:Int):Rat) / γ)) (am q)).1 p) (-1)),λx=>?_⟩;have c:=m1 x;rw[aT,b7] at c;unfold md at c;rw[cb,aT,aT,az];grind
def zOK(N s X:Nat):Bool:=
 decide (1<=X) && decide (N<=100) && decide (2^ (N+1) * (s+4* X+10)<=137438953472) && decide (2^ N* ((N+1) * (3* X+4* s+10)+2* X+2* s+10)<=137438953472) &&
 ((List.range (N+1)).all λm=>(List.range (N+1)).all λn=>if n<=m then true else zB (N+3) m n s s 1 1 1 0 X (n- 1))
theorem okBz_of{N s X:Nat}(hz:zOK N s X=true){p q B C:Lq}(hp:bdL p s)(hq:bdL q s)(hs:1<=s)(hpl:p.length< q.length)(hql:q.length<=N)(hq0:nz q)(hqt:am q=q)(hco:∀x,ag B x* ag p x+ag C x* ag q x=1):
    ∃G A,bzL (N+3) p q (dk ((1:Int):Rat)) []=some (G,A)/\Kh p q G A/\bdL (bzA q G A) (2* X+2* s+10)/\(bzA q G A).length< q.length/\bzG G=[1]:=by
 unfold zOK at hz;simp only[sj,decide_eq_true_eq,pZ,xd] at hz;obtain⟨⟨⟨⟨v,hN⟩,hS⟩,hT⟩,W⟩:=hz;have j:=nB.2 hq0;have T:=bm p;have Y:(am q).length=q.length:=by rw[hqt]
 have U:=bm q;have hb:=W (am p).length ω (am q).length ω;rw[if_neg ω] at hb;have M:dk ((1:Int):Rat)=[1]:=by decide+kernel
 obtain⟨G,A,l,u,D,h4,h5⟩:=Dg (N+3) _ _ s s 1 1 1 0 X _ p q [1] [] hb rfl rfl hp hq δ (by intro x c;cases c) ψ ψ hs hs δ δ ω ω;rw[<-M] at l;obtain⟨γ,F,J,hG,V,S,b,Q⟩:=xh l hq0 hco;have d:=Hr F S J;have H:qs (aL G)<=X:=uL u v;have q1:qs ((1:Int):Rat)=1:=δ
 have R:=fS ((1:Int):Rat) (aL G);have hP:1<=2^ (N+1):=Og;have m:2^ 2<=2^ (N+1):=vi δ ω;have O:=mC (s+4* X+10) m
 have h:bdL (aW A (((1:Int):Rat) / aL G)) (2* X+1):=λx c=>by
  have:=FF (k:=((1:Int):Rat) / aL G) D v x c;omega
 have t:=du A (((1:Int):Rat) / aL G);have y:=bm (aW A (((1:Int):Rat) / aL G))
 have e:bdL (bzA q G A) (2* X+2* s+10):=by
  unfold bzA;rw[d,div_one];refine(oQ h (Dn hq) ω hs (by rw[bU];exact hq0) ?_).2;rw[bU,show(am (aW A (((1:Int):Rat) / aL G))).length+1- (am q).length=0 by omega];omega
 have o:(bzA q G A).length< q.length:=by
  have a:(am (bzA q G A)).length< q.length:=by
   unfold bzA;rw[d,div_one];have:=(eU (aW A (((1:Int):Rat) / aL G)) (am q) (by rw[bU];exact hq0)).2;rw[bU,hqt] at this;rw[hqt];exact this
  have b:am (bzA q G A)=bzA q G A:=(kG _ _).2;rwa[b] at a
 have m1:=mxL_le hq hs;have m2:=mxL_le hp hs;have m3:=mxL_le e ω;have m4:=mxL_le h ω;have o1:mxL [1]=1:=by decide+kernel
 have t1:am [1]=[1]:=by decide+kernel
 have n:=mO e hp ω hs;have z:=jl (bzA q G A) p;have e1:(bzA q G A).length* (2* X+2* s+10+s+1)<=N* (2* X+2* s+10+s+1):=mC _ ω;have e2:N* (2* X+2* s+10+s+1)<=(N+1) * (3* X+4* s+10):=vj ω ω;have i:1<=2^ N:=Og;have L:=mC ((N+1) * (3* X+4* s+10)+2* X+2* s+10) i;generalize hE:(N+1) * (3* X+4* s+10)=E at *
 have g:bdL (aG (bzA q G A) p) (E+1):=λx c=>fo (n x c) ω;have r:=Do (p:=[1]) (s:=1) (by intro x c;rw[kI.1 c];decide) g δ ω;have m5:=mxL_le r ω;have f:=pX [1] (aG (bzA q G A) p);have K:=bm (dC [1] (aG (bzA q G A) p));simp only[xb] at f;have w:q.length=(am q).length:=by rw[hqt]
 have e3:2^ ((am q).length+1- (am [1]).length) * (mxL q+2* mxL [1]+1)<=2^ (N+1) * (s+4* X+10):=vj (vi δ ω) ω;have e4:2^ ((am (dC [1] (aG (bzA q G A) p))).length+1- (am q).length) * (mxL (dC [1] (aG (bzA q G A) p))+2* mxL q+1)<=2^ N* (E+2* X+2* s+10):=vj (vi δ ω) ω;have Z:(bzA q G A).length* (mxL (bzA q G A)+mxL p+1)<=(bzA q G A).length* (2* X+2* s+10+s+1):=sO _ ω;refine⟨G,A,l,⟨hG,ω,ω,λx c=>fo (u x c) ω,λx c=>fo (D x c) ω,ω,?_,?_,?_,?_,?_,?_,?_,?_,ω,?_⟩,e,o,d⟩;rw[d];exact⟨ω,ω,ψ⟩;rw[d];exact wa;rw[d,div_one,hqt];exact⟨by rw[show(am (aW A (((1:Int):Rat) / aL G))).length+1- (am q).length=0 by omega];omega,ω,ω⟩;rw[d,div_one,bU];exact hq0;exact⟨ω,ω,ω,ω⟩;rw[d];intro x c;rw[kI.1 c];decide;exact λx c=>fo (g x c) ω;rw[d];simp;rw[d];exact⟨ω,ω,ω⟩
section
variable {N:Lq}
structure Lin (φ:Lq->Rat):Prop where
 eqv:∀{p q},Eqv p q->φ p=φ q
 add:∀p q,φ (ec p q)=φ p+φ q
 scale:∀p k,φ (aW p k)=φ p* k
theorem Lin.zero{φ:Lq->Rat}(H:Lin φ):φ []=0:=by
 have h:=H.scale [] 0;rw[H.eqv (p:=aW [] 0) (q:=[]) λx=>by rw[aT,aS];grind] at h;grind
theorem Lin.ofQ{φ:Lq->Rat}(H:Lin φ){m:Lq}{N:Nat}(hm:∀i,i< N->coP m i=φ (gK [1] i))(p:Lq):∀n,n<=N->n<=p.length->ofQ p m n=φ (p.take n)
 |0,_,_=>H.zero.symm
 |n+1,h1,h2=>by
  rw[Go.Abs.ofQ,Lin.ofQ H hm p n ω ω,H.eqv (p:=p.take (n+1)) (q:=ec (p.take n) (aW (gK [1] n) (coP p n))) (λx=>by
   rw[gu _ _ _ ω,cb,aT,eP];grind),H.add,H.scale]
  grind
theorem Er{p q r:Lq}{u v:Rat}(hN:nz N)(h:∀x,ag r x=ag p x* u+ag q x* v):∀x,ag (md r N) x=ag (md p N) x* u+ag (md q N) x* v:=by
 obtain⟨f,g⟩:=eO p hN;obtain⟨b1,b2⟩:=eO q hN
 have e:∀w:Lq,(nz w->dg w< dg N)->∀i,dg N<=i->coP w i=0:=λw d i j=>by
  by_cases h:nz w;exact(cD h).1.2 i φ;exact trim_nil_iff.1 (OZ.1 h) i
 have:=j6 (p:=r) (q:=N) (u:=ec (aW (bJ p N).1 u) (aW (bJ q N).1 v)) (v:=ec (aW (md p N) u) (aW (md q N) v)) hN (λx=>by
  rw[h,cb,cb,aT,aT,aT,aT];grind) (λc=>by
   refine Np λb=>?_;have a:=(cD c).1.1;rw[fi,bY,bY] at a;grind)
 intro x;rw[this,cb,aT,aT]
def trP(N g:Lq):Rat:=coP (md (aG g (aQ N)) N) (dg N- 1)
theorem fc(hN:nz N):Lin (trP N) where
 eqv {p q} h:=by
  unfold trP;rw[Es (p:=aG p (aQ N)) (p':=aG q (aQ N)) (q:=N) (q':=N) (λx=>by rw[az,az,h]) λ_=>rfl]
 add p q:=by
  have h:=Er (p:=aG p (aQ N)) (q:=aG q (aQ N)) (r:=aG (ec p q) (aQ N)) (u:=1) (v:=1) hN λx=>by rw[az,az,az,cb];grind
  have e:Eqv (md (aG (ec p q) (aQ N)) N) (ec (md (aG p (aQ N)) N) (md (aG q (aQ N)) N)):=λx=>by rw[cb];grind
  unfold trP;rw[trim_iff.1 (eqv_trim.1 e),fi]
 scale p k:=by
  have h:=Er (p:=aG p (aQ N)) (q:=[]) (r:=aG (aW p k) (aQ N)) (u:=k) (v:=0) hN λx=>by rw[az,az,aT];grind
  have e:Eqv (md (aG (aW p k) (aQ N)) N) (aW (md (aG p (aQ N)) N) k):=λx=>by rw[aT];grind
  unfold trP;rw[trim_iff.1 (eqv_trim.1 e),bY]
theorem DN{g h u:Lq}(hN:nz N)(e:∀x,ag g x=ag u x* ag N x+ag h x):trP N g=trP N h:=by
 refine trim_iff.1 (eqv_trim.1 (Ku (u:=aG u (aQ N)) hN λx=>?_)) _;rw[az,az,az];grind
def eL(N:Lq):Nat->Lq
 |0=>aQ N
 |k+1=>dC (aG (eL N k) [0,1]) (aW N (coP (eL N k) (dg N- 1)))
def sL(N:Lq)(k:Nat):Rat:=coP (eL N k) (dg N- 1)
theorem L8(p:Lq)(j:Nat):coP (aG p [0,1]) j=lag p j:=by rw[C9];grind
theorem LV(N:Lq):∀k,∃u,∀x,ag (aG (gK [1] k) (aQ N)) x=ag u x* ag N x+ag (eL N k) x
 |0=>⟨[],λx=>by rw[az,eP,aS];show x^ 0* _=_+ag (aQ N) x;grind⟩
 |k+1=>by
  obtain⟨u,a⟩:=LV N k;refine⟨ec (aG u [0,1]) (dk (coP (eL N k) (dg N- 1))),λx=>?_⟩;have h:=a x;rw[az,eP] at h;rw[az,eP,eL,cv,az,aT,cb,az,wM,iB];grind
theorem LW{N:Lq}(hN:nz N)(hm:aL N=1)(h1:1<=dg N):∀k i,dg N<=i->coP (eL N k) i=0
 |0,i,hi=>by rw[eL,db,(cD hN).1.2 (i+1) ω];grind
 |k+1,i,hi=>by
  rw[eL,jE,L8,bY];cases i with
  |zero=>omega
  |succ i=>
   show coP (eL N k) i- _=0;by_cases hd:dg N=i+1;rw[<-hd,(cD hN).2,hd];grind;rw[LW hN hm h1 k i ω,(cD hN).1.2 (i+1) ω];grind
theorem md_eL(hN:nz N)(hm:aL N=1)(h1:1<=dg N)(k:Nat):Eqv (md (aG (gK [1] k) (aQ N)) N) (eL N k):=by
 obtain⟨u,b⟩:=LV N k;refine j6 hN b λc=>Np λa=>(cD c).1.1 (LW hN hm h1 k _ a)
theorem pV(hN:nz N)(hm:aL N=1)(h1:1<=dg N)(k:Nat):trP N (gK [1] k)=sL N k:=
 trim_iff.1 (eqv_trim.1 (md_eL hN hm h1 k)) _
theorem xU(hN:nz N)(hm:aL N=1){k:Nat}(hk:k< dg N){S:Lq}(hS:∀j,j< k->coP S j=sL N j)(hk0:k≠0):sL N k= -(nwA N (dg N) S k (k- 1)):=by
 have a:∀i,i<=k- 1->coP (eL N k) (dg N- 1)=coP (eL N (k- i)) (dg N- 1- i)- (nwA N (dg N) S k i- coP N (dg N- k) * ((k:Int):Rat)):=λi=>by
  induction i with
  |zero=>rw[nwA];grind
  |succ i b=>
   intro d;rw[b ω,nwA,show k- i=(k- (i+1))+1 by omega,show dg N- 1- i=(dg N- 1- (i+1))+1 by omega,eL,jE,L8,bY];show coP (eL N (k- (i+1))) (dg N- 1- (i+1))- coP N (dg N- 1- (i+1)+1) * sL N (k- (i+1))- _=_;grind
 have h:=a (k- 1) (ir _);rw[show k- (k- 1)=0+1 by omega,show dg N- 1- (k- 1)=(dg N- 1- k)+1 by omega,eL,jE,L8,bY] at h;have c:coP (eL N k) (dg N- 1)=coP (aQ N) (dg N- 1- k)- coP N (dg N- 1- k+1) * coP (aQ N) (dg N- 1)- (nwA N (dg N) S k (k- 1)- coP N (dg N- k) * ((k:Int):Rat)):=h;unfold sL;rw[c,db,db,show dg N- 1+1=dg N by omega,(cD hN).2,show dg N- 1- k+1=dg N- k by omega]
 have e:((dg N:Int):Rat)=(((dg N- k:Nat):Int):Rat)+((k:Int):Rat):=by
  rw[<-Rat.intCast_add];congr 1;omega
 grind
theorem Fm(a b:Lq)(j:Nat):coP (a++b) j=if j< a.length then coP a j else coP b (j- a.length):=by
 unfold coP;grind
theorem Jo{N:Lq}(hN:nz N)(hm:aL N=1)(ht:am N=N):∀k,k< dg N->∀j,j<=k->coP (suL N (dg N) k) j=sL N j
 |0,hk,j,b=>by
  have:j=0:=ω
  subst this;show((dg N:Int):Rat)=coP (aQ N) (dg N- 1);rw[db,show dg N- 1+1=dg N by omega,(cD hN).2];grind
 |k+1,hk,j,b=>by
  have a:=Jo hN hm ht k ω;rw[suL,Fm,jc];by_cases h:j< k+1;rw[if_pos h];exact a j ω;have:j=k+1:=ω
  subst this;rw[if_neg h,Nj,xU hN hm hk (S:=suL N (dg N) k) (λj b=>a j ω) ω];rfl
theorem MH{W f:Lq}(hN:nz N)(hm:aL N=1)(ht:am N=N)(h1:1<=dg N):ofQ (apR N W f) (suL N (dg N) (dg N- 1)) (apR N W f).length=trP N (aG W f):=by
 have b:=eO f hN;have c:=eO (aG W (bJ f N).2) hN
 have a:(apR N W f).length<=dg N:=by
  have:(am (apR N W f)).length< (am N).length:=(eU _ N hN).2;have e:am (apR N W f)=apR N W f:=(kG _ N).2;rw[e] at this;unfold dg;omega
 rw[(fc hN).ofQ (N:=dg N) (λi d=>by rw[pV hN hm h1,Jo hN hm ht (dg N- 1) ω i ω]) _ _ a (ir _)];refine((DN (u:=ec (bJ (aG W (bJ f N).2) N).1 (aG W (bJ f N).1)) hN λx=>?_):trP N (aG W f)=_).symm;have e1:=b.1 x;have e2:=c.1 x;unfold md at e1 e2;rw[az] at e2;rw[az,cb,az];unfold apR;grind
end
theorem nz_line(r:Rat):nz [-r,1]/\dg [-r,1]=1:=by
 have h:=kP (p:=[-r,1]) (n:=1) ⟨by show(1:Rat)≠0;grind,λi a=>eC φ⟩;grind
theorem cancel{X Y:Lq}{r:Rat}(h:∀x,ag X x* (x- r)=ag Y x* (x- r)):Eqv X Y:=by
 have a:¬nz (dC X Y):=λa=>by
  have b:=(wU a (nz_line r).1).1;refine b (trim_nil_iff.2 (rz λx=>?_));rw[az,cv,wM];grind
 intro x;have:=jk a x;rw[cv] at this;grind
def gJ(m:Lq):Nat->Lq
 |0=>[]
 |j+1=>coP m j::gJ m j
theorem Mc(m:Lq):∀j i,coP (gJ m j) i=if i< j then coP m (j- 1- i) else 0
 |0,i=>by rfl
 |j+1,0=>by rfl
 |j+1,i+1=>by
  show coP (gJ m j) i=_;rw[Mc m j i];grind
def tL(p m:Lq):Nat->Lq
 |0=>[]
 |j+1=>oe (tL p m j) (kK (gJ m j) (coP p j))
theorem L9(p m:Lq)(i:Nat):∀j,coP (tL p m j) i=tpV p m i j
 |0=>rfl
 |j+1=>by
  rw[tL,iW,gx,L9 p m i j,Mc,tpV];grind
theorem FZ(p m:Lq)(i:Nat):∀j,j<=i+1->tpV p m i j=0
 |0,_=>rfl
 |j+1,h=>by rw[tpV,if_neg ω,FZ p m i j ω]
theorem IJ(p m:Lq)(x:Rat):ag (tpQ p m) x=ag (tL p m p.length) x:=eG (λi=>by
 unfold tpQ;rw[rK,L9];by_cases h:i< p.length- 1;rw[if_pos h];rw[if_neg h,FZ _ _ _ _ ω]) x
def GL(x:Rat):Nat->Lq
 |0=>[]
 |j+1=>ec (aW (GL x j) x) (gK [1] j)
theorem HD(x t:Rat):∀j,ag (GL x j) t* (t- x)=t^ j- x^ j
 |0=>by show(0:Rat) * _=_;grind
 |j+1=>by
  have:=HD x t j;rw[GL,cb,aT,eP];grind
theorem top_lin{φ:Lq->Rat}(H:Lin φ){m:Lq}{N:Nat}(hm:∀i,i< N->coP m i=φ (gK [1] i))(p:Lq)(hp:p.length<=N+1)(x:Rat):ag (tpQ p m) x=φ (kJ p x):=by
 have hG:∀j,j<=N->φ (GL x j)=ag (gJ m j) x:=λj=>by
  induction j with
  |zero=>intro _;exact H.zero
  |succ j b=>intro c;rw[GL,H.add,H.scale,b ω,<-hm j ω,gJ,aO]
 have a:∀j,j<=p.length->φ (kJ (p.take j) x)=ag (tL p m j) x:=λj=>by
  induction j with
  |zero=>intro _;exact H.zero
  |succ j b=>
   intro c
   rw[H.eqv (p:=kJ (p.take (j+1)) x) (q:=ec (kJ (p.take j) x) (aW (GL x j) (coP p j))) (cancel (r:=x) λt=>by
    have d:=lJ (p.take (j+1)) x t;have e:=lJ (p.take j) x t;have f:=HD x t j;rw[gu _ _ _ ω,gu _ _ _ ω] at d;rw[cb,aT];grind),H.add,H.scale,b ω,hG j ω,tL,io,iQ]
 rw[IJ,<-a p.length (ir _),qj]
theorem wt_uniq {N T W V A B:Lq} (hN:nz N) (hco:∀x,ag A x* ag N x+ag B x* dvE N x=1) (hW:∃z,∀x,ag W x* dvE N x=ag T x+ag z x* ag N x) (hV:∃z,∀x,ag V x* dvE N x=ag T x+ag z x* ag N x)
    (dW:nz W->dg W< dg N) (dV:nz V->dg V< dg N):Eqv W V:=by
 obtain⟨z,e⟩:=hW;obtain⟨d,c⟩:=hV
 have b:=j6 (p:=W) (u:=ec (aG A (dC W V)) (aG B (dC z d))) hN (λx=>by
  rw[cb,az,az,cv,cv];grind) dV
 have a:=GG hN dW;intro x;rw[<-a,b]
theorem wt_spec{N T iv:Lq}(hN:nz N){w:Lq}(h:∀x,ag iv x* dvE N x=1+ag w x* ag N x):(∃z,∀x,ag (bJ (aG T iv) N).2 x* dvE N x=ag T x+ag z x* ag N x)/\(nz (bJ (aG T iv) N).2->dg (bJ (aG T iv) N).2< dg N):=by
 obtain⟨m1,m2⟩:=eO (aG T iv) hN;refine⟨⟨dC (aG T w) (aG (bJ (aG T iv) N).1 (aQ N)),λx=>?_⟩,m2⟩;have a:=m1 x;unfold md at a;rw[az] at a;rw[cv,az,az,cC];grind
section
variable {a b:Rat}(h:a< b){k:Nat}(hk:1<=k/\k<=4)
include h hk
end
def cOK(N s X Y T:Nat):Bool:=
 decide (N<=7) &&
 decide (1<=s) && decide (1<=X) && decide (X<=137438953472) && decide (s+1+N* s+N* (X+1)<=Y) && decide (2^ 7* (s+2* X+1)<=137438953472) && decide (11* Y<=34359738368) && decide (Y<=T) && decide (7* (T+10000000+1)+T+10000000+2<=137438953472) &&
 ((List.range (N+1)).all λm=>(List.range m).all λn=>hG 9 m n (s+1+N* s) (s+1+N* s+4) X) &&
 ((List.range (N+1)).all λm=>(List.range m).all λn=>cB 9 m n Y (Y+4) (Y+4) T)
theorem Jp{N s X Y T:Nat}(hc:cOK N s X Y T=true){p:Lq}(np:nz p)(hl:(am p).length<=N)(hp:p.length<=1000)(hb:bdL p s):∃q,vn 9 p=some q/\nz q/\q.length<=N/\Ht q Y/\bdL q Y:=by
 unfold cOK at hc;simp only[sj,decide_eq_true_eq,pZ,xd] at hc;obtain⟨⟨⟨⟨⟨⟨⟨⟨⟨⟨z,n⟩,G⟩,J⟩,c4⟩,c5⟩,c6⟩,c7⟩,V⟩,A⟩,S⟩:=hc;have i:Ht p (s+1+N* s):=(Ht.of (s:=s) (p:=am p) λq h=>hb q (cS h)).untrim.mono (by have:=mC s hl;omega);have Q:=nB.2 np;have L:=yD np;have y:am (aQ p)=aQ p:=bU _;have d:=tH ω hb n i;generalize hE:s+1+N* s=E at *
 have m:bdL (aQ p) (E+4)/\Ht (aQ p) (E+4):=⟨λx j=>fo (d.1 x j) ω,d.2⟩;obtain⟨g,r,W,R,H⟩:=GV 9 _ _ E (E+4) X p (aQ p) (A _ ω _ φ) rfl rfl (λx j=>fo (hb x j) ω) m.1 i m.2 ω ω hp ω J;obtain⟨c,C,Z,a,b,z3⟩:=qV 9 _ _ _ r (.inl np);obtain⟨u,K⟩:=C;obtain⟨m1,m2⟩:=eO p c;have M:=j6 (u:=u) (v:=[]) c (λx=>by rw[K x,aS];grind) (λe=>absurd rfl e)
 have hs:∀x,ag p x=ag (bJ p g).1 x* ag g x:=λx=>by
  have:=m1 x;rw[M x,aS] at this;grind
 obtain⟨l,B⟩:=lT hs np;have e1:=(dg_mul' l B hs).2.1;have e2:=(jN l).2.2;have t:=(jN l).2.1;have F:=nB.2 c;have O:=nB.2 t;have h1:=mxL_le hb n;have U:=mxL_le H G;have f:2^ ((am p).length+1- (am g).length)<=2^ 7:=vi δ ω;generalize k:N* (X+1)=D at *
 have o:=vj f (show mxL p+2* mxL g+1<=s+2* X+1 by omega);have h:=(AM i R c).1;have w:((am p).length+1- (am g).length) * (X+1)<=D:=by rw[<-k];exact mC _ ω
 obtain⟨q1,q2⟩:=(h.mono (show _<=Y by omega)).monic ω;refine⟨cV (bJ p g).1,?_,t,?_,q2,q1⟩;unfold vn;rw[if_pos ⟨ek hb ω,ω⟩,r,zL,if_pos ⟨c,ω,ω,ω⟩];have:=xn (bJ p g).1;rw[<-this];unfold dg at e1 e2;omega
theorem C4{N s X Y T:Nat}(hc:cOK N s X Y T=true){p:Lq}(np:nz p)(hl:(am p).length<=N)(hp:p.length<=1000)(hb:bdL p s):
    ∃c,e8 9 p=some c/\(∀x,qs x<=10000000->sv c x/\pp c x):=by
 obtain⟨q,s1,s2,R,y,v⟩:=Jp hc np hl hp hb;unfold cOK at hc;simp only[sj,decide_eq_true_eq,pZ,xd] at hc;obtain⟨⟨⟨⟨⟨⟨⟨⟨⟨⟨D,L⟩,M⟩,O⟩,V⟩,Q⟩,U⟩,F⟩,J⟩,K⟩,A⟩:=hc;have E:=bm q;have H:=nB.2 s2;have m:1<=Y:=ω
 obtain⟨p1,p2⟩:=y.prim s2 m;obtain⟨c,W,hc⟩:=mJ s2;obtain⟨d1,d2,_⟩:=iR s2 (show c≠0 by grind) hc
 have u:(am (cn q)).length=(am q).length:=by
  have S:=nB.2 d1;unfold dg at d2;omega
 have C:(cn q).length=(am (cn q)).length:=by unfold cn;rw[jz]
 have t:=yD s2;have n:am (aQ q)=aQ q:=bU _;have w:=tH ω v m y;obtain⟨e,o1,o2,G⟩:=yI 9 9 _ _ Y (Y+4) (Y+4) T (cn q) (aQ q) [cn q] (A (am q).length ω (aQ q).length t) u (by rw[n]) rfl p1 p2 w.2 w.1 m ω ω ω ω;have o:=mxL_le v m;have z:=vj (show q.length+4<=11 by omega) o
 have l:lr 9 q=some e:=by
  unfold lr;rw[if_pos ⟨ek v ω,⟨ω,ω⟩,s2⟩];exact o1
 have f:∀r∈e,nz r/\r.length<=7/\bdL r T:=λr g=>by
  rcases G r g with h|⟨a,b,d⟩
  rw[kI.1 h];exact⟨d1,ω,λx j=>fo (p1 x j) F⟩;exact⟨a,ω,d⟩
 rw[xb] at o2;have k:ya ⟨q,e,chL (e.map sgI) 0 0⟩:=⟨λr g=>⟨(f r g).1,by have:=(f r g).2.1;omega⟩,by show e.length<=_;omega,rfl⟩
 have i:∀x,qs x<=10000000->sv ⟨q,e,chL (e.map sgI) 0 0⟩ x:=λx j=>⟨k,λr g=>by
  obtain⟨_,a,b⟩:=f r g;have:=mxL_le b ω;have B:=vj a (show mxL r+qs x+1<=T+10000000+1 by omega);exact⟨ω,ω⟩⟩
 refine⟨⟨q,e,chL (e.map sgI) 0 0⟩,?_,λx j=>⟨i x j,i x j,?_⟩⟩;unfold e8;rw[s1,zL,l,zL,if_pos k];have B:=vj (show q.length<=7 by omega) (show mxL q+qs x+1<=T+10000000+1 by omega);exact⟨by show q.length* (mxL q+qs x+1)+mxL q+qs x+2<=_;omega,by show q.length<=_;omega⟩
theorem bdL_mono'{l:Lq}{a b:Nat}(h:bdL l a)(hab:a<=b):bdL l b:=λq c=>fo (h q c) hab
theorem Eo{N:Lq}(hN:nz N)(hm:aL N=1)(ht:am N=N):cV N=N:=by
 unfold cV;rw[if_neg hN,hm];have:am (aW N (1/ 1))=am N:=eqv_trim.1 λx=>by rw[aT];grind
 rw[jz,ht] at this;exact this
section
variable {a b:Rat}(h:a< b){k:Nat}(hk:1<=k/\k<=4)(ha:qs a<=20)(hb:qs b<=20)
include ha hb
end
def suB(s:Nat):Nat->Nat
 |0=>13
 |k+1=>(k+1) * (s+suB s k+14)
theorem qs_k{k:Nat}(h:k<=1000):qs ((k:Int):Rat)<=13:=lP (n:=k) (k:=13) (fx ω) δ
theorem El{T out:Lq}{s S n k:Nat}(hT:bdL T s)(hs:1<=s)(ho:bdL out S)(hS:1<=S)(hk:k<=1000):∀i,qs (nwA T n out k i)<=s+13+i* (s+S+1)
 |0=>by
  have b:=cP (coP T (n- k)) ((k:Int):Rat);have a:=dc hT hs (n- k);have c:=qs_k hk;rw[nwA];omega
 |i+1=>by
  have b:=El (n:=n) hT hs ho hS hk i;have a:=cP (coP T (n- (i+1))) (coP out (k- (i+1)));have c:=dc hT hs (n- (i+1));have d:=dc ho hS (k- (i+1));have e:=gT (nwA T n out k i) (coP T (n- (i+1)) * coP out (k- (i+1)));rw[nwA,Ni];omega
theorem DT{T:Lq}{n s:Nat}(hT:bdL T s)(hs:1<=s)(hn:n<=1000):∀k,k<=999->bdL (suL T n k) (suB s k)/\13<=suB s k
 |0,_=>⟨λq a=>by
    rw[kI.1 a];exact qs_k hn,ir _⟩
 |k+1,hk=>by
  obtain⟨b,c⟩:=DT hT hs hn k ω
  have f:s+suB s k+14<=suB s (k+1):=by
   rw[suB];exact NS _ (Nat.succ_pos k)
  refine⟨λq a=>?_,ω⟩;rcases n7.1 a with a|a
  have:=b q a;omega;rw[kI.1 a,fa];have d:=El (n:=n) (k:=k+1) hT hs b ω ω k;have e:k* (s+suB s k+1)<=k* (s+suB s k+14):=sO _ ω;rw[suB,Ni];omega
theorem okSu_of{T:Lq}{n s k:Nat}(hT:bdL T s)(hs:1<=s)(hn:n<=1000)(hk:k<=900)(hB:suB s (k+1)<=137438953472):Kc T n k:=by
 obtain⟨a,e⟩:=DT hT hs hn k ω
 have l:s+suB s k+14<=suB s (k+1):=by
  rw[suB];exact NS _ (Nat.succ_pos k)
 have e1:=dc hT hs (n- (k+1));have e2:=qs_k (k:=k+1) ω;refine⟨ω,λi j=>?_⟩;have c:=dc hT hs (n- (i+1));have f:=dc a ω (k+1- (i+1));have b:=El (n:=n) (k:=k+1) hT hs a ω ω i;have d:=cP (coP T (n- (i+1))) (coP (suL T n k) (k+1- (i+1)));have g:i* (s+suB s k+1)<=k* (s+suB s k+14):=vj ω ω;have h:suB s (k+1)=k* (s+suB s k+14)+(s+suB s k+14):=by rw[suB,Ni]
 omega
section
variable {a b:Rat}(h:a< b){k:Nat}(hk:1<=k/\k<=4)
include h hk
variable (ha:qs a<=20)(hb:qs b<=20)
include ha hb
end
section
variable {a b:Rat}(h:a< b){k:Nat}(hk:1<=k/\k<=4)(ha:qs a<=20)(hb:qs b<=20)
include h hk ha hb
end
section
variable {a b a' b':Rat}(h:a< b)(h':a'< b'){k:Nat}(hk:1<=k/\k<=4)
include h h'
end
section
variable {a b a' b':Rat}(ha:qs a<=20)(hb:qs b<=20)(ha':qs a'<=20)(hb':qs b'<=20)
include ha hb ha' hb'
end
instance (T:Lq) (n k:Nat):Decidable (Kc T n k):=by unfold Kc;infer_instance
instance (f:Lq) (s:Sp) (k:Nat):Decidable (Kf f s k):=by unfold Kf smL;infer_instance
theorem u5{l:Lq}{q:Rat}(h:q∈l):∃i,i< l.length/\coP l i=q:=by
 obtain⟨i,a,e⟩:=List.getElem_of_mem h;exact⟨i,a,by rw[<-e];unfold coP;rw[jH,eT a];rfl⟩
end Go.Abs
