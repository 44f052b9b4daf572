/- Part Y14 of the proof. -/
import Derived.Test.YtjmkjicckobojaaGreatDoorY13
set_option linter.all false
namespace Go.Abs
section
variable {p q:Lq}
def nz(p:Lq):Prop:=am p≠[]
def dg(p:Lq):Nat:=(am p).length- 1
def md(p q:Lq):Lq:=(bJ p q).2
def Eqv(p q:Lq):Prop:=∀x,ag p x=ag q x
theorem eqv_trim:Eqv p q↔am p=am q:=
 ⟨eM,λh x=>by rw[<-b7 p,h,b7]⟩
theorem Ek(h:Eqv p q):nz p↔nz q:=by unfold nz;rw[eqv_trim.1 h]
theorem L3(h:Eqv p q):dg p=dg q:=by unfold dg;rw[eqv_trim.1 h]
theorem B7(h:Eqv p q):aL p=aL q:=by unfold aL;rw[eqv_trim.1 h]
theorem Es{p' q':Lq}(h:Eqv p p')(h':Eqv q q'):md p q=md p' q':=by
 unfold md bJ;rw[eqv_trim.1 h,eqv_trim.1 h',B7 h']
theorem jk(h:¬nz p):∀x,ag p x=0:=λx=>by
 have:am p=[]:=by unfold nz at h;grind
 rw[<-b7,this];rfl
def ue(p:Lq)(n:Nat):Prop:=coP p n≠0/\∀i,n< i->coP p i=0
theorem cD(h:nz p):ue p (dg p)/\coP p (dg p)=aL p:=by
 have c:=nB.2 h;have d:=dt (l:=p) (n:=dg p) (by unfold dg;omega)
 have a:coP p (dg p)=aL p:=by
  rw[<-cu];unfold coP;grind
 refine⟨⟨by rw[a];exact df h,λi b=>?_⟩,a⟩;rw[<-cu];exact eC (by unfold dg at b;omega)
theorem kP{n:Nat}(h:ue p n):nz p/\dg p=n/\aL p=coP p n:=by
 have c:nz p:=λe=>h.1 (trim_nil_iff.1 e n);obtain⟨b,d⟩:=cD c
 have e:dg p=n:=by
  rcases Nat.lt_trichotomy (dg p) n with a|a|a
  exact absurd (b.2 n a) h.1;exact a;exact absurd (h.2 _ a) b.1
 grind
theorem AW(h:∀i,coP p i=0)(q:Lq)(k:Nat):coP (nG p q) k=0:=by
 induction p generalizing k with
 |nil=>rfl
 |cons a p b=>
  have ha:a=0:=h 0;rw[nG,iW,gx];cases k with
  |zero=>rw[fv];grind
  |succ k=>rw[ej,b λi=>h (i+1)];grind
theorem AU(p q:Lq):∀(n m:Nat),(∀i,n< i->coP p i=0)->(∀i,m< i->coP q i=0)->coP (nG p q) (n+m)=coP p n* coP q m/\∀k,n+m< k->coP (nG p q) k=0:=by
 induction p with
 |nil=>intro n m _ _;exact⟨by show(0:Rat)=0* _;grind,λ_ _=>rfl⟩
 |cons a p l=>
  intro n m d e;cases n with
  |zero=>
   have f:∀i,coP p i=0:=λi=>d (i+1) ω
   have b:∀k,coP (nG (a::p) q) k=coP q k* a:=λk=>by
    rw[nG,iW,gx];cases k with
    |zero=>rw[fv];grind
    |succ k=>rw[ej,AW f];grind
   refine⟨by rw[vY,b,fv];grind,λk c=>?_⟩;grind
  |succ n=>
   obtain⟨g,o⟩:=l n m (λi r=>d (i+1) ω) e
   have b:∀k,m< k+1->coP (nG (a::p) q) (k+1)=coP (nG p q) k:=λk h=>by
    rw[nG,iW,gx,ej,e _ h];grind
   refine⟨by rw[show n+1+m=(n+m)+1 by omega,b _ ω,g,ej],λk c=>?_⟩;obtain⟨j,rfl⟩:∃j,k=j+1:=⟨k- 1,ω⟩;grind
theorem H4{n m:Nat}(hp:ue p n)(hq:ue q m):ue (aG p q) (n+m)/\coP (aG p q) (n+m)=coP p n* coP q m:=by
 obtain⟨d,c⟩:=AU p q n m hp.2 hq.2;refine⟨⟨?_,λi e=>by rw[oT];grind⟩,by rw[oT];grind⟩;rw[oT];have a:=hp.1;have b:=hq.1;grind
theorem wU(hp:nz p)(hq:nz q):nz (aG p q)/\dg (aG p q)=dg p+dg q/\aL (aG p q)=aL p* aL q:=by
 obtain⟨a,e⟩:=cD hp;obtain⟨b1,b2⟩:=cD hq;obtain⟨b,c⟩:=H4 a b1;obtain⟨d1,d2,d⟩:=kP b;grind
theorem dg_mul'{r:Lq}(hp:nz p)(hq:nz q)(h:∀x,ag r x=ag p x* ag q x):nz r/\dg r=dg p+dg q/\aL r=aL p* aL q:=by
 have e:Eqv r (aG p q):=λx=>by rw[h,az]
 obtain⟨b,a,c⟩:=wU hp hq;exact⟨(Ek e).2 b,(L3 e).trans a,(B7 e).trans c⟩
theorem iR{k:Rat}(hp:nz p)(hk:k≠0){r:Lq}(h:∀x,ag r x=ag p x* k):nz r/\dg r=dg p/\aL r=aL p* k:=by
 have d:ue [k] 0:=⟨hk,λi l=>by obtain⟨j,rfl⟩:∃j,i=j+1:=⟨i- 1,ω⟩;rfl⟩;obtain⟨e,f,a⟩:=kP d;obtain⟨b,g,c⟩:=dg_mul' hp e (r:=r) (λx=>by show _=_* (0* x+k);grind);exact⟨b,ω,by rw[c,a];rfl⟩
theorem eO(p:Lq)(hq:nz q):(∀x,ag p x=ag (bJ p q).1 x* ag q x+ag (md p q) x)/\(nz (md p q)->dg (md p q)< dg q):=by
 obtain⟨a,b⟩:=eU p q hq;refine⟨λx=>(a x).symm,λh=>?_⟩;have:=nB.2 h;unfold md at *
 unfold dg;omega
theorem j6{u v:Lq}(hq:nz q)(h:∀x,ag p x=ag u x* ag q x+ag v x)(hv:nz v->dg v< dg q):Eqv (md p q) v:=by
 obtain⟨f,d⟩:=eO p hq;by_cases hw:nz (dC u (bJ p q).1)
 obtain⟨b,c,_⟩:=dg_mul' hw hq (r:=dC (md p q) v) (λx=>by
  rw[cv,cv];grind)
 have a:∀r,(nz r->dg r< dg q)->∀i,dg q<=i->coP r i=0:=λr e i g=>by
  by_cases a:nz r;exact(cD a).1.2 i φ;exact trim_nil_iff.1 (Nc a) i
 have:=(cD b).1.1;rw[jE] at this;grind;intro x;have:=jk hw x;rw[cv] at this;grind
theorem Ku{p' u:Lq}(hq:nz q)(h:∀x,ag p x=ag u x* ag q x+ag p' x):Eqv (md p q) (md p' q):=by
 obtain⟨b,a⟩:=eO p' hq;exact j6 (u:=ec u (bJ p' q).1) hq (λx=>by rw[h,cb];grind) a
theorem GG(hq:nz q)(h:nz p->dg p< dg q):Eqv (md p q) p:=
 j6 (u:=[]) hq (λx=>by rw[aS];grind) h
end
theorem maxL2(m a:Rat):m<=lY [m,a]/\a<=lY [m,a]:=by
 have e:lY [m,a]=if 0< eD a m then a else m:=by
  unfold lY eE;grind
 rw[e];unfold eD;grind
theorem Ba(q:Rat):fN q=ab q:=oX q
theorem rO(lead:Rat):∀(l:Lq) (m:Rat),m<=boL lead l m/\∀c∈l,ab (c/ lead)<=boL lead l m
 |[],m=>⟨by rw[boL];grind,λ_ h=>by cases h⟩
 |c::l,m=>by
  obtain⟨f,b⟩:=rO lead l (lY [m,fN (c/ lead)]);obtain⟨g,e⟩:=maxL2 m (fN (c/ lead));rw[boL];refine⟨φ,λd a=>?_⟩;rcases pY.1 a with rfl|a
  rw[Ba] at *;grind;grind
theorem tN(p:Lq):1<=cg p:=by
 have:=(rO (aL p) ((am p).take ((am p).length- 1)) 0).1;unfold cg;grind
theorem big{B x:Rat}(hB:1<=B)(hx:x<= -B):∀(l:Lq) (lead:Rat),l.getLast?=some lead->lead≠0->(∀c∈l.dropLast,ab c<=(B- 1) * ab lead)->
    ab lead<=ab (ag l x)/\sgE x l=if l.length % 2=1 then sgZ lead.num else -sgZ lead.num
 |[],_,h,_,_=>by cases h
 |[a],lead,h,h0,_=>by
  have e:a=lead:=φ
  subst e;have e:ag [a] x=a:=by rw[aO,aS];grind
  refine⟨φ,?_⟩;unfold sgE;grind
 |a::b::m,lead,h,h0,hc=>by
  rw[List.getLast?_cons_cons] at h;rw[List.dropLast_cons_cons] at hc;obtain⟨i1,i2⟩:=big hB hx (b::m) lead h h0 λc i=>hc c (lQ _ i);have ha:=hc a (mu ..);have e:ag (a::b::m) x=ag (b::m) x* x+a:=aO ..
  have d:(if (a::b::m).length % 2=1 then sgZ lead.num else -sgZ lead.num)= -sgE x (b::m):=by
   grind
  rw[d]
  have k:0< ab (ag (b::m) x):=by
   have:0< ab lead:=by unfold ab;grind
   grind
  have r:=vc i1 (show 0<=B- 1 by grind);have n:=ab_le.1 (show ab a<=(B- 1) * ab (ag (b::m) x) by grind);rcases iw x (b::m) with⟨g,f⟩|⟨g,f⟩|⟨g,f⟩
  have j:ab (ag (b::m) x)=ag (b::m) x:=by unfold ab;rw[if_neg φ]
  have p:=vc hx (show 0<=ag (b::m) x by grind);rw[j] at n i1;have q:ag (a::b::m) x<= -ag (b::m) x:=by rw[e];grind
  refine⟨?_,by rw[g,uC φ]⟩;have o:ab (ag (a::b::m) x)= -ag (a::b::m) x:=by unfold ab;rw[if_pos φ]
  grind;have j:ab (ag (b::m) x)= -ag (b::m) x:=by unfold ab;rw[if_pos f]
  have p:=vc hx (show 0<= -ag (b::m) x by grind);rw[j] at n i1;have q: -ag (b::m) x<=ag (a::b::m) x:=by rw[e];grind
  refine⟨?_,by rw[g,oo φ];decide⟩;have o:ab (ag (a::b::m) x)=ag (a::b::m) x:=by unfold ab;rw[if_neg φ]
  grind;rw[f] at k;exact absurd k (by decide+kernel)
theorem oW{q:Lq}(h:nz q){x:Rat}(hx:x<= -cg q):ab (aL q)<=ab (ag q x)/\sgE x q=sgI q:=by
 have g:=nB.2 h;have j:=dt (l:=q) (n:=(am q).length- 1) ω
 have d:=big (tN q) hx (am q) (aL q) φ (df h) λc a=>by
  rw[List.dropLast_eq_take] at a;have b:=(rO (aL q) _ 0).2 c a;have f:=iY (c/ aL q) (aL q);rw[zp (df h)] at f;have i:=zf b (jb (aL q));unfold cg;grind
 have e:sgE x (am q)=sgE x q:=by unfold sgE;rw[b7]
 rw[b7] at d;unfold sgI a8;grind
theorem GK:∀l:Lw,(∀q∈l,nz q)->∃M:Rat,∀x,x<= -M->l.map (sgE x)=l.map sgI
 |[],_=>⟨0,λ_ _=>rfl⟩
 |q::l,h=>by
  obtain⟨M,c⟩:=GK l λr d=>h r (lQ _ d);have b:=h q (mu ..);by_cases hb:cg q<=M;exact⟨M,λx a=>by rw[zo,zo,c x a,(oW b φ).2]⟩;exact⟨cg q,λx a=>by rw[zo,zo,c x φ,(oW b a).2]⟩
theorem uM{p:Lq}(h:nz p):aL p≠0:=df h
def Dv(d p:Lq):Prop:=∃u,∀x,ag p x=ag u x* ag d x
theorem lT{p q r:Lq}(h:∀x,ag r x=ag p x* ag q x)(hr:nz r):nz p/\nz q:=by
 constructor;intro e;have a:¬nz p:=λh=>h e;exact absurd rfl ((Ek (q:=[]) λx=>by rw[h,jk a,aS];grind).1 hr);intro e;have a:¬nz q:=λh=>h e;exact absurd rfl ((Ek (q:=[]) λx=>by rw[h,jk a,aS];grind).1 hr)


theorem uZ{p:Lq}(h:nz p):a8 p=(dg p:Int):=by
 have:=nB.2 h;unfold a8 dg;omega
theorem degP_nil{p:Lq}:a8 p< 0↔¬nz p:=by
 unfold a8 nz;constructor;intro h e;have:=nB.2 e;omega;intro h;have:am p=[]:=Nc h;rw[this];decide
theorem jN{p:Lq}(h:nz p):(∀x,ag (cV p) x=ag p x* (1/ aL p))/\nz (cV p)/\dg (cV p)=dg p:=by
 have hl:=uM h;have e:∀x,ag (cV p) x=ag p x* (1/ aL p):=λx=>by unfold cV;rw[if_neg h,aT]
 have hk:1/ aL p≠0:=λe=>by have:1/ aL p* aL p=1:=φ
                           rw[e] at this;grind
 obtain⟨a,b,_⟩:=iR h hk e;exact⟨e,a,b⟩
section
variable {r d p q:Lq}
theorem uI(p:Lq):∃k k':Rat,k* k'=1/\∀x,ag (cV p) x=ag p x* k:=by
 by_cases h:nz p;refine⟨1/ aL p,aL p,zp (uM h),(jN h).1⟩;refine⟨1,1,φ,λx=>?_⟩;have e:am p=[]:=Nc h;unfold cV;rw[if_pos e,jk h,aS];grind
theorem Dv.refl(d:Lq):Dv d d:=⟨[1],λx=>by rw[aO,aS];grind⟩
theorem Dv.zero(d:Lq)(h:∀x,ag r x=0):Dv d r:=⟨[],λx=>by rw[aS];grind⟩
theorem Dv.trans{a b c:Lq}(h:Dv a b)(k:Dv b c):Dv a c:=by
 obtain⟨u,d⟩:=h;obtain⟨v,hv⟩:=k;exact⟨aG v u,λx=>by rw[hv,az];grind⟩
theorem Dv.lin{u v:Lq}(h:Dv d p)(k:Dv d q)(e:∀x,ag r x=ag u x* ag p x+ag v x* ag q x):Dv d r:=by
 obtain⟨s,hs⟩:=h;obtain⟨t,a⟩:=k;exact⟨ec (aG u s) (aG v t),λx=>by rw[e,cb,az,az];grind⟩
theorem Dv.mul(h:Dv d p)(e:∀x,ag r x=ag q x* ag p x):Dv d r:=
 h.lin h (u:=q) (v:=[]) λx=>by rw[aS];grind
theorem Dv.scale{k:Rat}(h:Dv d p)(e:∀x,ag r x=ag p x* k):Dv d r:=
 h.mul (q:=[k]) λx=>by rw[aO,aS];grind
theorem Dv.dg{d p:Lq}(h:Dv d p)(hp:nz p):dg d<=dg p:=by
 obtain⟨u,a⟩:=h;obtain⟨b,c⟩:=lT a hp;have:=(dg_mul' b c a).2.1;omega
theorem zN(h:nz d)(h0:dg d=0):∃c:Rat,c≠0/\∀x,ag d x=c:=by
 obtain⟨e1,e2⟩:=cD h;refine⟨aL d,uM h,λx=>?_⟩
 have:am d=am [aL d]:=trim_iff.2 λi=>by
  cases i with
  |zero=>rw[fv,<-e2,h0]
  |succ i=>exact e1.2 _ ω
 rw[<-b7,this,b7,aO,aS];grind
theorem wa:nz [1]:=by unfold nz;decide+kernel
theorem bez:∀(n:Nat) (p q:Lq),(am q).length=n->nz p\/nz q->∃g a b:Lq,nz g/\Dv g p/\Dv g q/\∀x,ag g x=ag a x* ag p x+ag b x* ag q x:=by
 intro n
 induction n using Nat.strongRecOn with
 |ind n f=>
  intro p q k h;by_cases hq:nz q;obtain⟨m1,m2⟩:=eO p hq
  have c:(am (md p q)).length< n:=by
   have:=(eU p q hq).2;unfold md;omega
  obtain⟨g,a,b,i,d,e,j⟩:=f _ c q (md p q) rfl (.inl hq);refine⟨g,b,dC a (aG b (bJ p q).1),i,d.lin e (u:=(bJ p q).1) (v:=[1]) λx=>?_,d,λx=>?_⟩;rw[m1,aO,aS];grind;rw[j,cv,az,m1 x];grind;have hp:nz p:=h.resolve_right hq;exact⟨p,[1],[],hp,.refl p,.zero p (jk hq),λx=>by rw[aO,aS,jk hq];grind⟩
theorem qV:∀(f:Nat) (p q g:Lq),ut f p q=some g->nz p\/nz q->nz g/\Dv g p/\Dv g q/\∃a b:Lq,∀x,ag g x=ag a x* ag p x+ag b x* ag q x
 |0,_,_,_,h,_=>by cases h
 |f+1,p,q,g,h,hz=>by
  rw[ut] at h;split at h
  ·rename_i c
   split at h;cases h;have i:¬nz q:=λe=>e c;have hp:nz p:=hz.resolve_right i;obtain⟨m1,m2,_⟩:=jN hp;obtain⟨k,d,l,m⟩:=uI p;refine⟨m2,⟨[d],λx=>by rw[aO,aS];grind⟩,.zero _ (jk i),[k],[],λx=>by rw[aO,aS];grind⟩;cases h
  ·rename_i c
   split at h;obtain⟨m1,_⟩:=eO p c;obtain⟨k,d,l,m⟩:=uI (bJ p q).2;obtain⟨o,j,n,a,b,r⟩:=qV f _ _ _ h (.inl c);refine⟨o,j.lin n (u:=(bJ p q).1) (v:=[d]) λx=>?_,j,aW b k,dC a (aW (aG b (bJ p q).1) k),λx=>?_⟩;rw[m1,aO,aS];show _+ag (bJ p q).2 x=_;grind;rw[r,aT,cv,aT,az,m1 x];show _=_* (_+ag (bJ p q).2 x)+_;grind;cases h
theorem oO(h:∀x,ag p x=ag q x)(x:Rat):dvE p x=dvE q x:=AH (trim_iff.1 (eM h)) x
theorem LZ{k:Rat}(h:∀x,ag r x=ag p x* k)(x:Rat):dvE r x=dvE p x* k:=by
 rw[oO (q:=kK p k) (λx=>by rw[h,iQ]) x,wR]
def pw(d:Lq):Nat->Lq
 |0=>[1]
 |k+1=>aG (pw d k) d
theorem pw_dv(d:Lq)(k:Nat)(x:Rat):dvE (pw d (k+1)) x=(((k+1:Nat):Int):Rat) * ag (pw d k) x* dvE d x:=by
 induction k with
 |zero=>
  show dvE (aG [1] d) x=_;rw[rG,eN,show dvE [] x=0 from rfl];show _=((1:Int):Rat) * ag [1] x* _;rw[aS];grind
 |succ k a=>
  show dvE (aG (pw d (k+1)) d) x=_;rw[rG];have e2:ag (pw d (k+1)) x=ag (pw d k) x* ag d x:=az _ _ _;grind
theorem pw_dg(hd:nz d)(k:Nat):nz (pw d k)/\dg (pw d k)=k* dg d:=by
 induction k with
 |zero=>exact⟨wa,by rw[JR];show dg [1]=0;decide+kernel⟩
 |succ k c=>
  obtain⟨a,b,_⟩:=wU c.1 hd;exact⟨a,by show dg (aG _ _)=_;grind⟩
theorem IT(h:dg d≠0)(hd:nz d):nz (aQ d)/\dg (aQ d)< dg d:=by
 obtain⟨⟨e1,e2⟩,_⟩:=cD hd
 have c:ue (aQ d) (dg d- 1):=by
  refine⟨?_,λi f=>?_⟩;rw[db,show dg d- 1+1=dg d by omega];intro e;rcases y4.1 e with e|e
  exact e1 e;have:((dg d:Nat):Int)=0:=by simp_all
  omega;rw[db,e2 _ ω,MZ]
 obtain⟨a,b,_⟩:=kP c;grind
theorem sqfree{s g a b:Lq}(hp:nz p)(h1:∀x,ag p x=ag s x* ag g x)(h3:∀x,ag g x=ag a x* ag p x+ag b x* ag (aQ p) x):
    ∀n d,dg d=n->nz d->Dv d s->Dv d (aQ s)->dg d=0:=by
 intro n
 induction n using Nat.strongRecOn with
 |ind n G=>
  intro d M h ⟨u,j⟩ ⟨v,hv⟩;by_cases h0:dg d=0;exact h0;exfalso;obtain⟨d1,d2⟩:=IT h0 h;obtain⟨e,E,A,e1,e2,F,H⟩:=bez _ d (aQ d) rfl (.inl h);have L:=F.dg d1;have z:=G (dg e) ω e rfl e1 (e2.trans ⟨u,j⟩) (e2.trans ⟨v,hv⟩);obtain⟨c,C,B⟩:=zN e1 z
  -- the square divides s
  have hs:∀x,dvE s x=dvE u x* ag d x+ag u x* dvE d x:=λx=>by
   rw[oO (q:=aG u d) (λx=>by rw[j,az]) x,rG]
  have K:1/ c* c=1:=zp C
  obtain⟨t,r⟩:∃t:Lq,∀x,ag u x=ag t x* ag d x:=by
   refine⟨aW (ec (aG E u) (aG A (dC v (C1 u)))) (1/ c),λx=>?_⟩;rw[aT,cb,az,az,cv,pG];have m:=H x;have D:=hv x;rw[B,cC] at m;rw[cC,hs] at D;grind
  obtain⟨N,J⟩:=lT h1 hp
  have i:∀k,∃w:Lq,∀x,ag g x=ag w x* ag (pw d k) x:=by
   intro k
   induction k with
   |zero=>exact⟨g,λx=>by rw[pw,aO,aS];grind⟩
   |succ k l=>
    obtain⟨w,f⟩:=l;obtain⟨W,y⟩:∃W,W=aG t w:=⟨_,rfl⟩
    have q1:∀x,ag p x=ag W x* ag (pw d (k+2)) x:=λx=>by
     rw[h1,f,j,r,y,az,pw,az,pw,az];grind
    have q2:∀x,ag (aQ p) x=dvE W x* ag (pw d (k+2)) x+ag W x* dvE (pw d (k+2)) x:=λx=>by
     rw[cC,oO (q:=aG W (pw d (k+2))) (λx=>by rw[q1,az]) x,rG]
    refine⟨ec (aG a (aG W d)) (aG b (ec (aG (C1 W) d) (aG (aW W (((k+1+1:Nat):Int):Rat)) (C1 d)))),λx=>?_⟩;have q3:=pw_dv d (k+1) x;have q4:ag (pw d (k+2)) x=ag (pw d (k+1)) x* ag d x:=az _ _ _;rw[h3,q2,q1,q3,q4];simp only[cb,az,aT,pG];grind
  obtain⟨w,f⟩:=i (dg g+1);obtain⟨m1,m2⟩:=lT f J;have o:=(dg_mul' m1 m2 f).2.1;rw[(pw_dg h _).2] at o;have O:dg g+1<=(dg g+1) * dg d:=Nat.le_mul_of_pos_right _ ω;omega
end
theorem mJ{p:Lq}(h:nz p):∃k:Rat,0< k/\∀x,ag (cn p) x=ag p x* k:=by
 have d:iS (am p) 1≠0:=rH _ δ
 have hN:ji (iS (am p) 1) (am p) 0≠0:=by
  intro e;have g:=(qD (iS (am p) 1) (am p) 0).2;have f:=(mf (am p) 1).2;have j:=nB.2 h;have i:=dt (l:=p) (n:=(am p).length- 1) ω;have b:=mc i;have c:=g _ b;rw[e] at c;exact Ab (f _ b) d (df h) (Nat.eq_zero_of_zero_dvd c)
 refine⟨nQ (iS (am p) 1) / nQ (ji (iS (am p) 1) (am p) 0),?_,λx=>by unfold cn;rw[aT,b7]⟩
 have a:∀n:Nat,n≠0->(0:Rat)< nQ n:=λn o=>by
  rw[<-num_pos];show 0< (n:Int);omega
 obtain⟨k,m,e⟩:=part (nQ (iS (am p) 1)) (a _ d) (a _ hN);rw[<-e,Rat.mul_div_cancel (λe=>hN (nQ_zero.1 e))];grind
inductive Cx:Lq->Lq->Lw->Prop
 |nil {u n:Lq}:¬nz n->Cx u n []
 |cons {u n v n' q:Lq} {L:Lw} {c:Rat}:0< c->(∀x,ag v x=ag n x* c)->nz v->(∀x,ag n' x=ag q x* ag v x- ag u x)->Cx v n' L->Cx u n (v::L)
theorem oa:∀(f k:Nat) (last next:Lq) (acc out:Lw),lF f k last next acc=some out->∃L,out=acc++L/\Cx last next L
 |_,0,_,_,_,_,h=>by cases h
 |f,k+1,last,next,acc,out,h=>by
  rw[lF] at h;split at h
  ·rename_i a
   cases h;exact⟨[],ψ,.nil λe=>e a⟩
  ·rename_i a
   split at h
   ·rename_i b
    obtain⟨L,e,i⟩:=oa f k _ _ _ _ h;obtain⟨c,d,g⟩:=mJ a;refine⟨cn next::L,φ,.cons (q:=(bJ last (cn next)).1) d g b.2.2 (λx=>?_) i⟩;have:=(eO last b.2.2).1 x;unfold md at this;rw[aT];grind
   cases h
theorem Cx.ch{u n:Lq}{L:Lw}(H:Cx u n L):nz u->(∀d,nz d->Dv d u->Dv d n->dg d=0)->Ch u L/\∀v L',L=v::L'->∃c:Rat,0< c/\∀x,ag v x=c* ag n x:=by
 induction H with
 | @nil u n hn=>
  intro f b;obtain⟨c,e,i⟩:=zN f (b u f (.refl u) (.zero u (jk hn)));exact⟨.one e i,λ_ _ h=>by cases h⟩
 | @cons u n v n' q L c i hv hnv hn' hL ih=>
  intro f b
  obtain⟨i1,i2⟩:=ih hnv λd d0 d1 d2=>b d d0 (d1.lin d2 (u:=q) (v:=[-1]) λx=>by rw[aO,aS];grind)
   (d1.scale (k:=1/ c) λx=>φ)
  refine⟨?_,λ_ _ h=>by grind⟩;cases L with
  |nil=>exact .pair i1
  |cons w L=>
   obtain⟨g,e,j⟩:=i2 w L rfl;exact .step (a:=g) (c:=1) (q:=aW q g) e φ (λx=>by rw[j,aT];grind) i1
theorem xP{f:Nat}{p s:Lq}(h:vn f p=some s)(hp:nz p):nz s/\∀d,nz d->Dv d s->Dv d (aQ s)->dg d=0:=by
 unfold vn at h;split at h;cases hg:ut f p (aQ p) with
 |none=>grind
 |some g=>
  rw[hg,zL] at h;split at h;cases h;obtain⟨c,j,r,a,b,q⟩:=qV f _ _ _ hg (.inl hp);obtain⟨m1,m2⟩:=eO p c;obtain⟨u,l⟩:=j;have n:=j6 (u:=u) (v:=[]) c (λx=>by rw[l x,aS];grind) (λe=>absurd rfl e)
  have hs:∀x,ag p x=ag (bJ p g).1 x* ag g x:=λx=>by
   have:=m1 x;rw[n x,aS] at this;grind
  obtain⟨o,w⟩:=lT hs hp;obtain⟨k,i,t,m⟩:=uI (bJ p g).1;refine⟨(jN o).2.1,λd d0 d1 d2=>sqfree hp hs q _ d rfl d0 (d1.scale (k:=i) λx=>φ) (d2.scale (k:=i) λx=>?_)⟩;rw[cC,cC,LZ m x];grind;cases h
 cases h
theorem Hn(u:Lq)(x:Rat):chV [u] x=0:=by
 unfold chV chL chL;grind
theorem AQ{f:Nat}{p:Lq}{c:Cnt}(h:e8 f p=some c)(hp:nz p):nz c.p/\vn f p=some c.p/\lr f c.p=some c.ch/\c.far=chV c.ch (-cg c.p)/\(∀x,x<= -cg c.p->dR c x=0)/\∀x y,x<=y->dR c x<=dR c y:=by
 unfold e8 at h;cases hs:vn f p with
 |none=>grind
 |some s=>
  rw[hs,zL] at h;cases hc:lr f s with
  |none=>grind
  |some ch=>
   rw[hc,zL] at h;split at h
   ·rename_i o
    cases h;obtain⟨g,s1⟩:=xP hs hp;have l:=hc;unfold lr at hc;split at hc;obtain⟨L,e,F⟩:=oa _ _ _ _ _ _ hc;obtain⟨k,r,j⟩:=mJ g;have b:k≠0:=φ
    have n:nz (cn s):=(iR g b j).1;have w:k* (1/ k)=1:=φ
    have i:0< 1/ k:=by
     obtain⟨m,m0,m1⟩:=part 1 (d:=k) φ r;grind
    obtain⟨t,G⟩:=F.ch n λd d0 d1 d2=>s1 d d0 (d1.scale (k:=1/ k) λx=>φ) d2;have D:ch=cn s::L:=e;subst D
    have mono:∀x y,x<=y->chV (cn s::L) y<=chV (cn s::L) x:=λx y a=>by
     cases L with
     |nil=>rw[Hn,Hn];grind
     |cons v L=>
      obtain⟨A,E,hv⟩:=G v L rfl;refine t.fall (k:=A* (1/ k)) (ED E i) (λx=>?_) a;rw[hv,cC,LZ j x];grind
    obtain⟨M,B⟩:=GK (cn s::L) λq C=>(o.1 q C).1
    have low:∀x,x<= -cg s->chV (cn s::L) x=chL ((cn s::L).map sgI) 0 0:=λx u=>by
     by_cases hxM:x<= -M;unfold chV;rw[B x hxM]
     rw[<-t.same (e:=ab (aL s) * k) (x:= -M) (y:=x) (ED (by have:=df g;unfold ab;split <;> grind) r) φ (λz J H=>by
      rw[j,iY,show ab k=k by unfold ab;rw[if_neg φ]];exact zf (oW g φ).1 φ)]
     unfold chV;grind
    refine⟨g,rfl,l,(low _ φ).symm,λx u=>?_,λx y a=>?_⟩;have:=low x u;unfold dR;unfold chV at this;show _- chL ((cn s::L).map (sgE x)) 0 0=0;rw[this];simp;have:=mono x y a;unfold dR;unfold chV at this;show _- chL ((cn s::L).map (sgE x)) 0 0<=_- chL ((cn s::L).map (sgE y)) 0 0;omega;grind
   cases h
theorem qs_one:qs 1=1:=δ
theorem uL{p:Lq}{t:Nat}(h:bdL p t)(ht:1<=t):qs (aL p)<=t:=by
 by_cases h0:am p=[];rw[sJ h0];exact fo (by decide:qs 0<=1) ht;have a:=nB.2 h0;exact h _ (cS (mc (dt (n:=(am p).length- 1) ω)))
theorem oq{p:Lq}{k:Rat}(hk:k≠0):(am (aW p k)).length=(am p).length:=by
 by_cases h:nz p;obtain⟨a,b,_⟩:=iR h hk (r:=aW p k) λx=>aT p k x;have d:=nB.2 a;have c:=nB.2 h;unfold dg at b;omega;have e:am p=[]:=zv h
 have e2:am (aW p k)=[]:=by
  have:Eqv (aW p k) []:=λx=>by rw[aT,jk h,aS];grind
  exact eqv_trim.1 this
 rw[e,e2]
section
variable {h:Nat}{p:Lq}
def HtF(f:Nat->Rat)(k:Rat)(h:Nat):Prop:=∀i,∃z:Int,f i* k=(z:Rat)/\bl z.natAbs<=h
def Ht(p:Lq)(h:Nat):Prop:=∃k:Rat,k≠0/\HtF (coP p) k h
theorem HtF.mono{f:Nat->Rat}{k:Rat}{h':Nat}(H:HtF f k h)(hh:h<=h'):HtF f k h':=λi=>by
 obtain⟨z,b,a⟩:=H i;grind
theorem Ht.mono{h':Nat}(H:Ht p h)(hh:h<=h'):Ht p h':=by
 obtain⟨k,a,H⟩:=H;exact⟨k,a,H.mono hh⟩
theorem Ht.scale{r:Lq}{c:Rat}(H:Ht p h)(hc:c≠0)(e:∀i,coP r i=coP p i* c):Ht r h:=by
 obtain⟨k,b,H⟩:=H;refine⟨k/ c,λe=>?_,λi=>?_⟩;have:k/ c* c=k:=zp hc;grind;obtain⟨z,d,a⟩:=H i;grind
theorem Ht.trim(H:Ht p h):Ht (am p) h:=H.scale (c:=1) φ λi=>by rw[cu];grind
theorem Ht.untrim(H:Ht (am p) h):Ht p h:=H.scale (c:=1) φ λi=>by rw[cu];grind
theorem Ht.zero(e:∀i,coP p i=0)(h:Nat):Ht p h:=⟨1,φ,λi=>⟨0,φ,mN _⟩⟩
theorem C7(o:Lq)(a:Rat)(q:Lq)(i n:Nat):∀k,coP (gd o a q i k) n=if i<=n/\n< i+k/\n< o.length then coP o n- a* coP q (n- i) else coP o n
 |0=>by rw[gd,if_neg ω]
 |k+1=>by
  rw[gd,oR,C7 o a q i n k,iy];by_cases h:n=i+k/\i+k< o.length;rw[if_pos h,if_pos ω,nw o a q i k (i+k) ω,h.1,show i+k- i=k by omega];grind
theorem IX{x y:Int}{k:Nat}(hx:bl x.natAbs<=k)(hy:bl y.natAbs<=k):bl (x- y).natAbs<=k+1:=by
 exact tP hx φ
theorem He{q:Lq}{lead l:Rat}{g:Nat}(hl:coP q (q.length- 1)=lead)(h0:lead≠0)(l0:l≠0)(hq:HtF (coP q) l g):∀(c:Nat) (u o:Lq) (k:Rat) (H:Nat),k≠0->HtF (coP o) k H->HtF (coP u) (k/ l) H->
    ∃k',k'≠0/\HtF (coP (j9 q lead c u o).1) (k'/ l) (H+c* (g+1))/\HtF (coP (j9 q lead c u o).2) k' (H+c* (g+1))
 |0,u,o,k,H,k0,ho,hu=>⟨k,k0,by rw[JR];exact hu,by rw[JR];exact ho⟩
 |n+1,u,o,k,H,k0,ho,hu=>by
  obtain⟨zl,a,d⟩:=hq (q.length- 1);rw[hl] at a
  have B:(zl:Rat)≠0:=λe=>by
   grind
  obtain⟨w,m,s⟩:=ho (n+q.length- 1);generalize j:coP o (n+q.length- 1) / lead=t;have v:t* lead=coP o (n+q.length- 1):=φ
  have p:k/ l* l=k:=zp l0;have r:k* (zl:Rat) / l=k/ l* zl:=φ
  rw[j9]
  obtain⟨k',C,E,D⟩:=He hl h0 l0 hq n (u.set n (coP o (n+q.length- 1) / lead)) (if coP o (n+q.length- 1) / lead=0 then o else gd o (coP o (n+q.length- 1) / lead) q n q.length) (k* zl) (H+(g+1)) (λe=>by
   grind) (λi=>by
   rw[j]
   have b:∃z:Int,coP o i* (k* (zl:Rat))=(z:Rat)/\bl z.natAbs<=H+(g+1):=by
    obtain⟨z,h,f⟩:=ho i;refine⟨z* zl,by rw[Nt,<-h];grind,?_⟩;have:=dI f d;omega
   split;exact b;rw[C7];split;obtain⟨z,h,f⟩:=ho i;obtain⟨x,y,A⟩:=hq (i- n);refine⟨z* zl- w* x,?_,?_⟩;rw[Pa,Nt,Nt,<-h,<-m,<-y,<-a,<-v];grind;have:=IX (dI f d) (dI s A);omega;grind) (λi=>by
   rw[j,u0,r];split;refine⟨w,?_,ω⟩;rw[<-a,<-m,<-v];have:t* (k/ l* (lead* l))=t* lead* (k/ l* l):=φ
   rw[this,p];obtain⟨z,h,f⟩:=hu i;refine⟨z* zl,by rw[Nt,<-h];grind,?_⟩;have:=dI f d;omega)
  grind
theorem AM{q:Lq}{g:Nat}(hp:Ht p h)(hq:Ht q g)(h0:nz q):Ht (bJ p q).1 (h+((am p).length+1- (am q).length) * (g+1))/\Ht (bJ p q).2 (h+((am p).length+1- (am q).length) * (g+1)):=by
 obtain⟨k,m,hp⟩:=hp.trim;obtain⟨l,f,hq⟩:=hq.trim;have r:=nB.2 h0;have s:=dt (l:=q) (n:=(am q).length- 1) ω;have o:coP (am q) ((am q).length- 1)=aL q:=by unfold coP;grind
 obtain⟨b,c,d,j⟩:=He o (df h0) f hq ((am p).length+1- (am q).length) (List.replicate ((am p).length+1- (am q).length) 0) (am p) k h m hp λi=>by
  refine⟨0,?_,mN _⟩
  have:coP (List.replicate ((am p).length+1- (am q).length) (0:Rat)) i=0:=by
   unfold coP;grind
  grind
 have a:b/ l≠0:=λe=>by grind
 exact⟨(show Ht _ _ from⟨b/ l,a,d⟩).trim,(show Ht _ _ from⟨b,c,j⟩).trim⟩
theorem Ht.of{s:Nat}(h:bdL p s):Ht p (s+1+p.length* s):=by
 have d:iS p 1≠0:=rH _ δ;have hb:=AN p 1 h;have c:=(mf p 1).2;rw[jx] at hb;refine⟨nQ (iS p 1),λe=>d (nQ_zero.1 e),λi=>?_⟩;by_cases hi:i< p.length;have b:=mc (cm hi);have a:=qF (coP p i) _ (c _ b);have f:=Ac (coP p i) (iS p 1);have g:=h _ b;rw[oX] at a;by_cases hn:coP p i* nQ (iS p 1)< 0;refine⟨-(iZ (coP p i) (iS p 1):Int),φ,?_⟩;rw[Ol,y2];omega;rw[if_neg hn] at a;exact⟨(iZ (coP p i) (iS p 1):Int),a,φ⟩;refine⟨0,?_,mN _⟩;rw[eC ω,MZ];rfl
theorem Ht.derive(H:Ht p h):Ht (aQ p) (h+bl p.length):=by
 obtain⟨k,b,H⟩:=H;refine⟨k,b,λi=>?_⟩;rw[db];by_cases hi:i+1< p.length;obtain⟨z,c,a⟩:=H (i+1);refine⟨z* ((i+1:Nat):Int),φ,?_⟩;have:=dI a (show bl (((i+1:Nat):Int)).natAbs<=bl p.length by exact dQ ω);omega;refine⟨0,?_,mN _⟩;rw[eC ω,MZ,MZ];rfl
theorem Ht.quot(H:Ht p h)(i j:Nat)(hj:coP p j≠0)(h1:1<=h):qs (coP p i/ coP p j)<=h:=by
 obtain⟨k,g,H⟩:=H;obtain⟨z,l,d⟩:=H i;obtain⟨w,c,b⟩:=H j
 have m:w≠0:=λe=>by
  rw[e] at c;grind
 have e:coP p i/ coP p j=(z:Rat) / (w:Rat):=φ
 have a:0< w.natAbs:=ω
 by_cases hw:0< w
 have e2:(z:Rat) / (w:Rat)=mkRat z w.natAbs:=by
  rw[mV];show Rat.divInt (z* ((1:Nat):Int)) (((1:Nat):Int) * w)=_;rw[<-O3];grind
 rw[e,e2];exact gf a d b
 have e2:(z:Rat) / (w:Rat)=mkRat (-z) w.natAbs:=by
  have f:(z:Rat) / (w:Rat)=((-z:Int):Rat) / ((-w:Int):Rat):=φ
  rw[f,mV];show Rat.divInt (-z* ((1:Nat):Int)) (((1:Nat):Int) * -w)=_;rw[<-O3];grind
 rw[e,e2];exact gf a φ b
theorem Ht.monic(H:Ht p h)(h1:1<=h):bdL (cV p) h/\Ht (cV p) h:=by
 by_cases h0:nz p;have b:cV p=aW p (1/ aL p):=by unfold cV;rw[if_neg h0]
 have c:1/ aL p≠0:=λe=>by have:=zp (a:=1) (uM h0);grind
 refine⟨iV λi=>?_,H.scale c λi=>by rw[b,bY]⟩
 have e:coP (cV p) i=coP p i/ coP p (dg p):=by
  rw[b,bY,(cD h0).2,LK,LK,O6]
 rw[e];exact H.quot i _ (cD h0).1.1 h1;have e:cV p=[]:=by unfold cV;rw[if_pos (Nc h0)]
 rw[e];exact⟨λq d=>(by grind),.zero (λi=>rfl) _⟩
theorem CU(D d:Nat):∀(l:Lq) (n:Nat),d∣n->(∀c∈l,d∣iZ c D)->d∣ji D l n
 |[],_,h,_=>h
 |c::l,n,h,hc=>CU D d l _ (Nat.dvd_gcd h (hc c (mu ..))) λx a=>hc x (lQ _ a)
theorem Ht.prim(H:Ht p h)(h0:nz p)(h1:1<=h):bdL (cn p) h/\Ht (cn p) h:=by
 obtain⟨c,W,V⟩:=mJ h0;have o:∀i,coP (cn p) i=coP p i* (nQ (iS (am p) 1) / nQ (ji (iS (am p) 1) (am p) 0)):=λi=>by unfold cn;rw[bY,cu]
 have F:iS (am p) 1≠0:=rH _ δ;have X:=nB.2 h0;have M:=dt (l:=p) (n:=(am p).length- 1) ω;have J:=mc M;have d:=(mf (am p) 1).2;have u:=(qD (iS (am p) 1) (am p) 0).2;have C:=CU (iS (am p) 1);generalize R:iS (am p) 1=D at *
 have hN:ji D (am p) 0≠0:=λe=>by
  have:=u _ J;rw[e] at this;exact Ab (d _ J) F (df h0) (Nat.eq_zero_of_zero_dvd this)
 have Q:nQ D≠0:=λe=>F (nQ_zero.1 e);have T:nQ (ji D (am p) 0)≠0:=λe=>hN (nQ_zero.1 e)
 refine⟨iV λi=>?_,H.scale (c:=nQ D/ nQ (ji D (am p) 0)) (λe=>by
  grind) o⟩
 obtain⟨k,U,H⟩:=H
 -- k=D* (m/ n)
 generalize Y:k/ nQ D=r;have N:k=r* nQ D:=φ
 have r0:r≠0:=λe=>by grind
 have K:r* (nQ r.den)=(r.num:Rat):=by
  have e:(r.num:Rat) / nQ r.den=r:=by
   rw[mV];simp
  grind
 have co:∀j,j< (am p).length->r.den∣iZ (coP p j) D/\∃z:Int,(iZ (coP p j) D* r.num.natAbs=z.natAbs* r.den/\bl z.natAbs<=h):=λj v=>by
  obtain⟨z,O,y⟩:=H j;have g:=mc (cm v);rw[cu] at g;have f:=qF (coP p j) D (d _ g)
  have w:iZ (coP p j) D* r.num.natAbs=z.natAbs* r.den:=by
   have b1:coP p j* nQ D* (r.num:Rat)=(z:Rat) * nQ r.den:=by rw[<-O,N,<-K];grind
   have b2:∃s:Int,coP p j* nQ D=(s:Rat)/\s.natAbs=iZ (coP p j) D:=by
    rw[oX] at f;by_cases hn:coP p j* nQ D< 0;rw[if_pos hn] at f;exact⟨-(iZ (coP p j) D:Int),by rw[Rat.intCast_neg];grind,by rw[Ol,y2]⟩;rw[if_neg hn] at f;exact⟨(iZ (coP p j) D:Int),f,y2 _⟩
   obtain⟨s,s1,s2⟩:=b2;rw[s1] at b1
   have L:s* r.num=z* (r.den:Int):=by
    have:((s* r.num:Int):Rat)=((z* (r.den:Int):Int):Rat):=by rw[Nt,Nt];exact b1
    exact_mod_cast this
   have G:=congrArg Int.natAbs L;rw[NV,NV,s2,y2] at G;exact G
  refine⟨?_,z,w,y⟩;have A:Nat.Coprime r.den r.num.natAbs:=Nat.coprime_comm.1 r.reduced;exact A.dvd_of_dvd_mul_right ⟨z.natAbs,by rw[w,Eg]⟩
 rw[o];by_cases hi:i< (am p).length;obtain⟨z,w,y⟩:=(co i hi).2;have b:=mc (cm hi);rw[cu] at b
 have E:r.den∣ji D (am p) 0:=C _ _ _ (Nat.dvd_zero _) λc x=>by
  obtain⟨j,v⟩:=OF.1 x
  have q:j< (am p).length:=by
   by_cases h:j< (am p).length;exact h;rw[zt ω] at v;cases v
  have e:=cm q;rw[v,cu] at e;cases e;exact(co j q).1
 have B:=u _ b;have f:=qF (coP p i) D (d _ b)
 have a:iZ (coP p i) D/ ji D (am p) 0<=z.natAbs:=by
  have q1:r.den<=ji D (am p) 0:=Pj ω E
  have q2:0< r.num.natAbs:=by
   have:r.num≠0:=λe=>r0 (MV.1 e);omega
  refine Nat.div_le_of_le_mul ?_
  calc iZ (coP p i) D<=iZ (coP p i) D* r.num.natAbs:=Nat.le_mul_of_pos_right _ q2
   _=z.natAbs* r.den:=w
   _<=ji D (am p) 0* z.natAbs:=by rw[Eg];exact mC _ q1
 have hb:bl (iZ (coP p i) D/ ji D (am p) 0)<=h:=fo (dQ a) y
 have e1:fN (coP p i* (nQ D/ nQ (ji D (am p) 0)))=nQ (iZ (coP p i) D/ ji D (am p) 0):=by
  have e2:coP p i* (nQ D/ nQ (ji D (am p) 0))=coP p i* nQ D/ nQ (ji D (am p) 0):=by rw[LK,LK];grind
  have S:nQ (iZ (coP p i) D) / nQ (ji D (am p) 0)=nQ (iZ (coP p i) D/ ji D (am p) 0):=by
   rw[zU _ _ hN,yb _ _ hN B]
  have t:(0:Rat)< nQ (ji D (am p) 0):=by
   rw[<-num_pos];show 0< ((ji D (am p) 0:Nat):Int);omega
  rw[e2,<-S,<-f,Ba,Ba,LK,LK,iY];congr 1;have:(0:Rat)< (nQ (ji D (am p) 0))⁻¹:=Rat.inv_pos.2 t;unfold ab;rw[if_neg φ]
 rw[<-Ea,e1];exact lP hb h1;have:coP p i=0:=by rw[<-cu];exact eC ω
 rw[this,MZ];exact fo (by decide:qs 0<=1) h1
end
def hG:Nat->Nat->Nat->Nat->Nat->Nat->Bool
 |0,_,_,_,_,_=>false
 |f+1,m,n,s,t,X=>if n=0 then decide (s<=X) else
  decide (2^ (m+1- n) * (s+2* t+1)<=137438953472) && (List.range n).all λk=>hG f n k t (s+(m+1- n) * (t+1)) X
theorem GV:∀f m n s t X (p q:Lq),hG f m n s t X=true->(am p).length=m->(am q).length=n->bdL p s->bdL q t->Ht p s->Ht q t->1<=s->1<=t->p.length<=1000->q.length<=1000->X<=137438953472->
    ∃g,ut f p q=some g/\g.length<=1000/\Ht g X/\bdL g X
 |0,_,_,_,_,_,_,_,h,_,_,_,_,_,_,_,_,_,_,_=>by cases h
 |f+1,m,n,s,t,X,p,q,h,hm,hn,hp,hq,kp,kq,hs,ht,hp1,hq1,hX=>by
  rw[hG] at h;rw[ut];by_cases h0:n=0;rw[if_pos h0] at h;have d:=of_decide_eq_true h;have e:am q=[]:=vv.1 ω;rw[if_pos e,if_pos (ek hp ω)];obtain⟨a,b⟩:=kp.monic hs;exact⟨_,rfl,fo (pr p) hp1,b.mono d,λx w=>fo (a x w) d⟩;rw[if_neg h0] at h;simp only[sj,decide_eq_true_eq,pZ,xd] at h;obtain⟨z,r⟩:=h;have c:am q≠[]:=λe=>by grind
  have y:=mxL_le hp hs;have v:=mxL_le hq ht;have k:2^ (m+1- n) * (mxL p+2* mxL q+1)<=2^ (m+1- n) * (s+2* t+1):=sO _ ω;rw[if_neg c,if_pos (show iz p q from⟨φ,ω,ω⟩)];have l:=(AM kp kq c).2;rw[hm,hn] at l;obtain⟨b1,b2⟩:=l.monic ω;have o:=(me (p:=p) (q:=q)).2;have u:=pr (bJ p q).2;have i:(am (bJ p q).2).length< n:=by rw[<-hn];exact(eU p q c).2
  have j:(am (cV (bJ p q).2)).length=(am (bJ p q).2).length:=by
   by_cases hz:am (bJ p q).2=[];unfold cV;rw[if_pos hz,hz];rfl;unfold cV;rw[if_neg hz];exact oq λe=>by have:=zp (a:=1) (df hz);grind
  exact GV f n _ t _ X q _ (r _ i) hn j hq b1 kq b2 ht ω hq1 ω hX
def cB:Nat->Nat->Nat->Nat->Nat->Nat->Nat->Bool
 |0,_,_,_,_,_,_=>false
 |f+1,m,n,s,t,b,T=>if n=0 then true else
  decide (t<=T) && decide ((n+4) * b<=34359738368) && decide (2^ (m+1- n) * (s+2* t+1)<=137438953472) &&
   (List.range n).all λk=>cB f n k t (s+(m+1- n) * (t+1)) (2^ (m+1- n) * (s+2* t+1)) T
theorem yI:∀k f m n s t b T (last next:Lq) (acc:Lw),cB k m n s t b T=true->(am last).length=m->(am next).length=n->next.length=n->bdL last s->Ht last s->Ht next t->bdL next b->1<=s->1<=t->1<=b->last.length<=1000->next.length<=1000->
    ∃out,lF f k last next acc=some out/\out.length<=acc.length+n/\∀q∈out,q∈acc\/(nz q/\q.length<=n/\bdL q T)
 |0,_,_,_,_,_,_,_,_,_,_,h,_,_,_,_,_,_,_,_,_,_,_,_=>by cases h
 |k+1,f,m,n,s,t,b,T,last,next,acc,h,hm,hn,hnl,hl,kl,kn,hnb,hs,ht,hb,hl1,hn1=>by
  rw[cB] at h;rw[lF];by_cases h0:n=0
  ·grind
  rw[if_neg h0] at h;simp only[sj,decide_eq_true_eq,pZ,xd] at h;obtain⟨⟨⟨C,Q⟩,L⟩,A⟩:=h;have g:am next≠[]:=λe=>by grind
  obtain⟨p1,p2⟩:=kn.prim g ht;obtain⟨c,M,D⟩:=mJ g;obtain⟨d1,d2,_⟩:=iR g (show c≠0 by grind) D
  have d:(am (cn next)).length=n:=by
   have N:=nB.2 d1;have O:=nB.2 g;unfold dg at d2;omega
  have u:=mxL_le hnb hb;have F:=mxL_le hl hs;have H:=mxL_le p1 ht
  have z:(cn next).length=n:=by
   unfold cn;unfold cn at d;rw[<-d];unfold aW;rw[bU]
  have v:2^ (m+1- n) * (mxL last+2* mxL (cn next)+1)<=2^ (m+1- n) * (s+2* t+1):=sO _ ω;have o:(n+4) * mxL next<=(n+4) * b:=sO _ u
  rw[if_neg g,if_pos (show v6 next/\iz last (cn next)/\am (cn next)≠[] from⟨⟨φ,ω⟩,⟨φ,ω,ω⟩,d1⟩)];have y:=(AM kl p2 d1).2;rw[hm,d] at y;have w:=(oQ hl p1 hs ht d1 (by rw[hm,d];exact ir _)).2;have j:1<=2^ (m+1- n) * (s+2* t+1):=M7 (Nat.two_pow_pos _) ω;have l:(-1:Rat)≠0:=by decide+kernel
  have p:(am (aW (bJ last (cn next)).2 (-1))).length< n:=by rw[oq l,<-d];exact(eU last _ d1).2
  have r:(aW (bJ last (cn next)).2 (-1)).length=(am (aW (bJ last (cn next)).2 (-1))).length:=by unfold aW;rw[bU]
  obtain⟨out,o1,o2,E⟩:=yI k f n _ t _ _ T (cn next) (aW (bJ last (cn next)).2 (-1)) (acc++[cn next]) (A _ p) d rfl r p1 p2 (y.scale l λi=>bY _ _ i)
   (iV λi=>by
    rw[bY,show coP (bJ last (cn next)).2 i* -1= -coP (bJ last (cn next)).2 i by grind,fa];exact dc w j i) ht ω j ω ω
  refine⟨out,o1,?_,λq B=>?_⟩;rw[zq,xb] at o2;omega;rcases E q B with h|⟨a,K,J⟩
  rcases n7.1 h with h|h
  exact .inl h;rw[kI.1 h];exact .inr ⟨d1,ω,λx G=>fo (p1 x G) C⟩;grind
theorem jz(p:Lq)(k:Rat):am (aW p k)=aW p k:=bU _
theorem xn(p:Lq):am (cV p)=cV p:=by
 unfold cV;split;rfl;exact bU _
theorem yD{p:Lq}(h:nz p):(aQ p).length< (am p).length:=by
 have c:=nB.2 h
 have e:aQ p=aQ (am p):=by
  have b:am (aQ p)=aQ p:=bU _;have a:am (aQ (am p))=aQ (am p):=bU _;rw[<-b,<-a];exact kF λi=>by rw[db,db,cu]
 have:=iC (am p);grind
theorem tH{p:Lq}{s g:Nat}(hl:(am p).length<=7)(hb:bdL p s)(hs:1<=s)(hH:Ht p g):bdL (aQ p) (s+4)/\Ht (aQ p) (g+4):=by
 have e:∀i,coP (aQ p) i=coP (aQ (am p)) i:=λi=>by rw[db,db,cu]
 constructor;refine iV λi=>?_;rw[db];by_cases hi:i+1< (am p).length;have a:=cP (coP p (i+1)) (nQ (i+1));have b:=lP (n:=i+1) (k:=3) (fx ω) δ;have d:=dc hb hs (i+1);exact fo a ω;rw[<-cu,eC (show(am p).length<=i+1 by omega),MZ];exact fo (by decide:qs 0<=1) ω;refine((hH.trim).derive.scale (c:=1) (r:=aQ p) φ λi=>φ).mono ?_;have:bl (am p).length<=3:=fx ω;omega
theorem F2(p:Lq)(k:Rat):aI p.length (λi=>coP p i* k)=p.map λc=>c* k:=by
 apply DE;intro i;unfold aI;rw[wS,wS];by_cases hi:i< p.length;rw[MY hi,cm hi];rfl;grind
theorem HQ{p:Lq}{k:Rat}(hp:am p=p)(hk:k≠0):aW p k=p.map λc=>c* k:=by
 unfold aW;rw[F2];have a:=oq (p:=p) hk;unfold aW at a;rw[F2,bU] at a;have b:=r7 (p.map λc=>c* k);grind
theorem Mi{lead:Rat}{s:Nat}(hl:qs lead<=s):∀(l:Lq) (m:Rat),bdL l s->qs m<=2* s+1->qs (boL lead l m)<=2* s+1
 |[],m,_,h=>h
 |c::l,m,hb,h=>by
  refine Mi hl l _ (λq b=>hb q (lQ _ b)) (GI (λx a=>?_) (Nd 1 _));have e:=hb c (mu ..);have d:=fS c lead;rcases pY.1 a with rfl|a
  exact h;rw[kI.1 a,Ea];omega
theorem Mg{p:Lq}{s:Nat}(h:bdL p s)(hs:1<=s):qs (cg p)<=2* s+3:=by
 have c:=Mi (uL h hs) ((am p).take ((am p).length- 1)) 0 (λq a=>h q (cS (AG a))) (fo (by decide:qs 0<=1) (Nd 1 _));have b:=gT (boL (aL p) ((am p).take ((am p).length- 1)) 0) 1;have d:=qs_one;unfold cg;omega
def lag(v:Lq):Nat->Rat
 |0=>0
 |m+1=>coP v m
theorem C9(v:Lq)(c:Rat)(n:Nat):coP (aG v [c,1]) n=coP v n* c+lag v n:=by
 have e:am (aG v [c,1])=am (aG [c,1] v):=eM λx=>by rw[az,az];grind
 rw[trim_iff.1 e n,oT];show coP (oe (kK v c) (0::oe (kK v 1) (0::[]))) n=_;rw[iW,gx];cases n with
 |zero=>rw[fv];rfl
 |succ m=>
  rw[ej,iW,gx];have:coP [(0:Rat)] m=0:=by cases m <;> rfl
  rw[this];show _+(coP v m* 1+0)=_+coP v m;grind
theorem oZ(v:Lq)(c:Rat):(aG v [c,1]).length<=v.length+1:=by
 by_cases h:v=[];subst h;unfold aG;simp;have:=sG v [c,1] h;simpa using this
theorem lx(p:Lq):(aH p).length<=p.length+1:=by
 have:=bm (aI (p.length+1) λi=>if i=0 then 0 else coP p (i- 1) / ((i:Nat):Int));simp at this;unfold aH;omega
theorem pX(p q:Lq):(dC p q).length<=max p.length q.length:=by
 have a:=k6 p (aW q (-1));have b:=du q (-1);unfold dC;omega
section
variable {p:Lq}{s:Nat}
theorem bd_co'(h:bdL p s)(hs:1<=s):∀i,qs (coP p i)<=s:=λi=>dc h hs i
theorem FF{k:Rat}(h:bdL p s)(hs:1<=s):bdL (aW p k) (s+qs k):=iV λi=>by
 rw[bY];have:=cP (coP p i) k;have:=bd_co' h hs i;omega
theorem bdL_neg(h:bdL p s)(hs:1<=s):bdL (aW p (-1)) s:=iV λi=>by
 rw[bY,show coP p i* (-1)= -coP p i by grind,fa];exact bd_co' h hs i
theorem Mt{q:Lq}{t:Nat}(hp:bdL p s)(hq:bdL q t)(hs:1<=s)(ht:1<=t):bdL (ec p q) (s+t+1):=iV λi=>by
 rw[fi];have:=gT (coP p i) (coP q i);have:=bd_co' hp hs i;have:=bd_co' hq ht i;omega
theorem Do{q:Lq}{t:Nat}(hp:bdL p s)(hq:bdL q t)(hs:1<=s)(ht:1<=t):bdL (dC p q) (s+t+1):=Mt hp (bdL_neg hq ht) hs ht
theorem Dn(h:bdL p s):bdL (am p) s:=λq a=>h q (cS a)
def shP(i:Nat)(v:Lq):Lq:=List.replicate i 0++v
theorem DZ(i:Nat)(v:Lq):(shP i v).length=i+v.length:=by simp[shP]
theorem Jx(i:Nat)(v:Lq):shP (i+1) v=0::shP i v:=by simp[shP,OQ]
theorem wN(v:Lq)(x:Rat):∀i,ag (shP i v) x=ag v x* x^ i
 |0=>by simp[shP]
 |i+1=>by
  rw[Jx,aO,wN v x i,Nr];grind
def mR(p q:Lq):Nat->Lq
 |0=>[]
 |n+1=>ec (mR p q n) (shP n (aW p (coP q n)))
theorem CQ(p q:Lq)(x:Rat):∀n,n<=q.length->ag (mR p q n) x=ag p x* ag (q.take n) x
 |0,_=>by simp[mR,aS]
 |n+1,h=>by
  rw[mR,cb,CQ p q x n ω,wN,aT,gu q x n ω];grind
theorem trim_mR(p q:Lq):∀n,am (mR p q n)=mR p q n
 |0=>rfl
 |n+1=>bU _
theorem kf(p q:Lq):am (aG p q)=aG p q:=by
 unfold aG;split;rfl;exact bU _
theorem mR_mul(p q:Lq):mR p q q.length=aG p q:=by
 rw[<-trim_mR,<-kf];refine eM λx=>?_;rw[CQ p q x _ (ir _),qj,az]
theorem Kw(p q:Lq):∀n,(mR p q n).length<=n+p.length
 |0=>mN _
 |n+1=>by
  have b:=Kw p q n;have a:=k6 (mR p q n) (shP n (aW p (coP q n)));have c:=du p (coP q n);rw[DZ] at a;rw[mR];omega
end
theorem kG(p q:Lq):am (bJ p q).1=(bJ p q).1/\am (bJ p q).2=(bJ p q).2:=⟨bU _,bU _⟩
def qp(p:Lq):Nat->Lq
 |0=>dk 1
 |n+1=>aG (qp p n) p
def pB(L:Nat):Nat->Nat
 |0=>1
 |n+1=>(n* L+1) * (pB L n+257)+1
theorem mulP_le(p q:Lq):(aG p q).length<=p.length+q.length:=by
 have h:=Kw p q q.length;rw[mR_mul] at h;omega
theorem vV(p:Lq):∀n,(qp p n).length<=n* p.length+1
 |0=>by
  have h:=bm [1];have e:([1]:Lq).length=1:=rfl;show(am [1]).length<=_;omega
 |n+1=>by
  have b:=vV p n;have a:=mulP_le (qp p n) p;rw[qp,Ni];omega
theorem J7(L:Nat):∀n,1<=pB L n
 |0=>ir _
 |n+1=>Nd _ _
theorem Gr{p:Lq}(h:bdL p 256):∀n,bdL (qp p n) (pB p.length n)
 |0=>λq c=>by
  have:=cS (l:=[1]) c;rw[kI.1 this];show qs 1<=1;decide
 |n+1=>λq c=>by
  have e:=mO (Gr h n) h (J7 _ _) δ q c;have d:=mC (pB p.length n+256+1) (vV p n);show qs q<=(n* p.length+1) * (pB p.length n+257)+1;obtain⟨a,ha⟩:∃a,a=(qp p n).length* (pB p.length n+256+1):=⟨_,rfl⟩;obtain⟨b,hb⟩:∃b,b=(n* p.length+1) * (pB p.length n+256+1):=⟨_,rfl⟩;rw[<-ha] at e d;rw[<-hb] at d;rw[show pB p.length n+257=pB p.length n+256+1 from rfl,<-hb];omega
end Go.Abs
