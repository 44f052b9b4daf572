/- Part W16 of the proof. -/
import Derived.Test.YtjmkjicckobojaaGreatDoorW15
set_option linter.all false
namespace Go.Abs
set_option maxRecDepth 20000
section
variable {f:Nat}{p:Lq}{c:Cnt}(h:dM f p=some c)(hp:nz p)
include h hp
theorem JR:cN c (-a7 p)=0:=by
 obtain⟨n,_,_,_,z,_⟩:=eE h hp;have j:=(low_nn h hp).1;have f:=(nr h hp (-a7 p)).1
 have m:cX c (-a7 p)=0:=by
  by_cases g: -a7 p<= -a7 c.p;exact z _ g;have d:Far p (-a7 c.p) (-a7 p):=⟨ab (aI p),Be (mT hp),λx a b=>(mw hp b).1⟩;have i:=(tU h hp (show -a7 c.p<= -a7 p by grind)).2 d;have l:=(nr h hp (-a7 c.p)).1;have e:=z _ (show -a7 c.p<= -a7 c.p by grind);have k:=zp h hp (-a7 p);omega
 omega
theorem up_all(h':dM f c.p=some c):cX c (a7 p)=Dc c:=by
 have j:=all_up h hp h'
 have e:Dc c<=cX c (a7 p):=by
  unfold Dc;by_cases g:a7 c.p<=a7 p;exact oE h hp g;have d:Far p (a7 p) (a7 c.p):=⟨ab (aI p),Be (mT hp),λx a b=>xF hp a⟩;have i:=(tU h hp (show a7 p<=a7 c.p by grind)).2 d;have k:=(nr h hp (a7 p)).1;omega
 omega
end
structure CQ (p:Lq)(c:Cnt):Prop where
 np:nz p
 pl:p.length<=4
 hc:dM 9 p=some c
 ag:dM 9 c.p=some c
 ok:wu c
 cl:c.ch.length<=8
 all:∀q∈c.ch,nz q/\q.length<=4/\bdL q 67000000
 sn:nz c.p
 sl:c.p.length<=4
 sb:bdL c.p 9320005
 sz:gsz 9 p (aV p) 2250000
 gb:∀g,ld 9 p (aV p)=some g->bdL g 2250000/\g.length<=1000
theorem CQ.ex{d:Lq}(nd:nz d)(hb:bdL d 64000)(hl:d.length<=4):∃c,CQ d c:=by
 obtain⟨C,L,B⟩:=qH_1;simp only[List.all_eq_true,List.mem_range] at B;have j:bdL d 320001:=bdL_mono' hb δ;have i:Ht d 320001:=(Ht.of hb).mono (by have:=Nat.mul_le_mul_right 64000 hl;omega);obtain⟨q,s1,s2,F,u,p⟩:=sqfQ C δ δ nd hl j i;obtain⟨q2,t1,_⟩:=sqfQ L δ δ s2 F p u;rw[Hm nd s1 t1] at t1;have J:=bh q;obtain⟨p1,p2⟩:=u.prim s2 δ;obtain⟨c,T,hc⟩:=oQ s2;obtain⟨d1,d2,_⟩:=jQ s2 (show c≠0 by grind) hc;have S:=List.length_pos_iff.2 d1;have a2:=List.length_pos_iff.2 s2;have z:(ap (bU q)).length=(ap q).length:=by unfold dg at d2;omega
 have G:(bU q).length=(ap (bU q)).length:=by unfold bU;rw[lG]
 have y:=o9 s2;have v:ap (aV q)=aV q:=b6 _;have A:=tS ω p δ u;obtain⟨e,o1,o2,N⟩:=za 9 9 _ _ 9320005 9320009 9320009 67000000 (bU q) (aV q) [bU q] (B (ap q).length ω (aV q).length y) z (by rw[v]) rfl p1 p2 A.2 A.1 δ δ ω ω ω;have w:=mxL_le p δ;have D:=Nat.mul_le_mul (show q.length+4<=8 by omega) w
 have l:kJ 9 q=some e:=by
  unfold kJ;rw[if_pos ⟨io p δ,⟨ω,ω⟩,s2⟩];exact o1
 have f:∀r∈e,nz r/\r.length<=4/\bdL r 67000000:=λr t=>by
  rcases N r t with h|⟨a,b,d⟩
  rw[List.mem_singleton.1 h];exact⟨d1,ω,λx Q=>Nat.le_trans (p1 x Q) δ⟩;exact⟨a,ω,d⟩
 rw[List.length_singleton] at o2;have m:wu ⟨q,e,chL (e.map sgI) 0 0⟩:=⟨λr t=>⟨(f r t).1,by have:=(f r t).2.1;omega⟩,by show e.length<=_;omega,rfl⟩;have n:ap (aV d)=aV d:=b6 _;have H:=bh d;have E:=o9 nd;have k:=tS ω j δ i;have hG:=C;unfold qH at hG;simp only[List.all_eq_true,List.mem_range] at hG;have o:=hG (ap d).length ω (aV d).length (o9 nd);refine⟨⟨q,e,chL (e.map sgI) 0 0⟩,nd,hl,?_,?_,m,by show e.length<=_;omega,f,s2,F,p,Gu 9 _ _ 320001 320005 2250000 d (aV d) o rfl (by rw[n]) j k.1 i k.2 δ δ δ,λg s=>?_⟩;unfold dM;rw[s1,Option.bind_some,l,Option.bind_some,if_pos m];show dM 9 q=_;unfold dM;rw[t1,Option.bind_some,l,Option.bind_some,if_pos m];obtain⟨R,O,K,U,M⟩:=Am 9 _ _ 320001 320005 2250000 d (aV d) o rfl (by rw[n]) j k.1 i k.2 δ δ ω ω δ;rw[O] at s;cases s;exact⟨M,K⟩
theorem CQ.upto{p:Lq}{c:Cnt}(h:CQ p c){x:Rat}(hx:qs x<=30000000):uL c x:=⟨h.ok,λq d=>by
 obtain⟨_,a,b⟩:=h.all q d;have:=mxL_le b δ;have e:=Nat.mul_le_mul a (show mxL q+qs x+1<=97000001 by omega);exact⟨ω,ω⟩⟩
theorem CQ.below{p:Lq}{c:Cnt}(h:CQ p c){x:Rat}(hx:qs x<=30000000):pI c x:=⟨h.upto hx,by
 have:=mxL_le h.sb δ;have a:=Nat.mul_le_mul h.sl (show mxL c.p+qs x+1<=97000001 by omega);have b:=h.sl;exact⟨ω,ω⟩⟩
def kS(xs:Lq)(v:Rat)(i:Nat):Nat->Lq
 |0=>eM v
 |j+1=>if j=i then kS xs v i j else aR (aT (kS xs v i j) [-coP xs j,1]) (1/ (coP xs i- coP xs j))
def mV(xs vs:Lq):Nat->Lq
 |0=>[]
 |i+1=>fR (mV xs vs i) (kS xs (coP vs i) i xs.length)
theorem tu(xs:Lq)(v:Rat)(i m:Nat)(hm:m≠i):∀j,m< j->an (kS xs v i j) (coP xs m)=0
 |0,h=>by omega
 |j+1,h=>by
  rw[kS];by_cases hj:j=i;rw[if_pos hj];exact tu xs v i m hm j ω;rw[if_neg hj,bH,a8,nf];by_cases e:m=j;subst e;grind;rw[tu xs v i m hm j ω];grind
theorem BX(xs:Lq)(v:Rat)(i:Nat):∀j,(∀k,k< j->k≠i->coP xs i≠coP xs k)->an (kS xs v i j) (coP xs i)=v
 |0,_=>uE v _
 |j+1,h=>by
  rw[kS];have a:=BX xs v i j λk b=>h k ω;by_cases hj:j=i;rw[if_pos hj,a];rw[if_neg hj,bH,a8,nf,a];have:=h j ω hj;have c:coP xs i- coP xs j≠0:=λe=>this φ;rw[Rat.mul_assoc,show(coP xs i- coP xs j) * (1/ (coP xs i- coP xs j))=1 by grind,Rat.mul_one]
theorem Gl(xs vs:Lq)(m:Nat)(hm:m< xs.length)(h:∀a b,a< xs.length->b< xs.length->a≠b->coP xs a≠coP xs b):∀i,i<=xs.length->an (mV xs vs i) (coP xs m)=if m< i then coP vs m else 0
 |0,_=>by rw[if_neg ω];rfl
 |i+1,hi=>by
  rw[mV,fq,Gl xs vs m hm h i ω];by_cases e:m=i;subst e;rw[BX xs _ m xs.length λk d c=>h m k hm d (Ne.symm c),if_neg ω,if_pos ω];grind;rw[tu xs _ i m e xs.length hm];by_cases h2:m< i;rw[if_pos h2,if_pos ω];grind;rw[if_neg h2,if_neg ω];grind
theorem ru(xs:Lq)(v:Rat)(i:Nat):∀j,(kS xs v i j).length<=if i< j then j else j+1
 |0=>by
  rw[if_neg ω];exact nk v
 |j+1=>by
  rw[kS];have a:=ru xs v i j;by_cases hj:j=i;rw[if_pos hj,if_pos ω];rw[if_neg ω] at a;exact a;rw[if_neg hj];have b:=dW (aT (kS xs v i j) [-coP xs j,1]) (1/ (coP xs i- coP xs j));have c:=jD (kS xs v i j) (-coP xs j);by_cases h3:i< j;rw[if_pos h3] at a;rw[if_pos ω];omega;rw[if_neg h3] at a;rw[if_neg ω];omega
theorem wH(xs vs:Lq):∀i,i<=xs.length->(mV xs vs i).length<=xs.length
 |0,_=>Nat.zero_le _
 |i+1,hi=>by
  have b:=wH xs vs i ω;have a:=ru xs (coP vs i) i xs.length;rw[if_pos ω] at a;have c:=jX (mV xs vs i) (kS xs (coP vs i) i xs.length);rw[mV];omega
theorem u4{xs:Lq}{v:Rat}{V:Nat}(hx:bdL xs 256)(hV:1<=V)(hv:qs v<=V)(i:Nat):∀j,∃b,1<=b/\bdL (kS xs v i j) b/\b+771<=2^ j* (V+771)
 |0=>⟨V,hV,λq h=>by rw[List.mem_singleton.1 (cz (l:=[v]) h)];exact hv,by rw[Nat.pow_zero,Nat.one_mul];exact Nat.le_refl _⟩
 |j+1=>by
  obtain⟨b,f,e,g⟩:=u4 hx hV hv i j;rw[kS,Nat.pow_succ];obtain⟨m,d⟩:∃m,m=2^ j:=⟨_,rfl⟩;rw[<-d] at g⊢;clear d;obtain⟨n,a⟩:∃n,n=m* (V+771):=⟨_,rfl⟩;rw[<-a] at g;rw[show m* 2* (V+771)=2* n by rw[a,Nat.mul_comm m 2,Nat.mul_assoc]];clear a;by_cases hj:j=i;rw[if_pos hj];exact⟨b,f,e,ω⟩;rw[if_neg hj];have k:=bd_co' hx δ i;have a2:=bd_co' hx δ j;have a3:=lK (coP xs i) (coP xs j);have a4:=fL 1 (coP xs i- coP xs j);have a5:qs 1=1:=δ
  have m1:=rl (c:= -coP xs j) (t:=256) e f (by rw[dJ];exact a2);exact⟨2* b+771,ω,lb (xH m1 ω) ω,ω⟩
theorem Gk{xs vs:Lq}{V W:Nat}(hx:bdL xs 256)(hV:1<=V)(hv:bdL vs V)(hl:2^ xs.length* (V+771)<=W):∀i,bdL (mV xs vs i) (i* (W+1)+1)
 |0=>λ_ h=>by cases h
 |i+1=>by
  obtain⟨b,c,a,d⟩:=u4 (v:=coP vs i) hx hV (bd_co' hv hV i) i xs.length;rw[mV];exact lb (xI (Gk hx hV hv hl i) a ω c) (by rw[Nat.succ_mul];omega)
theorem Hi(xs vs:Lq):∀i,ap (mV xs vs i)=mV xs vs i
 |0=>rfl
 |i+1=>b6 _
theorem CO{xs:Lq}(h:xs.Nodup):∀a b,a< xs.length->b< xs.length->a≠b->coP xs a≠coP xs b:=λa b ha hb m e=>by
 have k:=ci ha;have g:=ci hb
 have c:∀i j,i< j->j< xs.length->xs[i]?≠xs[j]?:=λi j d f e=>by
  rw[List.getElem?_eq_getElem ω,List.getElem?_eq_getElem f] at e;exact List.pairwise_iff_getElem.1 h i j ω f d (Option.some.inj e)
 rcases Nat.lt_or_ge a b with l|l
 exact c a b l hb (by rw[k,g,e]);exact c b a ω ha (by rw[k,g,e])

section
variable {f:Nat}{p:Lq}{c:Cnt}(h:dM f p=some c)(hp:nz p)
include h hp
end




section
variable {f:Nat}{q d:Lq}{c:Cnt}{σ:Rat}(h:dM f d=some c)(hd:nz d)(hσ:σ=1\/σ= -1)(hdq:∀z,dvE q z=σ* an d z)
include hσ hdq
end
def sd:Nat->Rat
 |0=>1
 |n+1=>sd n* (((n+1:Nat):Int):Rat)
theorem w9:∀n,0< sd n
 |0=>by decide+kernel
 |n+1=>by
  exact Rat.mul_pos (w9 n) (by rw[show(0:Rat)=((0:Int):Rat) from rfl,Rat.intCast_lt_intCast];omega)
theorem DU(k:Nat):(((k+1:Nat):Int):Rat)≠0:=λe=>by have:=Rat.intCast_inj.1 (e.trans Rat.intCast_zero.symm);omega
section
variable {h:Nat}{p:Lq}{K:Rat}
theorem LL{n:Nat}(hn:bl n<=h):IB ((n:Int):Rat) h:=⟨n,rfl,φ⟩
theorem AI:∀n,n<=255->IB (sd n) (8* n+1)
 |0,_=>IB.one
 |n+1,h=>by
  exact((AI n ω).mul (LL (h:=8) (gY ω))).mono ω
theorem Cw:∀n i,i< n->n<=255->∃z:Rat,IB z (8* n+1)/\z* (((i+1:Nat):Int):Rat)=sd n
 |0,_,h,_=>by omega
 |n+1,i,h,hn=>by
  by_cases e:i=n;subst e;exact⟨sd i,(AI i ω).mono ω,by rw[sd]⟩;obtain⟨z,a,z2⟩:=Cw n i ω ω;refine⟨z* (((n+1:Nat):Int):Rat),(a.mul (LL (h:=8) (gY ω))).mono ω,?_⟩;rw[sd];grind
theorem HS.bdL(H:HS p K h)(h1:1<=h):Abs.bdL p h:=λq a=>by
 obtain⟨i,_,e⟩:=vj a;have:=IB_quot (H.co i) H.sc H.ne h1;rw[Rat.mul_div_cancel H.ne] at this;grind
theorem HS.integral{L:Nat}(H:HS p K h)(hl:p.length<=L)(hL:L<=255):HS (aM p) (K* sd L) (h+8* L+1) where
 ne e:=(Rat.mul_eq_zero.1 e).elim H.ne (by have:=w9 L;grind)
 sc:=(H.sc.mul (AI L hL)).mono ω
 co i:=by
  rw[ja];cases i with
  |zero=>exact(IB.zero _).eq φ
  |succ i=>
   by_cases g:i< L;obtain⟨z,b,z2⟩:=Cw L i g hL;refine((H.co i).mul b).eq ?_|>.mono ω;have:=Rat.div_mul_cancel (a:=coP p i) (DU i);grind;rw[ee ω];exact(IB.zero _).eq φ
theorem Cz{K x d:Rat}{h e:Nat}(hd:IB d e)(hx:IB (x* d) e):∀(l:Lq),(∀c∈l,IB (c* K) h)->IB (an l x* (K* d^ l.length)) (h+l.length* (e+2))
 |[],_=>(IB.zero _).eq (by rw[aZ];grind)
 |a::l,hl=>by
  have b:=Cz hd hx l λc hc=>hl c (List.mem_cons_of_mem _ hc);have ha:=hl a (List.mem_cons_self ..)
  have hp:∀n:Nat,IB (d^ n) (n* e+1):=λn=>by
   induction n with
   |zero=>rw[Rat.pow_zero];exact IB.one.mono ω
   |succ n b=>rw[Rat.pow_succ];exact(b.mul hd).mono φ
  have e2:(a::l).length* (e+2)=l.length* (e+2)+e+2:=φ
  have s1:=b.mul hx;have s2:=ha.mul (hp (l.length+1));have f:l.length* (e+2)=l.length* e+l.length* 2:=φ
  have g:(l.length+1) * e=l.length* e+e:=Nat.succ_mul _ _;refine(((s1.mono (show _<=h+l.length* (e+2)+e+1 by omega)).add (s2.mono ω)).eq ?_).mono ω;rw[aO];grind
theorem HS.all(H:HS p K h):∀c∈p,IB (c* K) h:=λc hc=>by
 obtain⟨i,_,e⟩:=vj hc;rw[<-e];exact H.co i
theorem HS.k{l d:Rat}{e:Nat}(H:HS p K h)(d0:d≠0)(hd:IB d e)(hl:IB (l* d) e):HS (aR p l) (K* d) (h+e) where
 ne g:=(Rat.mul_eq_zero.1 g).elim H.ne d0
 sc:=H.sc.mul hd
 co i:=by rw[cJ];exact((H.co i).mul hl).eq φ
theorem HS.rescale{d:Rat}{e:Nat}(H:HS p K h)(d0:d≠0)(hd:IB d e):HS p (K* d) (h+e) where
 ne g:=(Rat.mul_eq_zero.1 g).elim H.ne d0
 sc:=H.sc.mul hd
 co i:=((H.co i).mul hd).eq φ
theorem HS.less{v:Rat}(H:HS p K h)(hv:IB (v* K) h):HS (dQ p (eM v)) K (h+1) where
 ne:=H.ne
 sc:=H.sc.mono ω
 co i:=by
  rw[pf,tW];split;exact((H.co i).add hv.neg).eq φ;exact((H.co i).mono ω).eq φ
theorem HS.plus{q:Lq}(H:HS p K h)(G:HS q K h):HS (fR p q) K (h+1) where
 ne:=H.ne
 sc:=H.sc.mono ω
 co i:=by rw[ic];exact((H.co i).add (G.co i)).eq φ
end
theorem IX(p:Lq)(v:Rat):dQ p [v]=dQ p (eM v):=by
 have a:ap (dQ p [v])=dQ p [v]:=by unfold dQ fR;exact b6 _
 have b:ap (dQ p (eM v))=dQ p (eM v):=by unfold dQ fR;exact b6 _
 rw[<-a,<-b];exact eqv_trim.1 λx=>by rw[cP,cP,uE,aO,aZ];grind
theorem mK{d:Rat}{e:Nat}(hd:IB d e):∀n:Nat,IB (d^ n) (n* e+1)
 |0=>by rw[Rat.pow_zero];exact IB.one.mono ω
 |n+1=>by rw[Rat.pow_succ];exact((mK hd n).mul hd).mono (by rw[Nat.succ_mul];omega)
def EV(p:Lq)(n:Nat):Lq:=ap (p.take (n+1))
theorem CP(p:Lq)(n i:Nat):coP (p.take n) i=if i< n then coP p i else 0:=by
 unfold coP;rw[List.getD_eq_getElem?_getD,List.getD_eq_getElem?_getD,List.getElem?_take];split <;> rfl
theorem coP_cut(p:Lq)(n i:Nat):coP (EV p n) i=if i<=n then coP p i else 0:=by
 rw[EV,cj,CP];by_cases h:i<=n;rw[if_pos h,if_pos ω];rw[if_neg h,if_neg ω]
theorem CM(p:Lq)(n:Nat):(EV p n).length<=n+1:=by
 have a:=bh (p.take (n+1));have b:(p.take (n+1)).length<=n+1:=by rw[List.length_take];omega
 unfold EV;omega
theorem HS.cut{p:Lq}{K:Rat}{h:Nat}(H:HS p K h)(n:Nat):HS (EV p n) K h:=⟨H.ne,H.sc,λi=>by
 rw[coP_cut];split;exact H.co i;exact(IB.zero h).eq φ⟩
theorem HS.plus2{p q:Lq}{K K':Rat}{h h':Nat}(H:HS p K h)(G:HS q K' h'):HS (fR p q) (K* K') (h+h'+1):=
 (H.rescale G.ne G.sc).plus ((Rat.mul_comm K' K▸G.rescale H.ne H.sc).mono ω)
theorem Bg{s:Nat}:∀(l:Lq),Abs.bdL l s->∃K,HS l K (s* l.length+1)
 |[],_=>⟨1,HS.nil⟩
 |c::l,hl=>by
  obtain⟨K,H⟩:=Bg l λq b=>hl q (List.mem_cons_of_mem _ b);obtain⟨d,a,f⟩:=Fk (hl c (List.mem_cons_self ..));have e:s* (c::l).length=s* l.length+s:=φ
  refine⟨K* ((c.den:Int):Rat),(λg=>(Rat.mul_eq_zero.1 g).elim H.ne f),(H.sc.mul a).mono ω,λi=>?_⟩;cases i with
  |zero=>rw[dC];exact((H.sc.mul d).eq φ).mono ω
  |succ i=>rw[du];exact(((H.co i).mul a).eq φ).mono ω
theorem xP{c d K:Rat}{h:Nat}(d0:d≠0)(hd:IB d 20)(hc:IB (c* d) 20):∀(l:Lq) (b:Rat),HS (b::l) K h->HS (cw [c,1] (b::l)) (K* d^ l.length) (h+22* l.length)
 |[],b,H=>by
  refine⟨by rw[List.length_nil,Rat.pow_zero];have:=H.ne;grind,H.sc.eq ψ,λi=>?_⟩;rw[show cw [c,1] [b]=fR (aT [] [c,1]) (eM b) from rfl,ic,tW,show aT [] [c,1]=[] from if_pos (.inl rfl),nm];have e:=H.co 0;rw[dC] at e;split;exact e.eq (by rw[List.length_nil,Rat.pow_zero];grind);exact(IB.zero _).eq φ
 |b'::l,b,H=>by
  have Ht:HS (b'::l) K h:=⟨H.ne,H.sc,λi=>H.co (i+1)⟩;have a:=xP d0 hd hc l b' Ht;have hp:=mK hd (l.length+1);have hb:=H.co 0;rw[List.length_cons];refine⟨λg=>(Rat.mul_eq_zero.1 g).elim H.ne λg=>?_,(H.sc.mul hp).mono ω,λi=>?_⟩
  have:∀n:Nat,d^ n≠0:=λn=>by
   induction n with
   |zero=>grind
   |succ n a=>grind
  exact this _ g;rw[show cw [c,1] (b::b'::l)=fR (aT (cw [c,1] (b'::l)) [c,1]) (eM b) from rfl,ic,CU,tW];generalize cw [c,1] (b'::l)=X at *
  have s1:=(a.co i).mul hc
  have s2:IB (lag X i* (K* d^ l.length) * d) (h+22* l.length+20):=by
   cases i with
   |zero=>exact(IB.zero _).eq (by rw[show lag X 0=0 from rfl];grind)
   |succ i=>exact(a.co i).mul hd
  have f:IB ((if i=0 then b else 0) * K* d^ (l.length+1)) (h+22* l.length+21):=by
   split;exact(hb.mul hp).mono ω;exact(IB.zero _).eq φ
  refine(((s1.add s2).add f).eq ?_).mono ω;grind
theorem HS_shift'{c d K:Rat}{h N:Nat}(d0:d≠0)(hd:IB d 20)(hc:IB (c* d) 20){l:Lq}(H:HS l K h)(hl:l.length<=N+1):∃K',HS (cw [c,1] l) K' (h+22* N):=by
 cases l with
 |nil=>exact⟨K,H.mono ω⟩
 |cons b l=>
  rw[List.length_cons] at hl;exact⟨_,(xP d0 hd hc l b H).mono ω⟩
theorem k8(c:Rat):∀l:Lq,(cw [c,1] l).length<=l.length
 |[]=>Nat.le_refl _
 |a::l=>by
  have b:=jX (aT (cw [c,1] l) [c,1]) (eM a);have d:=jD (cw [c,1] l) c;have f:=k8 c l;have e:=nk a;rw[List.length_cons];show(fR (aT (cw [c,1] l) [c,1]) (eM a)).length<=_;omega
theorem oR{c d K:Rat}{h N:Nat}(d0:d≠0)(hd:IB d 20)(hc:IB (c* d) 20)(hq:qs c<=20)(h1:1<=h)(hN:(N+1) * (h+22* N+22)<=100000000)(hN2:N<=1000):∀(l:Lq),l.length<=N+1->HS l K h->ie [c,1] l
 |[],_,_=>trivial
 |a::l,hl,H=>by
  rw[List.length_cons] at hl;have Ht:HS l K h:=⟨H.ne,H.sc,λi=>H.co (i+1)⟩;obtain⟨n,j⟩:=HS_shift' (N:=N) d0 hd hc Ht ω;have hb:=j.bdL ω;have m:=mxL_le hb ω;have g:=k8 c l;have k:=jD (cw [c,1] l) c
  have f:mxL [c,1]<=20:=mxL_le (λq b=>by
   rcases List.mem_cons.1 b with rfl|b
   exact hq;rw[List.mem_singleton.1 b];exact Nat.le_trans (by decide:qs 1<=1) δ) δ
  have ha:=H.bdL h1 a (List.mem_cons_self ..);have e:(cw [c,1] l).length* (mxL (cw [c,1] l)+mxL [c,1]+1)<=(N+1) * (h+22* N+22):=Nat.mul_le_mul ω ω;have e2:h<=(N+1) * (h+22* N+22):=Nat.le_trans ω (Nat.le_mul_of_pos_left _ ω);refine⟨oR d0 hd hc hq h1 hN hN2 l ω Ht,⟨ω,ω,ω,ψ⟩,by unfold sm;omega,ω⟩
abbrev Ke:=List (Lq×Lq)
def upF(a:Rat)(u o:Lq)(p:Lq×Lq):Lq:=fR o (aT p.1 (dQ (aM (aT p.2 u)) [an (aM (aT p.2 u)) a]))
def upL(a:Rat)(u:Lq):Ke->Lq->Lq
 |[],o=>o
 |p::k,o=>upL a u k (upF a u o p)
def upK(k:Ke)(a:Rat)(u:Lq):Lq:=upL a u k []
theorem Bk(a:Rat)(u:Lq):∀(k:Ke) (o:Lq) (p:Lq×Lq),upL a u (k++[p]) o=upF a u (upL a u k o) p
 |[],_,_=>rfl
 |q::k,o,p=>Bk a u k (upF a u o q) p
structure OkUF (a:Rat)(u o:Lq)(p:Lq×Lq):Prop where
 m1:ls p.2 u
 i1:(aT p.2 u).length<=1099511627775
 i2:smL (aM (aT p.2 u))
 e1:fM (aM (aT p.2 u)) a
 l1:(aM (aT p.2 u)).length<=1099511627776
 m2:ls p.1 (dQ (aM (aT p.2 u)) [an (aM (aT p.2 u)) a])
 o1:smL o
 o2:o.length<=1099511627776
 l2:(aT p.1 (dQ (aM (aT p.2 u)) [an (aM (aT p.2 u)) a])).length<=1099511627776
def BM(k:Ke)(a:Rat)(u:Lq):Prop:=∀i p,k[i]?=some p->OkUF a u (upL a u (k.take i) []) p
structure KHS (k:Ke)(KA KB:Rat)(h:Nat):Prop where
 len:∀p∈k,p.1.length<=4/\p.2.length<=4
 a:∀p∈k,HS p.1 KA h
 b:∀p∈k,HS p.2 KB h
theorem pow_nz'{d:Rat}(h:d≠0):∀n:Nat,d^ n≠0
 |0=>by grind
 |n+1=>by rw[Rat.pow_succ];intro g;rcases Rat.mul_eq_zero.1 g with g|g;exact pow_nz' h n g;grind
structure TeB (A B u:Lq)(a S:Rat)(h:Nat):Prop where
 m:(aT B u).length<=u.length+4
 il:(aM (aT B u)).length<=u.length+5
 ib:bdL (aM (aT B u)) h
 sb:bdL (dQ (aM (aT B u)) [an (aM (aT B u)) a]) h
 sl:(dQ (aM (aT B u)) [an (aM (aT B u)) a]).length<=u.length+5
 l:(aT A (dQ (aM (aT B u)) [an (aM (aT B u)) a])).length<=u.length+9
 H:HS (aT A (dQ (aM (aT B u)) [an (aM (aT B u)) a])) S h
theorem te_HS{A B u:Lq}{a d KA KB K:Rat}{h h':Nat}(hA:A.length<=4)(hB:B.length<=4)(hu:u.length<=245)(HA:HS A KA h)(HB:HS B KB h)(H:HS u K h')(d0:d≠0)(hd:IB d 20)(ha:IB (a* d) 20)(h1:1<=h):TeB A B u a (KA* (KB* K* sd 250* d^ 255)) (h'+2* h+13000):=by
 have m1:=wz B u;have i1:=gS (aT B u);have k:=HB.mul H hB;have c:=k.integral (L:=250) ω δ;have j:=IY (aM (aT B u)) [an (aM (aT B u)) a];rw[List.length_singleton] at j;have o:=wz A (dQ (aM (aT B u)) [an (aM (aT B u)) a]);have e:=c.bdL ω;generalize l:aM (aT B u)=f at *
 have m:f.length<=250:=ω
 have hp:=mK hd 255;have g:=mK hd (255- f.length);have hv:=(Cz hd ha f c.all).mul g;have e0:d^ f.length* d^ (255- f.length)=d^ 255:=by rw[<-uv,show f.length+(255- f.length)=255 by omega]
 have n:=(c.rescale (pow_nz' d0 255) hp).mono (show _<=h'+h+12800 by omega);have b:=n.less (v:=an f a) ((hv.eq φ).mono ω);rw[<-IX] at b;have i:=HA.mul b hA;subst l;exact⟨ω,ω,bdL_mono' e ω,bdL_mono' (b.bdL ω) ω,ω,ω,i.mono ω⟩
theorem IK{a d KA KB K:Rat}{u:Lq}{h h':Nat}(hu:u.length<=240)(H:HS u K h')(d0:d≠0)(hd:IB d 20)(ha:IB (a* d) 20)(hq:qs a<=20)(h1:1<=h)(hlim:h'+2* h+14000<=400000000):∀(k:Ke) (o:Lq) (n:Nat),KHS k KA KB h->n+k.length<=900->o.length<=u.length+9->HS o (KA* (KB* K* sd 250* d^ 255)) (h'+2* h+13000+n)->
    HS (upL a u k o) (KA* (KB* K* sd 250* d^ 255)) (h'+2* h+13000+(n+k.length))/\(upL a u k o).length<=u.length+9/\∀i p,k[i]?=some p->OkUF a u (upL a u (k.take i) o) p
 |[],o,n,_,_,ho,Ho=>⟨Ho,ho,λi p hp=>by grind⟩
 |p::k,o,n,hk,hn,ho,Ho=>by
  rw[List.length_cons] at hn;obtain⟨l1,l2⟩:=hk.len p (List.mem_cons_self ..);have f:=hk.a p (List.mem_cons_self ..);have e:=hk.b p (List.mem_cons_self ..);have T:=te_HS l1 l2 (show u.length<=245 by omega) f e H d0 hd ha h1;have al:=jX o (aT p.1 (dQ (aM (aT p.2 u)) [an (aM (aT p.2 u)) a]));have v:=T.l;have r:HS (upF a u o p) (KA* (KB* K* sd 250* d^ 255)) (h'+2* h+13000+(n+1)):=(Ho.plus (T.H.mono ω)).mono ω;obtain⟨j,s,g⟩:=IK hu H d0 hd ha hq h1 hlim k (upF a u o p) (n+1) ⟨λq hq=>hk.len q (List.mem_cons_of_mem _ hq),λq hq=>hk.a q (List.mem_cons_of_mem _ hq),λq hq=>hk.b q (List.mem_cons_of_mem _ hq)⟩ ω (by unfold upF;omega) r;refine⟨by rw[List.length_cons,show n+(k.length+1)=n+1+k.length by omega];exact j,s,λi q c=>?_⟩;cases i with
  |zero=>
   cases c;show OkUF a u o p;have x:=mxL_le (f.bdL h1) h1;have b1:=mxL_le (e.bdL h1) h1;have u1:=mxL_le ((H.mono (show h'<=h'+1 by omega)).bdL ω) ω;have i1:=mxL_le T.ib ω;have s1:=mxL_le T.sb ω;have o1:=Ho.bdL ω;have t:=T.m;have il:=T.il;have sl:=T.sl;have e1:p.2.length* (mxL p.2+mxL u+1)<=4* (h+h'+2):=Nat.mul_le_mul l2 ω;have e2:p.1.length* (mxL p.1+mxL (dQ (aM (aT p.2 u)) [an (aM (aT p.2 u)) a])+1)<=4* (h'+3* h+13002):=Nat.mul_le_mul l1 ω;have w:(aM (aT p.2 u)).length* (mxL (aM (aT p.2 u))+qs a+1)<=250* (h'+2* h+13021):=Nat.mul_le_mul ω ω;exact⟨⟨ω,ω,ω,ω⟩,ω,io T.ib ω,⟨ω,ω⟩,ω,⟨ω,ω,ω,ω⟩,io o1 ω,ω,ω⟩
  |succ i=>exact g i q φ
theorem zq{k:Ke}{a d KA KB K:Rat}{u:Lq}{h h':Nat}(hk:KHS k KA KB h)(hkl:k.length<=900)(hu:u.length<=240)(H:HS u K h')(d0:d≠0)(hd:IB d 20)(ha:IB (a* d) 20)(hq:qs a<=20)(h1:1<=h)(A0:KA≠0)(B0:KB≠0)(IA:IB KA h)(IBB:IB KB h)(hlim:h'+2* h+14000<=400000000):HS (upK k a u) (KA* (KB* K* sd 250* d^ 255)) (h'+2* h+13000+k.length)/\(upK k a u).length<=u.length+9/\BM k a u:=by
 have c:HS [] (KA* (KB* K* sd 250* d^ 255)) (h'+2* h+13000+0):=by
  refine⟨λg=>?_,?_,λi=>(IB.zero _).eq (by show 0=(0:Rat) * _;grind)⟩;rcases Rat.mul_eq_zero.1 g with g|g
  exact A0 g;rcases Rat.mul_eq_zero.1 g with g|g
  rcases Rat.mul_eq_zero.1 g with g|g
  rcases Rat.mul_eq_zero.1 g with g|g
  exact B0 g;exact H.ne g;have:=w9 250;grind;exact pow_nz' d0 255 g;have b:=AI 250 ω;have hp:=mK hd 255;exact(IA.mul (((IBB.mul H.sc).mul b).mul hp)).mono ω
 have:=IK hu H d0 hd ha hq h1 hlim k [] 0 hk ω (Nat.zero_le _) c;rw[Nat.zero_add] at this;exact this
def seK(k:Ke)(G:Lq)(L:Rat)(n:Nat):Nat->Lq
 |0=>[]
 |r+1=>EV (fR G (aR (upK k 0 (seK k G L n r)) L)) n
theorem zL(k:Ke)(G:Lq)(L:Rat)(n:Nat):∀r,(seK k G L n r).length<=n+1
 |0=>by rw[seK];grind
 |r+1=>by exact CM _ _
section
variable {k:Ke}{G:Lq}{L dL KA KB KG:Rat}{h:Nat}(hk:KHS k KA KB h)(hkl:k.length<=900)(h1:1<=h)(h2:h<=1000)(A0:KA≠0)(B0:KB≠0)(IA:IB KA h)(IBB:IB KB h)(HG:HS G KG 3000)(l0:dL≠0)(l1:IB dL 20)(l2:IB (L* dL) 20)
include hk hkl h1 h2 A0 B0 IA IBB HG l0 l1 l2
theorem I3{n:Nat}(hn:n<=40):∀r,r<=1000->(∃K,HS (seK k G L n r) K (20000* r+1))/\BM k 0 (seK k G L n r)
 |0,_=>⟨⟨1,HS.nil.mono ω⟩,(zq (u:=[]) (d:=1) hk hkl δ HS.nil δ (IB.one.mono ω) ((IB.zero 20).eq φ) δ h1 A0 B0 IA IBB ω).2.2⟩
 |r+1,hr=>by
  obtain⟨⟨K,H⟩,_⟩:=I3 hn r ω;have f:=zL k G L n r;have e:=(zq (a:=0) (d:=1) hk hkl ω H δ (IB.one.mono ω) ((IB.zero 20).eq φ) δ h1 A0 B0 IA IBB ω).1;have c:=e.k l0 l1 l2;have b:=((HG.plus2 c).cut n).mono (show _<=20000* (r+1)+1 by omega);exact⟨⟨_,b⟩,(zq (a:=0) (d:=1) hk hkl (by have:=CM (fR G (aR (upK k 0 (seK k G L n r)) L)) n;omega) b δ (IB.one.mono ω) ((IB.zero 20).eq φ) δ h1 A0 B0 IA IBB ω).2.2⟩
end
def Fg(v:Sp):Rat:=if 0<=v.1 then v.2 else if v.2<=0 then -v.1 else gQ [-v.1,v.2]
def nD{α:Type}(f:α->Rat):List α->Rat
 |[]=>0
 |p::k=>f p+nD f k
def mvK(a:Rat)(k:Ke):Ke:=k.map λp=>(cw [a,1] p.1,cw [a,1] p.2)
theorem HS.take{p:Lq}{K:Rat}{h:Nat}(H:HS p K h)(n:Nat):HS (p.take n) K h:=⟨H.ne,H.sc,λi=>by
 rw[CP];split;exact H.co i;exact(IB.zero h).eq φ⟩
theorem Co{f:Lq×Lq->Lq}{m:Nat}:∀k:Ke,(∀p∈k,(f p).length<=m)->(k.flatMap f).length<=m* k.length
 |[],_=>by simp
 |p::k,h=>by
  have b:=h p (List.mem_cons_self ..);have c:=Co k λq a=>h q (List.mem_cons_of_mem _ a);rw[List.flatMap_cons,List.length_append,List.length_cons,Nat.mul_succ];omega
theorem Ha{f:Lq×Lq->Lq}{k:Ke}(hl:k.length<=3)(h4:∀p∈k,(f p).length<=4)(hb:∀p∈k,bdL (f p) 20):∃K,K≠0/\IB K 241/\∀p∈k,HS (f p) K 241:=by
 obtain⟨K,H⟩:=Bg (s:=20) (k.flatMap f) λq a=>by
  obtain⟨p,hp,a⟩:=List.mem_flatMap.1 a;exact hb p hp q a
 have c:=Co k h4;have H:=H.mono (show _<=241 by omega);refine⟨K,H.ne,H.sc,λp hp=>⟨H.ne,H.sc,λi=>?_⟩⟩;by_cases hi:i< (f p).length
 have b:coP (f p) i∈k.flatMap f:=List.mem_flatMap.2 ⟨p,hp,by
  unfold coP;grind⟩
 obtain⟨j,_,e⟩:=vj b;rw[<-e];exact H.co j;rw[ee ω];exact(IB.zero _).eq φ
theorem LK{k:Ke}(hl:k.length<=3)(h4:∀p∈k,p.1.length<=4/\p.2.length<=4)(hb:∀p∈k,bdL p.1 20/\bdL p.2 20):∃KA KB,KHS k KA KB 241/\KA≠0/\KB≠0/\IB KA 241/\IB KB 241:=by
 obtain⟨KA,a,a2,a3⟩:=Ha (f:=λp=>p.1) hl (λp hp=>(h4 p hp).1) λp hp=>(hb p hp).1;obtain⟨KB,b1,b2,b⟩:=Ha (f:=λp=>p.2) hl (λp hp=>(h4 p hp).2) λp hp=>(hb p hp).2;exact⟨KA,KB,⟨h4,a3,b⟩,a,b1,a2,b2⟩
theorem IC{k:Ke}{a d KA KB:Rat}{h:Nat}(hk:KHS k KA KB h)(A0:KA≠0)(B0:KB≠0)(IA:IB KA h)(IBB:IB KB h)(d0:d≠0)(hd:IB d 20)(ha:IB (a* d) 20):∃KA' KB',KHS (mvK a k) KA' KB' (h+70)/\KA'≠0/\KB'≠0/\IB KA' (h+70)/\IB KB' (h+70):=by
 have hp:=mK hd 3
 have f:∀(l:Lq) (K:Rat),K≠0->IB K h->HS l K h->l.length<=4->HS (cw [a,1] l) (K* d^ 3) (h+70):=λl K m o H r=>by
  cases l with
  |nil=>exact⟨λg=>(Rat.mul_eq_zero.1 g).elim m (pow_nz' d0 3),(o.mul hp).mono ω,λi=>(IB.zero _).eq (by show 0=(0:Rat) * _;grind)⟩
  |cons b l=>
   rw[List.length_cons] at r;have n:=xP d0 hd ha l b H;have e0:d^ l.length* d^ (3- l.length)=d^ 3:=by rw[<-uv,show l.length+(3- l.length)=3 by omega]
   have j:=n.rescale (pow_nz' d0 (3- l.length)) (mK hd (3- l.length));rw[show K* d^ l.length* d^ (3- l.length)=K* d^ 3 by grind] at j;exact j.mono ω
 have m0:∀p∈mvK a k,∃q∈k,p=(cw [a,1] q.1,cw [a,1] q.2):=λp hp=>by
  obtain⟨q,c,e⟩:=List.mem_map.1 hp;grind
 refine⟨KA* d^ 3,KB* d^ 3,⟨λp hp=>?_,λp hp=>?_,λp hp=>?_⟩,λg=>(Rat.mul_eq_zero.1 g).elim A0 (pow_nz' d0 3),λg=>(Rat.mul_eq_zero.1 g).elim B0 (pow_nz' d0 3),(IA.mul hp).mono ω,(IBB.mul hp).mono ω⟩;obtain⟨q,c,rfl⟩:=m0 p hp;obtain⟨u,s⟩:=hk.len q c;have t:=k8 a q.1;have v:=k8 a q.2;exact⟨φ,φ⟩;obtain⟨q,c,rfl⟩:=m0 p hp;exact f _ _ A0 IA (hk.a q c) (hk.len q c).1;obtain⟨q,c,rfl⟩:=m0 p hp;exact f _ _ B0 IBB (hk.b q c) (hk.len q c).2


section
variable {k n i m new j:Nat}{x:Lc}{A:Nat->Nat->Rat}{w s:Nat->Nat}
theorem yg(n:Nat)(f:Nat->Rat):aN (n+1) f=aN n f++[f n]:=by simp[aN,List.range_succ]
theorem bZ{t:Nat}{x:Option ABlk}{l:Hp}(h:k≠t):au ((k,x)::l) t=au l t:=by
 rw[dB];unfold upd;grind
def fiL(A:Nat->Nat->Rat)(n i:Nat):List Lc:=(List.range i).map λk=>pE (aN n (A k))
@[simp] theorem kY (A:Nat->Nat->Rat)(n i:Nat):(fiL A n i).length=i:=by simp[fiL]
theorem fQ(h:k< i):(fiL A n i)[k]?=some (pE (aN n (A k))):=by simp[fiL,h]
theorem KL(A:Nat->Nat->Rat)(n i:Nat):fiL A n i++[pE (aN n (A i))]=fiL A n (i+1):=by simp[fiL,List.range_succ]
theorem oj{e:Lc}(h:(fiL A n i)[k]?=some e):k< i/\e=pE (aN n (A k)):=by
 have a:=(List.getElem?_eq_some_iff.1 h).1;rw[kY] at a;rw[fQ a] at h;grind
def foE(w:Nat->Nat)(s:Nat->Nat)(n m:Nat):Lc:=mzO 3 w s m++List.replicate (n- m) [.emp]
theorem jr(h:m<=n):(foE w s n m).length=n:=by simp[foE];omega
theorem foE_0(w:Nat->Nat)(s:Nat->Nat)(n:Nat):foE w s n 0=List.replicate n [.emp]:=rfl
theorem AG(h:k< m):(foE w s n m)[k]?=some [.lsl (s (k+2)) 0 (w k) none 3]:=by
 unfold foE;rw[List.getElem?_append_left (by simp_all)];exact Ad h
theorem ED(h:m<=k)(hk:k< n):(foE w s n m)[k]?=some [.emp]:=by
 unfold foE;rw[List.getElem?_append_right (by simp_all),List.getElem?_replicate,if_pos (by simp only[pJ];omega)]
theorem GJ(hm:m<=n)(hk:n<=k):(foE w s n m)[k]?=none:=by
 rw[List.getElem?_eq_none];rw[jr hm];grind
theorem foE_n(w:Nat->Nat)(s:Nat->Nat)(n:Nat):foE w s n n=mzO 3 w s n:=by simp[foE]
theorem Ii{w':Nat->Nat}{s':Nat->Nat}(h:∀k,k< m->w k=w' k/\s (k+2)=s' (k+2)):foE w s n m=foE w' s' n m:=by
 unfold foE mzO;simp_all
theorem GI{w':Nat->Nat}{s':Nat->Nat}(hm:m=i\/m=i+1)(hi:i< n)(h:∀k,k< i->w k=w' k/\s (k+2)=s' (k+2)):∀e:Nat,e=i->(foE w s n m).set e [.lsl (s' (i+2)) 0 (w' i) none 3]=foE w' s' n (i+1):=by
 rintro e rfl;refine List.ext_getElem? λk=>?_;have a:m<=n:=ω
 rw[List.getElem?_set,jr a];split
 ·rw[AG ω]
  try grind
 ·by_cases hk:k< e
  rw[AG ω,AG ω,(h k hk).1,(h k hk).2];by_cases hkn:k< n;rw[ED ω hkn,ED ω hkn];rw[GJ a ω,GJ ω ω]
theorem Df{r:Ren}{hp hp':Hq}:∀{a b c d:Lc},CvLL r hp hp' a b->CvLL r hp hp' c d->CvLL r hp hp' (a++c) (b++d)
 |[],_,_,_,h,h2=>by cases (h:_=[]);grind
 |x::xs,_,_,_,⟨y,ys,e,h1,h3⟩,h2=>by subst e;exact⟨y,_,rfl,h1,Df h3 h2⟩
theorem mF{hp hp':Hq}(h:Shr ⟨40,s⟩ hp hp')(hm:m<=30)(hl:∀i,i< m->(hp' (i+2)).isSome=true):CvLL ⟨40,s⟩ hp hp' (foE w s n m) (foE w (λi=>i) n m):=
 Df (sJ hm hl) (ba h λe a c hc=>by
  rw[(List.mem_replicate.1 a).2,List.mem_singleton] at hc;rw[hc];exact dw)
def fiR(i new x:Nat):Nat:=cond (Nat.beq x (i+2)) new x
theorem jG(h:k≠i):fiR i new (k+2)=k+2:=by
 unfold fiR;rw[show Nat.beq (k+2) (i+2)=false by cases hb:Nat.beq (k+2) (i+2) with|false=>rfl|true=>simp_all];rfl
theorem o5(i new:Nat):fiR i new (i+2)=new:=by unfold fiR;simp
theorem Ct(i new:Nat):fiR i new 1=1:=by
 unfold fiR;rfl
theorem Cu(i new:Nat):fiR i new 0=0:=by
 unfold fiR;rfl
theorem r8(hm:m<=40)(hn:40<=new)(x y:Nat)(hx:x< m)(hy:y< m)(h:fiR i new x=fiR i new y):x=y:=by
 unfold fiR at h;cases h1:Nat.beq x (i+2)<;> cases h2:Nat.beq y (i+2)<;> rw[h1,h2] at h <;> simp only[cond_true,cond_false] at h;exact h;omega;omega;simp_all
def wJ(n i j k:Nat):Nat:=cond (Nat.blt k i) n j
theorem II(h:k< i):wJ n i j k=n:=by unfold wJ;rw[show Nat.blt k i=true from Nat.ble_eq_true_of_le h];rfl
theorem Fu:wJ n i j i=j:=by
 unfold wJ;rw[show Nat.blt i i=false by cases hb:Nat.blt i i with|false=>rfl|true=>simp_all];rfl
theorem fi_set(hi:i< n):∀e:Nat,e=i->(foE (wJ n i (j+1)) (λx=>x) n (i+1)).set e [.lsl new 0 (j+1+1) none 3]=foE (wJ n i (j+1+1)) (fiR i new) n (i+1):=λe b=>by
 have:=GI (w:=wJ n i (j+1)) (w':=wJ n i (j+1+1)) (s:=λx=>x) (s':=fiR i new) (n:=n) (m:=i+1) (i:=i) (.inr rfl) hi (λk a=>⟨by rw[II a,II a],(jG ω).symm⟩) e b;rw[o5,Fu] at this;grind
theorem fi_set0(hi:i< n):∀e:Nat,e=i->(foE (λ_=>n) (λx=>x) n i).set e [.lsl new 0 (0+1) none 3]=foE (wJ n i (0+1)) (fiR i new) n (i+1):=λe b=>by
 have:=GI (w:=λ_=>n) (w':=wJ n i (0+1)) (s:=λx=>x) (s':=fiR i new) (n:=n) (m:=i) (i:=i) (.inl rfl) hi (λk a=>⟨by rw[II a],(jG ω).symm⟩) e b;rw[o5,Fu] at this;grind
theorem foE_ge'(h:m<=k)(hk:k< n):∀e,e=k->(foE w s n m)[e]?=some [.emp]:=λe a=>by rw[a];exact ED h hk
theorem foE_lt'(h:k< m)(hj:w k=j):∀e,e=k->(foE w s n m)[e]?=some [.lsl (s (k+2)) 0 j none 3]:=λe a=>by rw[a,<-hj];exact AG h
theorem r9:(fiL A n i++[x])[i]?=some x:=ψ
theorem tI(h:k< i):(fiL A n i++[x])[k]?=some (pE (aN n (A k))):=by
 rw[List.getElem?_append_left (by simp_all)];exact fQ h
theorem EE{e:Lc}(h:(fiL A n i++[x])[k]?=some e):(k< i/\e=pE (aN n (A k)))\/(k=i/\e=x):=by
 have a:=(List.getElem?_eq_some_iff.1 h).1;rw[List.length_append,kY,List.length_singleton] at a;by_cases hk:k< i;rw[tI hk] at h;cases h;exact .inl ⟨hk,rfl⟩;obtain rfl:k=i:=ω
 simp_all
end
section
variable {R:Nat->Lq}{n k:Nat}{s:Nat->Nat}
def rwL(R:Nat->Lq)(n:Nat):List Lc:=(List.range n).map λk=>pE (R k)
@[simp] theorem pG (R:Nat->Lq)(n:Nat):(rwL R n).length=n:=by simp[rwL]
theorem FJ(h:k< n):(rwL R n)[k]?=some (pE (R k)):=by simp[rwL,h]
theorem DD{e:Lc}(h:(rwL R n)[k]?=some e):k< n/\e=pE (R k):=by
 have a:=(List.getElem?_eq_some_iff.1 h).1;rw[pG] at a;rw[FJ a] at h;grind
theorem fiL_rwL(A:Nat->Nat->Rat)(n i:Nat):fiL A n i=rwL (λk=>aN n (A k)) i:=rfl
def rwO(R:Nat->Lq)(s:Nat->Nat)(n:Nat):Lc:=mzO 3 (λk=>(R k).length) s n
@[simp] theorem pF (R:Nat->Lq)(s:Nat->Nat)(n:Nat):(rwO R s n).length=n:=pJ _ _ _ _
theorem eC(h:k< n):∀e,e=k->(rwO R s n)[e]?=some [.lsl (s (k+2)) 0 (R k).length none 3]:=λe a=>by rw[a];exact Ad h
theorem rwO_out(h:n<=k):(rwO R s n)[k]?=none:=by simp_all
theorem gx{R':Nat->Lq}{s':Nat->Nat}(h:∀k,k< n->(R k).length=(R' k).length/\s (k+2)=s' (k+2)):rwO R s n=rwO R' s' n:=by
 refine List.ext_getElem? λk=>?_;by_cases hk:k< n;rw[eC hk k rfl,eC hk k rfl,(h k hk).1,(h k hk).2];simp_all
def rwH(TS TQ:Nat)(R:Nat->Lq)(n:Nat)(ex:Hp):Hp:=mzX 3 TS TQ (rwO R (λx=>x) n) (rwL R n) ex
section
variable {fr fr':Fr}{hp ex:Hp}{nx N TS TQ n k:Nat}{R R':Nat->Lq}
theorem dT(hid:∀p∈ex,35<=p.1/\p.1< 40)(hn:n<=30)(h:k< n):au (rwH TS TQ R n ex) (k+2)=some ⟨TQ,3,pE (R k)⟩:=mzX_row hid ω (FJ h)
theorem kM(hid:∀p∈ex,35<=p.1/\p.1< 40)(hn:n<=30)(h:k< n):dS (au (rwH TS TQ R n ex)) (k+2)=some ⟨TQ,3,pE (R k)⟩:=eA (dT hid hn h) (show(3:Nat)≠0 by decide)
theorem cy(hid:∀p∈ex,35<=p.1/\p.1< 40):au (rwH TS TQ R n ex) 1=some ⟨TS,1,rwO R (λx=>x) n⟩:=mzX_out hid
theorem SEntT.rw (s:Nat->Nat) (hn:n<=30) (s0:s 0=0) (hinj:∀i j,InX n i->InX n j->s i=s j->i=j) (h1:au hp (s 1)=some ⟨TS,1,rwO R s n⟩) (hr:∀i,i< n->au hp (s (i+2))=some ⟨TQ,3,pE (R i)⟩) (hid:∀p∈ex,35<=p.1/\p.1< 40)
    (hex:∀i B,(i,some B)∈ex->∃B0,au hp (s i)=some B0/\B0.ty=B.ty/\B0.sz=B.sz/\B0.es.length=B.es.length)
    (hE:Shr ⟨40,s⟩ (au hp) (au (rwH TS TQ R n ex))->∀i B B0,(i,some B)∈ex->au hp (s i)=some B0->CvLL ⟨40,s⟩ (au hp) (au (rwH TS TQ R n ex)) B0.es B.es)
    (hF:Shr ⟨40,s⟩ (au hp) (au (rwH TS TQ R n ex))->CvF ⟨40,s⟩ (au hp) (au (rwH TS TQ R n ex)) fr fr'):SEntT ⟨fr,hp,nx,N⟩ ⟨fr',rwH TS TQ R n ex,40,N⟩:=
 SEntT.mzx s (by simp_all) s0 (by rw[pG];grind) h1 ψ (λi e h=>by
  obtain⟨a,rfl⟩:=DD h;exact⟨hr i a,aQ _⟩) hid hex (λ_=>sJ hn λi b=>by
  show(au (rwH TS TQ R n ex) (i+2)).isSome=true;rw[dT hid hn b];rfl) hE hF
end
def upR(R:Nat->Lq)(k:Nat)(r:Lq):Nat->Lq:=λi=>if i=k then r else R i
theorem eU(R:Nat->Lq)(k:Nat)(r:Lq):upR R k r k=r:=if_pos rfl
theorem lF(R:Nat->Lq){i:Nat}(r:Lq)(h:i≠k):upR R k r i=R i:=if_neg h
theorem I5{new m:Nat}{r:Lq}(hk:k< n)(hm:m=r.length):∀e:Nat,e=k->(rwO R (λx=>x) n).set e [.lsl new 0 m none 3]=rwO (upR R k r) (fiR k new) n:=λe a=>by
 subst a hm;refine List.ext_getElem? λi=>?_;rw[List.getElem?_set,pF];split
 ·rename_i h;subst h
  rw[eC hk e rfl,eU,o5]
 ·rename_i h
  by_cases hi:i< n;rw[eC hi i rfl,eC hi i rfl,lF _ _ (λe=>h e.symm),jG (λe=>h e.symm)];simp_all
def swx(a b x:Nat):Nat:=if x=a then b else if x=b then a else x
theorem swx_a(a b:Nat):swx a b a=b:=if_pos rfl
theorem swx_b(a b:Nat):swx a b b=a:=by unfold swx;grind
theorem pz{a b x:Nat}(h1:x≠a)(h2:x≠b):swx a b x=x:=by unfold swx;grind
theorem swx_inj{a b x y:Nat}(h:swx a b x=swx a b y):x=y:=by unfold swx at h;grind
theorem I4{p:Nat}(hk:k< n)(hp:p< n):∀a b:Nat,a=p->b=k->((rwO R (λx=>x) n).set a [.lsl (k+2) 0 (R k).length none 3]).set b [.lsl (p+2) 0 (R p).length none 3]=rwO (λi=>R (swx k p i)) (swx (k+2) (p+2)) n:=λa b ha hb=>by
 subst ha hb;refine List.ext_getElem? λi=>?_;rw[List.getElem?_set,List.length_set,List.getElem?_set,pF];by_cases hi:i< n;rw[eC (R:=λi=>R (swx b a i)) hi i rfl];by_cases c:b=i;subst c;rw[swx_a,swx_a]
 try grind
 rw[if_neg c];by_cases h2:a=i;subst h2;rw[swx_b,swx_b]
 try grind
 rw[if_neg h2,eC hi i rfl,pz (λe=>c e.symm) (λe=>h2 e.symm),pz ω ω];have c:b≠i:=ω
 simp_all
end
def scM(M:Mx)(r:Nat)(f:Rat):Mx:=λi j=>if i=r then M i j* f else M i j
def rdM(M:Mx)(r k:Nat):Mx:=λi j=>if i=r then M i j else M i j- M i k* M r j
def pvR(M:Mx)(n r c:Nat):Option Nat:=(List.range n).find? λp=>decide (r<=p/\M p c≠0)
theorem qV{M:Mx}{n r c p:Nat}(h:pvR M n r c=some p):p< n/\r<=p/\M p c≠0:=by
 have a:=List.find?_some h;have b:=List.mem_of_find?_eq_some h;grind
theorem BF{M:Mx}{n r c:Nat}(h:pvR M n r c=none):∀i,i< n->r<=i->M i c=0:=λi a d=>by
 have b:=List.find?_eq_none.1 h i (List.mem_range.2 a);grind
def slC(A:Mx)(n:Nat)(L:Ln)(c:Nat):Mx×Ln:=match pvR A n L.length c with
 |none=>(A,L)
 |some p=>(rdM (scM (swM A L.length p) L.length (1/ A p c)) L.length c,L++[c])
def slM(M:Mx)(n:Nat):Nat->Mx×Ln
 |0=>(M,[])
 |c+1=>slC (slM M n c).1 n (slM M n c).2 c
structure Ech (A:Mx)(n c:Nat)(L:Ln):Prop where
 len:L.length<=c
 len2:L.length<=n
 lt:∀(i l:Nat),L[i]?=some l->l< c
 inc:∀(i j l m:Nat),L[i]?=some l->L[j]?=some m->i< j->l< m
 one:∀(i l k:Nat),L[i]?=some l->k< n->A k l=if k=i then 1 else 0
 low:∀(i l j:Nat),L[i]?=some l->j< l->A i j=0
 rest:∀i j,L.length<=i->i< n->j< c->A i j=0
theorem Ech.step{A:Mx}{n c:Nat}{L:Ln}(h:Ech A n c L):Ech (slC A n L c).1 n (c+1) (slC A n L c).2:=by
 unfold slC;cases e:pvR A n L.length c with
 |none=>
  show Ech A n (c+1) L;refine⟨by have:=h.len;omega,h.len2,λi l b=>by have:=h.lt i l b;omega,h.inc,h.one,h.low,λi j u s x=>?_⟩;by_cases e2:j=c;rw[e2];exact BF e i s u;exact h.rest i j u s ω
 |some p=>
  obtain⟨p1,p2,K⟩:=qV e;show Ech (rdM (scM (swM A L.length p) L.length (1/ A p c)) L.length c) n (c+1) (L++[c]);have J:L.length< n:=ω
  have M:∀i l,L[i]?=some l->i< L.length:=λi l b=>(List.getElem?_eq_some_iff.1 b).1
  -- the rows after the exchange
  have y:∀i j,i< L.length->swM A L.length p i j=A i j:=λi j R=>by unfold swM;rw[if_neg ω,if_neg ω]
  have H:∀j,swM A L.length p L.length j=A p j:=λj=>by unfold swM;rw[if_pos rfl]
  have w:∀i j,L.length<=i->i< n->j< c->swM A L.length p i j=0:=λi j u s x=>by
   unfold swM;split;exact h.rest p j p2 p1 x;split;exact h.rest _ j (Nat.le_refl _) J x;exact h.rest i j u s x
  have F:∀i l k,L[i]?=some l->k< n->swM A L.length p k l=if k=i then 1 else 0:=λi l k b z=>by
   by_cases g:k< L.length;rw[y k l g];exact h.one i l k b z;have:=M i l b;rw[w k l ω z (h.lt i l b),if_neg ω]
  generalize S:swM A L.length p=B at *
  have v:∀i j,i≠L.length->scM B L.length (1/ A p c) i j=B i j:=λi j g=>if_neg g;have t:∀j,scM B L.length (1/ A p c) L.length j=B L.length j* (1/ A p c):=λj=>if_pos rfl
  have f:scM B L.length (1/ A p c) L.length c=1:=by
   rw[t,H];have:=Rat.div_mul_cancel (a:=1) K;grind
  have d:∀j,j< c->scM B L.length (1/ A p c) L.length j=0:=λj D=>by rw[t,w _ j (Nat.le_refl _) J D];grind
  generalize Q:scM B L.length (1/ A p c)=C at *
  have q:∀j,rdM C L.length c L.length j=C L.length j:=λj=>if_pos rfl;have r:∀i j,i≠L.length->rdM C L.length c i j=C i j- C i c* C L.length j:=λi j g=>if_neg g
  have snoc:∀i l,(L++[c])[i]?=some l->(i< L.length/\L[i]?=some l)\/(i=L.length/\l=c):=λi l b=>by
   rw[List.getElem?_append] at b;split at b
   ·rename_i g;exact .inl ⟨g,b⟩
   ·rename_i g
    have:i- L.length=0:=by
     have:=(List.getElem?_eq_some_iff.1 b).1;simp at this;omega
    rw[this] at b;cases b;exact .inr ⟨ω,rfl⟩
  refine⟨by have:=h.len;simp;omega,χ,λi l b=>?_,λi j l m b N E=>?_,λi l k b z=>?_,λi l j b D=>?_,λi j u s x=>?_⟩;rcases snoc i l b with⟨_,g⟩|⟨_,g⟩
  have:=h.lt i l g;omega;omega;rcases snoc i l b with⟨o,g⟩|⟨o,g⟩<;> rcases snoc j m N with⟨b1,G⟩|⟨b1,G⟩
  exact h.inc i j l m g G E;rw[G];exact h.lt i l g;omega;omega;rcases snoc i l b with⟨o,g⟩|⟨o,g⟩
  by_cases e1:k=L.length;subst e1;rw[q,d l (h.lt i l g),if_neg ω];rw[r k l e1,v k l e1,F i l k g z,d l (h.lt i l g)];grind;subst o g;by_cases e1:k=L.length;rw[if_pos e1,e1,q,f];rw[if_neg e1,r k l e1,f];grind;rcases snoc i l b with⟨o,g⟩|⟨o,g⟩
  have O:=h.lt i l g;rw[r i j ω,v i j ω,y i j o,h.low i l j g D,d j ω];grind;subst o g;rw[q,d j D];grind
theorem lf(M:Mx)(n:Nat):∀c,Ech (slM M n c).1 n c (slM M n c).2
 |0=>⟨Nat.le_refl _,Nat.zero_le _,λi l h=>by simp[slM] at h,λi j l m h=>by simp[slM] at h,λi l k h=>by simp[slM] at h,λi l j h=>by simp[slM] at h,λi j _ _ h=>by omega⟩
 |c+1=>(lf M n c).step
def oneX(A:Mx)(n:Nat)(L:Ln)(j:Nat):Rat:=if L.contains j then A (L.idxOf j) n else 0
theorem Ech.idx{A:Mx}{n c:Nat}{L:Ln}(h:Ech A n c L){i l:Nat}(hl:L[i]?=some l):L.idxOf l=i:=by
 have b:=List.mem_of_getElem? hl;have a:L[L.idxOf l]?=some l:=φ
 by_cases e1:L.idxOf l< i;have:=h.inc _ _ _ _ a hl e1;omega;by_cases e2:i< L.idxOf l;have:=h.inc _ _ _ _ hl a e2;omega;omega
section
variable {A:Nat->Nat->Rat}{l:Rat}{n i:Nat}
def svM(A:Nat->Nat->Rat)(l:Rat)(b:Nat->Rat)(n i j:Nat):Rat:=if j=n then b i else if j=i then -(A i j* l)+1 else -(A i j* l)
def mxr(A:Nat->Nat->Rat)(l:Rat)(n i j:Nat):Lq:=aN n λt=>if t< j then -(A i t* l) else A i t
@[simp] theorem wy (A:Nat->Nat->Rat)(l:Rat)(n i j:Nat):(mxr A l n i j).length=n:=by simp[mxr]
theorem mxr_0(A:Nat->Nat->Rat)(l:Rat)(n i:Nat):mxr A l n i 0=aN n (A i):=by unfold mxr;simp
theorem F8{j:Nat}(h:j< n):∀e,e=j->(pE (mxr A l n i j))[e]?=some (qC (A i j)):=λe a=>by
 subst a;simp[pE,mxr,aN,h]
theorem mxr_set{j:Nat}(h:j< n):∀e,e=j->(pE (mxr A l n i j)).set e (qC (-(A i j* l)))=pE (mxr A l n i (j+1)):=λe a=>by
 subst a;rw[mM];congr 1;refine List.ext_getElem? λt=>?_;rw[List.getElem?_set];by_cases ht:t< n;by_cases h1:e=t;subst h1;simp[mxr,aN,ht];rw[if_neg h1];simp only[mxr,aN,List.getElem?_map,List.getElem?_range ht,Option.map_some];by_cases h2:t< e;rw[if_pos h2,if_pos ω];rw[if_neg h2,if_neg ω];simp_all
def dgr(A:Nat->Nat->Rat)(l:Rat)(n i:Nat):Lq:=aN n λt=>if t=i then -(A i t* l)+1 else -(A i t* l)
@[simp] theorem ER (A:Nat->Nat->Rat)(l:Rat)(n i:Nat):(dgr A l n i).length=n:=by simp[dgr]
theorem BR(h:i< n):∀e,e=i->(pE (mxr A l n i n))[e]?=some (qC (-(A i i* l))):=λe a=>by
 subst a;simp[pE,mxr,aN,h]
theorem mxr_one(h:i< n):∀e,e=i->(pE (mxr A l n i n)).set e (qC (-(A i i* l)+1))=pE (dgr A l n i):=λe a=>by
 subst a;rw[mM];congr 1;refine List.ext_getElem? λt=>?_;rw[List.getElem?_set];by_cases ht:t< n;by_cases h1:e=t;subst h1;simp[dgr,aN,ht];rw[if_neg h1];simp only[mxr,dgr,aN,List.getElem?_map,List.getElem?_range ht,Option.map_some];rw[if_pos ht,if_neg λb=>h1 b.symm];simp_all
theorem dgr_app{b:Nat->Rat}:dgr A l n i++[b i]=aN (n+1) (svM A l b n i):=by
 rw[yg];congr 1;refine List.map_congr_left λt a=>?_;have:=List.mem_range.1 a;simp only[svM,if_neg (show¬t=n by omega)];unfold svM;grind
def ph1(A:Nat->Nat->Rat)(l:Rat)(b:Nat->Rat)(n i k:Nat):Lq:=if k< i then aN (n+1) (svM A l b n k) else aN n (A k)
theorem ph1_0(A:Nat->Nat->Rat)(l:Rat)(b:Nat->Rat)(n:Nat):ph1 A l b n 0=λk=>aN n (A k):=funext λk=>if_neg ω
theorem ph1_n{b:Nat->Rat}{k:Nat}(h:k< n):ph1 A l b n n k=aN (n+1) (svM A l b n k):=if_pos h
theorem Jy(A:Nat->Nat->Rat)(l:Rat)(b:Nat->Rat)(n i:Nat):ph1 A l b n i i=mxr A l n i 0:=by exact if_neg ω
theorem upR_up(R:Nat->Lq)(k:Nat)(r r':Lq):upR (upR R k r) k r'=upR R k r':=funext λi=>by unfold upR;grind
theorem upR_id(R:Nat->Lq)(k:Nat):upR R k (R k)=R:=funext λi=>by unfold upR;grind
theorem Jx(A:Nat->Nat->Rat)(l:Rat)(b:Nat->Rat)(n i:Nat):upR (ph1 A l b n i) i (aN (n+1) (svM A l b n i))=ph1 A l b n (i+1):=funext λk=>by
 unfold upR ph1;grind
end
end Go.Abs
