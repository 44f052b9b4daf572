/- Part Y17 of the proof. -/
import Derived.Test.YtjmkjicckobojaaGreatDoorY16
set_option linter.all false
namespace Go.Abs
set_option maxRecDepth 20000
def Fk(p:Lq)(n:Nat):Lq:=am (p.take (n+1))
theorem C5(p:Lq)(n i:Nat):coP (p.take n) i=if i< n then coP p i else 0:=by
 unfold coP;rw[jH,jH,Na];split <;> rfl
theorem coP_cut(p:Lq)(n i:Nat):coP (Fk p n) i=if i<=n then coP p i else 0:=by
 rw[Fk,cu,C5];by_cases h:i<=n;rw[if_pos h,if_pos ω];rw[if_neg h,if_neg ω]
theorem C3(p:Lq)(n:Nat):(Fk p n).length<=n+1:=by
 have a:=bm (p.take (n+1));have b:(p.take (n+1)).length<=n+1:=by rw[yv];omega
 unfold Fk;omega
theorem HS.cut{p:Lq}{K:Rat}{h:Nat}(H:HS p K h)(n:Nat):HS (Fk p n) K h:=⟨H.ne,H.sc,λi=>by
 rw[coP_cut];split;exact H.co i;exact(IB.zero h).eq φ⟩
theorem HS.plus2{p q:Lq}{K K':Rat}{h h':Nat}(H:HS p K h)(G:HS q K' h'):HS (ec p q) (K* K') (h+h'+1):=
 (H.rescale G.ne G.sc).plus ((Rat.mul_comm K' K▸G.rescale H.ne H.sc).mono ω)
theorem Bd{s:Nat}:∀(l:Lq),Abs.bdL l s->∃K,HS l K (s* l.length+1)
 |[],_=>⟨1,HS.nil⟩
 |c::l,hl=>by
  obtain⟨K,H⟩:=Bd l λq b=>hl q (lQ _ b);obtain⟨d,a,f⟩:=FN (hl c (mu ..));have e:s* (c::l).length=s* l.length+s:=φ
  refine⟨K* ((c.den:Int):Rat),(λg=>(y4.1 g).elim H.ne f),(H.sc.mul a).mono ω,λi=>?_⟩;cases i with
  |zero=>rw[fv];exact((H.sc.mul d).eq φ).mono ω
  |succ i=>rw[ej];exact(((H.co i).mul a).eq φ).mono ω
theorem xk{c d K:Rat}{h:Nat}(d0:d≠0)(hd:IB d 20)(hc:IB (c* d) 20):∀(l:Lq) (b:Rat),HS (b::l) K h->HS (cJ [c,1] (b::l)) (K* d^ l.length) (h+22* l.length)
 |[],b,H=>by
  refine⟨by rw[Fe,Nh];have:=H.ne;grind,H.sc.eq ψ,λi=>?_⟩;rw[show cJ [c,1] [b]=ec (aG [] [c,1]) (dk b) from rfl,fi,tJ,show aG [] [c,1]=[] from if_pos (.inl rfl),u4];have e:=H.co 0;rw[fv] at e;split;exact e.eq (by rw[Fe,Nh];grind);exact(IB.zero _).eq φ
 |b'::l,b,H=>by
  have Ht:HS (b'::l) K h:=⟨H.ne,H.sc,λi=>H.co (i+1)⟩;have a:=xk d0 hd hc l b' Ht;have hp:=mK hd (l.length+1);have hb:=H.co 0;rw[vX];refine⟨λg=>(y4.1 g).elim H.ne λg=>?_,(H.sc.mul hp).mono ω,λi=>?_⟩
  have:∀n:Nat,d^ n≠0:=λn=>by
   induction n with
   |zero=>grind
   |succ n a=>grind
  exact this _ g;rw[show cJ [c,1] (b::b'::l)=ec (aG (cJ [c,1] (b'::l)) [c,1]) (dk b) from rfl,fi,C9,tJ];generalize cJ [c,1] (b'::l)=X at *
  have s1:=(a.co i).mul hc
  have s2:IB (lag X i* (K* d^ l.length) * d) (h+22* l.length+20):=by
   cases i with
   |zero=>exact(IB.zero _).eq (by rw[show lag X 0=0 from rfl];grind)
   |succ i=>exact(a.co i).mul hd
  have f:IB ((if i=0 then b else 0) * K* d^ (l.length+1)) (h+22* l.length+21):=by
   split;exact(hb.mul hp).mono ω;exact(IB.zero _).eq φ
  refine(((s1.add s2).add f).eq ?_).mono ω;grind
theorem HS_shift'{c d K:Rat}{h N:Nat}(d0:d≠0)(hd:IB d 20)(hc:IB (c* d) 20){l:Lq}(H:HS l K h)(hl:l.length<=N+1):∃K',HS (cJ [c,1] l) K' (h+22* N):=by
 cases l with
 |nil=>exact⟨K,H.mono ω⟩
 |cons b l=>
  rw[vX] at hl;exact⟨_,(xk d0 hd hc l b H).mono ω⟩
theorem kY(c:Rat):∀l:Lq,(cJ [c,1] l).length<=l.length
 |[]=>ir _
 |a::l=>by
  have b:=k6 (aG (cJ [c,1] l) [c,1]) (dk a);have d:=oZ (cJ [c,1] l) c;have f:=kY c l;have e:=pK a;rw[vX];show(ec (aG (cJ [c,1] l) [c,1]) (dk a)).length<=_;omega
theorem ow{c d K:Rat}{h N:Nat}(d0:d≠0)(hd:IB d 20)(hc:IB (c* d) 20)(hq:qs c<=20)(h1:1<=h)(hN:(N+1) * (h+22* N+22)<=100000000)(hN2:N<=1000):∀(l:Lq),l.length<=N+1->HS l K h->ik [c,1] l
 |[],_,_=>trivial
 |a::l,hl,H=>by
  rw[vX] at hl;have Ht:HS l K h:=⟨H.ne,H.sc,λi=>H.co (i+1)⟩;obtain⟨n,j⟩:=HS_shift' (N:=N) d0 hd hc Ht ω;have hb:=j.bdL ω;have m:=mxL_le hb ω;have g:=kY c l;have k:=oZ (cJ [c,1] l) c
  have f:mxL [c,1]<=20:=mxL_le (λq b=>by
   rcases pY.1 b with rfl|b
   exact hq;rw[kI.1 b];exact fo (by decide:qs 1<=1) δ) δ
  have ha:=H.bdL h1 a (mu ..);have e:(cJ [c,1] l).length* (mxL (cJ [c,1] l)+mxL [c,1]+1)<=(N+1) * (h+22* N+22):=vj ω ω;have e2:h<=(N+1) * (h+22* N+22):=fo ω (NS _ ω);refine⟨ow d0 hd hc hq h1 hN hN2 l ω Ht,⟨ω,ω,ω,ψ⟩,by unfold sm;omega,ω⟩
abbrev Ke:=List (Lq×Lq)
def upF(a:Rat)(u o:Lq)(p:Lq×Lq):Lq:=ec o (aG p.1 (dC (aH (aG p.2 u)) [ag (aH (aG p.2 u)) a]))
def upL(a:Rat)(u:Lq):Ke->Lq->Lq
 |[],o=>o
 |p::k,o=>upL a u k (upF a u o p)
def upK(k:Ke)(a:Rat)(u:Lq):Lq:=upL a u k []
theorem Bh(a:Rat)(u:Lq):∀(k:Ke) (o:Lq) (p:Lq×Lq),upL a u (k++[p]) o=upF a u (upL a u k o) p
 |[],_,_=>rfl
 |q::k,o,p=>Bh a u k (upF a u o q) p
structure OkUF (a:Rat)(u o:Lq)(p:Lq×Lq):Prop where
 m1:gQ p.2 u
 i1:(aG p.2 u).length<=1099511627775
 i2:smL (aH (aG p.2 u))
 e1:eg (aH (aG p.2 u)) a
 l1:(aH (aG p.2 u)).length<=1099511627776
 m2:gQ p.1 (dC (aH (aG p.2 u)) [ag (aH (aG p.2 u)) a])
 o1:smL o
 o2:o.length<=1099511627776
 l2:(aG p.1 (dC (aH (aG p.2 u)) [ag (aH (aG p.2 u)) a])).length<=1099511627776
def BQ(k:Ke)(a:Rat)(u:Lq):Prop:=∀i p,k[i]?=some p->OkUF a u (upL a u (k.take i) []) p
structure KHS (k:Ke)(KA KB:Rat)(h:Nat):Prop where
 len:∀p∈k,p.1.length<=4/\p.2.length<=4
 a:∀p∈k,HS p.1 KA h
 b:∀p∈k,HS p.2 KB h
theorem pow_nz'{d:Rat}(h:d≠0):∀n:Nat,d^ n≠0
 |0=>by grind
 |n+1=>by rw[Nr];intro g;rcases y4.1 g with g|g;exact pow_nz' h n g;grind
structure TeB (A B u:Lq)(a S:Rat)(h:Nat):Prop where
 m:(aG B u).length<=u.length+4
 il:(aH (aG B u)).length<=u.length+5
 ib:bdL (aH (aG B u)) h
 sb:bdL (dC (aH (aG B u)) [ag (aH (aG B u)) a]) h
 sl:(dC (aH (aG B u)) [ag (aH (aG B u)) a]).length<=u.length+5
 l:(aG A (dC (aH (aG B u)) [ag (aH (aG B u)) a])).length<=u.length+9
 H:HS (aG A (dC (aH (aG B u)) [ag (aH (aG B u)) a])) S h
theorem te_HS{A B u:Lq}{a d KA KB K:Rat}{h h':Nat}(hA:A.length<=4)(hB:B.length<=4)(hu:u.length<=245)(HA:HS A KA h)(HB:HS B KB h)(H:HS u K h')(d0:d≠0)(hd:IB d 20)(ha:IB (a* d) 20)(h1:1<=h):TeB A B u a (KA* (KB* K* ry 250* d^ 255)) (h'+2* h+13000):=by
 have m1:=B1 B u;have i1:=lx (aG B u);have k:=HB.mul H hB;have c:=k.integral (L:=250) ω δ;have j:=pX (aH (aG B u)) [ag (aH (aG B u)) a];rw[xb] at j;have o:=B1 A (dC (aH (aG B u)) [ag (aH (aG B u)) a]);have e:=c.bdL ω;generalize l:aH (aG B u)=f at *
 have m:f.length<=250:=ω
 have hp:=mK hd 255;have g:=mK hd (255- f.length);have hv:=(CP hd ha f c.all).mul g;have e0:d^ f.length* d^ (255- f.length)=d^ 255:=by rw[<-tZ,show f.length+(255- f.length)=255 by omega]
 have n:=(c.rescale (pow_nz' d0 255) hp).mono (show _<=h'+h+12800 by omega);have b:=n.less (v:=ag f a) ((hv.eq φ).mono ω);rw[<-Jn] at b;have i:=HA.mul b hA;subst l;exact⟨ω,ω,bdL_mono' e ω,bdL_mono' (b.bdL ω) ω,ω,ω,i.mono ω⟩
theorem Ja{a d KA KB K:Rat}{u:Lq}{h h':Nat}(hu:u.length<=240)(H:HS u K h')(d0:d≠0)(hd:IB d 20)(ha:IB (a* d) 20)(hq:qs a<=20)(h1:1<=h)(hlim:h'+2* h+14000<=400000000):∀(k:Ke) (o:Lq) (n:Nat),KHS k KA KB h->n+k.length<=900->o.length<=u.length+9->HS o (KA* (KB* K* ry 250* d^ 255)) (h'+2* h+13000+n)->
    HS (upL a u k o) (KA* (KB* K* ry 250* d^ 255)) (h'+2* h+13000+(n+k.length))/\(upL a u k o).length<=u.length+9/\∀i p,k[i]?=some p->OkUF a u (upL a u (k.take i) o) p
 |[],o,n,_,_,ho,Ho=>⟨Ho,ho,λi p hp=>by grind⟩
 |p::k,o,n,hk,hn,ho,Ho=>by
  rw[vX] at hn;obtain⟨l1,l2⟩:=hk.len p (mu ..);have f:=hk.a p (mu ..);have e:=hk.b p (mu ..);have T:=te_HS l1 l2 (show u.length<=245 by omega) f e H d0 hd ha h1;have al:=k6 o (aG p.1 (dC (aH (aG p.2 u)) [ag (aH (aG p.2 u)) a]));have v:=T.l;have r:HS (upF a u o p) (KA* (KB* K* ry 250* d^ 255)) (h'+2* h+13000+(n+1)):=(Ho.plus (T.H.mono ω)).mono ω;obtain⟨j,s,g⟩:=Ja hu H d0 hd ha hq h1 hlim k (upF a u o p) (n+1) ⟨λq hq=>hk.len q (lQ _ hq),λq hq=>hk.a q (lQ _ hq),λq hq=>hk.b q (lQ _ hq)⟩ ω (by unfold upF;omega) r;refine⟨by rw[vX,show n+(k.length+1)=n+1+k.length by omega];exact j,s,λi q c=>?_⟩;cases i with
  |zero=>
   cases c;show OkUF a u o p;have x:=mxL_le (f.bdL h1) h1;have b1:=mxL_le (e.bdL h1) h1;have u1:=mxL_le ((H.mono (show h'<=h'+1 by omega)).bdL ω) ω;have i1:=mxL_le T.ib ω;have s1:=mxL_le T.sb ω;have o1:=Ho.bdL ω;have t:=T.m;have il:=T.il;have sl:=T.sl;have e1:p.2.length* (mxL p.2+mxL u+1)<=4* (h+h'+2):=vj l2 ω;have e2:p.1.length* (mxL p.1+mxL (dC (aH (aG p.2 u)) [ag (aH (aG p.2 u)) a])+1)<=4* (h'+3* h+13002):=vj l1 ω;have w:(aH (aG p.2 u)).length* (mxL (aH (aG p.2 u))+qs a+1)<=250* (h'+2* h+13021):=vj ω ω;exact⟨⟨ω,ω,ω,ω⟩,ω,ek T.ib ω,⟨ω,ω⟩,ω,⟨ω,ω,ω,ω⟩,ek o1 ω,ω,ω⟩
  |succ i=>exact g i q φ
theorem yY{k:Ke}{a d KA KB K:Rat}{u:Lq}{h h':Nat}(hk:KHS k KA KB h)(hkl:k.length<=900)(hu:u.length<=240)(H:HS u K h')(d0:d≠0)(hd:IB d 20)(ha:IB (a* d) 20)(hq:qs a<=20)(h1:1<=h)(A0:KA≠0)(B0:KB≠0)(IA:IB KA h)(IBB:IB KB h)(hlim:h'+2* h+14000<=400000000):HS (upK k a u) (KA* (KB* K* ry 250* d^ 255)) (h'+2* h+13000+k.length)/\(upK k a u).length<=u.length+9/\BQ k a u:=by
 have c:HS [] (KA* (KB* K* ry 250* d^ 255)) (h'+2* h+13000+0):=by
  refine⟨λg=>?_,?_,λi=>(IB.zero _).eq (by show 0=(0:Rat) * _;grind)⟩;rcases y4.1 g with g|g
  exact A0 g;rcases y4.1 g with g|g
  rcases y4.1 g with g|g
  rcases y4.1 g with g|g
  exact B0 g;exact H.ne g;have:=wL 250;grind;exact pow_nz' d0 255 g;have b:=Az 250 ω;have hp:=mK hd 255;exact(IA.mul (((IBB.mul H.sc).mul b).mul hp)).mono ω
 have:=Ja hu H d0 hd ha hq h1 hlim k [] 0 hk ω (mN _) c;rw[vY] at this;exact this
def seK(k:Ke)(G:Lq)(L:Rat)(n:Nat):Nat->Lq
 |0=>[]
 |r+1=>Fk (ec G (aW (upK k 0 (seK k G L n r)) L)) n
theorem ze(k:Ke)(G:Lq)(L:Rat)(n:Nat):∀r,(seK k G L n r).length<=n+1
 |0=>by rw[seK];grind
 |r+1=>by exact C3 _ _
section
variable {k:Ke}{G:Lq}{L dL KA KB KG:Rat}{h:Nat}(hk:KHS k KA KB h)(hkl:k.length<=900)(h1:1<=h)(h2:h<=1000)(A0:KA≠0)(B0:KB≠0)(IA:IB KA h)(IBB:IB KB h)(HG:HS G KG 3000)(l0:dL≠0)(l1:IB dL 20)(l2:IB (L* dL) 20)
include hk hkl h1 h2 A0 B0 IA IBB HG l0 l1 l2
theorem Jy{n:Nat}(hn:n<=40):∀r,r<=1000->(∃K,HS (seK k G L n r) K (20000* r+1))/\BQ k 0 (seK k G L n r)
 |0,_=>⟨⟨1,HS.nil.mono ω⟩,(yY (u:=[]) (d:=1) hk hkl δ HS.nil δ (IB.one.mono ω) ((IB.zero 20).eq φ) δ h1 A0 B0 IA IBB ω).2.2⟩
 |r+1,hr=>by
  obtain⟨⟨K,H⟩,_⟩:=Jy hn r ω;have f:=ze k G L n r;have e:=(yY (a:=0) (d:=1) hk hkl ω H δ (IB.one.mono ω) ((IB.zero 20).eq φ) δ h1 A0 B0 IA IBB ω).1;have c:=e.k l0 l1 l2;have b:=((HG.plus2 c).cut n).mono (show _<=20000* (r+1)+1 by omega);exact⟨⟨_,b⟩,(yY (a:=0) (d:=1) hk hkl (by have:=C3 (ec G (aW (upK k 0 (seK k G L n r)) L)) n;omega) b δ (IB.one.mono ω) ((IB.zero 20).eq φ) δ h1 A0 B0 IA IBB ω).2.2⟩
end
def FL(v:Sp):Rat:=if 0<=v.1 then v.2 else if v.2<=0 then -v.1 else lY [-v.1,v.2]
def fX{α:Type}(f:α->Rat):List α->Rat
 |[]=>0
 |p::k=>f p+fX f k
section
variable {a b:Rat}
def m21(a b:Rat):Lq:=sqL (moQ [1] (a,b)) 21
@[simp] theorem Ew (a b:Rat):(m21 a b).length=21:=by simp[m21]
theorem Kx(i:Nat)(h:i< 21):coP (m21 a b) i=itP a b (gK [1] i):=by
 unfold m21 sqL coP;rw[jH];simp[h];rfl
theorem mo21(ha:qs a<=20)(hb:qs b<=20)(i:Nat)(hi:i< 21):Kf [1] (a,b) i/\qs (moQ [1] (a,b) i)<=3000:=by
 have h:∀i,i< 21->bdL (gK [1] i) 1/\(gK [1] i).length<=21/\bdL (aH (gK [1] i)) 6/\(aH (gK [1] i)).length<=22:=by decide+kernel
 obtain⟨e,f,c,d⟩:=h i hi;have m1:=mxL_le e δ;have m2:=mxL_le c δ;have e1:=jP (x:=a) (s:=6) ha c;have e2:=jP (x:=b) (s:=6) hb c;have k:=mC (6+20+1) d;have m:=vj d (show mxL (aH (gK [1] i))+qs a+1<=27 by omega);have j:=vj d (show mxL (aH (gK [1] i))+qs b+1<=27 by omega);have n:mxL [0,1]=1:=by decide+kernel
 have l:=vj f (show mxL (gK [1] i)+mxL [0,1]+1<=10 by omega);refine⟨⟨λq g=>fo (e q g) δ,ω,⟨by show _* (_+qs a+1)+_+qs a+2<=_;omega,ω⟩,⟨by show _* (_+qs b+1)+_+qs b+2<=_;omega,ω⟩,⟨ω,ω,ω,ψ⟩⟩,?_⟩;have:=po (ag (aH (gK [1] i)) b) (ag (aH (gK [1] i)) a);show qs (ag (aH (gK [1] i)) b- ag (aH (gK [1] i)) a)<=3000;omega
theorem m21_bd(ha:qs a<=20)(hb:qs b<=20):bdL (m21 a b) 3000:=λq c=>by
 obtain⟨i,d,rfl⟩:=sd.1 c;exact(mo21 ha hb i (xd.1 d)).2
theorem sq_pos{T:Lq}(hT:nz T)(hab:a< b):0< itP a b (aG T T):=by
 refine zv λr=>?_;obtain⟨F,s⟩:∃F,F=aH (aG T T):=⟨_,rfl⟩;have p:∀z,dvE F z=ag T z* ag T z:=λz=>by rw[s,CV,az]
 have u:∀z,0<=dvE F z:=λz=>by
  rw[p];rcases Rat.le_total (a:=0) (b:=ag T z) with h|h
  exact EE h h;have:=EE (show 0<= -ag T z by grind) (show 0<= -ag T z by grind);grind
 have B:∀z,a<=z->z<=b->ag F z=ag F a:=λz c k=>by
  have l1:=Bp (H:=F) c λt _ _=>u t;have l2:=Bp (H:=F) k λt _ _=>u t;unfold itP at r;rw[<-s] at r;grind
 obtain⟨N,hN⟩:∃N,N=(dC F (dk (ag F a))).length:=⟨_,rfl⟩;have d:∀i:Nat,(0:Rat)< (((i+1:Nat):Int):Rat):=λi=>Rat.intCast_pos.2 ω
 have n:∀i:Nat,0< 1/ (((i+1:Nat):Int):Rat)/\1/ (((i+1:Nat):Int):Rat)<=1:=λi=>by
  have J:=d i
  have c:(1:Rat)<=(((i+1:Nat):Int):Rat):=by
   have:((1:Int):Rat)<=(((i+1:Nat):Int):Rat):=Rat.intCast_le_intCast.2 ω;exact this
  have k:=zp (a:=1) (show(((i+1:Nat):Int):Rat)≠0 by grind);generalize 1/ (((i+1:Nat):Int):Rat)=w at *
  generalize (((i+1:Nat):Int):Rat)=q at *
  have l:0< w:=by
   refine zv λg=>?_;have:=EE (show 0<= -w by grind) (show 0<=q by grind);grind
  refine⟨l,?_⟩;have:=EE (show 0<=w by grind) (show 0<=q- 1 by grind);grind
 have o:(aI N λi=>a+(b- a) * (1/ (((i+1:Nat):Int):Rat))).Nodup:=by
  refine BW (x:=λi=>a+(b- a) * (1/ (((i+1:Nat):Int):Rat))) λi j _ _ e=>?_;have e:a+(b- a) * (1/ (((i+1:Nat):Int):Rat))=a+(b- a) * (1/ (((j+1:Nat):Int):Rat)):=e;have c:=zp (a:=1) (show(((i+1:Nat):Int):Rat)≠0 by have:=d i;grind);have k:=zp (a:=1) (show(((j+1:Nat):Int):Rat)≠0 by have:=d j;grind);have D:(b- a) * (1/ (((i+1:Nat):Int):Rat)- 1/ (((j+1:Nat):Int):Rat))=0:=φ
  have v:1/ (((i+1:Nat):Int):Rat)=1/ (((j+1:Nat):Int):Rat):=by
   rcases y4.1 D with h|h <;> grind
  have A:(((i+1:Nat):Int):Rat)=(((j+1:Nat):Int):Rat):=by
   rw[<-v] at k;generalize 1/ (((i+1:Nat):Int):Rat)=w at *
   have l:w≠0:=λe=>by rw[e] at c;grind
   have E:w* ((((i+1:Nat):Int):Rat)- (((j+1:Nat):Int):Rat))=0:=φ
   rcases y4.1 E with h|h
   exact absurd h l;grind
  have:=NL.1 A;omega
 have f:=mI N (dC F (dk (ag F a))) _ (NR hN.symm) ψ o λy C=>by
  obtain⟨i,O,rfl⟩:=sd.1 C;obtain⟨M,G⟩:=n i;have L:=EE (show 0<=b- a by grind) (show 0<=1/ (((i+1:Nat):Int):Rat) by grind);have K:=EE (show 0<=b- a by grind) (show 0<=1- 1/ (((i+1:Nat):Int):Rat) by grind);rw[cv,iB,B _ φ φ];grind
 have m:∀z,ag T z=0:=λz=>by
  have c:dvE F z=0:=by
   rw[oO (q:=dk (ag F a)) (λt=>by have:=f t;rw[cv,iB] at this;rw[iB];grind) z,IM]
  rw[p] at c;rcases y4.1 c with h|h <;> exact h
 exact hT (by rw[eM (q:=[]) λz=>by rw[m z,aS]];rfl)
section
variable {x:Nat->Rat}{n:Nat}(hx:∀i j,i< n->j< n->x i=x j->i=j)(hn:1<=n/\n<=5)
include hx hn
omit hx in
theorem Kl(hab:a< b)(W:Lq):∃i,i<=2* n/\coP (m21 a b) i≠trP (ndP x n) (aG W (gK [1] i)):=by
 refine zv λl=>?_;obtain⟨d,o,_⟩:=jC x n;obtain⟨k,g⟩:=lV x n;have j:∀i,i< 2* n+1->coP (m21 a b) i=trP (ndP x n) (aG W (gK [1] i)):=λi m=>zv λe=>l ⟨i,ω,e⟩;have f:(am (ndP x n)).length<=n+1:=by rw[k,g];exact ir _
 have c:(am (aG (ndP x n) (ndP x n))).length<=2* n+1:=by have:=len_mul f f;omega
 have h:=BS d j (p:=aG (ndP x n) (ndP x n)) c;rw[HT d,Kj (N:=2* n+1) (a:=a) (b:=b) (λi m=>Kx i ω) c] at h;have:=sq_pos d hab;grind
theorem Km{D:Nat}{W:Lq}(hD:D<=21)(hr:∀i,i< D->coP (m21 a b) i=trP (ndP x n) (aG W (gK [1] i))){p:Lq}(hp:(am p).length<=D):sQ (λi=>ag W (x i) * ag p (x i)) n=itP a b p:=by
 obtain⟨d,e,_⟩:=jC x n;have c:=BS d hr hp;rw[Kj (N:=D) (a:=a) (b:=b) (λi f=>Kx i ω) hp] at c;rw[c,tr_nd hx hn.1];exact cw n λi _=>by rw[az]
end
end
section
variable {f:Int}{n:Nat}
theorem Gp(n:Int):qs (n:Rat)<=max (bl n.natAbs) 1:=by
 have e1:(n:Rat).num=n:=rfl;have e2:(n:Rat).den=1:=rfl;unfold qs;rw[e1,e2,jx];exact ir _
def xN(f:Int)(i:Nat):Rat:=((f+(i:Int):Int):Rat)
theorem DG{i j:Nat}(e:xN f i=xN f j):i=j:=by
 have:=NL.1 e;omega
theorem xN_qs(hf: -128<=f/\f<=127){i:Nat}(hi:i<=5):qs (xN f i)<=8:=by
 refine fo (Gp _) ?_;have:bl (f+(i:Int)).natAbs<=8:=fx ω;omega
theorem co_line(p:Lq)(c:Rat)(i:Nat):coP (aG p [-c,1]) i=coP (0::p) i- coP p i* c:=by
 have h:Eqv (aG p [-c,1]) (dC (0::p) (aW p c)):=λx=>by
  rw[az,kV,cv,aT];show _=(ag p x* x+0)- _;grind
 rw[trim_iff.1 (eqv_trim.1 h),jE,bY]
theorem zS{f:Int}(hf: -128<=f/\f<=127):∀n,n<=5->∀i,∃z:Int,coP (ndP (xN f) n) i=(z:Rat)/\z.natAbs<=133^ n
 |0,_,i=>by
  rw[ndP];cases i with
  |zero=>exact⟨1,rfl,δ⟩
  |succ i=>exact⟨0,rfl,δ⟩
 |n+1,hn,i=>by
  have c:=zS hf n ω;obtain⟨a,e1,b1⟩:=c i
  obtain⟨b,e0,e⟩:∃z:Int,coP (0::ndP (xN f) n) i=(z:Rat)/\z.natAbs<=133^ n:=by
   cases i with
   |zero=>exact⟨0,rfl,ψ⟩
   |succ i=>exact c i
  rw[ndP,co_line,e0,e1];refine⟨b- a* (f+(n:Int)),by rw[Pa,Nt];rfl,?_⟩;have d:(b- a* (f+(n:Int))).natAbs<=b.natAbs+(a* (f+(n:Int))).natAbs:=ω
  rw[NV] at d;have g:a.natAbs* (f+(n:Int)).natAbs<=133^ n* 132:=vj b1 ω;rw[D7];omega
theorem JZ(h:n<=5):133^ n< 2^ 36:=G9 (vi δ h) δ
theorem zT(hf: -128<=f/\f<=127)(hn:n<=5):bdL (ndP (xN f) n) 36:=by
 refine iV λi=>?_;obtain⟨z,e,b⟩:=zS hf n hn i;rw[e];refine fo (Gp _) ?_;have:bl z.natAbs<=36:=fx (G9 b (JZ hn));omega
theorem ndP_Ht(hf: -128<=f/\f<=127)(hn:n<=5):Ht (ndP (xN f) n) 141:=⟨1,δ,λi=>by
 obtain⟨z,e,b⟩:=zS hf n hn i;exact⟨z,by rw[e,Rat.mul_one],fo (fx (G9 b (JZ hn))) δ⟩⟩
theorem sD(f:Int)(t:Rat):∀n,ag (ndP (xN f) n) ((f:Rat)+t)=ag (ndP (xN 0) n) t
 |0=>by rw[ndP,ndP,wQ,wQ]
 |n+1=>by
  rw[Gy,Gy,sD f t n];have:xN f n=(f:Rat)+xN 0 n:=by unfold xN;rw[Rat.intCast_add,Int.zero_add]
  rw[this];grind
def hN(i:Nat):Rat:=((2* (i:Int)- 1:Int):Rat) / 2
theorem KP:∀n,n<=5->∀i,i< n->ag (ndP (xN 0) n) (hN i) * ag (ndP (xN 0) n) (hN (i+1))< 0/\hN i< hN (i+1):=by decide+kernel
theorem Kn(hf: -128<=f/\f<=127)(hn:1<=n/\n<=5):
    ∃c,e8 9 (ndP (xN f) n)=some c/\(∀x,qs x<=10000000->sv c x/\pp c x)/\dR c (cg (ndP (xN f) n))- dN c (-cg (ndP (xN f) n))=(n:Int):=by
 obtain⟨k,b,_⟩:=jC (xN f) n;obtain⟨o,g⟩:=lV (xN f) n;obtain⟨c,l,m⟩:=C4 cOK_w k (by rw[o,g];omega) (by rw[g];omega) (bdL_mono' (zT hf hn.2) δ);obtain⟨A,B,d⟩:=nd_co (x:=xN f) (n:=n) λi j _ _ e=>DG e;refine⟨c,l,m,?_⟩;have h:=Fl l k d (λi=>(f:Rat)+hN i) (λi a=>?_) (λi a=>?_) ω;rw[h,b];rw[b] at a;have:=(KP n hn.2 i a).2;show(f:Rat)+hN i< (f:Rat)+hN (i+1);grind;rw[b] at a;show ag _ ((f:Rat)+hN i) * ag _ ((f:Rat)+hN (i+1))< 0;rw[sD,sD];exact(KP n hn.2 i a).1
end

def mvK(a:Rat)(k:Ke):Ke:=k.map λp=>(cJ [a,1] p.1,cJ [a,1] p.2)
theorem HS.take{p:Lq}{K:Rat}{h:Nat}(H:HS p K h)(n:Nat):HS (p.take n) K h:=⟨H.ne,H.sc,λi=>by
 rw[C5];split;exact H.co i;exact(IB.zero h).eq φ⟩
theorem CF{f:Lq×Lq->Lq}{m:Nat}:∀k:Ke,(∀p∈k,(f p).length<=m)->(k.flatMap f).length<=m* k.length
 |[],_=>by simp
 |p::k,h=>by
  have b:=h p (mu ..);have c:=CF k λq a=>h q (lQ _ a);rw[List.flatMap_cons,zq,vX,Nat.mul_succ];omega
theorem HC{f:Lq×Lq->Lq}{k:Ke}(hl:k.length<=3)(h4:∀p∈k,(f p).length<=4)(hb:∀p∈k,bdL (f p) 20):∃K,K≠0/\IB K 241/\∀p∈k,HS (f p) K 241:=by
 obtain⟨K,H⟩:=Bd (s:=20) (k.flatMap f) λq a=>by
  obtain⟨p,hp,a⟩:=List.mem_flatMap.1 a;exact hb p hp q a
 have c:=CF k h4;have H:=H.mono (show _<=241 by omega);refine⟨K,H.ne,H.sc,λp hp=>⟨H.ne,H.sc,λi=>?_⟩⟩;by_cases hi:i< (f p).length
 have b:coP (f p) i∈k.flatMap f:=List.mem_flatMap.2 ⟨p,hp,by
  unfold coP;grind⟩
 obtain⟨j,_,e⟩:=u5 b;rw[<-e];exact H.co j;rw[eC ω];exact(IB.zero _).eq φ
theorem ML{k:Ke}(hl:k.length<=3)(h4:∀p∈k,p.1.length<=4/\p.2.length<=4)(hb:∀p∈k,bdL p.1 20/\bdL p.2 20):∃KA KB,KHS k KA KB 241/\KA≠0/\KB≠0/\IB KA 241/\IB KB 241:=by
 obtain⟨KA,a,b,c⟩:=HC (f:=λp=>p.1) hl (λp hp=>(h4 p hp).1) λp hp=>(hb p hp).1;obtain⟨KB,b1,b2,d⟩:=HC (f:=λp=>p.2) hl (λp hp=>(h4 p hp).2) λp hp=>(hb p hp).2;exact⟨KA,KB,⟨h4,c,d⟩,a,b1,b,b2⟩
theorem I2{k:Ke}{a d KA KB:Rat}{h:Nat}(hk:KHS k KA KB h)(A0:KA≠0)(B0:KB≠0)(IA:IB KA h)(IBB:IB KB h)(d0:d≠0)(hd:IB d 20)(ha:IB (a* d) 20):∃KA' KB',KHS (mvK a k) KA' KB' (h+70)/\KA'≠0/\KB'≠0/\IB KA' (h+70)/\IB KB' (h+70):=by
 have hp:=mK hd 3
 have f:∀(l:Lq) (K:Rat),K≠0->IB K h->HS l K h->l.length<=4->HS (cJ [a,1] l) (K* d^ 3) (h+70):=λl K m o H r=>by
  cases l with
  |nil=>exact⟨λg=>(y4.1 g).elim m (pow_nz' d0 3),(o.mul hp).mono ω,λi=>(IB.zero _).eq (by show 0=(0:Rat) * _;grind)⟩
  |cons b l=>
   rw[vX] at r;have n:=xk d0 hd ha l b H;have e0:d^ l.length* d^ (3- l.length)=d^ 3:=by rw[<-tZ,show l.length+(3- l.length)=3 by omega]
   have j:=n.rescale (pow_nz' d0 (3- l.length)) (mK hd (3- l.length));rw[show K* d^ l.length* d^ (3- l.length)=K* d^ 3 by grind] at j;exact j.mono ω
 have m0:∀p∈mvK a k,∃q∈k,p=(cJ [a,1] q.1,cJ [a,1] q.2):=λp hp=>by
  obtain⟨q,c,e⟩:=sd.1 hp;grind
 refine⟨KA* d^ 3,KB* d^ 3,⟨λp hp=>?_,λp hp=>?_,λp hp=>?_⟩,λg=>(y4.1 g).elim A0 (pow_nz' d0 3),λg=>(y4.1 g).elim B0 (pow_nz' d0 3),(IA.mul hp).mono ω,(IBB.mul hp).mono ω⟩;obtain⟨q,c,rfl⟩:=m0 p hp;obtain⟨u,s⟩:=hk.len q c;have t:=kY a q.1;have v:=kY a q.2;exact⟨φ,φ⟩;obtain⟨q,c,rfl⟩:=m0 p hp;exact f _ _ A0 IA (hk.a q c) (hk.len q c).1;obtain⟨q,c,rfl⟩:=m0 p hp;exact f _ _ B0 IBB (hk.b q c) (hk.len q c).2


section
variable {k n i m new j:Nat}{x:Lc}{A:Nat->Nat->Rat}{w s:Nat->Nat}
theorem xO(n:Nat)(f:Nat->Rat):aI (n+1) f=aI n f++[f n]:=by simp[aI,FI]
theorem bR{t:Nat}{x:Option ABlk}{l:Hp}(h:k≠t):ap ((k,x)::l) t=ap l t:=by
 rw[dw];unfold upd;grind
def fiL(A:Nat->Nat->Rat)(n i:Nat):List Lc:=(List.range i).map λk=>pE (aI n (A k))
@[simp] theorem mU (A:Nat->Nat->Rat)(n i:Nat):(fiL A n i).length=i:=by simp[fiL]
theorem fh(h:k< i):(fiL A n i)[k]?=some (pE (aI n (A k))):=by simp[fiL,h]
theorem LH(A:Nat->Nat->Rat)(n i:Nat):fiL A n i++[pE (aI n (A i))]=fiL A n (i+1):=by simp[fiL,FI]
theorem nY{e:Lc}(h:(fiL A n i)[k]?=some e):k< i/\e=pE (aI n (A k)):=by
 have a:=(jY.1 h).1;rw[mU] at a;rw[fh a] at h;grind
def foE(w:Nat->Nat)(s:Nat->Nat)(n m:Nat):Lc:=mzO 3 w s m++List.replicate (n- m) [.emp]
theorem jp(h:m<=n):(foE w s n m).length=n:=by simp[foE];omega
theorem foE_0(w:Nat->Nat)(s:Nat->Nat)(n:Nat):foE w s n 0=List.replicate n [.emp]:=rfl
theorem Ay(h:k< m):(foE w s n m)[k]?=some [.lsl (s (k+2)) 0 (w k) none 3]:=by
 unfold foE;rw[Bg (by simp_all)];exact zV h
theorem E7(h:m<=k)(hk:k< n):(foE w s n m)[k]?=some [.emp]:=by
 unfold foE;rw[D2 (by simp_all),MS,if_pos (by simp only[pq];omega)]
theorem G5(hm:m<=n)(hk:n<=k):(foE w s n m)[k]?=none:=by
 rw[zt];rw[jp hm];grind
theorem foE_n(w:Nat->Nat)(s:Nat->Nat)(n:Nat):foE w s n n=mzO 3 w s n:=by simp[foE]
theorem II{w':Nat->Nat}{s':Nat->Nat}(h:∀k,k< m->w k=w' k/\s (k+2)=s' (k+2)):foE w s n m=foE w' s' n m:=by
 unfold foE mzO;simp_all
theorem G3{w':Nat->Nat}{s':Nat->Nat}(hm:m=i\/m=i+1)(hi:i< n)(h:∀k,k< i->w k=w' k/\s (k+2)=s' (k+2)):∀e:Nat,e=i->(foE w s n m).set e [.lsl (s' (i+2)) 0 (w' i) none 3]=foE w' s' n (i+1):=by
 rintro e rfl;refine DE λk=>?_;have a:m<=n:=ω
 rw[Aa,jp a];split
 ·rw[Ay ω]
  try grind
 ·by_cases hk:k< e
  rw[Ay ω,Ay ω,(h k hk).1,(h k hk).2];by_cases hkn:k< n;rw[E7 ω hkn,E7 ω hkn];rw[G5 a ω,G5 ω ω]
theorem Dz{r:Ren}{hp hp':Hq}:∀{a b c d:Lc},CvLL r hp hp' a b->CvLL r hp hp' c d->CvLL r hp hp' (a++c) (b++d)
 |[],_,_,_,h,h2=>by cases (h:_=[]);grind
 |x::xs,_,_,_,⟨y,ys,e,h1,h3⟩,h2=>by subst e;exact⟨y,_,rfl,h1,Dz h3 h2⟩
theorem mD{hp hp':Hq}(h:Shr ⟨40,s⟩ hp hp')(hm:m<=30)(hl:∀i,i< m->(hp' (i+2)).isSome=true):CvLL ⟨40,s⟩ hp hp' (foE w s n m) (foE w (λi=>i) n m):=
 Dz (og hm hl) (bv h λe b c a=>by
  rw[(List.mem_replicate.1 b).2,kI] at a;rw[a];exact dy)
def fiR(i new x:Nat):Nat:=cond (Nat.beq x (i+2)) new x
theorem jD(h:k≠i):fiR i new (k+2)=k+2:=by
 unfold fiR;rw[show Nat.beq (k+2) (i+2)=false by cases hb:Nat.beq (k+2) (i+2) with|false=>rfl|true=>simp_all];rfl
theorem oM(i new:Nat):fiR i new (i+2)=new:=by unfold fiR;simp
theorem CL(i new:Nat):fiR i new 1=1:=by
 unfold fiR;rfl
theorem CM(i new:Nat):fiR i new 0=0:=by
 unfold fiR;rfl
theorem ru(hm:m<=40)(hn:40<=new)(x y:Nat)(hx:x< m)(hy:y< m)(h:fiR i new x=fiR i new y):x=y:=by
 unfold fiR at h;cases h1:Nat.beq x (i+2)<;> cases h2:Nat.beq y (i+2)<;> rw[h1,h2] at h <;> simp only[cond_true,cond_false] at h;exact h;omega;omega;simp_all
def wJ(n i j k:Nat):Nat:=cond (Nat.blt k i) n j
theorem I8(h:k< i):wJ n i j k=n:=by unfold wJ;rw[show Nat.blt k i=true from OE h];rfl
theorem FU:wJ n i j i=j:=by
 unfold wJ;rw[show Nat.blt i i=false by cases hb:Nat.blt i i with|false=>rfl|true=>simp_all];rfl
theorem fi_set(hi:i< n):∀e:Nat,e=i->(foE (wJ n i (j+1)) (λx=>x) n (i+1)).set e [.lsl new 0 (j+1+1) none 3]=foE (wJ n i (j+1+1)) (fiR i new) n (i+1):=λe b=>by
 have:=G3 (w:=wJ n i (j+1)) (w':=wJ n i (j+1+1)) (s:=λx=>x) (s':=fiR i new) (n:=n) (m:=i+1) (i:=i) (.inr rfl) hi (λk a=>⟨by rw[I8 a,I8 a],(jD ω).symm⟩) e b;rw[oM,FU] at this;grind
theorem fi_set0(hi:i< n):∀e:Nat,e=i->(foE (λ_=>n) (λx=>x) n i).set e [.lsl new 0 (0+1) none 3]=foE (wJ n i (0+1)) (fiR i new) n (i+1):=λe b=>by
 have:=G3 (w:=λ_=>n) (w':=wJ n i (0+1)) (s:=λx=>x) (s':=fiR i new) (n:=n) (m:=i) (i:=i) (.inl rfl) hi (λk a=>⟨by rw[I8 a],(jD ω).symm⟩) e b;rw[oM,FU] at this;grind
theorem foE_ge'(h:m<=k)(hk:k< n):∀e,e=k->(foE w s n m)[e]?=some [.emp]:=λe a=>by rw[a];exact E7 h hk
theorem foE_lt'(h:k< m)(hj:w k=j):∀e,e=k->(foE w s n m)[e]?=some [.lsl (s (k+2)) 0 j none 3]:=λe a=>by rw[a,<-hj];exact Ay h
theorem rv:(fiL A n i++[x])[i]?=some x:=ψ
theorem sU(h:k< i):(fiL A n i++[x])[k]?=some (pE (aI n (A k))):=by
 rw[Bg (by simp_all)];exact fh h
theorem E8{e:Lc}(h:(fiL A n i++[x])[k]?=some e):(k< i/\e=pE (aI n (A k)))\/(k=i/\e=x):=by
 have a:=(jY.1 h).1;rw[zq,mU,xb] at a;by_cases hk:k< i;rw[sU hk] at h;cases h;exact .inl ⟨hk,rfl⟩;obtain rfl:k=i:=ω
 simp_all
end
section
variable {R:Nat->Lq}{n k:Nat}{s:Nat->Nat}
def rwL(R:Nat->Lq)(n:Nat):List Lc:=(List.range n).map λk=>pE (R k)
@[simp] theorem pk (R:Nat->Lq)(n:Nat):(rwL R n).length=n:=by simp[rwL]
theorem F8(h:k< n):(rwL R n)[k]?=some (pE (R k)):=by simp[rwL,h]
theorem D4{e:Lc}(h:(rwL R n)[k]?=some e):k< n/\e=pE (R k):=by
 have a:=(jY.1 h).1;rw[pk] at a;rw[F8 a] at h;grind
theorem fiL_rwL(A:Nat->Nat->Rat)(n i:Nat):fiL A n i=rwL (λk=>aI n (A k)) i:=rfl
def rwO(R:Nat->Lq)(s:Nat->Nat)(n:Nat):Lc:=mzO 3 (λk=>(R k).length) s n
@[simp] theorem pj (R:Nat->Lq)(s:Nat->Nat)(n:Nat):(rwO R s n).length=n:=pq _ _ _ _
theorem eB(h:k< n):∀e,e=k->(rwO R s n)[e]?=some [.lsl (s (k+2)) 0 (R k).length none 3]:=λe a=>by rw[a];exact zV h
theorem rwO_out(h:n<=k):(rwO R s n)[k]?=none:=by simp_all
theorem gE{R':Nat->Lq}{s':Nat->Nat}(h:∀k,k< n->(R k).length=(R' k).length/\s (k+2)=s' (k+2)):rwO R s n=rwO R' s' n:=by
 refine DE λk=>?_;by_cases hk:k< n;rw[eB hk k rfl,eB hk k rfl,(h k hk).1,(h k hk).2];simp_all
def rwH(TS TQ:Nat)(R:Nat->Lq)(n:Nat)(ex:Hp):Hp:=mzX 3 TS TQ (rwO R (λx=>x) n) (rwL R n) ex
section
variable {fr fr':Fr}{hp ex:Hp}{nx N TS TQ n k:Nat}{R R':Nat->Lq}
theorem dP(hid:∀p∈ex,35<=p.1/\p.1< 40)(hn:n<=30)(h:k< n):ap (rwH TS TQ R n ex) (k+2)=some ⟨TQ,3,pE (R k)⟩:=mzX_row hid ω (F8 h)
theorem kL(hid:∀p∈ex,35<=p.1/\p.1< 40)(hn:n<=30)(h:k< n):dS (ap (rwH TS TQ R n ex)) (k+2)=some ⟨TQ,3,pE (R k)⟩:=ez (dP hid hn h) (show(3:Nat)≠0 by decide)
theorem cM(hid:∀p∈ex,35<=p.1/\p.1< 40):ap (rwH TS TQ R n ex) 1=some ⟨TS,1,rwO R (λx=>x) n⟩:=mzX_out hid
theorem SEntT.rw (s:Nat->Nat) (hn:n<=30) (s0:s 0=0) (hinj:∀i j,InX n i->InX n j->s i=s j->i=j) (h1:ap hp (s 1)=some ⟨TS,1,rwO R s n⟩) (hr:∀i,i< n->ap hp (s (i+2))=some ⟨TQ,3,pE (R i)⟩) (hid:∀p∈ex,35<=p.1/\p.1< 40)
    (hex:∀i B,(i,some B)∈ex->∃B0,ap hp (s i)=some B0/\B0.ty=B.ty/\B0.sz=B.sz/\B0.es.length=B.es.length)
    (hE:Shr ⟨40,s⟩ (ap hp) (ap (rwH TS TQ R n ex))->∀i B B0,(i,some B)∈ex->ap hp (s i)=some B0->CvLL ⟨40,s⟩ (ap hp) (ap (rwH TS TQ R n ex)) B0.es B.es)
    (hF:Shr ⟨40,s⟩ (ap hp) (ap (rwH TS TQ R n ex))->CvF ⟨40,s⟩ (ap hp) (ap (rwH TS TQ R n ex)) fr fr'):SEntT ⟨fr,hp,nx,N⟩ ⟨fr',rwH TS TQ R n ex,40,N⟩:=
 SEntT.mzx s (by simp_all) s0 (by rw[pk];grind) h1 ψ (λi e h=>by
  obtain⟨a,rfl⟩:=D4 h;exact⟨hr i a,aK _⟩) hid hex (λ_=>og hn λi b=>by
  show(ap (rwH TS TQ R n ex) (i+2)).isSome=true;rw[dP hid hn b];rfl) hE hF
end
def upR(R:Nat->Lq)(k:Nat)(r:Lq):Nat->Lq:=λi=>if i=k then r else R i
theorem eV(R:Nat->Lq)(k:Nat)(r:Lq):upR R k r k=r:=if_pos rfl
theorem lm(R:Nat->Lq){i:Nat}(r:Lq)(h:i≠k):upR R k r i=R i:=if_neg h
theorem JB{new m:Nat}{r:Lq}(hk:k< n)(hm:m=r.length):∀e:Nat,e=k->(rwO R (λx=>x) n).set e [.lsl new 0 m none 3]=rwO (upR R k r) (fiR k new) n:=λe a=>by
 subst a hm;refine DE λi=>?_;rw[Aa,pj];split
 ·rename_i h;subst h
  rw[eB hk e rfl,eV,oM]
 ·rename_i h
  by_cases hi:i< n;rw[eB hi i rfl,eB hi i rfl,lm _ _ (λe=>h e.symm),jD (λe=>h e.symm)];simp_all
def swx(a b x:Nat):Nat:=if x=a then b else if x=b then a else x
theorem swx_a(a b:Nat):swx a b a=b:=if_pos rfl
theorem swx_b(a b:Nat):swx a b b=a:=by unfold swx;grind
theorem ph{a b x:Nat}(h1:x≠a)(h2:x≠b):swx a b x=x:=by unfold swx;grind
theorem swx_inj{a b x y:Nat}(h:swx a b x=swx a b y):x=y:=by unfold swx at h;grind
theorem JA{p:Nat}(hk:k< n)(hp:p< n):∀a b:Nat,a=p->b=k->((rwO R (λx=>x) n).set a [.lsl (k+2) 0 (R k).length none 3]).set b [.lsl (p+2) 0 (R p).length none 3]=rwO (λi=>R (swx k p i)) (swx (k+2) (p+2)) n:=λa b ha hb=>by
 subst ha hb;refine DE λi=>?_;rw[Aa,Pe,Aa,pj];by_cases hi:i< n;rw[eB (R:=λi=>R (swx b a i)) hi i rfl];by_cases c:b=i;subst c;rw[swx_a,swx_a]
 try grind
 rw[if_neg c];by_cases h2:a=i;subst h2;rw[swx_b,swx_b]
 try grind
 rw[if_neg h2,eB hi i rfl,ph (λe=>c e.symm) (λe=>h2 e.symm),ph ω ω];have c:b≠i:=ω
 simp_all
end
section
variable {c n r:Nat}{M A:Mx}{x:Nat->Rat}{L:Ln}
def scM(M:Mx)(r:Nat)(f:Rat):Mx:=λi j=>if i=r then M i j* f else M i j
def rdM(M:Mx)(r k:Nat):Mx:=λi j=>if i=r then M i j else M i j- M i k* M r j
theorem vz(f:Nat->Rat)(u:Rat):∀n,sQ (λj=>f j* u) n=sQ f n* u
 |0=>by rw[sQ,sQ];grind
 |n+1=>by rw[sQ,sQ,vz f u n];grind
theorem F4{c:Rat}{k p:Nat}(hk:k< n)(hp:p< n):Sol c (swM M k p) n x↔Sol c M n x:=by
 refine⟨DW hk hp,λh=>?_⟩;refine DW (k:=k) (p:=p) hk hp λi a=>?_
 have e:∀j,swM (swM M k p) k p i j=M i j:=λj=>by
  unfold swM;by_cases h1:i=k;subst h1;by_cases h2:p=i;subst h2;simp;simp[h2];by_cases h2:i=p;subst h2;simp[h1];simp[h1,h2]
 rw[e,cw (g:=λj=>M i j* x j) n λj _=>by rw[e]];exact h i a
theorem sol_sc{c f:Rat}(hf:f≠0):Sol c (scM M r f) n x↔Sol c M n x:=by
 have a:∀i,(sQ (λj=>scM M r f i j* x j) n=c* scM M r f i n)↔(sQ (λj=>M i j* x j) n=c* M i n):=λi=>by
  unfold scM;by_cases e:i=r;simp only[if_pos e];rw[cw (g:=λj=>M i j* x j* f) n λj _=>by grind,vz];generalize sQ (λj=>M i j* x j) n=s;constructor;intro h;have d:f* (s- c* M i n)=0:=φ
  rcases y4.1 d with g|g
  exact absurd g hf;grind;intro h;rw[h];grind;simp only[if_neg e]
 exact⟨λh i b=>(a i).1 (h i b),λh i b=>(a i).2 (h i b)⟩
theorem sol_rd{c:Rat}{k:Nat}(hr:r< n):Sol c (rdM M r k) n x↔Sol c M n x:=by
 have e0:∀j,rdM M r k r j=M r j:=λj=>if_pos rfl;have e1:∀i j,i≠r->rdM M r k i j=M i j- M i k* M r j:=λi j h=>if_neg h
 have s1:∀i,i≠r->sQ (λj=>rdM M r k i j* x j) n=sQ (λj=>M i j* x j) n- M i k* sQ (λj=>M r j* x j) n:=λi h=>by
  rw[<-ot];exact cw n λj _=>by rw[e1 i j h];grind
 have d:sQ (λj=>rdM M r k r j* x j) n=sQ (λj=>M r j* x j) n:=cw n λj _=>by rw[e0]
 constructor;intro h i b;have a:=h r hr;rw[d,e0] at a;by_cases e:i=r;rw[e];exact a;have f:=h i b;rw[s1 i e,e1 i n e,a] at f;grind;intro h i b;have a:=h r hr;by_cases e:i=r;rw[e,d,e0];exact a;rw[s1 i e,e1 i n e,a,h i b];grind
def pvR(M:Mx)(n r c:Nat):Option Nat:=(List.range n).find? λp=>decide (r<=p/\M p c≠0)
theorem ny{p:Nat}(h:pvR M n r c=some p):p< n/\r<=p/\M p c≠0:=by
 have a:=List.find?_some h;have b:=Oo h;grind
theorem BJ(h:pvR M n r c=none):∀i,i< n->r<=i->M i c=0:=λi a d=>by
 have b:=OV.1 h i (xd.2 a);grind
def slC(A:Mx)(n:Nat)(L:Ln)(c:Nat):Mx×Ln:=match pvR A n L.length c with
 |none=>(A,L)
 |some p=>(rdM (scM (swM A L.length p) L.length (1/ A p c)) L.length c,L++[c])
def slM(M:Mx)(n:Nat):Nat->Mx×Ln
 |0=>(M,[])
 |c+1=>slC (slM M n c).1 n (slM M n c).2 c
structure Ech (A:Mx)(n c:Nat)(L:Ln):Prop where
 len:L.length<=c
 len2:L.length<=n
 lt:∀(i l:Nat),L[i]?=some l->l< c
 inc:∀(i j l m:Nat),L[i]?=some l->L[j]?=some m->i< j->l< m
 one:∀(i l k:Nat),L[i]?=some l->k< n->A k l=if k=i then 1 else 0
 low:∀(i l j:Nat),L[i]?=some l->j< l->A i j=0
 rest:∀i j,L.length<=i->i< n->j< c->A i j=0
theorem Ech.step(h:Ech A n c L):Ech (slC A n L c).1 n (c+1) (slC A n L c).2:=by
 unfold slC;cases e:pvR A n L.length c with
 |none=>
  show Ech A n (c+1) L;refine⟨by have:=h.len;omega,h.len2,λi l b=>by have:=h.lt i l b;omega,h.inc,h.one,h.low,λi j u s x=>?_⟩;by_cases e2:j=c;rw[e2];exact BJ e i s u;exact h.rest i j u s ω
 |some p=>
  obtain⟨p1,p2,K⟩:=ny e;show Ech (rdM (scM (swM A L.length p) L.length (1/ A p c)) L.length c) n (c+1) (L++[c]);have J:L.length< n:=ω
  have M:∀i l,L[i]?=some l->i< L.length:=λi l b=>(jY.1 b).1
  -- the rows after the exchange
  have y:∀i j,i< L.length->swM A L.length p i j=A i j:=λi j R=>by unfold swM;rw[if_neg ω,if_neg ω]
  have H:∀j,swM A L.length p L.length j=A p j:=λj=>by unfold swM;rw[if_pos rfl]
  have w:∀i j,L.length<=i->i< n->j< c->swM A L.length p i j=0:=λi j u s x=>by
   unfold swM;split;exact h.rest p j p2 p1 x;split;exact h.rest _ j (ir _) J x;exact h.rest i j u s x
  have F:∀i l k,L[i]?=some l->k< n->swM A L.length p k l=if k=i then 1 else 0:=λi l k b z=>by
   by_cases g:k< L.length;rw[y k l g];exact h.one i l k b z;have:=M i l b;rw[w k l ω z (h.lt i l b),if_neg ω]
  generalize S:swM A L.length p=B at *
  have v:∀i j,i≠L.length->scM B L.length (1/ A p c) i j=B i j:=λi j g=>if_neg g;have t:∀j,scM B L.length (1/ A p c) L.length j=B L.length j* (1/ A p c):=λj=>if_pos rfl
  have f:scM B L.length (1/ A p c) L.length c=1:=by
   rw[t,H];have:=zp (a:=1) K;grind
  have d:∀j,j< c->scM B L.length (1/ A p c) L.length j=0:=λj D=>by rw[t,w _ j (ir _) J D];grind
  generalize Q:scM B L.length (1/ A p c)=C at *
  have q:∀j,rdM C L.length c L.length j=C L.length j:=λj=>if_pos rfl;have r:∀i j,i≠L.length->rdM C L.length c i j=C i j- C i c* C L.length j:=λi j g=>if_neg g
  have snoc:∀i l,(L++[c])[i]?=some l->(i< L.length/\L[i]?=some l)\/(i=L.length/\l=c):=λi l b=>by
   rw[List.getElem?_append] at b;split at b
   ·rename_i g;exact .inl ⟨g,b⟩
   ·rename_i g
    have:i- L.length=0:=by
     have:=(jY.1 b).1;simp at this;omega
    rw[this] at b;cases b;exact .inr ⟨ω,rfl⟩
  refine⟨by have:=h.len;simp;omega,χ,λi l b=>?_,λi j l m b N E=>?_,λi l k b z=>?_,λi l j b D=>?_,λi j u s x=>?_⟩;rcases snoc i l b with⟨_,g⟩|⟨_,g⟩
  have:=h.lt i l g;omega;omega;rcases snoc i l b with⟨o,g⟩|⟨o,g⟩<;> rcases snoc j m N with⟨b1,G⟩|⟨b1,G⟩
  exact h.inc i j l m g G E;rw[G];exact h.lt i l g;omega;omega;rcases snoc i l b with⟨o,g⟩|⟨o,g⟩
  by_cases e1:k=L.length;subst e1;rw[q,d l (h.lt i l g),if_neg ω];rw[r k l e1,v k l e1,F i l k g z,d l (h.lt i l g)];grind;subst o g;by_cases e1:k=L.length;rw[if_pos e1,e1,q,f];rw[if_neg e1,r k l e1,f];grind;rcases snoc i l b with⟨o,g⟩|⟨o,g⟩
  have O:=h.lt i l g;rw[r i j ω,v i j ω,y i j o,h.low i l j g D,d j ω];grind;subst o g;rw[q,d j D];grind
theorem slC_sol{c0:Rat}:Sol c0 (slC A n L c).1 n x↔Sol c0 A n x:=by
 unfold slC;cases e:pvR A n L.length c with
 |none=>exact No
 |some p=>
  obtain⟨p1,p2,b⟩:=ny e
  have d:1/ A p c≠0:=λg=>by
   have:=zp (a:=1) b;rw[g] at this;grind
  exact(sol_rd ω).trans ((sol_sc d).trans (F4 ω p1))
theorem eA(M:Mx)(n:Nat):∀c,Ech (slM M n c).1 n c (slM M n c).2
 |0=>⟨ir _,mN _,λi l h=>by simp[slM] at h,λi j l m h=>by simp[slM] at h,λi l k h=>by simp[slM] at h,λi l j h=>by simp[slM] at h,λi j _ _ h=>by omega⟩
 |c+1=>(eA M n c).step
theorem oi{c0:Rat}{M:Mx}{n:Nat}{x:Nat->Rat}:∀c,Sol c0 (slM M n c).1 n x↔Sol c0 M n x
 |0=>No
 |c+1=>slC_sol.trans (oi c)
theorem Ech.row(h:Ech A n n L)(hx:∀j,j< n->j∉L->x j=0){i l:Nat}(hl:L[i]?=some l):sQ (λj=>A i j* x j) n=x l:=by
 have c:i< n:=ns (jY.1 hl).1 h.len2;have a:=h.lt i l hl;rw[cw (g:=λj=>if j=l then x l else 0) n λj d=>?_,jV,if_pos a];by_cases e:j=l;rw[if_pos e,e,h.one i l i hl c,if_pos rfl];grind;rw[if_neg e];by_cases g:j∈L;obtain⟨k,b⟩:=NE g;rw[h.one k j i b c,if_neg (λf=>e (by rw[f,b] at hl;cases hl;rfl))];grind;rw[hx j d g];grind
def oneX(A:Mx)(n:Nat)(L:Ln)(j:Nat):Rat:=if L.contains j then A (L.idxOf j) n else 0
theorem Ech.idx(h:Ech A n c L){i l:Nat}(hl:L[i]?=some l):L.idxOf l=i:=by
 have b:=mc hl;have a:L[L.idxOf l]?=some l:=φ
 by_cases e1:L.idxOf l< i;have:=h.inc _ _ _ _ a hl e1;omega;by_cases e2:i< L.idxOf l;have:=h.inc _ _ _ _ hl a e2;omega;omega
theorem Ech.oneX(h:Ech A n n L)(h0:∀i,L.length<=i->i< n->A i n=0):Sol 1 A n (Abs.oneX A n L):=λi b=>by
 have d:∀j,j< n->j∉L->Abs.oneX A n L j=0:=λj _ g=>by unfold Abs.oneX;rw[if_neg (by simpa using g)]
 by_cases g:i< L.length;have a:L[i]?=some L[i]:=eT g;rw[h.row d a];unfold Abs.oneX;rw[if_pos ψ,h.idx a];grind;rw[h0 i ω b,cw (g:=λj=>if j=n then 0 else 0) n λj c=>by rw[h.rest i j ω b c];grind,jV];split <;> grind
def zerX(A:Mx)(L:Ln)(f j:Nat):Rat:=if L.contains j then -A (L.idxOf j) f else if j=f then 1 else 0
theorem Ech.zerX(h:Ech A n n L){f:Nat}(hf:f< n)(hfL:f∉L):Sol 0 A n (Abs.zerX A L f):=λi c=>by
 -- split into the part on the leads and the free number
 have e1:∀j,j< n->A i j* Abs.zerX A L f j=A i j* (if L.contains j then -A (L.idxOf j) f else 0)+(if j=f then A i f else 0):=λj a=>by
  unfold Abs.zerX;by_cases g:j∈L;rw[if_pos (by simpa using g),if_pos (by simpa using g),if_neg (fun(e:j=f)=>hfL (by rw[<-e];exact g))];grind;rw[if_neg (show¬L.contains j=true by simpa using g),if_neg (show¬L.contains j=true by simpa using g)];by_cases e:j=f;rw[if_pos e,if_pos e,e];grind;rw[if_neg e,if_neg e];grind
 rw[cw n e1,vC,jV,if_pos hf]
 have d:∀j,j< n->j∉L->(λj=>if L.contains j then -A (L.idxOf j) f else 0) j=(0:Rat):=λj _ g=>by
  show(if L.contains j then _ else _)=_;rw[if_neg (by simpa using g)]
 by_cases g:i< L.length;have b:L[i]?=some L[i]:=eT g;rw[h.row d b];show(if L.contains L[i]=true then -A (L.idxOf L[i]) f else 0)+A i f=_;rw[if_pos ψ,h.idx b];grind;rw[cw (g:=λj=>if j=n then 0 else 0) n λj a=>by rw[h.rest i j ω c a];grind,jV,h.rest i f ω c hf];split <;> grind
theorem Ech.uniq(h:Ech A n n L){y:Nat->Rat}{c0:Rat}(hx:Sol c0 A n x)(hy:Sol c0 A n y)(hf:∀j,j< n->j∉L->x j=y j):∀j,j< n->x j=y j:=λj b=>by
 by_cases g:j∈L;obtain⟨i,c⟩:=NE g;have a:i< n:=ns (jY.1 c).1 h.len2;have e:=h.row (x:=λj=>x j- y j) (λj b g=>by show x j- y j=0;rw[hf j b g];grind) c;have d:=hx i a;have f:=hy i a;rw[cw (g:=λj=>A i j* x j- 1* (A i j* y j)) n λj _=>by grind,ot,d,f] at e;grind;exact hf j b g
end
section
variable {A:Nat->Nat->Rat}{l:Rat}{n i:Nat}
def svM(A:Nat->Nat->Rat)(l:Rat)(b:Nat->Rat)(n i j:Nat):Rat:=if j=n then b i else if j=i then -(A i j* l)+1 else -(A i j* l)
def mxr(A:Nat->Nat->Rat)(l:Rat)(n i j:Nat):Lq:=aI n λt=>if t< j then -(A i t* l) else A i t
@[simp] theorem wh (A:Nat->Nat->Rat)(l:Rat)(n i j:Nat):(mxr A l n i j).length=n:=by simp[mxr]
theorem mxr_0(A:Nat->Nat->Rat)(l:Rat)(n i:Nat):mxr A l n i 0=aI n (A i):=by unfold mxr;simp
theorem GB{j:Nat}(h:j< n):∀e,e=j->(pE (mxr A l n i j))[e]?=some (qC (A i j)):=λe a=>by
 subst a;simp[pE,mxr,aI,h]
theorem mxr_set{j:Nat}(h:j< n):∀e,e=j->(pE (mxr A l n i j)).set e (qC (-(A i j* l)))=pE (mxr A l n i (j+1)):=λe a=>by
 subst a;rw[jg];congr 1;refine DE λt=>?_;rw[Aa];by_cases ht:t< n;by_cases h1:e=t;subst h1;simp[mxr,aI,ht];rw[if_neg h1];simp only[mxr,aI,wS,MY ht,DS];by_cases h2:t< e;rw[if_pos h2,if_pos ω];rw[if_neg h2,if_neg ω];simp_all
def dgr(A:Nat->Nat->Rat)(l:Rat)(n i:Nat):Lq:=aI n λt=>if t=i then -(A i t* l)+1 else -(A i t* l)
@[simp] theorem Fj (A:Nat->Nat->Rat)(l:Rat)(n i:Nat):(dgr A l n i).length=n:=by simp[dgr]
theorem BZ(h:i< n):∀e,e=i->(pE (mxr A l n i n))[e]?=some (qC (-(A i i* l))):=λe a=>by
 subst a;simp[pE,mxr,aI,h]
theorem mxr_one(h:i< n):∀e,e=i->(pE (mxr A l n i n)).set e (qC (-(A i i* l)+1))=pE (dgr A l n i):=λe a=>by
 subst a;rw[jg];congr 1;refine DE λt=>?_;rw[Aa];by_cases ht:t< n;by_cases h1:e=t;subst h1;simp[dgr,aI,ht];rw[if_neg h1];simp only[mxr,dgr,aI,wS,MY ht,DS];rw[if_pos ht,if_neg λb=>h1 b.symm];simp_all
theorem dgr_app{b:Nat->Rat}:dgr A l n i++[b i]=aI (n+1) (svM A l b n i):=by
 rw[xO];congr 1;refine Nn λt a=>?_;have:=xd.1 a;simp only[svM,if_neg (show¬t=n by omega)];unfold svM;grind
def ph1(A:Nat->Nat->Rat)(l:Rat)(b:Nat->Rat)(n i k:Nat):Lq:=if k< i then aI (n+1) (svM A l b n k) else aI n (A k)
theorem ph1_0(A:Nat->Nat->Rat)(l:Rat)(b:Nat->Rat)(n:Nat):ph1 A l b n 0=λk=>aI n (A k):=funext λk=>if_neg ω
theorem ph1_n{b:Nat->Rat}{k:Nat}(h:k< n):ph1 A l b n n k=aI (n+1) (svM A l b n k):=if_pos h
theorem J5(A:Nat->Nat->Rat)(l:Rat)(b:Nat->Rat)(n i:Nat):ph1 A l b n i i=mxr A l n i 0:=by exact if_neg ω
theorem upR_up(R:Nat->Lq)(k:Nat)(r r':Lq):upR (upR R k r) k r'=upR R k r':=funext λi=>by unfold upR;grind
theorem upR_id(R:Nat->Lq)(k:Nat):upR R k (R k)=R:=funext λi=>by unfold upR;grind
theorem J4(A:Nat->Nat->Rat)(l:Rat)(b:Nat->Rat)(n i:Nat):upR (ph1 A l b n i) i (aI (n+1) (svM A l b n i))=ph1 A l b n (i+1):=funext λk=>by
 unfold upR ph1;grind
end
end Go.Abs
