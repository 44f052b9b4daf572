/- Part Y07 of the proof. -/
import Derived.Test.YtjmkjicckobojaaGreatDoorY06
import Derived.MapKept
import Derived.Lib.UnsafeStr
set_option linter.all false
namespace Go.Abs
open Go.RowKit
section
variable {b:Nat}{s:Option (List UInt8)}
def bE(s:List UInt8):Lc:=s.map λc=>[.v (.int .u8 c.toNat)]
theorem dK(s:List UInt8):(bE s).length=s.length:=by simp[bE]
theorem yH(s:List UInt8):∀e∈bE s,∀c∈e,Closed c:=by
 intro e a c b;obtain⟨x,_,rfl⟩:=sd.1 a;rw[kI.1 b];exact ah _
theorem yO(s t:List UInt8):bE (s++t)=bE s++bE t:=by simp[bE]
def fe(i j:Nat):Option (List UInt8)->La
 |none=>[.v (.pointer none),.emp]
 |some s=>[.lptr i 0 0,.lsl j 0 s.length none 1]
def updB(tB tb i j id:Nat)(s:Option (List UInt8))(t:List UInt8):List (Nat×Option ABlk):=
 match s with
 |none=>[(i,some ⟨tB,2,[fe i id (some t)]⟩),(id,some ⟨tb,1,bE t⟩)]
 |some _=>[(j,none),(i,some ⟨tB,2,[fe i id (some t)]⟩),(id,some ⟨tb,1,bE t⟩)]
def Pure(a:AV):Prop:=∀(M M':Nat->Prop) β β' w w' y,RV M β w a y->RV M' β' w' a y
structure BSpec (P:Program)(f tB tb:Nat)(s:Option (List UInt8))(t:List UInt8)(args:La)(r:AV):Prop where
 cl:∀a∈args,Closed a
 enters:∀(xs:Array Value) (w:World),(callFunc f xs).run P w= .ok (.enter f xs) w
 calls:∀(M0:Nat->Prop) (w0:Base) (β:Bq) (hp:Hq) (w:World) (id i j:Nat) (y0:Value) (vals:List Value),Mem M0 w0 β hp w->id≠0->β id=none->hp id=none->hp i=some ⟨tB,2,[fe i j s]⟩->
  (∀q,s=some q->hp j=some ⟨tb,1,bE q⟩/\i≠j)->RV (MM M0 β hp) β w (.lptr i 0 0) y0->RVs (MM M0 β hp) (λ_=>none) w args vals->
  Calls P f (y0::vals).toArray w λx w'=> ∃y,x= .returned y/\∃β',nj M0 w0 β hp w id ⟨r,updB tB tb i j id s t⟩ y w' β'
section
variable {P:Program}{M0:Nat->Prop}{w0:Base}{β:Bq}{hp:Hq}{w w':World}
theorem Mem.two (h:Mem M0 w0 β hp w) {i id bk tB tb:Nat} {B:ABlk} {D:Nat->Prop} {es es2:Lc} {hp2:Hq} {cs ck:Array Value} (hi:hp i=some B) (hb:β i=some (b,2)) (hid0:id≠0) (hid:β id=none) (hidh:hp id=none)
    -- hp2:the blocks but for those that are given up
    (hsub:∀x X,hp2 x=some X->hp x=some X) (h2i:hp2 i=some B) (hD:∀x,D x->x=b\/∃m X s,hp m=some X/\β m=some (x,s)/\(hp2 m=none)) (hDb:D b)
    (os:w'.os=w.os/\w'.tape=w.tape/\w'.output=w.output) (size:w.heap.size<=w'.heap.size) (block:∀x,x< w.heap.size->¬D x->w'.heap[x]?=w.heap[x]?) (sizes:∀x n,aY w x=some n->aY w' x=some n)
    (hbk:bk< w'.heap.size) (hbkn:w.heap.size<=bk\/(D bk/\bk≠b))
    (hcs:w'.heap[b]?=some (.cells cs tB (0,0))) (hck:w'.heap[bk]?=some (.cells ck tb (0,0)))
    (hes:∀M β2,(∀m x,β m=some x->β2 m=some x)->β2 id=some (bk,1)->RVess M β2 w' b 2 es 0) (hes2:∀M β2,RVess M β2 w' bk 1 es2 0) (hl:es.length* 2<=cs.size) (hl2:es2.length* 1<=ck.size):
    Mem M0 w0 (upd β id (some (bk,1))) (upd (upd hp2 i (some ⟨tB,2,es⟩)) id (some ⟨tb,1,es2⟩)) w'/\
     Stab (MM M0 β hp) (MM M0 (upd β id (some (bk,1))) (upd (upd hp2 i (some ⟨tB,2,es⟩)) id (some ⟨tb,1,es2⟩))) β (upd β id (some (bk,1))) w w':=by
 obtain⟨β2,C⟩:∃x,x=upd β id (some (bk,1)):=⟨_,rfl⟩;obtain⟨t,q⟩:∃x,x=upd (upd hp2 i (some (⟨tB,2,es⟩:ABlk))) id (some ⟨tb,1,es2⟩):=⟨_,rfl⟩;rw[<-C,<-q];have Q:i≠id:=λe=>by subst e;rw[hi] at hidh;cases hidh
 have F:∀m x,β m=some x->β2 m=some x:=λm x a=>by
  rw[C,bw];exact a;intro e;subst e;rw[hid] at a;cases a
 have j:β2 id=some (bk,1):=by rw[C,bq]
 have O:t id=some ⟨tb,1,es2⟩:=by rw[q,bq]
 have U:t i=some ⟨tB,2,es⟩:=by rw[q,bw _ _ Q,bq]
 have A:∀x,x≠id->x≠i->t x=hp2 x:=λx l g=>by rw[q,bw _ _ l,bw _ _ g]
 have E:∀x,x≠id->β2 x=β x:=λx l=>by rw[C,bw _ _ l]
 -- what is not written
 have nD:∀m X c s,hp2 m=some X->m≠i->β m=some (c,s)->¬D c:=by
  intro m X c s a f y r;rcases hD c r with rfl|⟨L,z,u,l,g,J⟩
  exact f (h.inj m i X B c s 2 (hsub m X a) hi y hb);have:=h.inj m L X z c s u (hsub m X a) l y g;subst this;rw[a] at J;cases J
 have nK:∀x,D x->¬w0.K x:=by
  intro x r;rcases hD x r with rfl|⟨L,z,u,_,g,_⟩
  exact(h.rng i _ 2 hb).1;exact(h.rng L x u g).1
 have W:¬w0.K bk:=by
  rcases hbkn with o|o
  intro v;have:=w0.lt bk v;have:=h.below.size;omega;exact nK bk o.1
 have G:∀x,D x->MM M0 β hp x:=by
  intro x r;rcases hD x r with rfl|⟨L,z,u,l,g,_⟩
  exact .inr ⟨i,B,2,hi,hb⟩;exact .inr ⟨L,z,u,l,g⟩
 have V:∀x,D x->∃N,aY w x=some N:=by
  intro x r
  have p:∀m X s,hp m=some X->β m=some (x,s)->∃N,aY w x=some N:=by
   intro m X s l g;obtain⟨b',e1,e2⟩:=h.blk m X l;rw[g] at e1;cases e1;exact e2.size
  rcases hD x r with rfl|⟨L,z,u,l,g,_⟩
  exact p i B 2 hi hb;exact p L z u l g
 have T:∀c,MM M0 β2 t c->MM M0 β hp c\/w.heap.size<=c:=by
  rintro c (y|⟨m,X,s,l,g⟩);exact .inl (.inl y);by_cases a:m=id;subst a;rw[j] at g;cases g;rcases hbkn with o|o
  exact .inr o;exact .inl (G bk o.1);rw[E m a] at g;by_cases f:m=i;subst f;exact .inl (.inr ⟨m,B,s,hi,g⟩);rw[A m a f] at l;exact .inl (.inr ⟨m,X,s,hsub m X l,g⟩)
 have st:Stab (MM M0 β hp) (MM M0 β2 t) β β2 w w':=
  ⟨⟨λc N hs a=>block c (cy hs) λr=>a (G c r),λc N hs a=>(T c a).elim (λh=>h) λo=>by have:=cy hs;omega,F,sizes⟩,
   λc S o=>block c S λr=>by obtain⟨N,hN⟩:=V c r;rw[hN] at o;cases o⟩
 refine⟨⟨⟨os.1.trans h.below.os,os.2.1.trans h.below.tape,os.2.2.trans h.below.output,fo h.below.size size,λk v=>(block k (ns (w0.lt k v) h.below.size) λr=>nK k r v).trans (h.below.block k v),λc n hs=>sizes c n (h.below.sizes c n hs)⟩,h.m0,
  λm c s a=>?_,λZ=>?_,λm X a=>?_,λm k X Y c s u l g J R=>?_⟩,st⟩
 by_cases d:m=id;subst d;rw[j] at a;cases a;exact⟨W,hbk⟩;rw[E m d] at a;exact⟨(h.rng m c s a).1,ns (h.rng m c s a).2 size⟩;rw[E 0 (Nz hid0)];refine h.pin ?_;by_cases h0i:0=i;rw[h0i,hi];rfl;rw[A 0 (Nz hid0) h0i] at Z;obtain⟨X,hX⟩:=xa.1 Z;rw[hsub 0 X hX];rfl;by_cases d:m=id;subst d;rw[O] at a;cases a;exact⟨bk,j,.inl ⟨N6,ck,hck,hes2 _ _,hl2⟩⟩;by_cases f:m=i;subst f;rw[U] at a;cases a;exact⟨b,F _ _ hb,.inl ⟨(by decide:(2:Nat)≠0),cs,hcs,hes _ _ F j,hl⟩⟩;rw[A m d f] at a;obtain⟨c,e1,e2⟩:=h.blk m X (hsub m X a);exact⟨c,F _ _ e1,e2.stab st.toStabC (block c (h.rng m c _ e1).2 (nD m X c _ a f e1))⟩
 have p:∀m X c s,t m=some X->β2 m=some (c,s)->m≠id->∃z,hp m=some z/\β m=some (c,s)/\c≠bk:=by
  intro m X c s a y d;rw[E m d] at y;by_cases f:m=i;subst f;rw[hb] at y;cases y;refine⟨B,hi,hb,?_⟩;rintro rfl;rcases hbkn with o|o
  have:=(h.rng m _ 2 hb).2;omega;exact o.2 rfl;rw[A m d f] at a;refine⟨X,hsub m X a,y,?_⟩;rintro rfl;rcases hbkn with o|o
  have:=(h.rng m _ s y).2;omega;exact nD m X _ s a f y o.1
 by_cases a:m=id;by_cases v:k=id;rw[a,v];subst a;rw[j] at J;cases J;obtain⟨_,_,_,H⟩:=p k Y _ u g R v;exact absurd rfl H;by_cases v:k=id;subst v;rw[j] at R;cases R;obtain⟨_,_,_,H⟩:=p m X _ s l J a;exact absurd rfl H;obtain⟨z,e1,e2,_⟩:=p m X c s l J a;obtain⟨Y',f1,f2,_⟩:=p k Y c u g R v;exact h.inj m k z Y' c s u e1 f1 e2 f2
theorem qh{M M':Nat->Prop}{β β':Bq}{b:Nat}:∀{t:List UInt8} {off:Nat},RVess M β w b 1 (bE t) off->RVess M' β' w b 1 (bE t) off
 |[],_,_=>trivial
 |_::_,_,⟨h0,⟨⟨x,h1,h2⟩,_⟩,h3⟩=>⟨h0,⟨⟨x,h1,h2⟩,trivial⟩,qh h3⟩
theorem xX {M M':Nat->Prop} {β β':Bq} {i j i' j':Nat} (hi:∀x,β i=some x->β' i'=some x) (hj:s≠none->∀x,β j=some x->β' j'=some x)
    (h:RVess M β w b 2 [fe i j s] 0):RVess M' β' w b 2 [fe i' j' s] 0:=by
 obtain⟨_,f,_⟩:=h;cases s with
 |none=>
  obtain⟨⟨x,d,a⟩,⟨y,e,c⟩,_⟩:=f;exact⟨rfl,⟨⟨x,d,a⟩,⟨y,e,c⟩,trivial⟩,trivial⟩
 |some q=>
  obtain⟨⟨x,d,⟨b1,s1,a,e⟩⟩,⟨y,c,⟨b2,g,l,k⟩⟩,_⟩:=f;exact⟨rfl,⟨⟨x,d,⟨b1,s1,hi _ a,e⟩⟩,⟨y,c,⟨b2,g,hj ψ _ l,k⟩⟩,trivial⟩,trivial⟩
def hpB(tB tb:Nat):Option (List UInt8)->List (Nat×Option ABlk)
 |none=>[(0,some ⟨tB,2,[fe 0 1 none]⟩)]
 |some q=>[(0,some ⟨tB,2,[fe 0 1 (some q)]⟩),(1,some ⟨tb,1,bE q⟩)]
theorem sH(tB tb:Nat)(s:Option (List UInt8))(m:Nat):ap (hpB tB tb s) m=if m=0 then some ⟨tB,2,[fe 0 1 s]⟩ else if m=1 then s.map λq=>⟨tb,1,bE q⟩ else none:=by
 cases s with
 |none=>
  rw[hpB,dw];unfold upd;by_cases h0:m=0;rw[if_pos h0,if_pos h0];by_cases h1:m=1;rw[if_pos h1];rfl;rw[if_neg h1];rfl
 |some q=>
  rw[hpB,dw];unfold upd;by_cases h0:m=0;rw[if_pos h0,if_pos h0];rw[if_neg h0,if_neg h0,dw];unfold upd;by_cases h1:m=1;rfl;rfl
def dropJ(hp:Hq)(j:Nat):Option (List UInt8)->Nat->Option ABlk
 |none=>hp
 |some _=>upd hp j none
theorem BSpec.intro {f:Nat} {fn:Func} {c:Code} {tB tb:Nat} {s:Option (List UInt8)} {t:List UInt8} {args:La} {r:AV} (hf:P.funcs[f]?=some fn) (hb:fn.body=some c) (hname:(fn.name== "runtime.NumGoroutine")=false)
    (hcl:∀a∈args,Closed a) (hpure:Pure r) (hn:args.length+1<=fn.ntmps)
    (h:AWp none P c (λx st=>(x= .normal\/x= .ret)/\ni P fn.results.toList st r/\∃k,k≠0/\ap st.hp 0=some ⟨tB,2,[fe 0 k (some t)]⟩/\ap st.hp k=some ⟨tb,1,bE t⟩) ⟨(0,.lptr 0 0 0)::dA 1 args,hpB tB tb s,2,fn.ntmps⟩):BSpec P f tB tb s t args r:=by
 refine⟨hcl,λxs w=>?_,λM0 w0 β hp w id i j y0 vals mem hid0 hid hidh hi hj hy0 hargs=>?_⟩;have hname':¬fn.name= "runtime.NumGoroutine" :=φ
 simp[callFunc,hf,hname',hb];refine(callsIn_wide (n:=0)).1 (callsIn_of_wp_marks (F:=Fence.wide) hf hb trivial ?_);have hlen:=hargs.length;obtain⟨b,sz0,hbi,rfl⟩:=hy0;obtain⟨b',cs,hbi',hh,hr,hl⟩:=mem.cells hi (by decide:(2:Nat)≠0);rw[hbi] at hbi';cases hbi';have hbi2:β i=some (b,2):=hbi
 -- the buffer
 have hbuf:∀q,s=some q->∃bj ck,β j=some (bj,1)/\w.heap[bj]?=some (.cells ck tb (0,0))/\RVess (MM M0 β hp) β w bj 1 (bE q) 0/\(bE q).length* 1<=ck.size/\bj≠b:=λq hq=>by
  obtain⟨h1,h2⟩:=hj q hq;obtain⟨bj,ck,e1,e2,e3,e4⟩:=mem.cells h1 (by decide:(1:Nat)≠0);exact⟨bj,ck,e1,e2,e3,e4,λe=>by subst e;exact h2 (mem.inj i j _ _ bj 2 1 hi h1 hbi2 e1)⟩
 let D:Nat->Prop:=λx=>x=b\/(s≠none/\∃ss,β j=some (x,ss))
 let M0c:Nat->Prop:=λx=>MM M0 β hp x/\¬D x
 let β0:Nat->Option (Nat×Nat):=λm=>if m=0 then some (b,2) else if m=1/\s≠none then β j else none
 have hDm:∀x,D x->x< w.heap.size/\MM M0 β hp x:=by
  rintro x (rfl|⟨hs,ss,hx⟩);exact⟨(mem.rng i x 2 hbi2).2,.inr ⟨i,_,2,hi,hbi2⟩⟩;obtain⟨q,hq⟩:=NA.1 hs;exact⟨(mem.rng j x ss hx).2,.inr ⟨j,_,ss,(hj q hq).1,hx⟩⟩
 let bs:Base:=⟨w,λx=>x< w.heap.size/\¬D x,λ_ h=>h.1,some (b,2),λ_=>undef,⟨mem.tab.lt,λhd=>mem.nt (hDm GT hd).2⟩,mem.tab⟩
 have hβ00:β0 0=some (b,2):=rfl;have hβ01:s≠none->β0 1=β j:=λhs=>by grind
 have hβ0c:∀m x ss,β0 m=some (x,ss)->D x/\(m=0\/m=1):=by
  grind
 have hmm:MM M0c β0 (ap (hpB tB tb s))=MM M0 β hp:=by
  funext x;refine propext ⟨?_,λhx=>?_⟩;rintro(hx|⟨m,B,ss,_,h2⟩);exact hx.1;exact(hDm x (hβ0c m x ss h2).1).2;by_cases hd:D x;rcases hd with rfl|⟨hs,ss,hx2⟩
  exact .inr ⟨0,⟨tB,2,[fe 0 1 s]⟩,2,by rw[sH];rfl,rfl⟩;obtain⟨q,hq⟩:=NA.1 hs;exact .inr ⟨1,⟨tb,1,bE q⟩,ss,by rw[sH,hq];rfl,(hβ01 hs).trans hx2⟩;exact .inl ⟨hx,hd⟩
 have hmem:Mem M0c bs β0 (ap (hpB tB tb s)) w:=by
  refine⟨⟨rfl,rfl,rfl,ir _,λ_ _=>rfl,λ_ _ h=>h⟩,λx hx=>⟨⟨mem.lt hx.1,hx.2⟩,λe=>mem.nt (e▸hx.1)⟩,λm x ss hm=>?_,(λ_=>rfl),λm B hm=>?_,λm k B B' x ss ss' h1 h2 h3 h4=>?_⟩;have:=hβ0c m x ss hm;exact⟨λhk=>hk.2 this.1,(hDm x this.1).1⟩;rw[hmm];rw[sH] at hm;split at hm
  ·rename_i h0;subst h0;cases hm
   exact⟨b,rfl,.inl ⟨(by decide:(2:Nat)≠0),cs,hh,xX (i:=i) (j:=j) (λx hx=>by rw[hbi2] at hx;cases hx;rfl) (λhs x hx=>(hβ01 hs).trans hx) hr,hl⟩⟩
  split at hm
  ·rename_i h1;subst h1
   cases hs:s with
   |none=>rw[hs] at hm;cases hm
   |some q=>
    rw[hs] at hm;cases hm;obtain⟨bj,ck,e1,e2,e3,e4,_⟩:=hbuf q hs;exact⟨bj,(hβ01 (by rw[hs];simp)).trans e1,.inl ⟨(by decide:(1:Nat)≠0),ck,e2,qh e3,e4⟩⟩
  cases hm;have g1:=(hβ0c m x ss h3).2;have g2:=(hβ0c k x ss' h4).2
  have hne:∀ss ss',β0 0=some (x,ss)->β0 1=some (x,ss')->False:=λss ss' e1 e2=>by
   cases e1;cases hs:s with
   |none=>simp only[β0] at e2;rw[if_neg δ,if_neg (by rw[hs];simp)] at e2;cases e2
   |some q=>
    obtain⟨bj,ck,f1,_,_,_,f2⟩:=hbuf q hs;rw[hβ01 (by rw[hs];simp),f1] at e2;cases e2;exact f2 rfl
  rcases g1 with rfl|rfl <;> rcases g2 with rfl|rfl
  rfl;exact(hne _ _ h3 h4).elim;exact(hne _ _ h4 h3).elim;rfl
 have hrel:jT M0c bs ⟨(0,.lptr 0 0 0)::dA 1 args,hpB tB tb s,2,fn.ntmps⟩ {tmps:=(Value.pointer (some ⟨b,0* 2+0,none⟩)::vals).toArray++Array.replicate (fn.ntmps- (Value.pointer (some ⟨b,0* 2+0,none⟩)::vals).toArray.size) undef,defers:=[]} w:=by
  refine⟨β0,hmem,χ,λt x hx=>?_,λm (hm:2<=m)=>⟨by simp only[β0];rw[if_neg ω,if_neg ω],ω⟩,⟨[],rfl,E9,ψ⟩⟩;show RV (MM M0c β0 (ap (hpB tB tb s))) _ _ _ _;rw[hmm,cN rfl];rw[show(look ((0,.lptr 0 0 0)::dA 1 args) t=some x)↔(upd (look (dA 1 args)) 0 (some (.lptr 0 0 0)) t=some x) by rw[b8]] at hx;obtain⟨y0,hy0⟩:∃y0,y0=Value.pointer (some ⟨b,0* 2+0,none⟩):=⟨_,rfl⟩;rw[<-hy0]
  have get:∀(k:Nat) (y:Value),(y0::vals)[k]?=some y->((y0::vals).toArray++Array.replicate (fn.ntmps- (y0::vals).toArray.size) undef).getD k undef=y:=by
   intro k y hk;have hlt:k< (y0::vals).length:=(jY.1 hk).1;rw[oj,zr (by simpa using hlt)];simp only[Ee];rw[hk];rfl
  unfold upd at hx;split at hx
  ·rename_i h0;subst h0;cases hx
   rw[get 0 y0 rfl];exact⟨b,2,rfl,by rw[hy0]⟩
  obtain⟨h1,y,h2,h3⟩:=gC hargs hx;rw[get t y (by rw[show t=(t- 1)+1 by omega,A6];exact h2)];exact StabC.all (w:=w) (w':=w) (M:=MM M0 β hp) (β:=λ_=>none) ⟨λ_ _ _ _=>rfl,λ_ _ _ h=>h,(λ_ _ h=>by cases h),λ_ _ h=>h⟩ h3
 refine wpIn_mono (h _ bs _ w hrel) λx a' w' ⟨st',⟨β',mem',hsz,hfr,hfree,Ds,hds,hnd,hDs⟩,he,hres,k,hk0,hl0,hlk⟩=>?_
 have hL:LeavesInM (FR none) 0 P fn a'.tmps (λx w'=> ∃y,x= .returned y/\∃β',nj M0 w0 β hp w id ⟨r,updB tB tb i j id s t⟩ y w' β') a'.defers .returning w':=by
  rw[hds];refine iN hres (λy w'' h1 h2 _ _=>?_) Ds w' hnd hDs mem' (λt x hx=>by have:=hfr t x hx;rwa[cN rfl] at this);have hb0:β' 0=some (b,2):=h2.pin (by rw[hl0];rfl);obtain⟨b1,cs1,e1,e2,e3,e4⟩:=h2.cells hl0 (by decide:(2:Nat)≠0);rw[hb0] at e1;cases e1;obtain⟨bk,ck1,f1,f2,f3,f4⟩:=h2.cells hlk (by decide:(1:Nat)≠0);have hkb:bk≠b:=λe=>hk0 (h2.inj k 0 _ _ bk _ _ hlk hl0 f1 (by rw[e];exact hb0));have hrk:=h2.rng k bk _ f1
  have hbkn:w.heap.size<=bk\/(D bk/\bk≠b):=by
   by_cases hlt:bk< w.heap.size;by_cases hd:D bk;exact .inr ⟨hd,hkb⟩;exact absurd ⟨hlt,hd⟩ hrk.1;exact .inl ω
  obtain⟨hp2,hhp2⟩:∃hp2:Nat->Option ABlk,hp2=dropJ hp j s:=⟨_,rfl⟩;have hji:s≠none->i≠j:=λhs=>by obtain⟨q,hq⟩:=NA.1 hs;exact(hj q hq).2
  have h2sub:∀x X,hp2 x=some X->hp x=some X:=by
   intro x X hx;rw[hhp2] at hx;cases hs:s with
   |none=>rw[hs] at hx;exact hx
   |some q=>
    rw[hs] at hx;simp only[dropJ,upd] at hx;split at hx;cases hx;exact hx
  have h2i:hp2 i=some ⟨tB,2,[fe i j s]⟩:=by
   rw[hhp2];cases hs:s with
   |none=>rw[hs] at hi;exact hi
   |some q=>show upd hp j none i=_;rw[bw _ _ (hji (by rw[hs];simp)),<-hs];exact hi
  have htwo:=mem.two (w':=w'') (i:=i) (id:=id) (b:=b) (bk:=bk) (tB:=tB) (tb:=tb) (D:=D) (es:=[fe i id (some t)]) (es2:=bE t) (hp2:=hp2) (cs:=cs1) (ck:=ck1) hi hbi2 hid0 hid hidh h2sub h2i
   (λx hx=>by
    rcases hx with rfl|⟨hs,ss,hx⟩
    exact .inl rfl;obtain⟨q,hq⟩:=NA.1 hs;exact .inr ⟨j,_,ss,(hj q hq).1,hx,by rw[hhp2,hq];exact bq _ _ _⟩) (.inl rfl)
   ⟨h2.below.os,h2.below.tape,h2.below.output⟩ h2.below.size (λx hx hd=>h2.below.block x ⟨hx,hd⟩) h2.below.sizes hrk.2 hbkn e2 f2
   (λM β2 hbe hbid=>xX (i:=0) (j:=k) (λx hx=>by rw[hb0] at hx;cases hx;exact hbe _ _ hbi2) (λ_ x hx=>by rw[f1] at hx;cases hx;exact hbid) e3) (λM β2=>qh f3) e4 f4
  refine⟨y,rfl,upd β id (some (bk,1)),?_⟩
  have happ:iF hp (updB tB tb i j id s t)=upd (upd hp2 i (some ⟨tB,2,[fe i id (some t)]⟩)) id (some ⟨tb,1,bE t⟩):=by
   rw[hhp2];cases s <;> rfl
  unfold nj;rw[happ];exact⟨htwo.1,hpure _ _ _ _ _ _ _ h1,htwo.2,λm hm=>bw _ _ hm⟩
 rcases he with rfl|rfl
 exact hL;exact hL
section
variable {id:Nat}{ev:Operand->Option AV}{c:Call}{callee x0:Operand}{f i j tB tb:Nat}{as:La}{r:AV}
def rdB(i j:Nat):Option (List UInt8)->Ln
 |none=>[i]
 |some _=>[i,j]
theorem fP{ρ:Operand->Value}{o:Oper}{args:List Value}{w:World}(ho:o.op= .call c)(h1:c.callee= .value callee)(hx:ρ callee= .func (.func f) #[] #[])(ha:c.args.toList.map ρ=args)(he:∀(xs:Array Value) (w:World),(callFunc f xs).run P w= .ok (.enter f xs) w):
    (execOp ρ o).run P w= .ok (.enter f args.toArray) w:=by
 simp only[execOp];simp only[resolve,Deferred.ofValue,invoke];have:(c.args.toList.map ρ).toArray=c.args.map ρ:=φ
 grind
theorem AA{M:Nat->Prop}{β:Bq}{w:World}{ρ:Operand->Value}:∀{xs:List Operand} {as:La},(∀x∈xs,∀a,ev x=some a->RV M β w a (ρ x))->evs ev xs=some as->RVs M β w as (xs.map ρ)
 |[],as,_,h=>by simp only[evs,Option.some.injEq] at h;subst h;exact rfl
 |x::xs,as,hev,h=>by
  simp only[evs] at h;split at h
  ·rename_i a c e b
   simp only[Option.some.injEq] at h;subst h;exact⟨_,_,rfl,hev x (mu ..) a e,AA (λy d=>hev y (lQ _ d)) b⟩
  cases h
theorem AEval.callB {t:List UInt8} {rest:List Operand} (h1:c.callee= .value callee) (h2:ev callee=some (.clos f [] [])) (h3:c.args.toList=x0::rest) (h4:ev x0=some (.lptr i 0 0)) (h5:evs ev rest=some as) (h6:hp i=some ⟨tB,2,[fe i j s]⟩)
    (h7:∀q,s=some q->hp j=some ⟨tb,1,bE q⟩/\i≠j) (h8:BSpec P f tB tb s t (as.map coe) r):AEval P id ev hp (.call c) ⟨r,updB tB tb i j id s t⟩ (rdB i j s):=by
 refine .sem λB D β b w ρ o C k d A e y g h=>?_
 have a:∀x,x∈(Op.call c).operands↔x=callee\/x∈x0::rest:=by
  simp[Op.operands,Call.operands,h1,<-Eh,h3]
 obtain⟨xs,F,u,v,l⟩:=d callee ((a _).2 (.inl rfl)) _ h2;have m:xs= #[]:=AD v;have p:F= #[]:=AD l;subst m p;have E:b i=some ⟨tB,2,[fe i j s]⟩:=(h i (by cases s <;> simp[rdB])).trans h6;have G:∀q,s=some q->b j=some ⟨tb,1,bE q⟩/\i≠j:=λq n=>⟨(h j (by rw[n];simp[rdB])).trans (h7 q n).1,(h7 q n).2⟩;have z:RVs (MM B β b) β w as (rest.map ρ):=AA (λx u=>d x ((a _).2 (.inr (lQ _ u)))) h5;exact .inr ⟨f,(ρ x0::rest.map ρ).toArray,fP C h1 u φ h8.enters,h8.calls B D β b w id i j (ρ x0) (rest.map ρ) k e y g E G (d x0 ((a _).2 (.inr (mu ..))) _ h4) (dG h8.cl (gF z))⟩
structure CSpec (P:Program)(f tB:Nat):Prop where
 enters:∀(xs:Array Value) (w:World),(callFunc f xs).run P w= .ok (.enter f xs) w
 used:∀(b:Nat) (w:World),w.cell? ⟨b,0,none⟩=some (.pointer (some ⟨b,0,none⟩))->Calls P f #[.pointer (some ⟨b,0,none⟩)] w λe w'=>e= .returned (.tuple #[])/\w'=w
 fresh:∀(b:Nat) (w:World) (cs:Array Value),w.heap[b]?=some (.cells cs tB (0,0))->2<=cs.size->cs[0]?=some (.pointer none)->Calls P f #[.pointer (some ⟨b,0,none⟩)] w λe w'=>e= .returned (.tuple #[])/\w'=w.setCell ⟨b,0,none⟩ (.pointer (some ⟨b,0,none⟩))
theorem AEval.callC{a X:AV}(h1:c.callee= .value callee)(h2:ev callee=some (.clos f [] []))(h3:c.args.toList=[x0])(h4:ev x0=some (.lptr i 0 0))(h5:hp i=some ⟨tB,2,[[a,X]]⟩)(h6:a= .v (.pointer none)\/a= .lptr i 0 0)(h7:CSpec P f tB):
    AEval P id ev hp (.call c) ⟨.tup [],[(i,some ⟨tB,2,[[.lptr i 0 0,X]]⟩)]⟩ [i]:=by
 refine .sem λM0 w0 β q w ρ o Z n u U S hid W Q=>?_
 have l:∀x,x∈(Op.call c).operands↔x=callee\/x∈[x0]:=by
  intro x;simp[Op.operands,Call.operands,h1,<-Eh,h3]
 obtain⟨xs,ys,M,N,G⟩:=u callee ((l _).2 (.inl rfl)) _ h2;have H:xs= #[]:=AD N;have J:ys= #[]:=AD G;subst H J;have L:q i=some ⟨tB,2,[[a,X]]⟩:=(Q i ψ).trans h5;obtain⟨b,sz0,z,hy0⟩:=u x0 ((l _).2 (.inr (mu ..))) _ h4;obtain⟨b',cs,j,s,⟨_,⟨⟨E,R,A⟩,⟨O,K,t⟩,_⟩,_⟩,hl⟩:=n.cells L (by decide:(2:Nat)≠0);rw[z] at j;cases j;have p:2<=cs.size:=φ
 have d:β i=some (b,2):=z;have hp0:ρ x0= .pointer (some ⟨b,0,none⟩):=φ
 have hun:iF q [(i,some ⟨tB,2,[[.lptr i 0 0,X]]⟩)]=upd q i (some ⟨tB,2,[[.lptr i 0 0,X]]⟩):=rfl;have V:cs[0]?=some E:=by simpa[World.cell?,s] using R
 have T:cs[1]?=some O:=by simpa[World.cell?,s] using K
 have B:aY w b=some cs.size:=by simp[aY,s]
 have e:Calls P f #[.pointer (some ⟨b,0,none⟩)] w λe w'=>e= .returned (.tuple #[])/\w'=w.setCell ⟨b,0,none⟩ (.pointer (some ⟨b,0,none⟩))\/e= .returned (.tuple #[])/\w'=w/\E= .pointer (some ⟨b,0,none⟩):=by
  rcases h6 with rfl|rfl
  cases (A:E= .pointer none);exact(h7.fresh b w cs s p V).mono λ_ _ h=> .inl h;obtain⟨b2,s2,D,M⟩:=A;rw[d] at D;cases D;have F:E= .pointer (some ⟨b,0,none⟩):=by rw[M]
  exact(h7.used b w φ).mono λ_ _ h=> .inr ⟨h.1,h.2,F⟩
 refine .inr ⟨f, #[.pointer (some ⟨b,0,none⟩)],fP Z h1 M φ h7.enters,e.mono ?_⟩;rintro e w' (⟨rfl,rfl⟩|⟨rfl,rfl,y⟩)
 have C:=n.write (w':=w.setCell ⟨b,0,none⟩ (.pointer (some ⟨b,0,none⟩))) (es:=[[.lptr i 0 0,X]]) (cs:=cs.setIfInBounds 0 (.pointer (some ⟨b,0,none⟩))) (by decide:(2:Nat)≠0) L d ⟨rfl,rfl,rfl⟩ (by simp[World.setCell]) (heap_setCell_same w b 0 cs tB _ s) (λk Y=>heap_setCell_other w _ k _ Y)
  (λk e r=>by
   cases k with
   |zero=>
    simp only[xg,Option.some.injEq] at r;subst r;refine⟨[.pointer (some ⟨b,0,none⟩),O],⟨_,_,rfl,⟨b,2,d,rfl⟩,_,_,rfl,t,rfl⟩,rfl,λm v g=>?_⟩
    match m,g with
    |0,g=>cases g;show(cs.setIfInBounds 0 _)[0* 2+0]?=_;rw[N8,if_pos rfl,if_pos ω]
    |1,g=>cases g;simpa[N8] using T
   |succ k=>simp at r) (by simpa using p) (by rw[Array.size_setIfInBounds];exact B)
 exact⟨_,rfl,β,C.1,⟨#[],rfl,rfl⟩,C.2,λ_ _=>rfl⟩
 have C:=n.write (w':=w') (es:=[[.lptr i 0 0,X]]) (cs:=cs) (by decide:(2:Nat)≠0) L d ⟨rfl,rfl,rfl⟩ rfl s (λk _=>rfl)
  (λk e r=>by
   cases k with
   |zero=>
    simp only[xg,Option.some.injEq] at r;subst r;refine⟨[.pointer (some ⟨b,0,none⟩),O],⟨_,_,rfl,⟨b,2,d,rfl⟩,_,_,rfl,t,rfl⟩,rfl,λm v g=>?_⟩
    match m,g with
    |0,g=>cases g;rw[<-y];simpa using V
    |1,g=>cases g;simpa using T
   |succ k=>simp at r) (by simpa using p) B
 exact⟨_,rfl,β,C.1,⟨#[],rfl,rfl⟩,C.2,λ_ _=>rfl⟩
structure DSpec (P:Program)(f tB tb:Nat):Prop where
 enters:∀(xs:Array Value) (w:World),(callFunc f xs).run P w= .ok (.enter f xs) w
 calls:∀(b bj cap:Nat) (q:List UInt8) (w:World) (cs ck:Array Value),q≠[]->w.heap[b]?=some (.cells cs tB (0,0))->cs[1]?=some (.slice (some ⟨bj,0,none⟩) q.length cap)->q.length<=cap->cap<=maxLen->b≠bj->w.heap[bj]?=some (.cells ck tb (0,0))->cap<=ck.size->
  (∀(k:Nat) (x:UInt8),q[k]?=some x->ck[k]?=some (Value.int .u8 x.toNat))->Calls P f #[.pointer (some ⟨b,0,none⟩)] w λe w'=>e= .returned (.string ⟨q.toArray⟩)/\But bj w w'
theorem Mem.gone(h:Mem M0 w0 β hp w){j:Nat}{B:ABlk}{s:Nat}{ids:Ln}(hb:But b w w')(hj:hp j=some B)(hbj:β j=some (b,s))(hin:j∈ids):
    Mem M0 w0 β (ef hp ids) w'/\Stab (MM M0 β hp) (MM M0 β (ef hp ids)) β β w w':=by
 have d:∀m X,ef hp ids m=some X->hp m=some X/\m∉ids:=λm X a=>by
  simp only[ef] at a;grind
 obtain⟨m1,o⟩:=h.forget λm X a=>(d m X a).1;have r:MM M0 β hp b:= .inr ⟨j,B,s,hj,hbj⟩;have g:=h.rng j b s hbj
 have q:∃N,aY w b=some N:=by
  obtain⟨v,e1,e2⟩:=h.blk j B hj;rw[hbj] at e1;cases e1;exact e2.size
 have st:Stab (MM M0 β hp) (MM M0 β (ef hp ids)) β β w w':=
  ⟨⟨λc N hs a=>hb.block c (cy hs) λe=>a (e▸r),o.m,λ_ _ h=>h,hb.sizes⟩,
   λc i x=>hb.block c i λe=>by grind⟩
 refine⟨⟨⟨hb.os.trans h.below.os,hb.tape.trans h.below.tape,hb.output.trans h.below.output,fo h.below.size hb.size,λk p=>(hb.block k (ns (w0.lt k p) h.below.size) λe=>g.1 (e▸p)).trans (h.below.block k p),λc n hs=>hb.sizes c n (h.below.sizes c n hs)⟩,h.m0,λm c ss a=>⟨(h.rng m c ss a).1,ns (h.rng m c ss a).2 hb.size⟩,m1.pin,λm X a=>?_,m1.inj⟩,st⟩;obtain⟨t,u⟩:=d m X a;obtain⟨c,e1,e2⟩:=h.blk m X t
 have l:c≠b:=λe=>by
  subst e;have:=h.inj m j X B c _ _ t hj e1 hbj;grind
 have f:=hb.block c (h.rng m c _ e1).2 l;exact⟨c,e1,e2.stab st.toStabC f⟩
theorem AEval.callD{q:List UInt8}(h1:c.callee= .value callee)(h2:ev callee=some (.clos f [] []))(h3:c.args.toList=[x0])(h4:ev x0=some (.lptr i 0 0))(h5:hp i=some ⟨tB,2,[fe i j (some q)]⟩)(h6:hp j=some ⟨tb,1,bE q⟩)(hij:i≠j)(hq:q≠[])(h7:DSpec P f tB tb):
    AEval P id ev hp (.call c) ⟨.v (.string ⟨q.toArray⟩),[(i,none),(j,none)]⟩ [i,j]:=by
 refine .sem λM0 w0 β m w ρ o V a l K H hid Q p=>?_
 have g:∀x,x∈(Op.call c).operands↔x=callee\/x∈[x0]:=by
  intro x;simp[Op.operands,Call.operands,h1,<-Eh,h3]
 obtain⟨xs,ys,Y,E,t⟩:=l callee ((g _).2 (.inl rfl)) _ h2;have A:xs= #[]:=AD E;have C:ys= #[]:=AD t;subst A C;have O:m i=some ⟨tB,2,[fe i j (some q)]⟩:=(p i ψ).trans h5;have F:m j=some ⟨tb,1,bE q⟩:=(p j ψ).trans h6;obtain⟨b,sz0,n,hy0⟩:=l x0 ((g _).2 (.inr (mu ..))) _ h4;obtain⟨b',cs,d,M,⟨_,⟨⟨x1,hc1,U⟩,⟨Z,D,r⟩,_⟩,_⟩,hl⟩:=a.cells O (by decide:(2:Nat)≠0);rw[n] at d;cases d;obtain⟨R,L,e1,e2,e3,e4⟩:=a.cells F (by decide:(1:Nat)≠0);obtain⟨S,B,J,f2,f3,f4,_,N,W,f6⟩:=r;rw[e1] at J;cases J;have X:ρ x0= .pointer (some ⟨b,0,none⟩):=φ
 have g2:cs[1]?=some Z:=by simpa[World.cell?,M] using D
 have s:b≠R:=λe=>by subst e;exact hij (a.inj i j _ _ b _ _ O F n e1)
 have hN:N=L.size:=by simp[aY,e2] at W;grind
 refine .inr ⟨f, #[.pointer (some ⟨b,0,none⟩)],fP V h1 Y φ h7.enters,(h7.calls b R B q w cs L hq M φ f3 f4 s e2 φ λk x T=>?_).mono ?_⟩;have:=(e3.get (i:=k) (e:=[.v (.int .u8 x.toNat)]) (by simp[bE,T])).1;obtain⟨⟨y,u,z⟩,_⟩:=this;cases (z:y=_);simpa[World.cell?,e2] using u;rintro e w' ⟨rfl,h⟩;have G:=a.gone (ids:=[i,j]) h F e1 ψ;refine⟨_,rfl,β,?_⟩;unfold nj;rw[show([(i,none),(j,none)]:List (Nat×Option ABlk))=[i,j].map λi=>(i,none) from rfl,tS];exact⟨G.1,rfl,G.2,λ_ _=>rfl⟩
def IW:Option (List UInt8)->La
 |none=>[.v (.pointer none),.emp]
 |some q=>[.any,.arr (bE q)]
theorem AEval.callR{r:Value}(h1:c.callee= .value callee)(h2:ev callee=some (.clos f [] []))(h3:c.args.toList=[x0])(h4:ev x0=some (.lptr i 0 0))(h5:hp i=some ⟨tB,2,[fe i j s]⟩)(h6:∀q,s=some q->hp j=some ⟨tb,1,bE q⟩)(h7:FSpec P f [.aptr [IW s] 0 0] (.v r)):
    AEval P id ev hp (.call c) ⟨.v r,[]⟩ (rdB i j s):=by
 refine .sem λA w0 β d w ρ o ho a E hcst W hid Y D=>?_
 have g:∀x,x∈(Op.call c).operands↔x=callee\/x∈[x0]:=by
  intro x;simp[Op.operands,Call.operands,h1,<-Eh,h3]
 obtain⟨xs,ys,z,J,H⟩:=E callee ((g _).2 (.inl rfl)) _ h2;have Q:xs= #[]:=AD J;have M:ys= #[]:=AD H;subst Q M;have hi:d i=some ⟨tB,2,[fe i j s]⟩:=(D i (by cases s <;> simp[rdB])).trans h5;have V:∀q,s=some q->d j=some ⟨tb,1,bE q⟩:=λq hq=>(D j (by rw[hq];simp[rdB])).trans (h6 q hq);obtain⟨b,sz0,t,hy0⟩:=E x0 ((g _).2 (.inr (mu ..))) _ h4;obtain⟨b',cs,h,hh,hr,hl⟩:=a.cells hi (by decide:(2:Nat)≠0);rw[t] at h;cases h;have u:β i=some (b,2):=t;have S:ρ x0= .pointer (some ⟨b,0,none⟩):=φ
 let hp2:=ef d [i,j]
 have k:∀m X,hp2 m=some X->d m=some X/\m≠i/\m≠j:=λm X G=>by
  simp only[hp2,ef] at G;grind
 have hM:∀x,MM A β hp2 x->MM A β d x:=by
  rintro x (z|⟨m,X,l,p,n⟩);exact .inl z;exact .inr ⟨m,X,l,(k m X p).1,n⟩
 have B:∀m X x l,d m=some X->β m=some (x,l)->(m=i\/m=j)->¬MM A β hp2 x:=by
  rintro m X x l p n gm (z|⟨m',Z,K,U,O⟩);exact(a.rng m x l n).1 (a.m0 x z).1;obtain⟨L,g6,g7⟩:=k m' Z U;have:=a.inj m m' X Z x l K p L n O;grind
 have C:RVs (MM A β hp2) (λ_=>none) w [.aptr [IW s] 0 0] [.pointer (some ⟨b,0,none⟩)]:=by
  refine⟨_,_,rfl,⟨ψ,b,0,2,ψ,⟨cs.size,by simp[aY,hh]⟩,B i _ b 2 hi u (.inl rfl),?_⟩,rfl⟩;obtain⟨_,F,_⟩:=hr;cases hs:s with
  |none=>
   rw[hs] at F;obtain⟨⟨x,h1,h2⟩,⟨y,h3,h4⟩,_⟩:=F;exact⟨rfl,⟨⟨x,h1,h2⟩,⟨y,h3,h4⟩,trivial⟩,trivial⟩
  |some q=>
   rw[hs] at F;obtain⟨⟨x,h1,_⟩,⟨y,h3,⟨T,R,p,n,U,O,_,N,L,g6⟩⟩,_⟩:=F;obtain⟨bj',ck,e1,e2,e3,e4⟩:=a.cells (V q hs) (by decide:(1:Nat)≠0);rw[p] at e1;cases e1;refine⟨rfl,⟨⟨x,h1,trivial⟩,⟨y,h3,⟨some ⟨T,0,none⟩,R,by rw[n,dK],by rw[dK];exact U,O,.inr ⟨T,0,1,rfl,⟨N,L⟩,B j _ T 1 (V q hs) p (.inr rfl),qh e3⟩⟩⟩,trivial⟩,trivial⟩
 refine .inr ⟨f, #[.pointer (some ⟨b,0,none⟩)],fP ho h1 z (by rw[h3];simp[S]) h7.enters,(h7.calls (MM A β hp2) w _ (a.fit.sub hM) C).mono ?_⟩;rintro e w' ⟨y,rfl,hy,hb⟩;have G:=a.ext hb;exact⟨y,rfl,β,G.1,hy,G.2,λ_ _=>rfl⟩
end
end
end
section
variable {P:Program}{M0:Nat->Prop}{w0:Base}{β:Bq}{hp:Hq}{w w':World}
theorem RVkv.snoc{M:Nat->Prop}:∀{es:Lc} {ens:List MapEntry} {x:La} {e:MapEntry},RVkv M β w es ens->RVs M β w x [e.key,e.val]->RVkv M β w (es++[x]) (ens++[e])
 |[],ens,x,e,h,hx=>by cases (h:ens=[]);exact⟨e,[],rfl,hx,rfl⟩
 |y::es,ens,x,e,⟨e',es',he,h1,h2⟩,hx=>by subst he;exact⟨e',es'++[e],rfl,h1,RVkv.snoc h2 hx⟩
def Em(kd:IntKind)(k:Int):Lc->Bool
 |[]=>true
 |[.v (.int kd' k'),_]::l=>decide (kd=kd') && !decide (k=k') && Em kd k l
 |_=>false
theorem BV{M:Nat->Prop}{kd kd0:IntKind}{k:Int}:∀{es:Lc} {ens:List MapEntry} (i:Nat),Em kd k es=true->RVkv M β w es ens->Instr.findNow (.int kd0) (.int kd k) ens i=some none
 |[],ens,i,_,h=>by cases (h:ens=[]);rfl
 |[.v (.int kd' k'),a]::es,ens,i,hn,⟨e,es',he,⟨x,xs,e1,hx,_⟩,h2⟩=>by
  subst he;simp only[Em,sj,decide_eq_true_eq,MU,decide_eq_false_iff_not] at hn;obtain⟨⟨rfl,c⟩,d⟩:=hn;cases e1;have b:e.key= .int kd k':=hx;have hs:Instr.sameNow (.int kd0) (.int kd k) e.key=some false:=by rw[b];simp[Instr.sameNow,c]
  simp only[Instr.findNow,hs];exact BV (i+1) d h2
section
variable {id:Nat}{ev:Operand->Option AV}{T kt e:Nat}{kd:IntKind}
def GO(kd:IntKind)(k:Int):List Value->Option Nat
 |[]=>none
 | .int kd' k'::l=>if kd=kd' then(if k=k' then some 0 else(GO kd k l).map (· +1)) else none
 |_=>none
def Gv(k:Int):List Value->Bool
 |[]=>true
 | .int _ k'::l=>!decide (k=k') && Gv k l
 |_=>false
theorem wb{k:Int}:∀{l:List Value},Gv k l=true->Value.int kd k∉l
 |[],_=>by simp
 |c::l,h=>by
  cases c <;> simp only[Gv,Ha,sj,MU,decide_eq_false_iff_not] at h;intro a;rcases pY.1 a with e|e
  cases e;exact h.1 rfl;exact wb h.2 e
def qQ(kd:IntKind):List Value->Bool
 |[]=>true
 | .int kd' k'::l=>decide (kd=kd') && Gv k' l && qQ kd l
 |_=>false
theorem yf{M:Nat->Prop}{k:Int}:∀{ks:List Value} {vs:La} {l:List MapEntry} (n:Nat) (a:AV),l.map (·.key)=ks->RVs M β w vs (l.map (·.val))->GO kd k ks=some n->vs[n]?=some a->∃e,e∈l/\e.key= .int kd k/\RV M β w a e.val
 |[],_,_,_,_,_,_,h,_=>by cases h
 |c::ks,vs,[],n,a,b,_,_,_=>by grind
 |c::ks,[],e::l,n,a,b,h2,_,_=>by grind
 |c::ks,u::vs,e::l,n,a,b,⟨x,xs,e1,g1,g2⟩,h3,h4=>by
  simp only[zo,List.cons.injEq] at b e1;obtain⟨p,b⟩:=b;obtain⟨rfl,rfl⟩:=e1;cases c <;> simp only[GO,reduceCtorEq] at h3;split at h3
  ·rename_i g
   split at h3
   ·grind
   obtain⟨f,d,rfl⟩:=M5.1 h3;obtain⟨o,j,i,m⟩:=yf f a b g2 d φ;grind
  grind
theorem o9:∀{ks:List Value},qQ kd ks=true->ks.Nodup/\∀k∈ks,∃n,k= .int kd n
 |[],_=>⟨E9,λ_ h=>by cases h⟩
 |c::ks,h=>by
  cases c <;> simp only[qQ,Ha,sj,decide_eq_true_eq] at h;obtain⟨⟨rfl,b⟩,a⟩:=h;obtain⟨i1,i2⟩:=o9 a;exact⟨NN.2 ⟨wb b,i1⟩,λk d=>(φ)⟩
theorem CH{kd0:IntKind}{k:Int}{e:MapEntry}:∀{l:List MapEntry} (i:Nat),e∈l->e.key= .int kd k->(l.map (·.key)).Nodup->(∀x∈l.map (·.key),∃n,x= .int kd n)->∃j,Instr.findNow (.int kd0) (.int kd k) l i=some (some (j,e.val))
 |[],_,h,_,_,_=>by cases h
 |x::l,i,h,hk,hnd,hall=>by
  rw[zo,NN] at hnd;obtain⟨n,c⟩:=hall x.key (mu ..);by_cases hkn:k=n;subst hkn;have b:e=x:=φ
  subst b;exact⟨i,by simp[Instr.findNow,Instr.sameNow,c]⟩;have a:e≠x:=λb=>by grind
  have hs:Instr.sameNow (.int kd0) (.int kd k) x.key=some false:=by rw[c];simp[Instr.sameNow,hkn]
  obtain⟨j,f⟩:=CH (kd0:=kd0) (i+1) ((pY.1 h).resolve_left a) hk hnd.2 (λy d=>hall y (lQ _ d));exact⟨j,by simp only[Instr.findNow];grind⟩
theorem AEval.lookup{x ix:Operand}{ks:List Value}{vs:La}{kk:Int}{n:Nat}{a:AV}(h1:ev x=some (.mp ks vs))(h3:ev ix=some (.v (.int kd kk)))(hT:P.underlying T=some (.map kt e))(hK:P.underlying kt=some (.int kd))(hn:GO kd kk ks=some n)(ha:vs[n]?=some a)(hg:qQ kd ks=true):
    AEval P id ev hp (.lookup T x ix false) ⟨a,[]⟩ []:=by
 refine .sem λN M β t w ρ o L c b h d F p G=>?_;obtain⟨r,z,K,O,A,_,l,f,g,H⟩:=b x η _ h1;have J:ρ ix= .int kd kk:=b ix η _ h3;obtain⟨m,s,u,C⟩:=yf n a g H hn ha;obtain⟨q,D⟩:=o9 hg;have hp:=f.map (λe:MapEntry=>e.key);rw[g] at hp;obtain⟨j,E⟩:=CH (kd0:=kd) 0 (f.mem_iff.1 s) u (hp.nodup_iff.1 q) (λy B=>D y (hp.mem_iff.2 B));refine .pure (y:=m.val) c ?_ C
 have i:(Instr.lookup T (.map (some r)) (.int kd kk) false).run P w= .ok m.val w:=by
  simp[Instr.lookup,run_underlying hT,MapKept.run_getObj_map A,MapKept.run_checkKey (k:= .int kd kk) hK (by simp[MapKept.IsKey]),MapKept.run_findKey hK E]
 simp only[execOp];simp_all
end
end
section
variable {P:Program}{ops:Array Oper}{nx n j:Nat}{rest:List Oper}{fr:Fr}{hp:Hp}{K:Fps->Fr->Hp->Prop}
variable {d:Nat}{op:Op}{ty:Nat}{pos:String}{after:Array Edge}{a:AV}{p q s:Nat×Option ABlk}{rd:Ln}
theorem AR.op3 (hs:AEval P (nx+j) (evF (look fr)) (ap hp) op ⟨a,[p,q,s]⟩ rd) (hnd:ct op=true) (hd:Nat.blt d n=true)
    (h:AR P ops nx n (j+1) rest ((d,a)::fr) (s::q::p::hp) λfps f h=>K (([p.1,q.1,s.1],rd)::fps) f h):AR P ops nx n j (⟨some d,op,ty,pos,after,none⟩::rest) fr hp K:=
 AR.cons ⟨bH hnd,hs⟩ hd h
end
abbrev tx(t:List UInt8):AV:= .v (.string ⟨t.toArray⟩)
def jS(t:List UInt8):List Value:=t.map λb=> .int .u8 b.toNat
section
variable {P:Program}{w:World}
theorem pC(t:List UInt8)(w:World):(Builtin.firstCells 1 t.length (.string ⟨t.toArray⟩)).run P w= .ok (jS t).toArray w:=by
 have hs:(⟨t.toArray⟩:ByteArray).size=t.length:=by simp[ByteArray.size]
 have a:(⟨t.toArray⟩:ByteArray).extract 0 t.length=⟨t.toArray⟩:=by rw[<-hs];simp
 simp only[Builtin.firstCells];simp[jS]
theorem lN {T T' E bs sz:Nat} {zs:List Value} (h1:eQ P T=some (E,sz)) (h2:P.underlying T'=some .string) (h3:gR P E=some zs) (h4:uv P E=some bs)
    {base:Option Addr} {n c m:Nat} {s:ByteArray} {old new:Array Value} (hm:s.size=m) (hgrow:c< n+m) (hroom:(n+m) * bs<=140737488355328) (h63:n+m<=maxLen- 1) (ty:TypeId)
    (hold:∀w',w'.heap=w.heap->(Builtin.firstCells sz n (.slice base n c)).run P w'= .ok old w') (hnew:∀w',w'.heap=w.heap->(Builtin.firstCells sz m (.string s)).run P w'= .ok new w'):
    ∃nc z,n+m<=nc/\nc< 2^ 63/\z.toList=zs/\(Builtin.append_ #[T,T'] ty #[.slice base n c,.string s]).run P w=
     .ok (.slice (some ⟨w.heap.size,0,none⟩) (n+m) nc) (w.drew.alloc (.cells (old++new++Builtin.zeroCells z (nc- (n+m))) E)):=by
 obtain⟨u,l⟩:=eo h1;obtain⟨f,z,i1,i2,t,y,x⟩:=Ad l h3 h4;have i:n+m< 2^ 63:=by unfold maxLen at h63;omega
 obtain⟨k,j⟩:=Hi (need:=n+m) (old:=c) (e:=E) (w.tape w.drawn (.appendCap (n+m) c E)) i;refine⟨(Question.appendCap (n+m) c E).cut (w.tape w.drawn (.appendCap (n+m) c E)),z.cells,k,j,t,?_⟩;have o:=growslice_fits hgrow hroom
 have g:¬((n:Int)+(m:Int)> IntKind.i64.max):=by
  have:IntKind.i64.max=9223372036854775807:=δ
  grind
 have r:¬(n+m<=c):=ω
 have q:∀w:World,({w with drawn:=w.drawn+1}:World)=w.drew:=λ_=>rfl;have p:=hold w.drew rfl;have v:=hnew w.drew rfl;have a:(Question.appendCap (n+m) c E).forced=false:=rfl;have b:¬(((n+m:Nat):Int)> IntKind.i64.max/\(False\/f.bytes=0)):=λh=>g φ;have d:¬(Builtin.nextslicecap (n+m) c* f.bytes> 2^ 48):=φ
 unfold Builtin.append_
 simp only[Ee,xg,A6,Sem.run_bind,run_underlying u w,run_underlying h2 w,Result.andThen_ok,run_sizeOf' l,Sem.run_pure,
  Ha,if_false,Builtin.lenOf,hm,r,typeInfo,run_program,i1,b,d,run_choose,a,q,run_askRoom,Om,if_true,p,v,zeroValue,i2,newRow,run_newObj]
 rfl
theorem sf {T T' E sz:Nat} (h1:eQ P T=some (E,sz)) (h2:P.underlying T'=some .string)
    {b off n c m:Nat} {s:ByteArray} {new:Array Value} (hm:s.size=m) (hroom:n+m<=c) (ty:TypeId) (hnew:(Builtin.firstCells sz m (.string s)).run P w= .ok new w) {w':World}
    (hst:(storeCells ⟨b,off+n* sz,none⟩ new.toList).run P w= .ok () w'):
    (Builtin.append_ #[T,T'] ty #[.slice (some ⟨b,off,none⟩) n c,.string s]).run P w= .ok (.slice (some ⟨b,off,none⟩) (n+m) c) w':=by
 obtain⟨a,d⟩:=eo h1;unfold Builtin.append_
 simp only[Ee,xg,A6,Sem.run_bind,run_underlying a w,run_underlying h2 w,Result.andThen_ok,run_sizeOf' d,Sem.run_pure,
  Ha,if_false,Builtin.lenOf,hm,hroom,Om,if_true,hnew,k5,hst]
end
theorem yu{M:Nat->Prop}{β:Bq}{w:World}(t:List UInt8):Flat M β w 1 (bE t) (jS t):=by
 refine⟨by simp[jS,bE],λi e a=>?_⟩;simp only[bE,wS,M5] at a;obtain⟨x,c,rfl⟩:=a;refine⟨[.int .u8 x.toNat],⟨_,_,rfl,rfl,rfl⟩,rfl,λj v b=>?_⟩;cases j with
 |zero=>simp only[xg,Option.some.injEq] at b;subst b;simp[jS,c]
 |succ j=>grind
section
variable {P:Program}{id:Nat}{ev:Operand->Option AV}{hp:Hq}{c:Call}{x y:Operand}{T T' E:Nat}{t q:List UInt8}{zs:List Value}
theorem AEval.appS_e (h1:c.callee= .builtin .append) (h2:c.args= #[x,y]) (h3:c.argTypes= #[T,T']) (h4:eQ P T=some (E,1)) (h5:P.underlying T'=some .string) (h6:ev x=some .emp) (h7:ev y=some (tx t)) (h9:t≠[])
    (h10:gR P E=some zs) (h11:zs.length=1) (h12:uv P E=some 1) (h13:t.length<=140737488355328):
    AEval P id ev hp (.call c) ⟨.lsl id 0 t.length none 1,[(id,some ⟨E,1,bE t⟩)]⟩ []:=by
 refine .sem λR w0 β B w ρ o L A l G h D r X=>?_
 have f:∀z,z∈(Op.call c).operands↔z∈[x,y]:=by
  intro z;simp[Op.operands,Call.operands,h1,h2]
 obtain⟨b,Q⟩:=l x ((f _).2 ψ) _ h6;have M:ρ y= .string ⟨t.toArray⟩:=l y ((f _).2 ψ) _ h7;have F:0< t.length:=φ
 have p:∀g:World,g.heap=w.heap->(Builtin.firstCells 1 0 (.slice b 0 0)).run P g= .ok #[] g:=by
  intro g _;cases b with
  |none=>rfl
  |some ad=>simp[Builtin.firstCells,loadCells,loadCellsFrom]
 have d:Flat (MM R β B) β w 1 (bE t) (jS t):=yu t;obtain⟨u,z,g1,g2,g3,O⟩:=lN (w:=w) (n:=0) (m:=t.length) (c:=0) (s:=⟨t.toArray⟩) (base:=b) h4 h5 h10 h12 (by simp[ByteArray.size]) ω ω (by unfold maxLen;omega) o.type p (λg _=>pC t g);have C:z.size=1:=φ
 have q:=A.ext ((Below.refl w.heap.size w).drew)
 have a:=q.1.alloc (i:=id) (ty:=E) (s:=1) (es:=bE t) (cs:= #[]++(jS t).toArray++Builtin.zeroCells z (u- (0+t.length))) N6 h D r (λk e W=>by
  obtain⟨V,J,U,Y⟩:=d.2 k e W;refine⟨V,q.2.vs J,U,λj v H=>?_⟩;grind) (by simp[d.1])
 refine .inl ⟨.slice (some ⟨w.heap.size,0,none⟩) t.length u,_,_,.inl ?_,a.1,⟨w.heap.size,u,bq _ _ _,ψ,ω,by unfold maxLen;omega,(λk Z=>φ),u* 1,?_,ψ⟩,⟨⟨λK N hN S=>(a.2.heap K N hN S),a.2.m,a.2.be,a.2.sz⟩,a.2.oth⟩,λj H=>bw _ _ H⟩;simp only[execOp,L,resolve,h1,h2,Sem.run_bind,Sem.run_pure,Result.andThen_ok,invoke,builtin,M9,zo,Nm,Q,M,h3,O,vY];unfold aY;have:(w.drew.alloc (.cells (#[]++(jS t).toArray++Builtin.zeroCells z (u- (0+t.length))) E)).heap[w.heap.size]?=_:=heap_alloc_new' w.drew _;rw[this];simp only[Ou,NU,Fe,iG,C,Option.some.injEq];have:(jS t).length=t.length:=by simp[jS]
 omega
theorem AEval.appS_l {i n:Nat} {cap:Option Nat} (h1:c.callee= .builtin .append) (h2:c.args= #[x,y]) (h3:c.argTypes= #[T,T']) (h4:eQ P T=some (E,1)) (h5:P.underlying T'=some .string) (h6:ev x=some (.lsl i 0 n cap 1)) (h7:hp i=some ⟨E,1,bE q⟩) (hn:n=q.length) (h13:ev y=some (tx t))
    (h15:gR P E=some zs) (h16:zs.length=1) (h17:uv P E=some 1) (h18:q.length+t.length<=140737488355328):
    AEval P id ev hp (.call c) ⟨.lsl id 0 (q++t).length none 1,[(i,none),(id,some ⟨E,1,bE (q++t)⟩)]⟩ [i]:=by
 subst hn;refine .sem λM0 w0 β hp' w ρ o ho G Y hcst l X r hrd=>?_
 have h:∀z,z∈(Op.call c).operands↔z∈[x,y]:=by
  intro z;simp[Op.operands,Call.operands,h1,h2]
 have hi:hp' i=some ⟨E,1,bE q⟩:=(hrd i ψ).trans h7;have W:=Y x ((h _).2 ψ) _ h6;have hy:ρ y= .string ⟨t.toArray⟩:=Y y ((h _).2 ψ) _ h13
 have J:SrcOf hp' 1 (.lsl i 0 q.length cap 1) (bE q) [i]:=by
  have:=SrcOf.lsl (s:=1) (hp:=hp') (i:=i) (e:=0) (n:=q.length) (cap:=cap) (B:=⟨E,1,bE q⟩) (ez hi N6) (by simp[bE]);simpa[dK,nk] using this
 obtain⟨K,U,a,⟨a0,M⟩,_,F⟩:=J.run (P:=P) G W;obtain⟨b,c2,hb,D,hnc,hcm,hcap,N,hN,H⟩:=W;rw[M,dK] at D;simp only[Value.slice.injEq,true_and] at D;obtain⟨rfl,rfl⟩:=D;have g:Flat (MM M0 β hp') β w 1 (bE t) (jS t):=yu t;have Z:i≠id:=λe=>by grind
 simp only[JR] at M H;rw[vY] at H;rw[dK] at M
 have R:∀v∈jS t,v.oneCell'=true:=by
  intro v hv;obtain⟨u,_,rfl⟩:=sd.1 hv;rfl
 by_cases hroom:q.length+t.length<=U;have hle:(q.length+t.length) * 1<=N:=ω
 obtain⟨w',r1,r2,r3,r4⟩:=G.storeEls (P:=P) (i:=i) (B:=⟨E,1,bE q⟩) (e:=q.length) (fs:=bE t) (es':=bE (q++t)) N6 hi hb g R hN (by rw[dK];grind) (λp el hp=>by
  rw[yO] at hp;rw[dK];by_cases hql:p< q.length;rw[Bg (by rw[dK];exact hql)] at hp;exact .inr ⟨.inl hql,hp⟩;rw[D2 (by rw[dK];omega),dK] at hp;have:=(jY.1 hp).1;rw[dK] at this;exact .inl ⟨ω,ω,hp⟩) (by rw[dK,zq];exact hle)
 have C:=r2.rename (i:=i) (id:=id) (B:=⟨E,1,bE (q++t)⟩) (bq _ _ _) hb l X (by rw[bw _ _ (λe=>Z e.symm)];exact r);rw[pT] at C;refine .inl ⟨.slice (some ⟨b,0,none⟩) (q.length+t.length) U,w',_,.inl ?_,C.1,⟨b,U,bq _ _ _,ψ,by simpa using hroom,hcm,(λk hk=>by cases hk),N,r3.sz b N hN,by rw[vY];exact H⟩,r3.trans C.2 ω,λj d=>bw _ _ d⟩;have hr:=sf (P:=P) (w:=w) (w':=w') (b:=b) (off:=0) (n:=q.length) (m:=t.length) (c:=U) (s:=⟨t.toArray⟩) (new:=(jS t).toArray) h4 h5 (by simp[ByteArray.size]) hroom o.type (pC t w) (by simpa using r1);simp only[execOp,ho,resolve,h1,h2,Sem.run_bind,Sem.run_pure,Result.andThen_ok,invoke,builtin,M9,zo,Nm,M,hy,h3,hr];have A:=F (bE q).length (ir _);have O:(bE q).length* 1=K.length:=a.1.symm;rw[M,O,qj,dK] at A;obtain⟨V,z,g1,g2,g3,hr⟩:=lN (w:=w) (n:=q.length) (m:=t.length) (c:=U) (s:=⟨t.toArray⟩) (base:=some ⟨b,0,none⟩) h4 h5 h15 h17 (by simp[ByteArray.size]) ω ω (by unfold maxLen;omega) o.type A (λw' _=>pC t w');have hzs:z.size=1:=by rw[<-zK,g3];exact h16
 have L:=G.ext ((Below.refl w.heap.size w).drew);have f:=(g.append a).stab L.2.toStabC;rw[<-yO] at f;have hbl:(jS t).length=t.length:=by simp[jS]
 rw[dK] at O
 have S:=L.1.alloc (i:=id) (ty:=E) (s:=1) (es:=bE (q++t)) (cs:=K.toArray++(jS t).toArray++Builtin.zeroCells z (V- (q.length+t.length))) N6 l X r (λk e he=>by
  obtain⟨ys,q1,q2,q3⟩:=f.2 k e he;refine⟨ys,q1,q2,λj v d=>?_⟩;have h4:=q3 j v d;have hlt:=(jY.1 h4).1;rw[zr (by simpa using hlt)];simpa using h4) (by rw[dK];simp;omega)
 have Q:=S.1.forget (hp':=upd (upd hp' i none) id (some ⟨E,1,bE (q++t)⟩)) (λj B' d=>by
  by_cases hji:j=id;subst hji;rw[bq] at d⊢;exact d;rw[bw _ _ hji] at d⊢;by_cases hj2:j=i;subst hj2;rw[bq] at d;cases d;rw[bw _ _ hj2] at d;exact d)
 refine .inl ⟨.slice (some ⟨w.heap.size,0,none⟩) (q.length+t.length) V,_,_,.inl ?_,Q.1,⟨w.heap.size,V,bq _ _ _,ψ,χ,by unfold maxLen;omega,(λk hk=>by cases hk),V* 1,?_,ψ⟩,(L.2.trans S.2 (ir _)).trans Q.2 ψ,λj d=>bw _ _ d⟩;simp only[execOp,ho,resolve,h1,h2,Sem.run_bind,Sem.run_pure,Result.andThen_ok,invoke,builtin,M9,zo,Nm,M,hy,h3,hr];unfold aY;have:(w.drew.alloc (.cells (K.toArray++(jS t).toArray++Builtin.zeroCells z (V- (q.length+t.length))) E)).heap[w.heap.size]?=_:=heap_alloc_new' w.drew _;rw[this];simp only[Ou,NU,iG,hzs,Option.some.injEq];omega
end
section
variable {P:Program}{M0:Nat->Prop}{w0:Base}{w:World}{ops:Array Oper}{id n:Nat}{fr:Nat->Option AV}{hp:Hq}{o:Oper}{u:Upd}{rd:Ln}{a:Act}{ρ:Option Nat}{Q:Exit->Act->World->Prop}{β:Bq}
theorem AStep.simF (h:AStep P ops id fr hp o u rd) (mem:Mem M0 w0 β hp w) (hfr:∀t x,fr t=some x->RV (MM M0 β hp) β w x (fj w0 a t)) (hidn:β id=none) (hid0:id≠0) {K:Act->World->Prop}
    (fin:∀y w' β',nj M0 w0 β hp w id u y w' β'->K (a.put o.dst y) w'):
    if Region.wanted o (yielded ops a.tmps) then o.wpIn (FR ρ) 0 P a w K Q else(∀f,o.about P w a.eval=some f->(FR ρ).fn f)/\K (a.put o.dst undef) w:=by
 have n:hp id=none:=by
  cases m:hp id with
  |none=>rfl
  |some B=>obtain⟨b,hb,_⟩:=mem.blk id B m;rw[hidn] at hb;cases hb
 have run:AEval P id (evF fr) hp o.op u rd->o.wpIn (FR ρ) 0 P a w K Q:=by
  intro r;refine⟨λ_ _=>trivial,?_⟩;rw[Oper.semAt_eq _ _ _ h.1];rcases r.good (ρ:=a.eval) (o:=o) mem (fG hfr) (λ_=>rfl) hid0 hidn n rfl with⟨y,w',β',c,i⟩|⟨f,s,c,j⟩
  rcases c with c|⟨c,rfl⟩
  rw[c];exact fin y w' β' i;rw[c];exact fin undef w' β' i;rw[c];refine⟨λm=>by simp[FR] at m,u7 (j.mono ?_)⟩;rintro e w' ⟨y,rfl,β',i⟩;exact fin y w' β' i
 have skip:u=⟨.v undef,[]⟩->K (a.put o.dst undef) w:=by
  rintro rfl;exact fin undef w β ⟨mem,rfl,.refl,λ_ _=>rfl⟩
 have p:=h.2;cases hg:o.guard with
 |none=>
  rw[hg] at p;rw[if_pos (by simp[Region.wanted,hg])];exact run p
 |some D=>
  obtain⟨g,l⟩:=D;rw[hg] at p;obtain⟨t,x,A,E,F⟩:=p;have d:a.tmps.getD t undef=x:=fG hfr (.tmp t) _ E
  have q:yielded ops a.tmps g=gV x:=by
   simp only[yielded,A,zL];cases htt:a.tmps[t]? with
   |none=>
    rw[oj,htt] at d;subst d;rfl
   |some y=>
    rw[oj,htt] at d;simp only[M8] at d;subst d;cases y <;> rfl
  have z:Region.wanted o (yielded ops a.tmps)=true↔gV x=some l:=by
   simp only[Region.wanted,hg,q,beq_iff_eq]
  rcases F with⟨k,r⟩|⟨k,C,_⟩
  rw[if_pos (z.2 k)];exact run r;rw[if_neg (λm=>k (z.1 m))];exact⟨λ_ _=>trivial,skip C⟩
end
section
variable {P:Program}{ops:Array Oper}{us:List (Upd×Ln)}{anc:Nat->Nat->Bool}{nx n:Nat}{fr0:Nat->Option AV}{hp0:Hq}{ρ:Option Nat}{Q:Exit->Act->World->Prop}{rid:Nat}
variable {X:Ln->(Nat->Prop)->Base->(Nat->Option (Nat×Nat))->Act->World->Prop}{gh:Nat->Value}
def FX(gh:Nat->Value)(fr:Nat->Option AV)(hp:Hq)(free:Nat->Prop)(n:Nat)(X:(Nat->Prop)->Base->(Nat->Option (Nat×Nat))->Act->World->Prop)(a:Act)(w:World):Prop:=
 ∃M0 w0 β,Mem M0 w0 β hp w/\w0.gh=gh/\a.tmps.size=n/\(∀t x,fr t=some x->RV (MM M0 β hp) β w x (fj w0 a t))/\(∀i,free i->β i=none/\i≠0)/\DefOK a.defers w0 w/\X M0 w0 β a w
theorem p9{w0 w1:Base}(h:w1.gh=w0.gh)(a:Act)(t:Nat):fj w1 a t=fj w0 a t:=by unfold fj;rw[h]
end
end Go.Abs
