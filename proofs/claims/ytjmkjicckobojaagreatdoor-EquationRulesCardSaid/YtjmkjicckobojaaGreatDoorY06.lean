/- Part Y06 of the proof. -/
import Derived.Test.YtjmkjicckobojaaGreatDoorY05
set_option linter.all false
namespace Go.Abs
open Go.RowKit
section
variable {l n:Nat}{o o':Obj}{β:Bq}{fr:Fr}{cap:La}{T:Nat->Option La}
def eX(fr:Fr):Fr:=fr.map λp=>(p.1+GH,p.2)
def B4(fr:Fr):Bool:=fr.all λp=>Nat.ble p.1 999
def jJ:Fr->Ln->La->Fr
 |fr,p::ps,a::as=>jJ ((p,a)::fr) ps as
 |fr,_,_=>fr
theorem pt:∀(fr:Fr) (t:Nat),look (eX fr) (t+GH)=look fr t
 |[],_=>rfl
 |(k,x)::fr,t=>by
  show look ((k+GH,x)::eX fr) _=_;rw[b8,b8];unfold upd;by_cases h:t=k;rw[if_pos h,if_pos ω];rw[if_neg h,if_neg ω];exact pt fr t
theorem o0:∀(fr:Fr) (t:Nat) (x:AV),look (eX fr) t=some x->GH<=t
 |[],_,_,h=>by cases h
 |(k,y)::fr,t,x,h=>by
  have a:look ((k+GH,y)::eX fr) t=some x:=h;rw[b8] at a;unfold upd at a;split at a;omega;exact o0 fr t x a
theorem uc{α:Type}:∀(l m:List (Nat×α)) (t:Nat),look (l++m) t=(look l t).or (look m t)
 |[],_,_=>rfl
 |(k,x)::l,m,t=>by
  rw[LJ,b8,b8];unfold upd;split;rfl;exact uc l m t
theorem oF:∀{fr:Fr} {t:Nat} {x:AV},B4 fr=true->look fr t=some x->Nat.ble t 999=true
 |[],_,_,_,h=>by cases h
 |(k,y)::fr,t,x,hl,h=>by
  simp only[B4,Pm,sj] at hl;rw[b8] at h;unfold upd at h;split at h
  ·grind
  exact oF (fr:=fr) hl.2 h
theorem Bv{M:Nat->Prop}{β:Bq}{w:World}{n:Nat}:∀{ps:Ln} {as:La} {vals:List Value} {fr:Fr} {tmps:Array Value},tmps.size=n->(∀p∈ps,p< n)->RVs M β w as vals->(∀t x,look fr t=some x->RV M β w x (tmps.getD t undef))->
    ((ps.zip vals).foldl (λt (p,v)=>t.setIfInBounds p v) tmps).size=n/\∀t x,look (jJ fr ps as) t=some x->RV M β w x (((ps.zip vals).foldl (λt (p,v)=>t.setIfInBounds p v) tmps).getD t undef)
 |[],as,vals,fr,tmps,hn,_,_,h=>by cases as <;> simpa[jJ,hn] using h
 |p::ps,[],vals,fr,tmps,hn,_,hv,h=>by cases (hv:vals=[]);simpa[jJ,hn] using h
 |p::ps,a::as,_,fr,tmps,hn,hp,⟨y,ys,e,h1,h2⟩,h=>by
  subst e;simp only[Oi];refine Bv φ (λq c=>hp q (lQ _ c)) h2 λt x b=>?_;rw[b8] at b;unfold upd at b;rw[oj,N8];split at b
  ·grind
  ·rename_i e;rw[if_neg (λh=>e h.symm),<-oj];grind
theorem Bw:∀{ps:Ln} {as:La} {fr:Fr} {t:Nat} {x:AV},B4 fr=true->(∀p∈ps,p< GH)->look (jJ fr ps as) t=some x->t< GH
 |[],as,fr,t,x,hl,_,h=>by
  have b:look fr t=some x:=by cases as <;> exact h
  have:=r9 (oF hl b);grind
 |p::ps,[],fr,t,x,hl,_,h=>by
  have:=r9 (oF hl (show look fr t=some x from h));grind
 |p::ps,a::as,fr,t,x,hl,hp,h=>by
  refine Bw (fr:=(p,a)::fr) (ps:=ps) (as:=as) ?_ (λq c=>hp q (lQ _ c)) h;simp only[B4,Pm,sj];exact⟨OE (Nat.le_of_lt_succ (hp p (mu ..))),hl⟩
def gU:Exit->Option Code
 | .ret=>some .ret
 | .exit id=>some (.exit id)
 | .goto t=>some (.goto t)
 |_=>none
section
variable {P:Program}
def B9(w0:Base)(l D:Nat)(G:Nat->Prop)(W:World)(h:TabW W):Base:=⟨W,λb=>b< W.heap.size/\(w0.K b\/G b\/b=l\/b=D),λ_ h=>h.1,w0.pin,w0.gh,⟨h.lt,.inl w0.kt⟩,h⟩
structure Wait (M0:Nat->Prop)(w0:Base)(a:Act)(w:World)(M G:Nat->Prop)(st:AState)(W:World):Prop where
 kept:w0.Kept W
 two:w.heap.size+2<=W.heap.size
 mark:W.heap[w.heap.size]?=some (.deferred (some []))
 glt:∀b,G b->w.heap.size+2<=b/\b< W.heap.size
 defs:∃Ds:Ln,a.defers=Ds.map Et/\Ds.Nodup/\∀D∈Ds,D< w.heap.size/\W.heap[D]?=some (.deferred (some []))/\¬w0.K D
 rel:∃β,Mem (λb=>M0 b\/G b) (B9 w0 (w.heap.size+1) w.heap.size G W kept.tab) β (ap st.hp) W/\(∀t x,look st.fr t=some x->RV (MM (λb=>M0 b\/G b) β (ap st.hp)) β W x (fj w0 a t))/\
  (∀i,st.nx<=i->β i=none/\i≠0)/\(∀i x,β i=some x->(ap st.hp i).isSome=true)/\∀b,M b↔(M0 b\/b=w.heap.size+1\/b=w.heap.size\/∃i s,β i=some (b,s))
variable {M0:Nat->Prop}{w0:Base}{a:Act}{w W W':World}{M G G':Nat->Prop}{st:AState}
theorem Wait.step(hm0:∀b,M0 b->b< w.heap.size)(hK:∀b,w0.K b->b< w.heap.size)(h:Wait M0 w0 a w M G st W)(hs:GStep G G' W W'):Wait M0 w0 a w M G' st W':=by
 obtain⟨kept,two,mark,glt,⟨H,d1,d2,o⟩,β,c,A,f,v,u⟩:=h;have r:∀b,b< w.heap.size+2->¬G b:=λb hb hG=>by grind
 have same:∀b,b< w.heap.size+2->W'.heap[b]?=W.heap[b]?:=λb hb=>hs.block b ω (r b hb);have l:∀i b s,β i=some (b,s)->¬G b:=λi b s k hG=>(c.rng i b s k).1 ⟨(glt b hG).2,.inr (.inl hG)⟩;have d:∀b,G' b->(G b\/W.heap.size<=b)/\b< W'.heap.size:=hs.own
 have j:StabC (MM (λb=>M0 b\/G b) β (ap st.hp)) (MM (λb=>M0 b\/G' b) β (ap st.hp)) β β W W':=by
  refine⟨λb N hb C=>hs.block b (cy hb) λhG=>C (.inl (.inr hG)),λb N hb g=>?_,λ_ _ h=>h,hs.sizes⟩;rcases g with(g|g)|g
  exact .inl (.inl g);rcases(d b g).1 with h|h
  exact .inl (.inr h);have:=cy hb;omega;exact .inr g
 refine⟨⟨hs.os.trans kept.os,hs.tape.trans kept.tape,hs.output.trans kept.output,fo kept.size hs.size,λb hb=>(same b φ).trans (kept.block b hb),λb n hb=>hs.sizes b n (kept.sizes b n hb)⟩,fo two hs.size,(same _ ω).trans mark,
  λb hb=>⟨φ,(d b hb).2⟩,⟨H,d1,d2,λD q=>⟨(o D q).1,(same D φ).trans (o D q).2.1,(o D q).2.2⟩⟩,β,⟨⟨rfl,rfl,rfl,ir _,λ_ _=>rfl,λ_ _ h=>h⟩,λb hb=>?_,λi b s k=>?_,c.pin,λi B k=>?_,c.inj⟩,λt x E=>j.all (A t x E),f,v,u⟩
 ·refine⟨?_,λe=>?_⟩
  rotate_left;subst e;have z:=hK GT w0.kt;rcases hb with hb|hb
  exact(c.m0 GT (.inl hb)).2 rfl;rcases(d GT hb).1 with h|h
  have:=(glt GT h).1;omega;omega;rcases hb with hb|hb
  have:=(c.m0 b (.inl hb)).1;refine⟨ns this.1 hs.size,?_⟩;rcases this.2 with h|h|h|h
  exact .inl h;exact absurd h (r b (by have:=hm0 b hb;omega));have:=hm0 b hb;omega;have:=hm0 b hb;omega;exact⟨(d b hb).2,.inr (.inl hb)⟩
 have m:=c.rng i b s k;refine⟨λy=>m.1 ⟨m.2,?_⟩,ns m.2 hs.size⟩;rcases y.2 with h|h|h|h
 exact .inl h;rcases(d b h).1 with h|h
 exact .inr (.inl h);have:=m.2;omega;exact .inr (.inr (.inl h));exact .inr (.inr (.inr h));obtain⟨b,p,F⟩:=c.blk i B k;exact⟨b,p,F.stab j (hs.block b (c.rng i b _ p).2 (l i b _ p))⟩
theorem Wait.tabs(hK:∀b,w0.K b->b< w.heap.size)(h:Wait M0 w0 a w M G st W):TabW W/\¬M GT/\¬G GT:=by
 obtain⟨kept,two,mark,glt,_,β,c,j,d,k,f⟩:=h;have g:=hK GT w0.kt;refine⟨kept.tab,λe=>?_,λl=>by grind⟩;rcases(f GT).1 e with h|h|h|⟨i,s,h⟩
 exact(c.m0 GT (.inl h)).2 rfl;omega;omega;exact c.gtn i s h
theorem Wait.disj(hm0:∀b,M0 b->b< w.heap.size)(h:Wait M0 w0 a w M G st W):∀b,M b->b< W.heap.size/\¬G b:=by
 obtain⟨kept,two,mark,glt,_,β,c,l,d,k,g⟩:=h;intro b hb;have f:∀b,b< w.heap.size+2->¬G b:=λb hb hG=>by grind
 rcases(g b).1 hb with h|rfl|rfl|⟨i,s,j⟩
 have:=hm0 b h;exact⟨ω,f b ω⟩;exact⟨ω,f _ ω⟩;exact⟨ω,f _ ω⟩;have e:=c.rng i b s j;exact⟨e.2,λhG=>e.1 ⟨e.2,.inr (.inl hG)⟩⟩
theorem Ec{W:World}(h:W.heap[l]?=some o)(ho:aY W l=none):
    (W.putObj l o').os=W.os/\(W.putObj l o').tape=W.tape/\(W.putObj l o').output=W.output/\(W.putObj l o').heap.size=W.heap.size/\(W.putObj l o').heap[l]?=some o'/\(∀b,b≠l->(W.putObj l o').heap[b]?=W.heap[b]?)/\∀b n,aY W b=some n->aY (W.putObj l o') b=some n:=by
 have a:l< W.heap.size:=(sk.1 h).1;refine⟨rfl,rfl,rfl,ψ,World.putObj_heap_same a,λb hb=>World.putObj_heap_other hb,λb n hb=>?_⟩;have c:b≠l:=λe=>by grind
 exact(eW (World.putObj_heap_other c)).trans hb
variable {α γ:Type}{ps:Array Tmp}{assign body:Code}
def vJ(S:α->AState)(Nx:α->Prop)(X:γ->AState)(PX:Exit->γ->Prop)(n:Nat):Exit->AState->Prop
 | .normal,s=> ∃a',Nx a'/\SEntT s ⟨eX (S a').fr,(S a').hp,(S a').nx,n⟩
 |e,s=>(gU e).isSome=true/\∃c,PX e c/\SEntT s ⟨eX (X c).fr,(X c).hp,(X c).nx,n⟩
theorem D6{S:α->AState}{Nx:α->Prop}{X:γ->AState}{PX:Exit->γ->Prop}{e:Exit}{s:AState}(h:vJ S Nx X PX n e s):(e= .normal/\∃a',Nx a'/\SEntT s ⟨eX (S a').fr,(S a').hp,(S a').nx,n⟩)\/(∃j,gU e=some j)/\∃c,PX e c/\SEntT s ⟨eX (X c).fr,(X c).hp,(X c).nx,n⟩:=by
 cases e with
 |normal=>exact .inl ⟨rfl,h⟩
 |ret=>exact .inr ⟨⟨_,rfl⟩,h.2⟩
 |exit id=>exact .inr ⟨⟨_,rfl⟩,h.2⟩
 |goto t=>exact .inr ⟨⟨_,rfl⟩,h.2⟩
 |panic ch=>exact absurd h.1 (by simp[gU])
 |outgrown=>exact absurd h.1 (by simp[gU])
def rgh(w0:Base)(a:Act)(t:Nat):Value:=fj w0 a (t- GH)
theorem rgh_add(w0:Base)(a:Act)(t:Nat):rgh w0 a (t+GH)=fj w0 a t:=by unfold rgh;grind
theorem vu{w0 w1:Base}{a a3:Act}{t:Nat}(h:w1.gh=rgh w0 a)(h3:a3.tmps.size<=GH):fj w1 a3 (t+GH)=fj w0 a t:=by
 have b:GH<=t+GH:=Nd _ _;rw[slot_hi b (fo h3 b),h,rgh_add]
def k9(w0:Base)(a:Act)(W0:World)(β:Bq)(W:World)(h:W0.heap.size<=W.heap.size)(hk:(GT< W0.heap.size/\∀i s,β i≠some (GT,s))/\TabW W):Base:=⟨W,λb=>b< W0.heap.size/\∀i s,β i≠some (b,s),λ_ hb=>ns hb.1 h,w0.pin,rgh w0 a,hk.1,hk.2⟩
theorem qm(w0:Base)(a:Act)(W0:World)(β:Bq)(W:World)(h:W0.heap.size<=W.heap.size)(hk:(GT< W0.heap.size/\∀i s,β i≠some (GT,s))/\TabW W):(k9 w0 a W0 β W h hk).gh=rgh w0 a:=by simp only[k9]
theorem Mem.turn {Mm:Nat->Prop} {b0 b1:Base} {hp:Hq} {W W':World} (h:Mem Mm b0 β hp W) (hl:W.heap[l]?=some o) (ho:aY W l=none) (hW':W'=W.putObj l o') (hlm:¬Mm l)
    (hw1:b1.w=W') (hm:∀b,Mm b->b1.K b) (hr:∀i b s,β i=some (b,s)->¬b1.K b) (hp0:b1.pin=b0.pin):Mem Mm b1 β hp W'/\StabC (MM Mm β hp) (MM Mm β hp) β β W W':=by
 let bx:Base:=⟨W,λb=>b0.K b/\b≠l,λb hb=>ns (b0.lt b hb.1) h.below.size,b0.pin,b0.gh,⟨b0.kt,λe=>h.tab.sz (e▸ho)⟩,h.tab⟩
 have d:Mem Mm bx β hp W:=h.rebase bx rfl (λb hb=>⟨(h.m0 b hb).1,λe=>hlm (e▸hb)⟩) (λi b s g a=>(h.rng i b s g).1 a.1) h.pin;obtain⟨c,st⟩:=d.shut (o':=o') hl ho (λa=>a.2 rfl);rw[<-hW'] at c st;exact⟨c.rebase b1 hw1 hm hr (λf=>(c.pin f).trans hp0.symm),st⟩
theorem Wait.back (hm0:∀b,M0 b->b< w.heap.size) (hK:∀b,w0.K b->b< w.heap.size) (h:Wait M0 w0 a w M G st W) (hng:n<=GH) (hl:l=w.heap.size+1)
 (hk:TabW W) (mem:Mem (λb=>M0 b\/G b) (B9 w0 (w.heap.size+1) w.heap.size G W hk) β (ap st.hp) W) (ht:∀i x,β i=some x->(ap st.hp i).isSome=true) (hM:∀b,M b↔(M0 b\/b=w.heap.size+1\/b=w.heap.size\/∃i s,β i=some (b,s)))
    {W2 W3 W4:World} (h02:W.heap.size<=W2.heap.size) (hkeep:∀b,b< W.heap.size->(∀i s,β i≠some (b,s))->b≠l->W2.heap[b]?=W.heap[b]?) (hso:W2.os=W.os/\W2.tape=W.tape/\W2.output=W.output) (hsz:∀b n,aY W b=some n->aY W2 b=some n)
    {a3:Act} {st':AState} (hk2:(GT< W.heap.size/\∀i s,β i≠some (GT,s))/\TabW W2) (hr:TRel (λb=>M0 b\/G b) (k9 w0 a W β W2 h02 hk2) ⟨eX st'.fr,st'.hp,st'.nx,n⟩ a3 W3) (hl3:W3.heap[l]?=some o) (ho:aY W3 l=none) (h4:W4=W3.putObj l o'):
    ∃M',Wait M0 w0 a w M' G st' W4/\GStep M M' W W4:=by
  obtain⟨kept,two,mark,glt,⟨Ds,d1,d2,T⟩,_⟩:=h;obtain⟨O,k,s1,V,p,_,Z⟩:=hr;obtain⟨p1,p2,p3,p4,p5,p6,p7⟩:=Ec (o':=o') hl3 ho;rw[<-h4] at p1 p2 p3 p4 p5 p6 p7;have g:=k.below;have Y:l< W.heap.size:=ω
  have E:∀i s,β i≠some (l,s):=λi s d=>(mem.rng i l s d).1 ⟨Y,.inr (.inr (.inl hl))⟩;have m:∀b,w0.K b->∀i s,β i≠some (b,s):=λb hb i s d=>(mem.rng i b s d).1 ⟨(mem.rng i b s d).2,.inl hb⟩;have J:∀b,G b->∀i s,β i≠some (b,s):=λb hb i s d=>(mem.rng i b s d).1 ⟨(mem.rng i b s d).2,.inr (.inl hb)⟩;have u:∀i s,β i≠some (w.heap.size,s):=λi s d=>(mem.rng i _ s d).1 ⟨(mem.rng i _ s d).2,.inr (.inr (.inr rfl))⟩
  -- whatever is not the loop's own lies as it lay
  have same:∀b,b< W.heap.size->(∀i s,β i≠some (b,s))->b≠l->W4.heap[b]?=W.heap[b]?:=λb hb F A=>
   (p6 b A).trans ((g.block b ⟨hb,F⟩).trans (hkeep b hb F A))
  have r:TabW W4:=hk.congr (same GT hk2.1.1 hk2.1.2 (λe=>by have:=hK GT w0.kt;omega));have c:W.heap.size<=W4.heap.size:=by rw[p4];exact fo h02 g.size
  have f:∀b n,aY W b=some n->aY W4 b=some n:=λb n hb=>p7 b n (g.sizes b n (hsz b n hb));have L:W4.os=W.os:=p1.trans (g.os.trans hso.1);have j:W4.tape=W.tape:=p2.trans (g.tape.trans hso.2.1);have v:W4.output=W.output:=p3.trans (g.output.trans hso.2.2)
  have z:∀i b s,O i=some (b,s)->(W.heap.size<=b\/∃i s,β i=some (b,s))/\b< W3.heap.size:=λi b s d=>by
   have hr:=k.rng i b s d;refine⟨?_,hr.2⟩;by_cases hb:b< W.heap.size;right;by_cases R:∃i s,β i=some (b,s);exact R;exact absurd ⟨hb,λi s d=>R ⟨i,s,d⟩⟩ hr.1;left;omega
  have y:∀i b s,O i=some (b,s)->¬(B9 w0 (w.heap.size+1) w.heap.size G W4 r).K b:=by
   rintro i b s d ⟨_,hk⟩;rcases(z i b s d).1 with q|⟨S,Q,q⟩
   rcases hk with hk|hk|hk|hk
   have:=hK b hk;omega;have:=(glt b hk).2;omega;omega;omega;rcases hk with hk|hk|hk|hk
   exact m b hk S Q q;exact J b hk S Q q;subst hk;exact E S Q (by rw[hl];exact q);subst hk;exact u S Q q
  obtain⟨C,U⟩:=k.turn (o':=o') (b1:=B9 w0 (w.heap.size+1) w.heap.size G W4 r) hl3 ho h4 (λH=>by
   rcases H with H|H
   have:=hm0 l H;omega;have:=(glt l H).1;omega) rfl (λb hb=>by
   rcases hb with hb|hb
   have:=hm0 b hb;refine⟨ω,?_⟩;rcases(mem.m0 b (.inl hb)).1.2 with h|h
   exact .inl h;exact .inr h;exact⟨ns (glt b hb).2 c,.inr (.inl hb)⟩) y rfl
  refine⟨λb=>M0 b\/b=w.heap.size+1\/b=w.heap.size\/∃i s,O i=some (b,s),⟨⟨L.trans kept.os,j.trans kept.tape,v.trans kept.output,fo kept.size c,λb hb=>?_,λb n hb=>f b n (kept.sizes b n hb)⟩,fo two c,?_,λb hb=>⟨(glt b hb).1,ns (glt b hb).2 c⟩,
   ⟨Ds,d1,d2,λD X=>⟨(T D X).1,?_,(T D X).2.2⟩⟩,O,C,λt x R=>?_,p,Z,λb=>No⟩,⟨L,j,v,c,λb hb F=>?_,f,λb hb=>?_⟩⟩
  have q:=hK b hb;exact(same b ω (m b hb) ω).trans (kept.block b hb);exact(same _ ω u ω).trans mark;have q:=T D X;refine(same D ω (λi s d=>?_) ω).trans q.2.1;obtain⟨B,hB⟩:=xa.1 (ht i _ d);obtain⟨b',r1,r2⟩:=mem.blk i B hB;rw[d] at r1;cases r1;obtain⟨N,hN⟩:=r2.size;simp[aY,q.2.1] at hN;have:=V (t+GH) x (by rw[pt];exact R);have e:=vu (w0:=w0) (w1:=k9 w0 a W β W2 h02 hk2) (a:=a) (a3:=a3) (t:=t) (qm ..) (fo (NR s1) hng);rw[e] at this;exact U.all this;refine same b hb (λi s d=>F ((hM b).2 (.inr (.inr (.inr ⟨i,s,d⟩))))) (λe=>F ((hM b).2 (.inr (.inl ω))));grind
theorem Wait.round (hm0:∀b,M0 b->b< w.heap.size) (hK:∀b,w0.K b->b< w.heap.size) (h:Wait M0 w0 a w M G st W) {n:Nat} (hn:a.tmps.size=n) (hng:n<=GH) {l:Nat} (hl:l=w.heap.size+1) {rec:Loop} (hrec:W.heap[l]?=some (.loop rec)) (hready:rec.state= .ready)
    (hlo:B4 st.fr=true) {as:La} {vals:List Value} (hv:RVs (λb=>M b\/G b) (λ_=>none) W as vals) (hps:∀p∈ps.toList,p< n) (fn:FuncId)
    {S:α->AState} {Nx:α->Prop} {X:γ->AState} {PX:Exit->γ->Prop}
    (hround:AWp (some l) P assign (jF (AWp (some l) P body (vJ S Nx X PX n)) (λ_ _=>False)) ⟨jJ st.fr ps.toList as++eX st.fr,st.hp,st.nx,n⟩)
    {R:Ending->World->Prop}
    (hN:∀a' M' W4,Nx a'->Wait M0 w0 a w M' G (S a') W4->GStep M M' W W4->W4.heap[l]?=some (.loop {rec with state:= .ready,pending:=none})->R (.returned (.bool true)) W4)
    (hX:∀e j c M' W4,gU e=some j->PX e c->Wait M0 w0 a w M' G (X c) W4->GStep M M' W W4->W4.heap[l]?=some (.loop {rec with state:= .done,pending:=some j})->R (.returned (.bool false)) W4):
    RoundIn (FR none) 0 P l fn ((ps.zip vals.toArray).foldl (λt (p,v)=>t.setIfInBounds p v) a.tmps) assign body W R:=by
 have hw:=h;obtain⟨kept,two,mark,glt,defs,β,f,hf,V,ht,hM⟩:=hw;have Z:l< W.heap.size:=ω
 have O:∀i s,β i≠some (l,s):=λi s hi=>(f.rng i l s hi).1 ⟨Z,.inr (.inr (.inl hl))⟩;have slo:aY W l=none:=by simp[aY,hrec]
 -- the frame of the round
 have hz:(ps.zip vals.toArray).foldl (λt (p,v)=>t.setIfInBounds p v) a.tmps=(ps.toList.zip vals).foldl (λt (p,v)=>t.setIfInBounds p v) a.tmps:=by
  rw[<-NO,Array.toList_zip]
 have Y:RVs (MM (λb=>M0 b\/G b) β (ap st.hp)) β W as vals:=StabC.vs (M:=λb=>M b\/G b) (β:=λ_=>none) (w:=W) (w':=W) ⟨λ_ _ _ _=>rfl,λb N hb u=>by
  rcases u with(u|u)|⟨i,B,s,_,u⟩
  exact .inl ((hM b).2 (.inl u));exact .inr u;grind,(λ_ _ h=>by cases h),λ_ _ h=>h⟩ hv
 obtain⟨z1,z2⟩:=Bv (ps:=ps.toList) (fr:=st.fr) (tmps:=a.tmps) hn hps Y (λt x m=>by
  have:=hf t x m;rwa[F6 (oF hlo m)] at this)
 rw[<-hz] at z1 z2;have g:(GT< W.heap.size/\∀i s,β i≠some (GT,s))/\TabW W:=⟨⟨f.tab.lt,f.gtn⟩,f.tab⟩
 have hrel:jT (λb=>M0 b\/G b) (k9 w0 a W β W (ir _) g) ⟨jJ st.fr ps.toList as++eX st.fr,st.hp,st.nx,n⟩ {tmps:=(ps.zip vals.toArray).foldl (λt (p,v)=>t.setIfInBounds p v) a.tmps,defers:=[]} W:=by
  refine⟨β,f.rebase (k9 w0 a W β W (ir _) g) rfl (λb hb=>⟨(f.m0 b hb).1.1,λi s hi=>(f.rng i b s hi).1 (f.m0 b hb).1⟩) (λi b s hi hk=>hk.2 i s hi) f.pin,z1,λt x m=>?_,V,⟨[],rfl,E9,ψ⟩⟩;rw[uc] at m;by_cases hgt:GH<=t
  have z:look (jJ st.fr ps.toList as) t=none:=by
   cases hq:look (jJ st.fr ps.toList as) t with
   |none=>rfl
   |some y=>exact absurd (Bw hlo (λp hp=>ns (hps p hp) hng) hq) ω
  rw[z,Option.none_or] at m;obtain⟨t',rfl⟩:∃t',t=t'+GH:=⟨t- GH,ω⟩;rw[pt] at m;have e:=vu (w0:=w0) (w1:=k9 w0 a W β W (ir _) g) (a:=a) (a3:={tmps:=(ps.zip vals.toArray).foldl (λt (p,v)=>t.setIfInBounds p v) a.tmps,defers:=[]}) (t:=t') (qm ..) (fo (NR z1) hng);rw[e];exact hf t' x m;have hlt:t< GH:=ω
  have hx2:look (jJ st.fr ps.toList as) t=some x:=by
   cases hq:look (jJ st.fr ps.toList as) t with
   |some y=>rw[hq,Option.some_or] at m;exact m
   |none=>
    rw[hq,Option.none_or] at m;exact absurd (o0 _ _ _ m) hgt
  have e:fj (k9 w0 a W β W (ir _) g) {tmps:=(ps.zip vals.toArray).foldl (λt (p,v)=>t.setIfInBounds p v) a.tmps,defers:=[]} t=((ps.zip vals.toArray).foldl (λt (p,v)=>t.setIfInBounds p v) a.tmps).getD t undef:=if_pos (.inl hlt);rw[e];exact z2 t x hx2
 refine roundIn_of_wpIn trivial (wpIn_mono (hround _ _ _ _ hrel) ?_);rintro e a1 W1 ⟨s1,r1,q1⟩;cases e with
 |normal=>
  obtain⟨β1,d,t1,f1,fr1,de1⟩:=r1;have A:W1.heap[l]?=some (.loop rec):=(d.below.block l ⟨Z,O⟩).trans hrec;have C:aY W1 l=none:=by simp[aY,A]
  refine⟨_,run_beginRound A hready,?_⟩
  have q:W.heap.size<=(W1.putObj l (.loop {rec with state:= .busy})).heap.size:=by
   have:=d.below.size;have h2:(k9 w0 a W β W (ir _) g).w.heap.size=W.heap.size:=rfl;simp only[World.putObj];simp;omega
  obtain⟨p1,p2,p3,p4,p5,p6,p7⟩:=Ec (o':= .loop {rec with state:= .busy}) A C;have o:(GT< W.heap.size/\∀i s,β i≠some (GT,s))/\TabW (W1.putObj l (.loop {rec with state:= .busy})):=⟨g.1,d.tab.congr (p6 GT λe=>d.tab.sz (e▸C))⟩
  obtain⟨mem2,st2⟩:=d.turn (o':= .loop {rec with state:= .busy}) (b1:=k9 w0 a W β _ q o) A C rfl (λu=>by
   rcases u with u|u
   have:=hm0 l u;omega;have:=(glt l u).1;omega) rfl (λb hb=>(d.m0 b hb).1) (λi b s hi=>(d.rng i b s hi).1) rfl
  have U:jT (λb=>M0 b\/G b) (k9 w0 a W β _ q o) s1 a1 (W1.putObj l (.loop {rec with state:= .busy})):=by
   refine⟨β1,mem2,t1,λt x m=>?_,fr1,?_⟩
   have e:fj (k9 w0 a W β _ q o) a1 t=fj (k9 w0 a W β W (ir _) g) a1 t:=by
    unfold fj;rw[qm,qm]
   rw[e];exact st2.all (f1 t x m);obtain⟨Ds,u1,u2,u3⟩:=de1;refine⟨Ds,u1,u2,λD hD=>⟨?_,(u3 D hD).2⟩⟩;have z:D≠l:=λe=>by have:=(u3 D hD).1;rw[e,A] at this;cases this
   rw[p6 D z];exact(u3 D hD).1
  refine wpIn_mono (q1 _ _ _ _ U) ?_;rintro e a3 W3 ⟨s3,r3,q3⟩;have b3:(k9 w0 a W β _ q o).Kept W3:=by obtain⟨_,m3,_⟩:=r3;exact m3.below
  have k:W3.heap[l]?=some (.loop {rec with state:= .busy}):=(b3.block l ⟨Z,O⟩).trans p5;have Q:aY W3 l=none:=by simp[aY,k]
  have b1:=d.below;have E:∀b,b< W.heap.size->(∀i s,β i≠some (b,s))->b≠l->(W1.putObj l (.loop {rec with state:= .busy})).heap[b]?=W.heap[b]?:=λb hb hn z=>(p6 b z).trans (b1.block b ⟨hb,hn⟩);rcases D6 q3 with⟨rfl,a',hNx,H⟩|⟨⟨j,L⟩,c,hPX,H⟩
  obtain⟨M',T,hg4⟩:=h.back hm0 hK hng hl kept.tab f ht hM q E ⟨p1.trans b1.os,p2.trans b1.tape,p3.trans b1.output⟩ (λb n hb=>p7 b n (b1.sizes b n hb)) o (H _ _ _ _ r3) k Q (o':= .loop {rec with state:= .ready,pending:=none}) rfl;exact⟨_,_,run_endRound none k,hN a' M' _ hNx T hg4 (World.putObj_heap_same (sk.1 k).1)⟩;obtain⟨M',T,hg4⟩:=h.back hm0 hK hng hl kept.tab f ht hM q E ⟨p1.trans b1.os,p2.trans b1.tape,p3.trans b1.output⟩ (λb n hb=>p7 b n (b1.sizes b n hb)) o (H _ _ _ _ r3) k Q (o':= .loop {rec with state:= .done,pending:=some j}) rfl;have J:=hX e j c M' _ L hPX T hg4 (World.putObj_heap_same (sk.1 k).1);have F:(Instr.endRound l (some j)).run P W3= .ok (.bool false) (W3.putObj l (.loop {rec with state:= .done,pending:=some j})):=run_endRound (r:={rec with state:= .busy}) (some j) k;cases e with
  |ret=>simp only[gU,Option.some.injEq] at L;subst L;exact⟨_,_,F,J⟩
  |exit id=>simp only[gU,Option.some.injEq] at L;subst L;exact⟨_,_,F,J⟩
  |goto t=>simp only[gU,Option.some.injEq] at L;subst L;exact⟨_,_,F,J⟩
  |normal=>cases L
  |panic ch=>cases L
  |outgrown=>cases L
 |ret=>exact q1.elim
 |exit id=>exact q1.elim
 |goto t=>exact q1.elim
 |panic ch=>exact q1.elim
 |outgrown=>exact q1.elim
theorem Wait.begin(hlt:∀b,w0.K b->b< w.heap.size)(hm0:∀b,M0 b->w0.K b)(mem:Mem M0 w0 β (ap st.hp) w)(hf:∀t x,look st.fr t=some x->RV (MM M0 β (ap st.hp)) β w x (fj w0 a t))(hfree:∀i,st.nx<=i->β i=none/\i≠0)(hdef:DefOK a.defers w0 w)(ht:∀i x,β i=some x->(ap st.hp i).isSome=true)(rec:Loop):
    Wait M0 w0 a w (λb=>M0 b\/b=w.heap.size+1\/b=w.heap.size\/∃i s,β i=some (b,s)) (λ_=>False) st ((w.alloc (.deferred (some []))).alloc (.loop rec))/\((w.alloc (.deferred (some []))).alloc (.loop rec)).heap[w.heap.size+1]?=some (.loop rec):=by
 obtain⟨p,d1,d2,j⟩:=hdef;have c:Below w.heap.size w ((w.alloc (.deferred (some []))).alloc (.loop rec)):=((Below.refl _ w).alloc (ir _) _).alloc ψ _;obtain⟨m1,s1⟩:=mem.ext c;have d:((w.alloc (.deferred (some []))).alloc (.loop rec)).heap[w.heap.size]?=some (.deferred (some [])):=(Below.heap_alloc _ _ _ ψ).trans (World.alloc_heap_new w _)
 have l:((w.alloc (.deferred (some []))).alloc (.loop rec)).heap[w.heap.size+1]?=some (.loop rec):=by
  have:=World.alloc_heap_new (w.alloc (.deferred (some []))) (.loop rec);simp_all
 refine⟨⟨m1.below,ψ,d,λb hb=>hb.elim,⟨p,d1,d2,λD d=>?_⟩,β,?_,λt x o=>?_,hfree,ht,λb=>No⟩,l⟩;have f:=j D d;have g:D< w.heap.size:=(sk.1 f.1).1;exact⟨g,(c.block D g).trans f.1,f.2⟩;have e:(λb=>M0 b\/False)=M0:=φ
 rw[e];refine m1.rebase (B9 w0 (w.heap.size+1) w.heap.size (λ_=>False) _ m1.tab) rfl (λb hb=>⟨φ,.inl (hm0 b hb)⟩) (λi b s n k=>?_) m1.pin;have m:=mem.rng i b s n;rcases k.2 with h|h|h|h
 exact m.1 h;exact h;omega;omega;have e:(λb=>M0 b\/False)=M0:=φ
 rw[e];exact s1.all (hf t x o)
theorem Wait.over(hlt:∀b,w0.K b->b< w.heap.size)(hm0:∀b,M0 b->w0.K b)(h:Wait M0 w0 a w M G st W)(hn:a.tmps.size=n)(hsn:st.n=n){rec rec':Loop}(hrec:W.heap[w.heap.size+1]?=some (.loop rec)):
    jT M0 w0 st {a with defers:={target:= .collected w.heap.size,args:= #[]}::a.defers} (W.putObj (w.heap.size+1) (.loop rec')):=by
 obtain⟨kept,two,mark,glt,⟨E,d1,d2,H⟩,β,c,y,f,L,J⟩:=h;have m:aY W (w.heap.size+1)=none:=by simp[aY,hrec]
 obtain⟨p1,p2,q,r,F,l,p⟩:=Ec (o':= .loop rec') hrec m
 have d:∀i b s,β i=some (b,s)->¬w0.K b/\b≠w.heap.size+1/\b< W.heap.size:=λi b s k=>by
  have j:=c.rng i b s k;exact⟨λv=>j.1 ⟨j.2,.inl v⟩,λe=>j.1 ⟨j.2,.inr (.inr (.inl e))⟩,j.2⟩
 have g:StabC (MM (λb=>M0 b\/G b) β (ap st.hp)) (MM M0 β (ap st.hp)) β β W (W.putObj (w.heap.size+1) (.loop rec')):=
  ⟨λb N hb _=>l b (λe=>φ),λb N _ C=>C.imp .inl id,λ_ _ h=>h,p⟩
 refine⟨β,⟨⟨p1.trans kept.os,p2.trans kept.tape,q.trans kept.output,fo kept.size (NR r.symm),λb hb=>(l b φ).trans (kept.block b hb),λb n hb=>p b n (kept.sizes b n hb)⟩,(λb hb=>⟨hm0 b hb,(c.m0 b (.inl hb)).2⟩),λi b s k=>⟨(d i b s k).1,φ⟩,c.pin,λi B k=>?_,c.inj⟩,hn.trans hsn.symm,λt x z=>?_,f,⟨w.heap.size::E,?_,NN.2 ⟨λu=>by grind,d2⟩,λD u=>?_⟩⟩;obtain⟨b,o,A⟩:=c.blk i B k;exact⟨b,o,A.stab g (l b (d i b _ o).2.1)⟩;exact g.all (y t x z);rw[d1];rfl;grind
theorem AWp.rangeFuncB {Q:Exit->AState->Prop} {f:Operand} {hp:Hp} {nx g:Nat} (N:Nat) (S:α->AState) (kk:α->Nat) (Inv:α->Prop) (X:γ->AState) (PX:Exit->γ->Prop) (a0:α)
    (hf:evF (look (S a0).fr) f=some (.clos g [] cap)) (hs:GSpecB P g (cap.map coe) T N) (hps:ps.toList.all (Nat.blt · n)=true) (hng:Nat.ble n 1000=true) (hT:∀k as,T k=some as->as.length=ps.size)
    (hSn:∀a,(S a).n=n/\B4 (S a).fr=true) (hXn:∀c,(X c).n=n) (hi:Inv a0) (hk0:kk a0=0) (hb:∀a,Inv a->kk a<=N)
    (h0:SEntT ⟨fr,hp,nx,n⟩ (S a0)) (hcap:(∀x∈cap.map coe,Closed x))
    (hround:∀l a as,Inv a->T (kk a)=some as->AWp (some l) P assign (jF (AWp (some l) P body (vJ S (λa'=>Inv a'/\kk a'=kk a+1) X PX n)) (λ_ _=>False)) ⟨jJ (S a).fr ps.toList as++eX (S a).fr,(S a).hp,(S a).nx,n⟩)
    (hdone:∀a,Inv a->T (kk a)=none->Q .normal (S a)) (hstop:∀e c,PX e c->Q e (X c)):AWp none P (.rangeFunc f ps assign body) Q ⟨fr,hp,nx,n⟩:=by
 intro U w0 a w hr;have D:∀b,U b->w0.K b:=by obtain⟨_,m,_⟩:=hr;exact λb hb=>(m.m0 b hb).1
 have q:∀b,w0.K b->b< w.heap.size:=by obtain⟨_,m,_⟩:=hr;exact λb hb=>ns (w0.lt b hb) m.below.size
 have z:∀b,U b->b< w.heap.size:=λb hb=>q b (D b hb);have hn:a.tmps.size=n:=by obtain⟨_,_,C,_⟩:=hr;grind
 have hng':n<=GH:=r9 hng;have hps':∀p∈ps.toList,p< n:=λp hp=>r9 (pZ.1 hps p hp);obtain⟨β,mem,_,hfr,Y,hdef,ht⟩:=h0 U w0 a w hr;obtain⟨xs,ys,hfe,hr1,hr2⟩:=fG hfr f _ hf;have hxs:xs= #[]:=by have:xs.toList=[]:=hr1;grind
 subst hxs;refine wpIn_rangeFunc ?_;intro fn _;obtain⟨o,d⟩:∃r:Loop,r={state:= .ready,pending:=none,fn,tmps:=a.tmps,params:=ps,assign,body,defers:=w.heap.size}:=⟨_,rfl⟩;obtain⟨R,V⟩:=Wait.begin q D mem hfr Y hdef ht o;obtain⟨H,Z⟩:∃H,H=(w.alloc (.deferred (some []))).alloc (.loop o):=⟨_,rfl⟩;rw[<-Z] at R V
 have hcapv:RVs (λb=>U b\/b=w.heap.size+1\/b=w.heap.size\/∃i s,β i=some (b,s)) (λ_=>none) H (cap.map coe) ys.toList:=by
  have hbel:Below w.heap.size w H:=by rw[Z];exact((Below.refl _ w).alloc (ir _) _).alloc ψ _
  have C:=(mem.ext hbel).2.vs (gF hr2);refine se (λb N hb hm=>?_) (dG hcap C);rcases hm with hm|rfl|rfl|⟨i,s,hm⟩
  exact .inl hm;simp[aY,V] at hb;simp[aY,R.mark] at hb;obtain⟨B,hB⟩:=xa.1 (ht i _ hm);exact .inr ⟨i,B,s,hB,hm⟩
 let E:GEnv P (w.heap.size+1) T N:={
  J:=λk go M G W=>
   (go=true/\∃x,Inv x/\kk x=k/\W.heap[w.heap.size+1]?=some (.loop o)/\Wait U w0 a w M G (S x) W)\/
   (go=false/\∃e j c,gU e=some j/\PX e c/\W.heap[w.heap.size+1]?=some (.loop {o with state:= .done,pending:=some j})/\Wait U w0 a w M G (X c) W)
  ok:=by
   have keep:∀{M G G':Nat->Prop} {W W':World} {st:AState},Wait U w0 a w M G st W->GStep G G' W W'->W'.heap[w.heap.size+1]?=W.heap[w.heap.size+1]?:=λh hs=>hs.block _ (by have:=h.two;omega) (λhG=>by have:=(h.glt _ hG).1;omega);rintro k go M G G' W W' (⟨C,x,y,h3,A,u⟩|⟨C,e,j,c,y,h3,A,u⟩) hs;exact .inl ⟨C,x,y,h3,(keep u hs).trans A,u.step z q hs⟩;exact .inr ⟨C,e,j,c,y,h3,(keep u hs).trans A,u.step z q hs⟩
  bound:=by
   rintro k M G W (⟨_,x,y,rfl,_⟩|⟨C,_⟩);exact hb x y;cases C
  disj:=by
   rintro k go M G W (⟨_,x,_,_,_,u⟩|⟨_,e,j,c,_,_,_,u⟩);exact u.disj z;exact u.disj z
  tabs:=by
   rintro k go M G W (⟨_,x,_,_,_,u⟩|⟨_,e,j,c,_,_,_,u⟩);exact u.tabs q;exact u.tabs q
  yok:=by
   rintro k M G W as vals (⟨_,x,y,rfl,A,u⟩|⟨C,_⟩) F hv hG;have hlen:vals.length=ps.size:=hv.length.trans (hT _ _ F);have hy:=run_yield (P:=P) (args:=vals.toArray) A (by rw[d];simpa using hlen);refine⟨_,_,_,_,hy,?_⟩;have e1:o.tmps=a.tmps:=by rw[d]
   have e2:o.params=ps:=by rw[d]
   have e3:o.assign=assign:=by rw[d]
   have e4:o.body=body:=by rw[d]
   rw[e1,e2,e3,e4];refine u.round z q hn hng' rfl A (by rw[d]) (hSn x).2 hv hps' _ (hround _ x as y F) (λx' M' W4 hx' L hg4 hl4=>?_) (λe j c M' W4 hj hPX L hg4 hl4=>?_);refine⟨true,M',rfl,.inl ⟨rfl,x',hx'.1,hx'.2,?_,L⟩,hg4⟩;rw[hl4,d];exact⟨false,M',rfl,.inr ⟨rfl,e,j,c,hj,hPX,by rw[hl4,e1,e2,e3,e4],L⟩,hg4⟩;cases C}
 refine⟨w.heap.size+1,[{target:= .collected w.heap.size,args:= #[]}],H,{target:= .fn (.func g) ys,args:= #[.func (.yield (w.heap.size+1)) #[] #[]]},H,g, #[.func (.yield (w.heap.size+1)) #[] #[]]++ys,H,by rw[Z,d];exact run_enterLoop_outer _ _ _ _ _,?_,λ_ _=>trivial,?_,λh=>by simp[FR] at h,?_⟩;simp only[resolve,hfe,Deferred.ofValue,Sem.run_pure];simp;rfl;simp only[invoke,hs.enters];have hc:=hs.calls (w.heap.size+1) N (ir N) E _ H ys.toList (.inl ⟨rfl,a0,hi,hk0,V,R⟩) hcapv;rw[Array.toArray_toList] at hc;refine hc.mono ?_;rintro e W2 ⟨⟨v,rfl⟩,k,go,M',G',hJ,F⟩;rcases hJ with⟨rfl,x,y,rfl,A,u⟩|⟨rfl,e,j,c,y,h3,A,u⟩
 refine⟨none,_,by have:=run_endLoop (P:=P) A (by rw[d];simp);rw[this,d],S x,u.over q D hn (hSn x).1 A,hdone x y (F rfl)⟩;refine⟨some j,_,run_endLoop (P:=P) A ψ,?_⟩;have O:=u.over q D hn (hXn c) (rec':={({o with state:= .done,pending:=some j}:Loop) with state:= .exhausted}) A;have hq:=hstop e c h3;cases e with
 |ret=>simp only[gU,Option.some.injEq] at y;subst y;exact wpIn_ret ⟨_,O,hq⟩
 |exit id=>simp only[gU,Option.some.injEq] at y;subst y;exact wpIn_exit ⟨_,O,hq⟩
 |goto t=>simp only[gU,Option.some.injEq] at y;subst y;exact wpIn_goto ⟨_,O,hq⟩
 |normal=>cases y
 |panic ch=>cases y
 |outgrown=>cases y
theorem AWp.rangeFunc {Q:Exit->AState->Prop} {f:Operand} {hp:Hp} {nx g:Nat} (N:Nat) (S:α->AState) (kk:α->Nat) (Inv:α->Prop) (X:γ->AState) (PX:Exit->γ->Prop) (a0:α)
    (hf:evF (look (S a0).fr) f=some (.clos g [] cap)) (hs:GSpec P g (cap.map coe) T) (hps:ps.toList.all (Nat.blt · n)=true) (hng:Nat.ble n 1000=true) (hT:∀k as,T k=some as->as.length=ps.size)
    (hSn:∀a,(S a).n=n/\B4 (S a).fr=true) (hXn:∀c,(X c).n=n) (hi:Inv a0) (hk0:kk a0=0) (hb:∀a,Inv a->kk a<=N)
    (h0:SEntT ⟨fr,hp,nx,n⟩ (S a0)) (hcap:(∀x∈cap.map coe,Closed x))
    (hround:∀l a as,Inv a->T (kk a)=some as->AWp (some l) P assign (jF (AWp (some l) P body (vJ S (λa'=>Inv a'/\kk a'=kk a+1) X PX n)) (λ_ _=>False)) ⟨jJ (S a).fr ps.toList as++eX (S a).fr,(S a).hp,(S a).nx,n⟩)
    (hdone:∀a,Inv a->T (kk a)=none->Q .normal (S a)) (hstop:∀e c,PX e c->Q e (X c)):AWp none P (.rangeFunc f ps assign body) Q ⟨fr,hp,nx,n⟩:=
 AWp.rangeFuncB N S kk Inv X PX a0 hf (hs N) hps hng hT hSn hXn hi hk0 hb h0 hcap hround hdone hstop
end
theorem GSpecB.enter {P:Program} {f:Nat} {fn:Func} {c:Code} {K:Nat} (hf:P.funcs[f]?=some fn) (hb:fn.body=some c) (hname:(fn.name== "runtime.NumGoroutine")=false) (hrs:fn.results.toList=[]) {m:Nat} (hm:fn.ntmps=m) (hn:Nat.ble (cap.length+1) m=true)
    (hcl:∀a∈cap,Closed a) (hclT:∀k as,T k=some as->∀a∈as,Closed a) (hfr:dA 1 cap=fr)
    (h:∀l N (_:N<=K) (E:GEnv P l T N),GWp E c (λe k go _=>(e= .normal\/e= .ret)/\(go=true->T k=none)) 0 true ⟨(0,.v (.func (.yield l) #[] #[]))::fr,[],1,m⟩):GSpecB P f cap T K:=by
 subst hfr;exact GSpecB.intro hf hb hname hrs hm hn hcl hclT h
theorem GSpec.enter {P:Program} {f:Nat} {fn:Func} {c:Code} (hf:P.funcs[f]?=some fn) (hb:fn.body=some c) (hname:(fn.name== "runtime.NumGoroutine")=false) (hrs:fn.results.toList=[]) {m:Nat} (hm:fn.ntmps=m) (hn:Nat.ble (cap.length+1) m=true)
    (hcl:∀a∈cap,Closed a) (hclT:∀k as,T k=some as->∀a∈as,Closed a) (hfr:dA 1 cap=fr)
    (h:∀l N (E:GEnv P l T N),GWp E c (λe k go _=>(e= .normal\/e= .ret)/\(go=true->T k=none)) 0 true ⟨(0,.v (.func (.yield l) #[] #[]))::fr,[],1,m⟩):GSpec P f cap T:=λK=>by
 subst hfr;exact GSpecB.intro hf hb hname hrs hm hn hcl hclT (λl N _ E=>h l N E)
end
section
variable {P:Program}{id f:Nat}{r:AV}
section
variable {P:Program}{T:Nat}{x y:Operand}{a b:Int}
theorem tR(hb:b≠0)(h: -9223372036854775808<=a.tdiv b/\a.tdiv b<=9223372036854775807):∀w,(do eqGuard .quo T x y (.int .i64 a) (.int .i64 b);binOp .quo T (.int .i64 a) (.int .i64 b):Sem Value).run P w= .ok (.int .i64 (a.tdiv b)) w:=λw=>by
 rw[rR hb,IntWalk.i64_in _ h]
theorem I0(hb:b≠0):∀w,(do eqGuard .rem T x y (.int .i64 a) (.int .i64 b);binOp .rem T (.int .i64 a) (.int .i64 b):Sem Value).run P w= .ok (.int .i64 (a.tmod b)) w:=λw=>by
 rw[oc hb]
end
theorem AEval.callS2{ev:Operand->Option AV}{hp:Hq}{c:Call}{callee:Operand}{fst cap as as' as2:La}{ids:Ln}(h1:c.callee= .value callee)(h2:ev callee=some (.clos f fst cap))(h3:evs ev c.args.toList=some as)(h4:SealArgs hp (fst++as++cap) as2 ids)(he:as2=as')(h5:FSpec P f as' r):
    AEval P id ev hp (.call c) ⟨r,ids.map λi=>(i,none)⟩ ids:=by subst he;exact .callS h1 h2 h3 h4 h5
theorem AEval.callS1{ev:Operand->Option AV}{hp:Hq}{c:Call}{callee:Operand}{i:Nat}{fst cap as as' as2:La}(h1:c.callee= .value callee)(h2:ev callee=some (.clos f fst cap))(h3:evs ev c.args.toList=some as)(h4:SealArgs hp (fst++as++cap) as2 [i])(he:as2=as')(h5:FSpec P f as' r):
    AEval P id ev hp (.call c) ⟨r,[(i,none)]⟩ [i]:= .callS2 h1 h2 h3 h4 he h5
theorem FSpec.argE{X Y:Lc}(h:FSpec P f [.arr Y] r)(e:X=Y):FSpec P f [.arr X] r:=e▸h
theorem FSpec.argE2{X Y:Lc}{a:AV}(h:FSpec P f [a,.arr Y] r)(e:X=Y):FSpec P f [a,.arr X] r:=e▸h
theorem AWp.cutB{ρ:Option Nat}{Q Q':Exit->AState->Prop}{st:AState}{x y:Code}{α:Type}(S:α->AState)(Post:α->Prop)(h:AWp ρ P x (L5 S Post (tO id (jF (AWp ρ P y Q) Q'))) st)(h2:∀a,Post a->AWp ρ P y Q (S a)):AWp ρ P x (tO id (jF (AWp ρ P y Q) Q')) st:=
 AWp.mono h λe s hs=>by
  cases e with
  |normal=>obtain⟨a,c,b⟩:=hs;exact AWp.ent b (h2 a c)
  |_=>exact hs
end
section
variable {cs:La}{o id n t:Nat}{hp:Hq}{B:ABlk}
theorem aN{i:Nat}(h:∀c∈cs,Closed c):Closed (.aptr [cs] i o):=
 lj λe b c a=>by rw[kI.1 b] at a;exact h c a
theorem Cv.boxp{r:Ren}{hp':Hq}(h:Shr r hp hp')(hi:dS hp id=some B)(hd:ux r hp' id)(e:B.es=[cs])(hc:∀c∈cs,Closed c):Cv r hp hp' (.lptr id 0 o) (.aptr [cs] 0 o):=by
 refine Cv.sealp h hi hd (by rw[e];exact Pb) ?_;rw[e];exact bv h λe b c a=>by rw[kI.1 b] at a;exact hc c a
theorem FSpec.nil1{P:Program}{f:Nat}{r:AV}(h:∀a c,FSpec P f [.v (.slice a 0 c)] r):FSpec P f [.arr []] r:=by
 refine⟨λa ha=>?_,(h none 0).enters,λM w vals g b=>?_⟩;rw[kI.1 ha];exact aP λe d=>by cases d
 obtain⟨x,xs,e,⟨a,c,j,_⟩,i⟩:=b;exact(h a c).calls M w vals g ⟨x,xs,e,j,i⟩
section
variable {P:Program}{T:Nat}{d:Nat×Nat}{x y:Operand}
theorem HI(h:eQ P T=some d):∃e,P.underlying T=some (.slice e):=by
 unfold eQ at h;split at h;exact⟨_,by assumption⟩;cases h
theorem nilE{a:Option Addr}{c:Nat}(h:eQ P T=some d)(w:World):(do eqGuard .eql T x y (.slice a n c) (.slice none 0 0);binOp .eql T (.slice a n c) (.slice none 0 0):Sem Value).run P w= .ok (.bool a.isNone) w:=by
 obtain⟨e,b⟩:=HI h
 have:(Op.equal T (.slice a n c) (.slice none 0 0)).run P w= .ok a.isNone w:=by
  unfold Op.equal;rw[show Op.maxDepth=(Op.maxDepth- 1)+1 from rfl];cases a <;> simp[Op.equalIn,run_underlying b]
 simp[eqGuard,binOp,this]
theorem AEval.nilq_arr{ev:Operand->Option AV}{x y:Operand}{yt:Nat}{es:Lc}(hx:ev x=some (.arr es))(hn:es≠[])(hy:y= .const (.slice none 0 0))(h:eQ P T=some d):
    AEval P id ev hp (.binOp .eql T x y yt) ⟨.v (.bool false),[]⟩ []:=
 .bin_c hx hy λM β i j f w=>by
  obtain⟨a,c,rfl,_,_,g⟩:=f;obtain⟨b,e,s,rfl,_⟩:=g.resolve_left hn;exact nilE h w
theorem AEval.nilq_v{ev:Operand->Option AV}{x y:Operand}{yt c:Nat}{a:Option Addr}(hx:ev x=some (.v (.slice a n c)))(hy:y= .const (.slice none 0 0))(h:eQ P T=some d):
    AEval P id ev hp (.binOp .eql T x y yt) ⟨.v (.bool a.isNone),[]⟩ []:=
 .bin_c hx hy λM β f e b w=>by
  cases (b:e=_);exact nilE h w
end
section
variable {P:Program}{fr:Fr}{hp:Hp}{nx n:Nat}{r:AV}
theorem Fin.tmpN(h:look fr t=some .emp):Fin P [.tmp t] (.arr []) .ret ⟨fr,hp,nx,n⟩:=Fin.tmp h (Cv.emp _)
theorem Fin.tmpS{k sz:Nat}{cap:Option Nat}{es:Lc}(h:look fr t=some (.lsl id 0 k cap sz))(hb:dS (ap hp) id=some B)(e:B.es=es)(hn:k=es.length)(hc:∀e∈es,∀c∈e,Closed c):Fin P [.tmp t] (.arr es) .ret ⟨fr,hp,nx,n⟩:=
 Fin.tmp h (Cv.sealE aE hb (λ_ _ h=>by cases h) e hn hc)
theorem Fin.tmpP(h:look fr t=some (.lptr id 0 o))(hb:dS (ap hp) id=some B)(e:B.es=[cs])(hc:∀c∈cs,Closed c):Fin P [.tmp t] (.aptr [cs] 0 o) .ret ⟨fr,hp,nx,n⟩:=
 Fin.tmp h (Cv.boxp aE hb (λ_ _ h=>by cases h) e hc)
end
theorem Cv.slN{r:Ren}{hp':Hq}{id' i sz:Nat}{cap:Option Nat}(hi:Nat.blt id' r.n=true)(hs:r.s id'=id)(hl:(hp' id').isSome=true):Cv r hp hp' (.lsl id i n cap sz) (.lsl id' i n none sz):=by
 rintro g j β w y _ ⟨b,c,hb,e,f,a,k,d⟩;exact⟨b,c,by rw[Ren.app_of (r9 hi) hl,hs];exact hb,e,f,a,(λ_ h=>by cases h),d⟩
def Le(a a':AV):Prop:=∀(M:Nat->Prop) β w y,RV M β w a y->RV M β w a' y
inductive LeL:La->La->Prop
 |nil:LeL [] []
 |cons {a a' as as'}:Le a a'->LeL as as'->LeL (a::as) (a'::as')
theorem Le.refl(a:AV):Le a a:=λ_ _ _ _ h=>h
theorem Le.emp:Le .emp (.arr []):=λ_ _ _ _ h=>zi h
theorem LeL.refl:∀as,LeL as as
 |[]=> .nil
 |a::as=> .cons (Le.refl a) (LeL.refl as)
theorem LeL.rvs{M:Nat->Prop}{β:Bq}{w:World}{as as':La}(h:LeL as as'):∀{ys:List Value},RVs M β w as ys->RVs M β w as' ys:=by
 induction h with
 |nil=>exact λh=>h
 |cons d _ b=>rintro ys ⟨x,xs,e,c,a⟩;exact⟨x,xs,e,d M β w x c,b a⟩
theorem Le.agg{cs':La}(h:LeL cs cs'):Le (.agg cs) (.agg cs'):=λM β w y=>by
 rintro⟨xs,e,a⟩;exact⟨xs,e,h.rvs a⟩
theorem FSpec.weak{P:Program}{f:Nat}{as as':La}{r:AV}(h:FSpec P f as' r)(hl:LeL as as')(hc:∀a∈as,Closed a):FSpec P f as r:=
 ⟨hc,h.enters,λM w vals b hv=>h.calls M w vals b (hl.rvs hv)⟩
end
end Go.Abs
