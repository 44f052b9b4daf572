/- Part Y06 of the proof. -/
import Derived.Test.YtjgokhkahkmpbaaGreatDoorY05
set_option linter.all false
namespace Go.Abs
open Go.RowKit
section
variable {l n:Nat}{o o':Obj}{β:Bq}{fr:Fr}{cap:La}{T:Nat->Option La}
def dP(fr:Fr):Fr:=fr.map λp=>(p.1+GH,p.2)
def BG(fr:Fr):Bool:=fr.all λp=>Nat.ble p.1 999
def ic:Fr->Ln->La->Fr
 |fr,p::ps,a::as=>ic ((p,a)::fr) ps as
 |fr,_,_=>fr
theorem oe:∀(fr:Fr) (t:Nat),look (dP fr) (t+GH)=look fr t
 |[],_=>rfl
 |(k,x)::fr,t=>by
  show look ((k+GH,x)::dP fr) _=_;rw[cJ,cJ];unfold upd;by_cases h:t=k;rw[if_pos h,if_pos ω];rw[if_neg h,if_neg ω];exact oe fr t
theorem nU:∀(fr:Fr) (t:Nat) (x:AV),look (dP fr) t=some x->GH<=t
 |[],_,_,h=>by cases h
 |(k,y)::fr,t,x,h=>by
  have h':look ((k+GH,y)::dP fr) t=some x:=h;rw[cJ] at h';unfold upd at h';split at h';omega;exact nU fr t x h'
theorem r8{α:Type}:∀(l m:List (Nat×α)) (t:Nat),look (l++m) t=(look l t).or (look m t)
 |[],_,_=>rfl
 |(k,x)::l,m,t=>by
  rw[List.cons_append,cJ,cJ];unfold upd;split;rfl;exact r8 l m t
theorem ns:∀{fr:Fr} {t:Nat} {x:AV},BG fr=true->look fr t=some x->Nat.ble t 999=true
 |[],_,_,_,h=>by cases h
 |(k,y)::fr,t,x,hl,h=>by
  simp only[BG,List.all_cons,Bool.and_eq_true] at hl;rw[cJ] at h;unfold upd at h;split at h
  ·grind
  exact ns (fr:=fr) hl.2 h
theorem yT{M:Nat->Prop}{β:Bq}{w:World}{n:Nat}:∀{ps:Ln} {as:La} {vals:List Value} {fr:Fr} {tmps:Array Value},tmps.size=n->(∀p∈ps,p< n)->RVs M β w as vals->(∀t x,look fr t=some x->RV M β w x (tmps.getD t undef))->
    ((ps.zip vals).foldl (λt (p,v)=>t.setIfInBounds p v) tmps).size=n/\∀t x,look (ic fr ps as) t=some x->RV M β w x (((ps.zip vals).foldl (λt (p,v)=>t.setIfInBounds p v) tmps).getD t undef)
 |[],as,vals,fr,tmps,hn,_,_,h=>by cases as <;> simpa[ic,hn] using h
 |p::ps,[],vals,fr,tmps,hn,_,hv,h=>by cases (hv:vals=[]);simpa[ic,hn] using h
 |p::ps,a::as,_,fr,tmps,hn,hp,⟨y,ys,e,h1,h2⟩,h=>by
  subst e;simp only[List.zip_cons_cons];refine yT φ (λq hq=>hp q (List.mem_cons_of_mem _ hq)) h2 λt x hx=>?_;rw[cJ] at hx;unfold upd at hx;rw[Array.getD_eq_getD_getElem?,Array.getElem?_setIfInBounds];split at hx
  ·grind
  ·rename_i e;rw[if_neg (λh=>e h.symm),<-Array.getD_eq_getD_getElem?];grind
theorem yU:∀{ps:Ln} {as:La} {fr:Fr} {t:Nat} {x:AV},BG fr=true->(∀p∈ps,p< GH)->look (ic fr ps as) t=some x->t< GH
 |[],as,fr,t,x,hl,_,h=>by
  have h':look fr t=some x:=by cases as <;> exact h
  have:=Nat.le_of_ble_eq_true (ns hl h');grind
 |p::ps,[],fr,t,x,hl,_,h=>by
  have:=Nat.le_of_ble_eq_true (ns hl (show look fr t=some x from h));grind
 |p::ps,a::as,fr,t,x,hl,hp,h=>by
  refine yU (fr:=(p,a)::fr) (ps:=ps) (as:=as) ?_ (λq hq=>hp q (List.mem_cons_of_mem _ hq)) h;simp only[BG,List.all_cons,Bool.and_eq_true];exact⟨Nat.ble_eq_true_of_le (Nat.le_of_lt_succ (hp p (List.mem_cons_self ..))),hl⟩
def iU:Exit->Option Code
 | .ret=>some .ret
 | .exit id=>some (.exit id)
 | .goto t=>some (.goto t)
 |_=>none
section
variable {P:Program}
def zH(w0:Base)(l D:Nat)(G:Nat->Prop)(W:World)(h:TabW W):Base:=⟨W,λb=>b< W.heap.size/\(w0.K b\/G b\/b=l\/b=D),λ_ h=>h.1,w0.pin,w0.gh,⟨h.lt,.inl w0.kt⟩,h⟩
structure Wait (M0:Nat->Prop)(w0:Base)(a:Act)(w:World)(M G:Nat->Prop)(st:AState)(W:World):Prop where
 kept:w0.Kept W
 two:w.heap.size+2<=W.heap.size
 mark:W.heap[w.heap.size]?=some (.deferred (some []))
 glt:∀b,G b->w.heap.size+2<=b/\b< W.heap.size
 defs:∃Ds:Ln,a.defers=Ds.map BC/\Ds.Nodup/\∀D∈Ds,D< w.heap.size/\W.heap[D]?=some (.deferred (some []))/\¬w0.K D
 rel:∃β,Mem (λb=>M0 b\/G b) (zH w0 (w.heap.size+1) w.heap.size G W kept.tab) β (au st.hp) W/\(∀t x,look st.fr t=some x->RV (MM (λb=>M0 b\/G b) β (au st.hp)) β W x (fU w0 a t))/\
  (∀i,st.nx<=i->β i=none/\i≠0)/\(∀i x,β i=some x->(au st.hp i).isSome=true)/\∀b,M b↔(M0 b\/b=w.heap.size+1\/b=w.heap.size\/∃i s,β i=some (b,s))
variable {M0:Nat->Prop}{w0:Base}{a:Act}{w W W':World}{M G G':Nat->Prop}{st:AState}
theorem Wait.step(hm0:∀b,M0 b->b< w.heap.size)(hK:∀b,w0.K b->b< w.heap.size)(h:Wait M0 w0 a w M G st W)(hs:GStep G G' W W'):Wait M0 w0 a w M G' st W':=by
 obtain⟨kept,two,mark,glt,⟨Ds,d1,d2,d3⟩,β,mem,hf,hfree,ht,hM⟩:=h;have nG:∀b,b< w.heap.size+2->¬G b:=λb hb hG=>by grind
 have same:∀b,b< w.heap.size+2->W'.heap[b]?=W.heap[b]?:=λb hb=>hs.block b ω (nG b hb);have numG:∀i b s,β i=some (b,s)->¬G b:=λi b s hi hG=>(mem.rng i b s hi).1 ⟨(glt b hG).2,.inr (.inl hG)⟩;have hG':∀b,G' b->(G b\/W.heap.size<=b)/\b< W'.heap.size:=hs.own
 have st1:StabC (MM (λb=>M0 b\/G b) β (au st.hp)) (MM (λb=>M0 b\/G' b) β (au st.hp)) β β W W':=by
  refine⟨λb N hb hn=>hs.block b (ci hb) λhG=>hn (.inl (.inr hG)),λb N hb hm=>?_,λ_ _ h=>h,hs.sizes⟩;rcases hm with(hm|hm)|hm
  exact .inl (.inl hm);rcases(hG' b hm).1 with h|h
  exact .inl (.inr h);have:=ci hb;omega;exact .inr hm
 refine⟨⟨hs.os.trans kept.os,hs.tape.trans kept.tape,hs.output.trans kept.output,Nat.le_trans kept.size hs.size,λb hb=>(same b φ).trans (kept.block b hb),λb n hb=>hs.sizes b n (kept.sizes b n hb)⟩,Nat.le_trans two hs.size,(same _ ω).trans mark,
  λb hb=>⟨φ,(hG' b hb).2⟩,⟨Ds,d1,d2,λD hD=>⟨(d3 D hD).1,(same D φ).trans (d3 D hD).2.1,(d3 D hD).2.2⟩⟩,β,⟨⟨rfl,rfl,rfl,Nat.le_refl _,λ_ _=>rfl,λ_ _ h=>h⟩,λb hb=>?_,λi b s hi=>?_,mem.pin,λi B hi=>?_,mem.inj⟩,λt x hx=>st1.all (hf t x hx),hfree,ht,hM⟩
 ·refine⟨?_,λe=>?_⟩
  rotate_left;subst e;have hgk:=hK GT w0.kt;rcases hb with hb|hb
  exact(mem.m0 GT (.inl hb)).2 rfl;rcases(hG' GT hb).1 with h|h
  have:=(glt GT h).1;omega;omega;rcases hb with hb|hb
  have:=(mem.m0 b (.inl hb)).1;refine⟨Nat.lt_of_lt_of_le this.1 hs.size,?_⟩;rcases this.2 with h|h|h|h
  exact .inl h;exact absurd h (nG b (by have:=hm0 b hb;omega));have:=hm0 b hb;omega;have:=hm0 b hb;omega;exact⟨(hG' b hb).2,.inr (.inl hb)⟩
 have hr:=mem.rng i b s hi;refine⟨λhk=>hr.1 ⟨hr.2,?_⟩,Nat.lt_of_lt_of_le hr.2 hs.size⟩;rcases hk.2 with h|h|h|h
 exact .inl h;rcases(hG' b h).1 with h|h
 exact .inr (.inl h);have:=hr.2;omega;exact .inr (.inr (.inl h));exact .inr (.inr (.inr h));obtain⟨b,r1,r2⟩:=mem.blk i B hi;exact⟨b,r1,r2.stab st1 (hs.block b (mem.rng i b _ r1).2 (numG i b _ r1))⟩
theorem Wait.tabs(hK:∀b,w0.K b->b< w.heap.size)(h:Wait M0 w0 a w M G st W):TabW W/\¬M GT/\¬G GT:=by
 obtain⟨kept,two,mark,glt,_,β,mem,hf,hfree,ht,hM⟩:=h;have hgk:=hK GT w0.kt;refine⟨kept.tab,λhm=>?_,λhg=>by grind⟩;rcases(hM GT).1 hm with h|h|h|⟨i,s,h⟩
 exact(mem.m0 GT (.inl h)).2 rfl;omega;omega;exact mem.gtn i s h
theorem Wait.disj(hm0:∀b,M0 b->b< w.heap.size)(h:Wait M0 w0 a w M G st W):∀b,M b->b< W.heap.size/\¬G b:=by
 obtain⟨kept,two,mark,glt,_,β,mem,hf,hfree,ht,hM⟩:=h;intro b hb;have nG:∀b,b< w.heap.size+2->¬G b:=λb hb hG=>by grind
 rcases(hM b).1 hb with h|rfl|rfl|⟨i,s,hi⟩
 have:=hm0 b h;exact⟨ω,nG b ω⟩;exact⟨ω,nG _ ω⟩;exact⟨ω,nG _ ω⟩;have hr:=mem.rng i b s hi;exact⟨hr.2,λhG=>hr.1 ⟨hr.2,.inr (.inl hG)⟩⟩
theorem Bt{W:World}(h:W.heap[l]?=some o)(ho:aL W l=none):
    (W.putObj l o').os=W.os/\(W.putObj l o').tape=W.tape/\(W.putObj l o').output=W.output/\(W.putObj l o').heap.size=W.heap.size/\(W.putObj l o').heap[l]?=some o'/\(∀b,b≠l->(W.putObj l o').heap[b]?=W.heap[b]?)/\∀b n,aL W b=some n->aL (W.putObj l o') b=some n:=by
 have hlt:l< W.heap.size:=(Array.getElem?_eq_some_iff.1 h).1;refine⟨rfl,rfl,rfl,ψ,World.putObj_heap_same hlt,λb hb=>World.putObj_heap_other hb,λb n hb=>?_⟩;have hne:b≠l:=λe=>by grind
 exact(dZ (World.putObj_heap_other hne)).trans hb
variable {α γ:Type}{ps:Array Tmp}{assign body:Code}
def xc(S:α->AState)(Nx:α->Prop)(X:γ->AState)(PX:Exit->γ->Prop)(n:Nat):Exit->AState->Prop
 | .normal,s=> ∃a',Nx a'/\SEntT s ⟨dP (S a').fr,(S a').hp,(S a').nx,n⟩
 |e,s=>(iU e).isSome=true/\∃c,PX e c/\SEntT s ⟨dP (X c).fr,(X c).hp,(X c).nx,n⟩
theorem Bm{S:α->AState}{Nx:α->Prop}{X:γ->AState}{PX:Exit->γ->Prop}{e:Exit}{s:AState}(h:xc S Nx X PX n e s):(e= .normal/\∃a',Nx a'/\SEntT s ⟨dP (S a').fr,(S a').hp,(S a').nx,n⟩)\/(∃j,iU e=some j)/\∃c,PX e c/\SEntT s ⟨dP (X c).fr,(X c).hp,(X c).nx,n⟩:=by
 cases e with
 |normal=>exact .inl ⟨rfl,h⟩
 |ret=>exact .inr ⟨⟨_,rfl⟩,h.2⟩
 |exit id=>exact .inr ⟨⟨_,rfl⟩,h.2⟩
 |goto t=>exact .inr ⟨⟨_,rfl⟩,h.2⟩
 |panic ch=>exact absurd h.1 (by simp[iU])
 |outgrown=>exact absurd h.1 (by simp[iU])
def rgh(w0:Base)(a:Act)(t:Nat):Value:=fU w0 a (t- GH)
theorem rgh_add(w0:Base)(a:Act)(t:Nat):rgh w0 a (t+GH)=fU w0 a t:=by unfold rgh;grind
theorem tv{w0 w1:Base}{a a3:Act}{t:Nat}(h:w1.gh=rgh w0 a)(h3:a3.tmps.size<=GH):fU w1 a3 (t+GH)=fU w0 a t:=by
 have h1:GH<=t+GH:=Nat.le_add_left _ _;rw[slot_hi h1 (Nat.le_trans h3 h1),h,rgh_add]
def jR(w0:Base)(a:Act)(W0:World)(β:Bq)(W:World)(h:W0.heap.size<=W.heap.size)(hk:(GT< W0.heap.size/\∀i s,β i≠some (GT,s))/\TabW W):Base:=⟨W,λb=>b< W0.heap.size/\∀i s,β i≠some (b,s),λ_ hb=>Nat.lt_of_lt_of_le hb.1 h,w0.pin,rgh w0 a,hk.1,hk.2⟩
theorem pn(w0:Base)(a:Act)(W0:World)(β:Bq)(W:World)(h:W0.heap.size<=W.heap.size)(hk:(GT< W0.heap.size/\∀i s,β i≠some (GT,s))/\TabW W):(jR w0 a W0 β W h hk).gh=rgh w0 a:=by simp only[jR]
theorem Mem.turn {Mm:Nat->Prop} {b0 b1:Base} {hp:Hq} {W W':World} (h:Mem Mm b0 β hp W) (hl:W.heap[l]?=some o) (ho:aL W l=none) (hW':W'=W.putObj l o') (hlm:¬Mm l)
    (hw1:b1.w=W') (hm:∀b,Mm b->b1.K b) (hr:∀i b s,β i=some (b,s)->¬b1.K b) (hp0:b1.pin=b0.pin):Mem Mm b1 β hp W'/\StabC (MM Mm β hp) (MM Mm β hp) β β W W':=by
 let bx:Base:=⟨W,λb=>b0.K b/\b≠l,λb hb=>Nat.lt_of_lt_of_le (b0.lt b hb.1) h.below.size,b0.pin,b0.gh,⟨b0.kt,λe=>h.tab.sz (e▸ho)⟩,h.tab⟩
 have h1:Mem Mm bx β hp W:=h.rebase bx rfl (λb hb=>⟨(h.m0 b hb).1,λe=>hlm (e▸hb)⟩) (λi b s hi hk=>(h.rng i b s hi).1 hk.1) h.pin;obtain⟨h2,st⟩:=h1.shut (o':=o') hl ho (λhk=>hk.2 rfl);rw[<-hW'] at h2 st;exact⟨h2.rebase b1 hw1 hm hr (λh0=>(h2.pin h0).trans hp0.symm),st⟩
theorem Wait.back (hm0:∀b,M0 b->b< w.heap.size) (hK:∀b,w0.K b->b< w.heap.size) (h:Wait M0 w0 a w M G st W) (hng:n<=GH) (hl:l=w.heap.size+1)
 (hk:TabW W) (mem:Mem (λb=>M0 b\/G b) (zH w0 (w.heap.size+1) w.heap.size G W hk) β (au st.hp) W) (ht:∀i x,β i=some x->(au st.hp i).isSome=true) (hM:∀b,M b↔(M0 b\/b=w.heap.size+1\/b=w.heap.size\/∃i s,β i=some (b,s)))
    {W2 W3 W4:World} (h02:W.heap.size<=W2.heap.size) (hkeep:∀b,b< W.heap.size->(∀i s,β i≠some (b,s))->b≠l->W2.heap[b]?=W.heap[b]?) (hso:W2.os=W.os/\W2.tape=W.tape/\W2.output=W.output) (hsz:∀b n,aL W b=some n->aL W2 b=some n)
    {a3:Act} {st':AState} (hk2:(GT< W.heap.size/\∀i s,β i≠some (GT,s))/\TabW W2) (hr:TRel (λb=>M0 b\/G b) (jR w0 a W β W2 h02 hk2) ⟨dP st'.fr,st'.hp,st'.nx,n⟩ a3 W3) (hl3:W3.heap[l]?=some o) (ho:aL W3 l=none) (h4:W4=W3.putObj l o'):
    ∃M',Wait M0 w0 a w M' G st' W4/\GStep M M' W W4:=by
  obtain⟨kept,two,mark,glt,⟨Ds,d1,d2,d3⟩,_⟩:=h;obtain⟨β3,mem3,s1,hf3,hfree3,_,ht3⟩:=hr;obtain⟨p1,p2,p3,p4,p5,p6,p7⟩:=Bt (o':=o') hl3 ho;rw[<-h4] at p1 p2 p3 p4 p5 p6 p7;have hb3:=mem3.below;have hlW:l< W.heap.size:=ω
  have numl:∀i s,β i≠some (l,s):=λi s hi=>(mem.rng i l s hi).1 ⟨hlW,.inr (.inr (.inl hl))⟩;have numw0:∀b,w0.K b->∀i s,β i≠some (b,s):=λb hb i s hi=>(mem.rng i b s hi).1 ⟨(mem.rng i b s hi).2,.inl hb⟩;have numG:∀b,G b->∀i s,β i≠some (b,s):=λb hb i s hi=>(mem.rng i b s hi).1 ⟨(mem.rng i b s hi).2,.inr (.inl hb)⟩;have numD:∀i s,β i≠some (w.heap.size,s):=λi s hi=>(mem.rng i _ s hi).1 ⟨(mem.rng i _ s hi).2,.inr (.inr (.inr rfl))⟩
  -- whatever is not the loop's own lies as it lay
  have same:∀b,b< W.heap.size->(∀i s,β i≠some (b,s))->b≠l->W4.heap[b]?=W.heap[b]?:=λb hb hn hbl=>
   (p6 b hbl).trans ((hb3.block b ⟨hb,hn⟩).trans (hkeep b hb hn hbl))
  have tab4:TabW W4:=hk.congr (same GT hk2.1.1 hk2.1.2 (λe=>by have:=hK GT w0.kt;omega));have hsize:W.heap.size<=W4.heap.size:=by rw[p4];exact Nat.le_trans h02 hb3.size
  have hsizes:∀b n,aL W b=some n->aL W4 b=some n:=λb n hb=>p7 b n (hb3.sizes b n (hsz b n hb));have hos:W4.os=W.os:=p1.trans (hb3.os.trans hso.1);have htape:W4.tape=W.tape:=p2.trans (hb3.tape.trans hso.2.1);have hout:W4.output=W.output:=p3.trans (hb3.output.trans hso.2.2)
  have num3:∀i b s,β3 i=some (b,s)->(W.heap.size<=b\/∃i s,β i=some (b,s))/\b< W3.heap.size:=λi b s hi=>by
   have hr:=mem3.rng i b s hi;refine⟨?_,hr.2⟩;by_cases hb:b< W.heap.size;right;by_cases hx:∃i s,β i=some (b,s);exact hx;exact absurd ⟨hb,λi s hi=>hx ⟨i,s,hi⟩⟩ hr.1;left;omega
  have num3K:∀i b s,β3 i=some (b,s)->¬(zH w0 (w.heap.size+1) w.heap.size G W4 tab4).K b:=by
   rintro i b s hi ⟨_,hk⟩;rcases(num3 i b s hi).1 with h1|⟨i',s',h1⟩
   rcases hk with hk|hk|hk|hk
   have:=hK b hk;omega;have:=(glt b hk).2;omega;omega;omega;rcases hk with hk|hk|hk|hk
   exact numw0 b hk i' s' h1;exact numG b hk i' s' h1;subst hk;exact numl i' s' (by rw[hl];exact h1);subst hk;exact numD i' s' h1
  obtain⟨mem4,st4⟩:=mem3.turn (o':=o') (b1:=zH w0 (w.heap.size+1) w.heap.size G W4 tab4) hl3 ho h4 (λhm=>by
   rcases hm with hm|hm
   have:=hm0 l hm;omega;have:=(glt l hm).1;omega) rfl (λb hb=>by
   rcases hb with hb|hb
   have:=hm0 b hb;refine⟨ω,?_⟩;rcases(mem.m0 b (.inl hb)).1.2 with h|h
   exact .inl h;exact .inr h;exact⟨Nat.lt_of_lt_of_le (glt b hb).2 hsize,.inr (.inl hb)⟩) num3K rfl
  refine⟨λb=>M0 b\/b=w.heap.size+1\/b=w.heap.size\/∃i s,β3 i=some (b,s),⟨⟨hos.trans kept.os,htape.trans kept.tape,hout.trans kept.output,Nat.le_trans kept.size hsize,λb hb=>?_,λb n hb=>hsizes b n (kept.sizes b n hb)⟩,Nat.le_trans two hsize,?_,λb hb=>⟨(glt b hb).1,Nat.lt_of_lt_of_le (glt b hb).2 hsize⟩,
   ⟨Ds,d1,d2,λD hD=>⟨(d3 D hD).1,?_,(d3 D hD).2.2⟩⟩,β3,mem4,λt x hx=>?_,hfree3,ht3,λb=>Iff.rfl⟩,⟨hos,htape,hout,hsize,λb hb hn=>?_,hsizes,λb hb=>?_⟩⟩
  have h1:=hK b hb;exact(same b ω (numw0 b hb) ω).trans (kept.block b hb);exact(same _ ω numD ω).trans mark;have h1:=d3 D hD;refine(same D ω (λi s hi=>?_) ω).trans h1.2.1;obtain⟨B,hB⟩:=Option.isSome_iff_exists.1 (ht i _ hi);obtain⟨b',r1,r2⟩:=mem.blk i B hB;rw[hi] at r1;cases r1;obtain⟨N,hN⟩:=r2.size;simp[aL,h1.2.1] at hN;have:=hf3 (t+GH) x (by rw[oe];exact hx);have e:=tv (w0:=w0) (w1:=jR w0 a W β W2 h02 hk2) (a:=a) (a3:=a3) (t:=t) (pn ..) (Nat.le_trans (Nat.le_of_eq s1) hng);rw[e] at this;exact st4.all this;refine same b hb (λi s hi=>hn ((hM b).2 (.inr (.inr (.inr ⟨i,s,hi⟩))))) (λe=>hn ((hM b).2 (.inr (.inl ω))));grind
theorem Wait.round (hm0:∀b,M0 b->b< w.heap.size) (hK:∀b,w0.K b->b< w.heap.size) (h:Wait M0 w0 a w M G st W) {n:Nat} (hn:a.tmps.size=n) (hng:n<=GH) {l:Nat} (hl:l=w.heap.size+1) {rec:Loop} (hrec:W.heap[l]?=some (.loop rec)) (hready:rec.state= .ready)
    (hlo:BG st.fr=true) {as:La} {vals:List Value} (hv:RVs (λb=>M b\/G b) (λ_=>none) W as vals) (hps:∀p∈ps.toList,p< n) (fn:FuncId)
    {S:α->AState} {Nx:α->Prop} {X:γ->AState} {PX:Exit->γ->Prop}
    (hround:AWp (some l) P assign (jO (AWp (some l) P body (xc S Nx X PX n)) (λ_ _=>False)) ⟨ic st.fr ps.toList as++dP st.fr,st.hp,st.nx,n⟩)
    {R:Ending->World->Prop}
    (hN:∀a' M' W4,Nx a'->Wait M0 w0 a w M' G (S a') W4->GStep M M' W W4->W4.heap[l]?=some (.loop {rec with state:= .ready,pending:=none})->R (.returned (.bool true)) W4)
    (hX:∀e j c M' W4,iU e=some j->PX e c->Wait M0 w0 a w M' G (X c) W4->GStep M M' W W4->W4.heap[l]?=some (.loop {rec with state:= .done,pending:=some j})->R (.returned (.bool false)) W4):
    RoundIn (FR none) 0 P l fn ((ps.zip vals.toArray).foldl (λt (p,v)=>t.setIfInBounds p v) a.tmps) assign body W R:=by
 have hw:=h;obtain⟨kept,two,mark,glt,defs,β,mem,hf,hfree,ht,hM⟩:=hw;have hlW:l< W.heap.size:=ω
 have numl:∀i s,β i≠some (l,s):=λi s hi=>(mem.rng i l s hi).1 ⟨hlW,.inr (.inr (.inl hl))⟩;have slo:aL W l=none:=by simp[aL,hrec]
 -- the frame of the round
 have hz:(ps.zip vals.toArray).foldl (λt (p,v)=>t.setIfInBounds p v) a.tmps=(ps.toList.zip vals).foldl (λt (p,v)=>t.setIfInBounds p v) a.tmps:=by
  rw[<-Array.foldl_toList,Array.toList_zip]
 have hwide:RVs (MM (λb=>M0 b\/G b) β (au st.hp)) β W as vals:=StabC.vs (M:=λb=>M b\/G b) (β:=λ_=>none) (w:=W) (w':=W) ⟨λ_ _ _ _=>rfl,λb N hb hm=>by
  rcases hm with(hm|hm)|⟨i,B,s,_,hm⟩
  exact .inl ((hM b).2 (.inl hm));exact .inr hm;grind,(λ_ _ h=>by cases h),λ_ _ h=>h⟩ hv
 obtain⟨z1,z2⟩:=yT (ps:=ps.toList) (fr:=st.fr) (tmps:=a.tmps) hn hps hwide (λt x hx=>by
  have:=hf t x hx;rwa[wU (ns hlo hx)] at this)
 rw[<-hz] at z1 z2;have hk0:(GT< W.heap.size/\∀i s,β i≠some (GT,s))/\TabW W:=⟨⟨mem.tab.lt,mem.gtn⟩,mem.tab⟩
 have hrel:ARel (λb=>M0 b\/G b) (jR w0 a W β W (Nat.le_refl _) hk0) ⟨ic st.fr ps.toList as++dP st.fr,st.hp,st.nx,n⟩ {tmps:=(ps.zip vals.toArray).foldl (λt (p,v)=>t.setIfInBounds p v) a.tmps,defers:=[]} W:=by
  refine⟨β,mem.rebase (jR w0 a W β W (Nat.le_refl _) hk0) rfl (λb hb=>⟨(mem.m0 b hb).1.1,λi s hi=>(mem.rng i b s hi).1 (mem.m0 b hb).1⟩) (λi b s hi hk=>hk.2 i s hi) mem.pin,z1,λt x hx=>?_,hfree,⟨[],rfl,List.nodup_nil,ψ⟩⟩;rw[r8] at hx;by_cases hgt:GH<=t
  have hne:look (ic st.fr ps.toList as) t=none:=by
   cases hq:look (ic st.fr ps.toList as) t with
   |none=>rfl
   |some y=>exact absurd (yU hlo (λp hp=>Nat.lt_of_lt_of_le (hps p hp) hng) hq) ω
  rw[hne,Option.none_or] at hx;obtain⟨t',rfl⟩:∃t',t=t'+GH:=⟨t- GH,ω⟩;rw[oe] at hx;have e:=tv (w0:=w0) (w1:=jR w0 a W β W (Nat.le_refl _) hk0) (a:=a) (a3:={tmps:=(ps.zip vals.toArray).foldl (λt (p,v)=>t.setIfInBounds p v) a.tmps,defers:=[]}) (t:=t') (pn ..) (Nat.le_trans (Nat.le_of_eq z1) hng);rw[e];exact hf t' x hx;have hlt:t< GH:=ω
  have hx2:look (ic st.fr ps.toList as) t=some x:=by
   cases hq:look (ic st.fr ps.toList as) t with
   |some y=>rw[hq,Option.some_or] at hx;exact hx
   |none=>
    rw[hq,Option.none_or] at hx;exact absurd (nU _ _ _ hx) hgt
  have e:fU (jR w0 a W β W (Nat.le_refl _) hk0) {tmps:=(ps.zip vals.toArray).foldl (λt (p,v)=>t.setIfInBounds p v) a.tmps,defers:=[]} t=((ps.zip vals.toArray).foldl (λt (p,v)=>t.setIfInBounds p v) a.tmps).getD t undef:=if_pos (.inl hlt);rw[e];exact z2 t x hx2
 refine roundIn_of_wpIn trivial (wpIn_mono (hround _ _ _ _ hrel) ?_);rintro e a1 W1 ⟨s1,r1,q1⟩;cases e with
 |normal=>
  obtain⟨β1,mem1,t1,f1,fr1,de1⟩:=r1;have hl1:W1.heap[l]?=some (.loop rec):=(mem1.below.block l ⟨hlW,numl⟩).trans hrec;have slo1:aL W1 l=none:=by simp[aL,hl1]
  refine⟨_,run_beginRound hl1 hready,?_⟩
  have h12:W.heap.size<=(W1.putObj l (.loop {rec with state:= .busy})).heap.size:=by
   have:=mem1.below.size;have h2:(jR w0 a W β W (Nat.le_refl _) hk0).w.heap.size=W.heap.size:=rfl;simp only[World.putObj];simp;omega
  obtain⟨p1,p2,p3,p4,p5,p6,p7⟩:=Bt (o':= .loop {rec with state:= .busy}) hl1 slo1;have hk2:(GT< W.heap.size/\∀i s,β i≠some (GT,s))/\TabW (W1.putObj l (.loop {rec with state:= .busy})):=⟨hk0.1,mem1.tab.congr (p6 GT λe=>mem1.tab.sz (e▸slo1))⟩
  obtain⟨mem2,st2⟩:=mem1.turn (o':= .loop {rec with state:= .busy}) (b1:=jR w0 a W β _ h12 hk2) hl1 slo1 rfl (λhm=>by
   rcases hm with hm|hm
   have:=hm0 l hm;omega;have:=(glt l hm).1;omega) rfl (λb hb=>(mem1.m0 b hb).1) (λi b s hi=>(mem1.rng i b s hi).1) rfl
  have hrel2:ARel (λb=>M0 b\/G b) (jR w0 a W β _ h12 hk2) s1 a1 (W1.putObj l (.loop {rec with state:= .busy})):=by
   refine⟨β1,mem2,t1,λt x hx=>?_,fr1,?_⟩
   have e:fU (jR w0 a W β _ h12 hk2) a1 t=fU (jR w0 a W β W (Nat.le_refl _) hk0) a1 t:=by
    unfold fU;rw[pn,pn]
   rw[e];exact st2.all (f1 t x hx);obtain⟨Ds,u1,u2,u3⟩:=de1;refine⟨Ds,u1,u2,λD hD=>⟨?_,(u3 D hD).2⟩⟩;have hne:D≠l:=λe=>by have:=(u3 D hD).1;rw[e,hl1] at this;cases this
   rw[p6 D hne];exact(u3 D hD).1
  refine wpIn_mono (q1 _ _ _ _ hrel2) ?_;rintro e a3 W3 ⟨s3,r3,q3⟩;have b3:(jR w0 a W β _ h12 hk2).Kept W3:=by obtain⟨_,m3,_⟩:=r3;exact m3.below
  have hl3:W3.heap[l]?=some (.loop {rec with state:= .busy}):=(b3.block l ⟨hlW,numl⟩).trans p5;have slo3:aL W3 l=none:=by simp[aL,hl3]
  have b1:=mem1.below;have hkeep:∀b,b< W.heap.size->(∀i s,β i≠some (b,s))->b≠l->(W1.putObj l (.loop {rec with state:= .busy})).heap[b]?=W.heap[b]?:=λb hb hn hne=>(p6 b hne).trans (b1.block b ⟨hb,hn⟩);rcases Bm q3 with⟨rfl,a',hNx,hent⟩|⟨⟨j,hj⟩,c,hPX,hent⟩
  obtain⟨M',hw4,hg4⟩:=h.back hm0 hK hng hl kept.tab mem ht hM h12 hkeep ⟨p1.trans b1.os,p2.trans b1.tape,p3.trans b1.output⟩ (λb n hb=>p7 b n (b1.sizes b n hb)) hk2 (hent _ _ _ _ r3) hl3 slo3 (o':= .loop {rec with state:= .ready,pending:=none}) rfl;exact⟨_,_,run_endRound none hl3,hN a' M' _ hNx hw4 hg4 (World.putObj_heap_same (Array.getElem?_eq_some_iff.1 hl3).1)⟩;obtain⟨M',hw4,hg4⟩:=h.back hm0 hK hng hl kept.tab mem ht hM h12 hkeep ⟨p1.trans b1.os,p2.trans b1.tape,p3.trans b1.output⟩ (λb n hb=>p7 b n (b1.sizes b n hb)) hk2 (hent _ _ _ _ r3) hl3 slo3 (o':= .loop {rec with state:= .done,pending:=some j}) rfl;have hfin:=hX e j c M' _ hj hPX hw4 hg4 (World.putObj_heap_same (Array.getElem?_eq_some_iff.1 hl3).1);have hend:(Instr.endRound l (some j)).run P W3= .ok (.bool false) (W3.putObj l (.loop {rec with state:= .done,pending:=some j})):=run_endRound (r:={rec with state:= .busy}) (some j) hl3;cases e with
  |ret=>simp only[iU,Option.some.injEq] at hj;subst hj;exact⟨_,_,hend,hfin⟩
  |exit id=>simp only[iU,Option.some.injEq] at hj;subst hj;exact⟨_,_,hend,hfin⟩
  |goto t=>simp only[iU,Option.some.injEq] at hj;subst hj;exact⟨_,_,hend,hfin⟩
  |normal=>cases hj
  |panic ch=>cases hj
  |outgrown=>cases hj
 |ret=>exact q1.elim
 |exit id=>exact q1.elim
 |goto t=>exact q1.elim
 |panic ch=>exact q1.elim
 |outgrown=>exact q1.elim
theorem Wait.begin(hlt:∀b,w0.K b->b< w.heap.size)(hm0:∀b,M0 b->w0.K b)(mem:Mem M0 w0 β (au st.hp) w)(hf:∀t x,look st.fr t=some x->RV (MM M0 β (au st.hp)) β w x (fU w0 a t))(hfree:∀i,st.nx<=i->β i=none/\i≠0)(hdef:DefOK a.defers w0 w)(ht:∀i x,β i=some x->(au st.hp i).isSome=true)(rec:Loop):
    Wait M0 w0 a w (λb=>M0 b\/b=w.heap.size+1\/b=w.heap.size\/∃i s,β i=some (b,s)) (λ_=>False) st ((w.alloc (.deferred (some []))).alloc (.loop rec))/\((w.alloc (.deferred (some []))).alloc (.loop rec)).heap[w.heap.size+1]?=some (.loop rec):=by
 obtain⟨Ds,d1,d2,d3⟩:=hdef;have hbel:Below w.heap.size w ((w.alloc (.deferred (some []))).alloc (.loop rec)):=((Below.refl _ w).alloc (Nat.le_refl _) _).alloc ψ _;obtain⟨m1,s1⟩:=mem.ext hbel;have hD:((w.alloc (.deferred (some []))).alloc (.loop rec)).heap[w.heap.size]?=some (.deferred (some [])):=(Below.heap_alloc _ _ _ ψ).trans (World.alloc_heap_new w _)
 have hL:((w.alloc (.deferred (some []))).alloc (.loop rec)).heap[w.heap.size+1]?=some (.loop rec):=by
  have:=World.alloc_heap_new (w.alloc (.deferred (some []))) (.loop rec);simp_all
 refine⟨⟨m1.below,ψ,hD,λb hb=>hb.elim,⟨Ds,d1,d2,λD hD=>?_⟩,β,?_,λt x hx=>?_,hfree,ht,λb=>Iff.rfl⟩,hL⟩;have h1:=d3 D hD;have h2:D< w.heap.size:=(Array.getElem?_eq_some_iff.1 h1.1).1;exact⟨h2,(hbel.block D h2).trans h1.1,h1.2⟩;have e:(λb=>M0 b\/False)=M0:=φ
 rw[e];refine m1.rebase (zH w0 (w.heap.size+1) w.heap.size (λ_=>False) _ m1.tab) rfl (λb hb=>⟨φ,.inl (hm0 b hb)⟩) (λi b s hi hk=>?_) m1.pin;have hr:=mem.rng i b s hi;rcases hk.2 with h|h|h|h
 exact hr.1 h;exact h;omega;omega;have e:(λb=>M0 b\/False)=M0:=φ
 rw[e];exact s1.all (hf t x hx)
theorem Wait.over(hlt:∀b,w0.K b->b< w.heap.size)(hm0:∀b,M0 b->w0.K b)(h:Wait M0 w0 a w M G st W)(hn:a.tmps.size=n)(hsn:st.n=n){rec rec':Loop}(hrec:W.heap[w.heap.size+1]?=some (.loop rec)):
    ARel M0 w0 st {a with defers:={target:= .collected w.heap.size,args:= #[]}::a.defers} (W.putObj (w.heap.size+1) (.loop rec')):=by
 obtain⟨kept,two,mark,glt,⟨Ds,d1,d2,d3⟩,β,mem,hf,hfree,ht,hM⟩:=h;have slo:aL W (w.heap.size+1)=none:=by simp[aL,hrec]
 obtain⟨p1,p2,p3,p4,p5,p6,p7⟩:=Bt (o':= .loop rec') hrec slo
 have numK:∀i b s,β i=some (b,s)->¬w0.K b/\b≠w.heap.size+1/\b< W.heap.size:=λi b s hi=>by
  have hr:=mem.rng i b s hi;exact⟨λhk=>hr.1 ⟨hr.2,.inl hk⟩,λe=>hr.1 ⟨hr.2,.inr (.inr (.inl e))⟩,hr.2⟩
 have st1:StabC (MM (λb=>M0 b\/G b) β (au st.hp)) (MM M0 β (au st.hp)) β β W (W.putObj (w.heap.size+1) (.loop rec')):=
  ⟨λb N hb _=>p6 b (λe=>φ),λb N _ hm=>hm.imp .inl id,λ_ _ h=>h,p7⟩
 refine⟨β,⟨⟨p1.trans kept.os,p2.trans kept.tape,p3.trans kept.output,Nat.le_trans kept.size (Nat.le_of_eq p4.symm),λb hb=>(p6 b φ).trans (kept.block b hb),λb n hb=>p7 b n (kept.sizes b n hb)⟩,(λb hb=>⟨hm0 b hb,(mem.m0 b (.inl hb)).2⟩),λi b s hi=>⟨(numK i b s hi).1,φ⟩,mem.pin,λi B hi=>?_,mem.inj⟩,hn.trans hsn.symm,λt x hx=>?_,hfree,⟨w.heap.size::Ds,?_,List.nodup_cons.2 ⟨λhD=>by grind,d2⟩,λD hD=>?_⟩⟩;obtain⟨b,r1,r2⟩:=mem.blk i B hi;exact⟨b,r1,r2.stab st1 (p6 b (numK i b _ r1).2.1)⟩;exact st1.all (hf t x hx);rw[d1];rfl;grind
theorem AWp.rangeFuncB {Q:Exit->AState->Prop} {f:Operand} {hp:Hp} {nx g:Nat} (N:Nat) (S:α->AState) (kk:α->Nat) (Inv:α->Prop) (X:γ->AState) (PX:Exit->γ->Prop) (a0:α)
    (hf:evF (look (S a0).fr) f=some (.clos g [] cap)) (hs:GSpecB P g (cap.map coe) T N) (hps:ps.toList.all (Nat.blt · n)=true) (hng:Nat.ble n 1000=true) (hT:∀k as,T k=some as->as.length=ps.size)
    (hSn:∀a,(S a).n=n/\BG (S a).fr=true) (hXn:∀c,(X c).n=n) (hi:Inv a0) (hk0:kk a0=0) (hb:∀a,Inv a->kk a<=N)
    (h0:SEntT ⟨fr,hp,nx,n⟩ (S a0)) (hcap:(∀x∈cap.map coe,Closed x))
    (hround:∀l a as,Inv a->T (kk a)=some as->AWp (some l) P assign (jO (AWp (some l) P body (xc S (λa'=>Inv a'/\kk a'=kk a+1) X PX n)) (λ_ _=>False)) ⟨ic (S a).fr ps.toList as++dP (S a).fr,(S a).hp,(S a).nx,n⟩)
    (hdone:∀a,Inv a->T (kk a)=none->Q .normal (S a)) (hstop:∀e c,PX e c->Q e (X c)):AWp none P (.rangeFunc f ps assign body) Q ⟨fr,hp,nx,n⟩:=by
 intro M0 w0 a w hr;have hm0:∀b,M0 b->w0.K b:=by obtain⟨_,m,_⟩:=hr;exact λb hb=>(m.m0 b hb).1
 have hlt:∀b,w0.K b->b< w.heap.size:=by obtain⟨_,m,_⟩:=hr;exact λb hb=>Nat.lt_of_lt_of_le (w0.lt b hb) m.below.size
 have hm0':∀b,M0 b->b< w.heap.size:=λb hb=>hlt b (hm0 b hb);have hn:a.tmps.size=n:=by obtain⟨_,_,h1,_⟩:=hr;grind
 have hng':n<=GH:=Nat.le_of_ble_eq_true hng;have hps':∀p∈ps.toList,p< n:=λp hp=>Nat.le_of_ble_eq_true (List.all_eq_true.1 hps p hp);obtain⟨β,mem,_,hfr,hfree,hdef,ht⟩:=h0 M0 w0 a w hr;obtain⟨xs,ys,hfe,hr1,hr2⟩:=iW hfr f _ hf;have hxs:xs= #[]:=by have:xs.toList=[]:=hr1;grind
 subst hxs;refine wpIn_rangeFunc ?_;intro fn _;obtain⟨rec0,hrec0⟩:∃r:Loop,r={state:= .ready,pending:=none,fn,tmps:=a.tmps,params:=ps,assign,body,defers:=w.heap.size}:=⟨_,rfl⟩;obtain⟨hw1,hl1⟩:=Wait.begin hlt hm0 mem hfr hfree hdef ht rec0;obtain⟨W1,hW1⟩:∃W1,W1=(w.alloc (.deferred (some []))).alloc (.loop rec0):=⟨_,rfl⟩;rw[<-hW1] at hw1 hl1
 have hcapv:RVs (λb=>M0 b\/b=w.heap.size+1\/b=w.heap.size\/∃i s,β i=some (b,s)) (λ_=>none) W1 (cap.map coe) ys.toList:=by
  have hbel:Below w.heap.size w W1:=by rw[hW1];exact((Below.refl _ w).alloc (Nat.le_refl _) _).alloc ψ _
  have h1:=(mem.ext hbel).2.vs (iy hr2);refine vQ (λb N hb hm=>?_) (dW hcap h1);rcases hm with hm|rfl|rfl|⟨i,s,hm⟩
  exact .inl hm;simp[aL,hl1] at hb;simp[aL,hw1.mark] at hb;obtain⟨B,hB⟩:=Option.isSome_iff_exists.1 (ht i _ hm);exact .inr ⟨i,B,s,hB,hm⟩
 let E:GEnv P (w.heap.size+1) T N:={
  J:=λk go M G W=>
   (go=true/\∃x,Inv x/\kk x=k/\W.heap[w.heap.size+1]?=some (.loop rec0)/\Wait M0 w0 a w M G (S x) W)\/
   (go=false/\∃e j c,iU e=some j/\PX e c/\W.heap[w.heap.size+1]?=some (.loop {rec0 with state:= .done,pending:=some j})/\Wait M0 w0 a w M G (X c) W)
  ok:=by
   have keep:∀{M G G':Nat->Prop} {W W':World} {st:AState},Wait M0 w0 a w M G st W->GStep G G' W W'->W'.heap[w.heap.size+1]?=W.heap[w.heap.size+1]?:=λh hs=>hs.block _ (by have:=h.two;omega) (λhG=>by have:=(h.glt _ hG).1;omega);rintro k go M G G' W W' (⟨h1,x,h2,h3,h4,h5⟩|⟨h1,e,j,c,h2,h3,h4,h5⟩) hs;exact .inl ⟨h1,x,h2,h3,(keep h5 hs).trans h4,h5.step hm0' hlt hs⟩;exact .inr ⟨h1,e,j,c,h2,h3,(keep h5 hs).trans h4,h5.step hm0' hlt hs⟩
  bound:=by
   rintro k M G W (⟨_,x,h2,rfl,_⟩|⟨h1,_⟩);exact hb x h2;cases h1
  disj:=by
   rintro k go M G W (⟨_,x,_,_,_,h5⟩|⟨_,e,j,c,_,_,_,h5⟩);exact h5.disj hm0';exact h5.disj hm0'
  tabs:=by
   rintro k go M G W (⟨_,x,_,_,_,h5⟩|⟨_,e,j,c,_,_,_,h5⟩);exact h5.tabs hlt;exact h5.tabs hlt
  yok:=by
   rintro k M G W as vals (⟨_,x,h2,rfl,h4,h5⟩|⟨h1,_⟩) hTk hv hG;have hlen:vals.length=ps.size:=hv.length.trans (hT _ _ hTk);have hy:=run_yield (P:=P) (args:=vals.toArray) h4 (by rw[hrec0];simpa using hlen);refine⟨_,_,_,_,hy,?_⟩;have e1:rec0.tmps=a.tmps:=by rw[hrec0]
   have e2:rec0.params=ps:=by rw[hrec0]
   have e3:rec0.assign=assign:=by rw[hrec0]
   have e4:rec0.body=body:=by rw[hrec0]
   rw[e1,e2,e3,e4];refine h5.round hm0' hlt hn hng' rfl h4 (by rw[hrec0]) (hSn x).2 hv hps' _ (hround _ x as h2 hTk) (λx' M' W4 hx' hw4 hg4 hl4=>?_) (λe j c M' W4 hj hPX hw4 hg4 hl4=>?_);refine⟨true,M',rfl,.inl ⟨rfl,x',hx'.1,hx'.2,?_,hw4⟩,hg4⟩;rw[hl4,hrec0];exact⟨false,M',rfl,.inr ⟨rfl,e,j,c,hj,hPX,by rw[hl4,e1,e2,e3,e4],hw4⟩,hg4⟩;cases h1}
 refine⟨w.heap.size+1,[{target:= .collected w.heap.size,args:= #[]}],W1,{target:= .fn (.func g) ys,args:= #[.func (.yield (w.heap.size+1)) #[] #[]]},W1,g, #[.func (.yield (w.heap.size+1)) #[] #[]]++ys,W1,by rw[hW1,hrec0];exact run_enterLoop_outer _ _ _ _ _,?_,λ_ _=>trivial,?_,λh=>by simp[FR] at h,?_⟩;simp only[resolve,hfe,Deferred.ofValue,Sem.run_pure];simp;rfl;simp only[invoke,hs.enters];have hc:=hs.calls (w.heap.size+1) N (Nat.le_refl N) E _ W1 ys.toList (.inl ⟨rfl,a0,hi,hk0,hl1,hw1⟩) hcapv;rw[Array.toArray_toList] at hc;refine hc.mono ?_;rintro e W2 ⟨⟨v,rfl⟩,k,go,M',G',hJ,hTk⟩;rcases hJ with⟨rfl,x,h2,rfl,h4,h5⟩|⟨rfl,e,j,c,h2,h3,h4,h5⟩
 refine⟨none,_,by have:=run_endLoop (P:=P) h4 (by rw[hrec0];simp);rw[this,hrec0],S x,h5.over hlt hm0 hn (hSn x).1 h4,hdone x h2 (hTk rfl)⟩;refine⟨some j,_,run_endLoop (P:=P) h4 ψ,?_⟩;have har:=h5.over hlt hm0 hn (hXn c) (rec':={({rec0 with state:= .done,pending:=some j}:Loop) with state:= .exhausted}) h4;have hq:=hstop e c h3;cases e with
 |ret=>simp only[iU,Option.some.injEq] at h2;subst h2;exact wpIn_ret ⟨_,har,hq⟩
 |exit id=>simp only[iU,Option.some.injEq] at h2;subst h2;exact wpIn_exit ⟨_,har,hq⟩
 |goto t=>simp only[iU,Option.some.injEq] at h2;subst h2;exact wpIn_goto ⟨_,har,hq⟩
 |normal=>cases h2
 |panic ch=>cases h2
 |outgrown=>cases h2
theorem AWp.rangeFunc {Q:Exit->AState->Prop} {f:Operand} {hp:Hp} {nx g:Nat} (N:Nat) (S:α->AState) (kk:α->Nat) (Inv:α->Prop) (X:γ->AState) (PX:Exit->γ->Prop) (a0:α)
    (hf:evF (look (S a0).fr) f=some (.clos g [] cap)) (hs:GSpec P g (cap.map coe) T) (hps:ps.toList.all (Nat.blt · n)=true) (hng:Nat.ble n 1000=true) (hT:∀k as,T k=some as->as.length=ps.size)
    (hSn:∀a,(S a).n=n/\BG (S a).fr=true) (hXn:∀c,(X c).n=n) (hi:Inv a0) (hk0:kk a0=0) (hb:∀a,Inv a->kk a<=N)
    (h0:SEntT ⟨fr,hp,nx,n⟩ (S a0)) (hcap:(∀x∈cap.map coe,Closed x))
    (hround:∀l a as,Inv a->T (kk a)=some as->AWp (some l) P assign (jO (AWp (some l) P body (xc S (λa'=>Inv a'/\kk a'=kk a+1) X PX n)) (λ_ _=>False)) ⟨ic (S a).fr ps.toList as++dP (S a).fr,(S a).hp,(S a).nx,n⟩)
    (hdone:∀a,Inv a->T (kk a)=none->Q .normal (S a)) (hstop:∀e c,PX e c->Q e (X c)):AWp none P (.rangeFunc f ps assign body) Q ⟨fr,hp,nx,n⟩:=
 AWp.rangeFuncB N S kk Inv X PX a0 hf (hs N) hps hng hT hSn hXn hi hk0 hb h0 hcap hround hdone hstop
end
theorem GSpecB.enter {P:Program} {f:Nat} {fn:Func} {c:Code} {K:Nat} (hf:P.funcs[f]?=some fn) (hb:fn.body=some c) (hname:(fn.name== "runtime.NumGoroutine")=false) (hrs:fn.results.toList=[]) {m:Nat} (hm:fn.ntmps=m) (hn:Nat.ble (cap.length+1) m=true)
    (hcl:∀a∈cap,Closed a) (hclT:∀k as,T k=some as->∀a∈as,Closed a) (hfr:dx 1 cap=fr)
    (h:∀l N (_:N<=K) (E:GEnv P l T N),GWp E c (λe k go _=>(e= .normal\/e= .ret)/\(go=true->T k=none)) 0 true ⟨(0,.v (.func (.yield l) #[] #[]))::fr,[],1,m⟩):GSpecB P f cap T K:=by
 subst hfr;exact GSpecB.intro hf hb hname hrs hm hn hcl hclT h
theorem GSpec.enter {P:Program} {f:Nat} {fn:Func} {c:Code} (hf:P.funcs[f]?=some fn) (hb:fn.body=some c) (hname:(fn.name== "runtime.NumGoroutine")=false) (hrs:fn.results.toList=[]) {m:Nat} (hm:fn.ntmps=m) (hn:Nat.ble (cap.length+1) m=true)
    (hcl:∀a∈cap,Closed a) (hclT:∀k as,T k=some as->∀a∈as,Closed a) (hfr:dx 1 cap=fr)
    (h:∀l N (E:GEnv P l T N),GWp E c (λe k go _=>(e= .normal\/e= .ret)/\(go=true->T k=none)) 0 true ⟨(0,.v (.func (.yield l) #[] #[]))::fr,[],1,m⟩):GSpec P f cap T:=λK=>by
 subst hfr;exact GSpecB.intro hf hb hname hrs hm hn hcl hclT (λl N _ E=>h l N E)
end
section
variable {P:Program}{id f:Nat}{r:AV}
section
variable {P:Program}{T:Nat}{x y:Operand}{a b:Int}
theorem ry(hb:b≠0)(h: -9223372036854775808<=a.tdiv b/\a.tdiv b<=9223372036854775807):∀w,(do eqGuard .quo T x y (.int .i64 a) (.int .i64 b);binOp .quo T (.int .i64 a) (.int .i64 b):Sem Value).run P w= .ok (.int .i64 (a.tdiv b)) w:=λw=>by
 rw[ql hb,IntWalk.i64_in _ h]
theorem Fh(hb:b≠0):∀w,(do eqGuard .rem T x y (.int .i64 a) (.int .i64 b);binOp .rem T (.int .i64 a) (.int .i64 b):Sem Value).run P w= .ok (.int .i64 (a.tmod b)) w:=λw=>by
 rw[mK hb]
end
theorem AEval.callS2{ev:Operand->Option AV}{hp:Hq}{c:Call}{callee:Operand}{fst cap as as' as2:La}{ids:Ln}(h1:c.callee= .value callee)(h2:ev callee=some (.clos f fst cap))(h3:evs ev c.args.toList=some as)(h4:SealArgs hp (fst++as++cap) as2 ids)(he:as2=as')(h5:FSpec P f as' r):
    AEval P id ev hp (.call c) ⟨r,ids.map λi=>(i,none)⟩ ids:=by subst he;exact .callS h1 h2 h3 h4 h5
theorem AEval.callS1{ev:Operand->Option AV}{hp:Hq}{c:Call}{callee:Operand}{i:Nat}{fst cap as as' as2:La}(h1:c.callee= .value callee)(h2:ev callee=some (.clos f fst cap))(h3:evs ev c.args.toList=some as)(h4:SealArgs hp (fst++as++cap) as2 [i])(he:as2=as')(h5:FSpec P f as' r):
    AEval P id ev hp (.call c) ⟨r,[(i,none)]⟩ [i]:= .callS2 h1 h2 h3 h4 he h5
theorem FSpec.argE{X Y:Lc}(h:FSpec P f [.arr Y] r)(e:X=Y):FSpec P f [.arr X] r:=e▸h
theorem FSpec.argE2{X Y:Lc}{a:AV}(h:FSpec P f [a,.arr Y] r)(e:X=Y):FSpec P f [a,.arr X] r:=e▸h
theorem AWp.cutB{ρ:Option Nat}{Q Q':Exit->AState->Prop}{st:AState}{x y:Code}{α:Type}(S:α->AState)(Post:α->Prop)(h:AWp ρ P x (cutA S Post (yx id (jO (AWp ρ P y Q) Q'))) st)(h2:∀a,Post a->AWp ρ P y Q (S a)):AWp ρ P x (yx id (jO (AWp ρ P y Q) Q')) st:=
 AWp.mono h λe s hs=>by
  cases e with
  |normal=>obtain⟨a,h3,h4⟩:=hs;exact AWp.ent h4 (h2 a h3)
  |_=>exact hs
end
section
variable {cs:La}{o id n t:Nat}{hp:Hq}{B:ABlk}
theorem aW{i:Nat}(h:∀c∈cs,Closed c):Closed (.aptr [cs] i o):=
 iJ λe he c hc=>by rw[List.mem_singleton.1 he] at hc;exact h c hc
theorem Cv.boxp{r:Ren}{hp':Hq}(h:Shr r hp hp')(hi:dw hp id=some B)(hd:vA r hp' id)(e:B.es=[cs])(hc:∀c∈cs,Closed c):Cv r hp hp' (.lptr id 0 o) (.aptr [cs] 0 o):=by
 refine Cv.sealp h hi hd (by rw[e];exact Nat.zero_lt_one) ?_;rw[e];exact bZ h λe he c hc'=>by rw[List.mem_singleton.1 he] at hc';exact hc c hc'
theorem FSpec.nil1{P:Program}{f:Nat}{r:AV}(h:∀a c,FSpec P f [.v (.slice a 0 c)] r):FSpec P f [.arr []] r:=by
 refine⟨λa ha=>?_,(h none 0).enters,λM w vals hM hargs=>?_⟩;rw[List.mem_singleton.1 ha];exact aU λe he=>by cases he
 obtain⟨x,xs,e,⟨a,c,hx,_⟩,hr⟩:=hargs;exact(h a c).calls M w vals hM ⟨x,xs,e,hx,hr⟩
section
variable {P:Program}{T:Nat}{d:Nat×Nat}{x y:Operand}
theorem Ea(h:eg P T=some d):∃e,P.underlying T=some (.slice e):=by
 unfold eg at h;split at h;exact⟨_,by assumption⟩;cases h
theorem nilE{a:Option Addr}{c:Nat}(h:eg P T=some d)(w:World):(do eqGuard .eql T x y (.slice a n c) (.slice none 0 0);binOp .eql T (.slice a n c) (.slice none 0 0):Sem Value).run P w= .ok (.bool a.isNone) w:=by
 obtain⟨e,hu⟩:=Ea h
 have:(Op.equal T (.slice a n c) (.slice none 0 0)).run P w= .ok a.isNone w:=by
  unfold Op.equal;rw[show Op.maxDepth=(Op.maxDepth- 1)+1 from rfl];cases a <;> simp[Op.equalIn,run_underlying hu]
 simp[eqGuard,binOp,this]
theorem AEval.nilq_arr{ev:Operand->Option AV}{x y:Operand}{yt:Nat}{es:Lc}(hx:ev x=some (.arr es))(hn:es≠[])(hy:y= .const (.slice none 0 0))(h:eg P T=some d):
    AEval P id ev hp (.binOp .eql T x y yt) ⟨.v (.bool false),[]⟩ []:=
 .bin_c hx hy λM β w' xv hr w=>by
  obtain⟨a,c,rfl,_,_,h3⟩:=hr;obtain⟨b,off,s,rfl,_⟩:=h3.resolve_left hn;exact nilE h w
theorem AEval.nilq_v{ev:Operand->Option AV}{x y:Operand}{yt c:Nat}{a:Option Addr}(hx:ev x=some (.v (.slice a n c)))(hy:y= .const (.slice none 0 0))(h:eg P T=some d):
    AEval P id ev hp (.binOp .eql T x y yt) ⟨.v (.bool a.isNone),[]⟩ []:=
 .bin_c hx hy λM β w' xv hr w=>by
  cases (hr:xv=_);exact nilE h w
end
section
variable {P:Program}{fr:Fr}{hp:Hp}{nx n:Nat}{r:AV}
theorem Fin.tmpN(h:look fr t=some .emp):Fin P [.tmp t] (.arr []) .ret ⟨fr,hp,nx,n⟩:=Fin.tmp h (Cv.emp _)
theorem Fin.tmpS{k sz:Nat}{cap:Option Nat}{es:Lc}(h:look fr t=some (.lsl id 0 k cap sz))(hb:dw (au hp) id=some B)(e:B.es=es)(hn:k=es.length)(hc:∀e∈es,∀c∈e,Closed c):Fin P [.tmp t] (.arr es) .ret ⟨fr,hp,nx,n⟩:=
 Fin.tmp h (Cv.sealE aE hb (λ_ _ h=>by cases h) e hn hc)
theorem Fin.tmpP(h:look fr t=some (.lptr id 0 o))(hb:dw (au hp) id=some B)(e:B.es=[cs])(hc:∀c∈cs,Closed c):Fin P [.tmp t] (.aptr [cs] 0 o) .ret ⟨fr,hp,nx,n⟩:=
 Fin.tmp h (Cv.boxp aE hb (λ_ _ h=>by cases h) e hc)
end
theorem Cv.slN{r:Ren}{hp':Hq}{id' i sz:Nat}{cap:Option Nat}(hi:Nat.blt id' r.n=true)(hs:r.s id'=id)(hl:(hp' id').isSome=true):Cv r hp hp' (.lsl id i n cap sz) (.lsl id' i n none sz):=by
 rintro M0 w0 β w y _ ⟨b,c,hb,e,h1,h2,h3,h4⟩;exact⟨b,c,by rw[Ren.app_of (Nat.le_of_ble_eq_true hi) hl,hs];exact hb,e,h1,h2,(λ_ h=>by cases h),h4⟩
def Le(a a':AV):Prop:=∀(M:Nat->Prop) β w y,RV M β w a y->RV M β w a' y
inductive LeL:La->La->Prop
 |nil:LeL [] []
 |cons {a a' as as'}:Le a a'->LeL as as'->LeL (a::as) (a'::as')
theorem Le.refl(a:AV):Le a a:=λ_ _ _ _ h=>h
theorem Le.emp:Le .emp (.arr []):=λ_ _ _ _ h=>xb h
theorem LeL.refl:∀as,LeL as as
 |[]=> .nil
 |a::as=> .cons (Le.refl a) (LeL.refl as)
theorem LeL.rvs{M:Nat->Prop}{β:Bq}{w:World}{as as':La}(h:LeL as as'):∀{ys:List Value},RVs M β w as ys->RVs M β w as' ys:=by
 induction h with
 |nil=>exact λh=>h
 |cons h1 _ ih=>rintro ys ⟨x,xs,e,r1,r2⟩;exact⟨x,xs,e,h1 M β w x r1,ih r2⟩
theorem Le.agg{cs':La}(h:LeL cs cs'):Le (.agg cs) (.agg cs'):=λM β w y=>by
 rintro⟨xs,e,hr⟩;exact⟨xs,e,h.rvs hr⟩
theorem FSpec.weak{P:Program}{f:Nat}{as as':La}{r:AV}(h:FSpec P f as' r)(hl:LeL as as')(hc:∀a∈as,Closed a):FSpec P f as r:=
 ⟨hc,h.enters,λM w vals hM hv=>h.calls M w vals hM (hl.rvs hv)⟩
end
end Go.Abs
