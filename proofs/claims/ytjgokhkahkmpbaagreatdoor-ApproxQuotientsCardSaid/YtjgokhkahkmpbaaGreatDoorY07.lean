/- Part Y07 of the proof. -/
import Derived.Test.YtjgokhkahkmpbaaGreatDoorY06
import Derived.MapKept
import Derived.Lib.UnsafeStr
set_option linter.all false
namespace Go.Abs
open Go.RowKit
section
variable {b:Nat}{s:Option (List UInt8)}
def bE(s:List UInt8):Lc:=s.map λc=>[.v (.int .u8 c.toNat)]
theorem dz(s:List UInt8):(bE s).length=s.length:=by simp[bE]
theorem wD(s:List UInt8):∀e∈bE s,∀c∈e,Closed c:=by
 intro e he c hc;obtain⟨x,_,rfl⟩:=List.mem_map.1 he;rw[List.mem_singleton.1 hc];exact ag _
theorem wG(s t:List UInt8):bE (s++t)=bE s++bE t:=by simp[bE]
def dX(i j:Nat):Option (List UInt8)->La
 |none=>[.v (.pointer none),.emp]
 |some s=>[.lptr i 0 0,.lsl j 0 s.length none 1]
def updB(tB tb i j id:Nat)(s:Option (List UInt8))(t:List UInt8):List (Nat×Option ABlk):=
 match s with
 |none=>[(i,some ⟨tB,2,[dX i id (some t)]⟩),(id,some ⟨tb,1,bE t⟩)]
 |some _=>[(j,none),(i,some ⟨tB,2,[dX i id (some t)]⟩),(id,some ⟨tb,1,bE t⟩)]
def Pure(a:AV):Prop:=∀(M M':Nat->Prop) β β' w w' y,RV M β w a y->RV M' β' w' a y
structure BSpec (P:Program)(f tB tb:Nat)(s:Option (List UInt8))(t:List UInt8)(args:La)(r:AV):Prop where
 cl:∀a∈args,Closed a
 enters:∀(xs:Array Value) (w:World),(callFunc f xs).run P w= .ok (.enter f xs) w
 calls:∀(M0:Nat->Prop) (w0:Base) (β:Bq) (hp:Hq) (w:World) (id i j:Nat) (y0:Value) (vals:List Value),Mem M0 w0 β hp w->id≠0->β id=none->hp id=none->hp i=some ⟨tB,2,[dX i j s]⟩->
  (∀q,s=some q->hp j=some ⟨tb,1,bE q⟩/\i≠j)->RV (MM M0 β hp) β w (.lptr i 0 0) y0->RVs (MM M0 β hp) (λ_=>none) w args vals->
  Calls P f (y0::vals).toArray w λx w'=> ∃y,x= .returned y/\∃β',mS M0 w0 β hp w id ⟨r,updB tB tb i j id s t⟩ y w' β'
section
variable {P:Program}{M0:Nat->Prop}{w0:Base}{β:Bq}{hp:Hq}{w w':World}
theorem Mem.two (h:Mem M0 w0 β hp w) {i id bk tB tb:Nat} {B:ABlk} {D:Nat->Prop} {es es2:Lc} {hp2:Hq} {cs ck:Array Value} (hi:hp i=some B) (hb:β i=some (b,2)) (hid0:id≠0) (hid:β id=none) (hidh:hp id=none)
    -- hp2:the blocks but for those that are given up
    (hsub:∀x X,hp2 x=some X->hp x=some X) (h2i:hp2 i=some B) (hD:∀x,D x->x=b\/∃m X s,hp m=some X/\β m=some (x,s)/\(hp2 m=none)) (hDb:D b)
    (os:w'.os=w.os/\w'.tape=w.tape/\w'.output=w.output) (size:w.heap.size<=w'.heap.size) (block:∀x,x< w.heap.size->¬D x->w'.heap[x]?=w.heap[x]?) (sizes:∀x n,aL w x=some n->aL w' x=some n)
    (hbk:bk< w'.heap.size) (hbkn:w.heap.size<=bk\/(D bk/\bk≠b))
    (hcs:w'.heap[b]?=some (.cells cs tB (0,0))) (hck:w'.heap[bk]?=some (.cells ck tb (0,0)))
    (hes:∀M β2,(∀m x,β m=some x->β2 m=some x)->β2 id=some (bk,1)->RVess M β2 w' b 2 es 0) (hes2:∀M β2,RVess M β2 w' bk 1 es2 0) (hl:es.length* 2<=cs.size) (hl2:es2.length* 1<=ck.size):
    Mem M0 w0 (upd β id (some (bk,1))) (upd (upd hp2 i (some ⟨tB,2,es⟩)) id (some ⟨tb,1,es2⟩)) w'/\
     Stab (MM M0 β hp) (MM M0 (upd β id (some (bk,1))) (upd (upd hp2 i (some ⟨tB,2,es⟩)) id (some ⟨tb,1,es2⟩))) β (upd β id (some (bk,1))) w w':=by
 obtain⟨β2,hβ2⟩:∃x,x=upd β id (some (bk,1)):=⟨_,rfl⟩;obtain⟨hp3,hhp3⟩:∃x,x=upd (upd hp2 i (some (⟨tB,2,es⟩:ABlk))) id (some ⟨tb,1,es2⟩):=⟨_,rfl⟩;rw[<-hβ2,<-hhp3];have hiid:i≠id:=λe=>by subst e;rw[hi] at hidh;cases hidh
 have hbe:∀m x,β m=some x->β2 m=some x:=λm x hm=>by
  rw[hβ2,br];exact hm;intro e;subst e;rw[hid] at hm;cases hm
 have hβid:β2 id=some (bk,1):=by rw[hβ2,bn]
 have h3id:hp3 id=some ⟨tb,1,es2⟩:=by rw[hhp3,bn]
 have h3i:hp3 i=some ⟨tB,2,es⟩:=by rw[hhp3,br _ _ hiid,bn]
 have h3o:∀x,x≠id->x≠i->hp3 x=hp2 x:=λx h1 h2=>by rw[hhp3,br _ _ h1,br _ _ h2]
 have hβo:∀x,x≠id->β2 x=β x:=λx h1=>by rw[hβ2,br _ _ h1]
 -- what is not written
 have nD:∀m X c s,hp2 m=some X->m≠i->β m=some (c,s)->¬D c:=by
  intro m X c s hm hmi hc hd;rcases hD c hd with rfl|⟨m',X',s',h1,h2,h3⟩
  exact hmi (h.inj m i X B c s 2 (hsub m X hm) hi hc hb);have:=h.inj m m' X X' c s s' (hsub m X hm) h1 hc h2;subst this;rw[hm] at h3;cases h3
 have nK:∀x,D x->¬w0.K x:=by
  intro x hd;rcases hD x hd with rfl|⟨m',X',s',_,h2,_⟩
  exact(h.rng i _ 2 hb).1;exact(h.rng m' x s' h2).1
 have nbK:¬w0.K bk:=by
  rcases hbkn with hn|hn
  intro hk;have:=w0.lt bk hk;have:=h.below.size;omega;exact nK bk hn.1
 have hmmD:∀x,D x->MM M0 β hp x:=by
  intro x hd;rcases hD x hd with rfl|⟨m',X',s',h1,h2,_⟩
  exact .inr ⟨i,B,2,hi,hb⟩;exact .inr ⟨m',X',s',h1,h2⟩
 have hDc:∀x,D x->∃N,aL w x=some N:=by
  intro x hd
  have key:∀m X s,hp m=some X->β m=some (x,s)->∃N,aL w x=some N:=by
   intro m X s h1 h2;obtain⟨b',e1,e2⟩:=h.blk m X h1;rw[h2] at e1;cases e1;exact e2.size
  rcases hD x hd with rfl|⟨m',X',s',h1,h2,_⟩
  exact key i B 2 hi hb;exact key m' X' s' h1 h2
 have hmm:∀c,MM M0 β2 hp3 c->MM M0 β hp c\/w.heap.size<=c:=by
  rintro c (hc|⟨m,X,s,h1,h2⟩);exact .inl (.inl hc);by_cases hm:m=id;subst hm;rw[hβid] at h2;cases h2;rcases hbkn with hn|hn
  exact .inr hn;exact .inl (hmmD bk hn.1);rw[hβo m hm] at h2;by_cases hmi:m=i;subst hmi;exact .inl (.inr ⟨m,B,s,hi,h2⟩);rw[h3o m hm hmi] at h1;exact .inl (.inr ⟨m,X,s,hsub m X h1,h2⟩)
 have st:Stab (MM M0 β hp) (MM M0 β2 hp3) β β2 w w':=
  ⟨⟨λc N hs hm=>block c (ci hs) λhd=>hm (hmmD c hd),λc N hs hm=>(hmm c hm).elim (λh=>h) λhn=>by have:=ci hs;omega,hbe,sizes⟩,
   λc hlt hn=>block c hlt λhd=>by obtain⟨N,hN⟩:=hDc c hd;rw[hN] at hn;cases hn⟩
 refine⟨⟨⟨os.1.trans h.below.os,os.2.1.trans h.below.tape,os.2.2.trans h.below.output,Nat.le_trans h.below.size size,λk hk=>(block k (Nat.lt_of_lt_of_le (w0.lt k hk) h.below.size) λhd=>nK k hd hk).trans (h.below.block k hk),λc n hs=>sizes c n (h.below.sizes c n hs)⟩,h.m0,
  λm c s hm=>?_,λh0=>?_,λm X hm=>?_,λm k X Y c s s' h1 h2 h3 h4=>?_⟩,st⟩
 by_cases hmid:m=id;subst hmid;rw[hβid] at hm;cases hm;exact⟨nbK,hbk⟩;rw[hβo m hmid] at hm;exact⟨(h.rng m c s hm).1,Nat.lt_of_lt_of_le (h.rng m c s hm).2 size⟩;rw[hβo 0 (Ne.symm hid0)];refine h.pin ?_;by_cases h0i:0=i;rw[h0i,hi];rfl;rw[h3o 0 (Ne.symm hid0) h0i] at h0;obtain⟨X,hX⟩:=Option.isSome_iff_exists.1 h0;rw[hsub 0 X hX];rfl;by_cases hmid:m=id;subst hmid;rw[h3id] at hm;cases hm;exact⟨bk,hβid,.inl ⟨Nat.one_ne_zero,ck,hck,hes2 _ _,hl2⟩⟩;by_cases hmi:m=i;subst hmi;rw[h3i] at hm;cases hm;exact⟨b,hbe _ _ hb,.inl ⟨(by decide:(2:Nat)≠0),cs,hcs,hes _ _ hbe hβid,hl⟩⟩;rw[h3o m hmid hmi] at hm;obtain⟨c,e1,e2⟩:=h.blk m X (hsub m X hm);exact⟨c,hbe _ _ e1,e2.stab st.toStabC (block c (h.rng m c _ e1).2 (nD m X c _ hm hmi e1))⟩
 have key:∀m X c s,hp3 m=some X->β2 m=some (c,s)->m≠id->∃X',hp m=some X'/\β m=some (c,s)/\c≠bk:=by
  intro m X c s hm hc hmid;rw[hβo m hmid] at hc;by_cases hmi:m=i;subst hmi;rw[hb] at hc;cases hc;refine⟨B,hi,hb,?_⟩;rintro rfl;rcases hbkn with hn|hn
  have:=(h.rng m _ 2 hb).2;omega;exact hn.2 rfl;rw[h3o m hmid hmi] at hm;refine⟨X,hsub m X hm,hc,?_⟩;rintro rfl;rcases hbkn with hn|hn
  have:=(h.rng m _ s hc).2;omega;exact nD m X _ s hm hmi hc hn.1
 by_cases hm:m=id;by_cases hk:k=id;rw[hm,hk];subst hm;rw[hβid] at h3;cases h3;obtain⟨_,_,_,hne⟩:=key k Y _ s' h2 h4 hk;exact absurd rfl hne;by_cases hk:k=id;subst hk;rw[hβid] at h4;cases h4;obtain⟨_,_,_,hne⟩:=key m X _ s h1 h3 hm;exact absurd rfl hne;obtain⟨X',e1,e2,_⟩:=key m X c s h1 h3 hm;obtain⟨Y',f1,f2,_⟩:=key k Y c s' h2 h4 hk;exact h.inj m k X' Y' c s s' e1 f1 e2 f2
theorem pg{M M':Nat->Prop}{β β':Bq}{b:Nat}:∀{t:List UInt8} {off:Nat},RVess M β w b 1 (bE t) off->RVess M' β' w b 1 (bE t) off
 |[],_,_=>trivial
 |_::_,_,⟨h0,⟨⟨x,h1,h2⟩,_⟩,h3⟩=>⟨h0,⟨⟨x,h1,h2⟩,trivial⟩,pg h3⟩
theorem vU {M M':Nat->Prop} {β β':Bq} {i j i' j':Nat} (hi:∀x,β i=some x->β' i'=some x) (hj:s≠none->∀x,β j=some x->β' j'=some x)
    (h:RVess M β w b 2 [dX i j s] 0):RVess M' β' w b 2 [dX i' j' s] 0:=by
 obtain⟨_,hc,_⟩:=h;cases s with
 |none=>
  obtain⟨⟨x,h1,h2⟩,⟨y,h3,h4⟩,_⟩:=hc;exact⟨rfl,⟨⟨x,h1,h2⟩,⟨y,h3,h4⟩,trivial⟩,trivial⟩
 |some q=>
  obtain⟨⟨x,h1,⟨b1,s1,h2,h3⟩⟩,⟨y,h4,⟨b2,c2,h5,h6⟩⟩,_⟩:=hc;exact⟨rfl,⟨⟨x,h1,⟨b1,s1,hi _ h2,h3⟩⟩,⟨y,h4,⟨b2,c2,hj ψ _ h5,h6⟩⟩,trivial⟩,trivial⟩
def hpB(tB tb:Nat):Option (List UInt8)->List (Nat×Option ABlk)
 |none=>[(0,some ⟨tB,2,[dX 0 1 none]⟩)]
 |some q=>[(0,some ⟨tB,2,[dX 0 1 (some q)]⟩),(1,some ⟨tb,1,bE q⟩)]
theorem qM(tB tb:Nat)(s:Option (List UInt8))(m:Nat):au (hpB tB tb s) m=if m=0 then some ⟨tB,2,[dX 0 1 s]⟩ else if m=1 then s.map λq=>⟨tb,1,bE q⟩ else none:=by
 cases s with
 |none=>
  rw[hpB,de];unfold upd;by_cases h0:m=0;rw[if_pos h0,if_pos h0];by_cases h1:m=1;rw[if_pos h1];rfl;rw[if_neg h1];rfl
 |some q=>
  rw[hpB,de];unfold upd;by_cases h0:m=0;rw[if_pos h0,if_pos h0];rw[if_neg h0,if_neg h0,de];unfold upd;by_cases h1:m=1;rfl;rfl
def dropJ(hp:Hq)(j:Nat):Option (List UInt8)->Nat->Option ABlk
 |none=>hp
 |some _=>upd hp j none
theorem BSpec.intro {f:Nat} {fn:Func} {c:Code} {tB tb:Nat} {s:Option (List UInt8)} {t:List UInt8} {args:La} {r:AV} (hf:P.funcs[f]?=some fn) (hb:fn.body=some c) (hname:(fn.name== "runtime.NumGoroutine")=false)
    (hcl:∀a∈args,Closed a) (hpure:Pure r) (hn:args.length+1<=fn.ntmps)
    (h:AWp none P c (λx st=>(x= .normal\/x= .ret)/\kW P fn.results.toList st r/\∃k,k≠0/\au st.hp 0=some ⟨tB,2,[dX 0 k (some t)]⟩/\au st.hp k=some ⟨tb,1,bE t⟩) ⟨(0,.lptr 0 0 0)::dx 1 args,hpB tB tb s,2,fn.ntmps⟩):BSpec P f tB tb s t args r:=by
 refine⟨hcl,λxs w=>?_,λM0 w0 β hp w id i j y0 vals mem hid0 hid hidh hi hj hy0 hargs=>?_⟩;have hname':¬fn.name= "runtime.NumGoroutine" :=φ
 simp[callFunc,hf,hname',hb];refine(callsIn_wide (n:=0)).1 (callsIn_of_wp_marks (F:=Fence.wide) hf hb trivial ?_);have hlen:=hargs.length;obtain⟨b,sz0,hbi,rfl⟩:=hy0;obtain⟨b',cs,hbi',hh,hr,hl⟩:=mem.cells hi (by decide:(2:Nat)≠0);rw[hbi] at hbi';cases hbi';have hbi2:β i=some (b,2):=hbi
 -- the buffer
 have hbuf:∀q,s=some q->∃bj ck,β j=some (bj,1)/\w.heap[bj]?=some (.cells ck tb (0,0))/\RVess (MM M0 β hp) β w bj 1 (bE q) 0/\(bE q).length* 1<=ck.size/\bj≠b:=λq hq=>by
  obtain⟨h1,h2⟩:=hj q hq;obtain⟨bj,ck,e1,e2,e3,e4⟩:=mem.cells h1 (by decide:(1:Nat)≠0);exact⟨bj,ck,e1,e2,e3,e4,λe=>by subst e;exact h2 (mem.inj i j _ _ bj 2 1 hi h1 hbi2 e1)⟩
 let D:Nat->Prop:=λx=>x=b\/(s≠none/\∃ss,β j=some (x,ss))
 let M0c:Nat->Prop:=λx=>MM M0 β hp x/\¬D x
 let β0:Nat->Option (Nat×Nat):=λm=>if m=0 then some (b,2) else if m=1/\s≠none then β j else none
 have hDm:∀x,D x->x< w.heap.size/\MM M0 β hp x:=by
  rintro x (rfl|⟨hs,ss,hx⟩);exact⟨(mem.rng i x 2 hbi2).2,.inr ⟨i,_,2,hi,hbi2⟩⟩;obtain⟨q,hq⟩:=Option.ne_none_iff_exists'.1 hs;exact⟨(mem.rng j x ss hx).2,.inr ⟨j,_,ss,(hj q hq).1,hx⟩⟩
 let bs:Base:=⟨w,λx=>x< w.heap.size/\¬D x,λ_ h=>h.1,some (b,2),λ_=>undef,⟨mem.tab.lt,λhd=>mem.nt (hDm GT hd).2⟩,mem.tab⟩
 have hβ00:β0 0=some (b,2):=rfl;have hβ01:s≠none->β0 1=β j:=λhs=>by grind
 have hβ0c:∀m x ss,β0 m=some (x,ss)->D x/\(m=0\/m=1):=by
  grind
 have hmm:MM M0c β0 (au (hpB tB tb s))=MM M0 β hp:=by
  funext x;refine propext ⟨?_,λhx=>?_⟩;rintro(hx|⟨m,B,ss,_,h2⟩);exact hx.1;exact(hDm x (hβ0c m x ss h2).1).2;by_cases hd:D x;rcases hd with rfl|⟨hs,ss,hx2⟩
  exact .inr ⟨0,⟨tB,2,[dX 0 1 s]⟩,2,by rw[qM];rfl,rfl⟩;obtain⟨q,hq⟩:=Option.ne_none_iff_exists'.1 hs;exact .inr ⟨1,⟨tb,1,bE q⟩,ss,by rw[qM,hq];rfl,(hβ01 hs).trans hx2⟩;exact .inl ⟨hx,hd⟩
 have hmem:Mem M0c bs β0 (au (hpB tB tb s)) w:=by
  refine⟨⟨rfl,rfl,rfl,Nat.le_refl _,λ_ _=>rfl,λ_ _ h=>h⟩,λx hx=>⟨⟨mem.lt hx.1,hx.2⟩,λe=>mem.nt (e▸hx.1)⟩,λm x ss hm=>?_,(λ_=>rfl),λm B hm=>?_,λm k B B' x ss ss' h1 h2 h3 h4=>?_⟩;have:=hβ0c m x ss hm;exact⟨λhk=>hk.2 this.1,(hDm x this.1).1⟩;rw[hmm];rw[qM] at hm;split at hm
  ·rename_i h0;subst h0;cases hm
   exact⟨b,rfl,.inl ⟨(by decide:(2:Nat)≠0),cs,hh,vU (i:=i) (j:=j) (λx hx=>by rw[hbi2] at hx;cases hx;rfl) (λhs x hx=>(hβ01 hs).trans hx) hr,hl⟩⟩
  split at hm
  ·rename_i h1;subst h1
   cases hs:s with
   |none=>rw[hs] at hm;cases hm
   |some q=>
    rw[hs] at hm;cases hm;obtain⟨bj,ck,e1,e2,e3,e4,_⟩:=hbuf q hs;exact⟨bj,(hβ01 (by rw[hs];simp)).trans e1,.inl ⟨(by decide:(1:Nat)≠0),ck,e2,pg e3,e4⟩⟩
  cases hm;have g1:=(hβ0c m x ss h3).2;have g2:=(hβ0c k x ss' h4).2
  have hne:∀ss ss',β0 0=some (x,ss)->β0 1=some (x,ss')->False:=λss ss' e1 e2=>by
   cases e1;cases hs:s with
   |none=>simp only[β0] at e2;rw[if_neg δ,if_neg (by rw[hs];simp)] at e2;cases e2
   |some q=>
    obtain⟨bj,ck,f1,_,_,_,f2⟩:=hbuf q hs;rw[hβ01 (by rw[hs];simp),f1] at e2;cases e2;exact f2 rfl
  rcases g1 with rfl|rfl <;> rcases g2 with rfl|rfl
  rfl;exact(hne _ _ h3 h4).elim;exact(hne _ _ h4 h3).elim;rfl
 have hrel:ARel M0c bs ⟨(0,.lptr 0 0 0)::dx 1 args,hpB tB tb s,2,fn.ntmps⟩ {tmps:=(Value.pointer (some ⟨b,0* 2+0,none⟩)::vals).toArray++Array.replicate (fn.ntmps- (Value.pointer (some ⟨b,0* 2+0,none⟩)::vals).toArray.size) undef,defers:=[]} w:=by
  refine⟨β0,hmem,χ,λt x hx=>?_,λm (hm:2<=m)=>⟨by simp only[β0];rw[if_neg ω,if_neg ω],ω⟩,⟨[],rfl,List.nodup_nil,ψ⟩⟩;show RV (MM M0c β0 (au (hpB tB tb s))) _ _ _ _;rw[hmm,cY rfl];rw[show(look ((0,.lptr 0 0 0)::dx 1 args) t=some x)↔(upd (look (dx 1 args)) 0 (some (.lptr 0 0 0)) t=some x) by rw[cJ]] at hx;obtain⟨y0,hy0⟩:∃y0,y0=Value.pointer (some ⟨b,0* 2+0,none⟩):=⟨_,rfl⟩;rw[<-hy0]
  have get:∀(k:Nat) (y:Value),(y0::vals)[k]?=some y->((y0::vals).toArray++Array.replicate (fn.ntmps- (y0::vals).toArray.size) undef).getD k undef=y:=by
   intro k y hk;have hlt:k< (y0::vals).length:=(List.getElem?_eq_some_iff.1 hk).1;rw[Array.getD_eq_getD_getElem?,Array.getElem?_append_left (by simpa using hlt)];simp only[List.getElem?_toArray];rw[hk];rfl
  unfold upd at hx;split at hx
  ·rename_i h0;subst h0;cases hx
   rw[get 0 y0 rfl];exact⟨b,2,rfl,by rw[hy0]⟩
  obtain⟨h1,y,h2,h3⟩:=gf hargs hx;rw[get t y (by rw[show t=(t- 1)+1 by omega,List.getElem?_cons_succ];exact h2)];exact StabC.all (w:=w) (w':=w) (M:=MM M0 β hp) (β:=λ_=>none) ⟨λ_ _ _ _=>rfl,λ_ _ _ h=>h,(λ_ _ h=>by cases h),λ_ _ h=>h⟩ h3
 refine wpIn_mono (h _ bs _ w hrel) λx a' w' ⟨st',⟨β',mem',hsz,hfr,hfree,Ds,hds,hnd,hDs⟩,he,hres,k,hk0,hl0,hlk⟩=>?_
 have hL:LeavesInM (FR none) 0 P fn a'.tmps (λx w'=> ∃y,x= .returned y/\∃β',mS M0 w0 β hp w id ⟨r,updB tB tb i j id s t⟩ y w' β') a'.defers .returning w':=by
  rw[hds];refine iz hres (λy w'' h1 h2 _ _=>?_) Ds w' hnd hDs mem' (λt x hx=>by have:=hfr t x hx;rwa[cY rfl] at this);have hb0:β' 0=some (b,2):=h2.pin (by rw[hl0];rfl);obtain⟨b1,cs1,e1,e2,e3,e4⟩:=h2.cells hl0 (by decide:(2:Nat)≠0);rw[hb0] at e1;cases e1;obtain⟨bk,ck1,f1,f2,f3,f4⟩:=h2.cells hlk (by decide:(1:Nat)≠0);have hkb:bk≠b:=λe=>hk0 (h2.inj k 0 _ _ bk _ _ hlk hl0 f1 (by rw[e];exact hb0));have hrk:=h2.rng k bk _ f1
  have hbkn:w.heap.size<=bk\/(D bk/\bk≠b):=by
   by_cases hlt:bk< w.heap.size;by_cases hd:D bk;exact .inr ⟨hd,hkb⟩;exact absurd ⟨hlt,hd⟩ hrk.1;exact .inl ω
  obtain⟨hp2,hhp2⟩:∃hp2:Nat->Option ABlk,hp2=dropJ hp j s:=⟨_,rfl⟩;have hji:s≠none->i≠j:=λhs=>by obtain⟨q,hq⟩:=Option.ne_none_iff_exists'.1 hs;exact(hj q hq).2
  have h2sub:∀x X,hp2 x=some X->hp x=some X:=by
   intro x X hx;rw[hhp2] at hx;cases hs:s with
   |none=>rw[hs] at hx;exact hx
   |some q=>
    rw[hs] at hx;simp only[dropJ,upd] at hx;split at hx;cases hx;exact hx
  have h2i:hp2 i=some ⟨tB,2,[dX i j s]⟩:=by
   rw[hhp2];cases hs:s with
   |none=>rw[hs] at hi;exact hi
   |some q=>show upd hp j none i=_;rw[br _ _ (hji (by rw[hs];simp)),<-hs];exact hi
  have htwo:=mem.two (w':=w'') (i:=i) (id:=id) (b:=b) (bk:=bk) (tB:=tB) (tb:=tb) (D:=D) (es:=[dX i id (some t)]) (es2:=bE t) (hp2:=hp2) (cs:=cs1) (ck:=ck1) hi hbi2 hid0 hid hidh h2sub h2i
   (λx hx=>by
    rcases hx with rfl|⟨hs,ss,hx⟩
    exact .inl rfl;obtain⟨q,hq⟩:=Option.ne_none_iff_exists'.1 hs;exact .inr ⟨j,_,ss,(hj q hq).1,hx,by rw[hhp2,hq];exact bn _ _ _⟩) (.inl rfl)
   ⟨h2.below.os,h2.below.tape,h2.below.output⟩ h2.below.size (λx hx hd=>h2.below.block x ⟨hx,hd⟩) h2.below.sizes hrk.2 hbkn e2 f2
   (λM β2 hbe hbid=>vU (i:=0) (j:=k) (λx hx=>by rw[hb0] at hx;cases hx;exact hbe _ _ hbi2) (λ_ x hx=>by rw[f1] at hx;cases hx;exact hbid) e3) (λM β2=>pg f3) e4 f4
  refine⟨y,rfl,upd β id (some (bk,1)),?_⟩
  have happ:iM hp (updB tB tb i j id s t)=upd (upd hp2 i (some ⟨tB,2,[dX i id (some t)]⟩)) id (some ⟨tb,1,bE t⟩):=by
   rw[hhp2];cases s <;> rfl
  unfold mS;rw[happ];exact⟨htwo.1,hpure _ _ _ _ _ _ _ h1,htwo.2,λm hm=>br _ _ hm⟩
 rcases he with rfl|rfl
 exact hL;exact hL
section
variable {id:Nat}{ev:Operand->Option AV}{c:Call}{callee x0:Operand}{f i j tB tb:Nat}{as:La}{r:AV}
def rdB(i j:Nat):Option (List UInt8)->Ln
 |none=>[i]
 |some _=>[i,j]
theorem ii{ρ:Operand->Value}{o:Oper}{args:List Value}{w:World}(ho:o.op= .call c)(h1:c.callee= .value callee)(hx:ρ callee= .func (.func f) #[] #[])(ha:c.args.toList.map ρ=args)(he:∀(xs:Array Value) (w:World),(callFunc f xs).run P w= .ok (.enter f xs) w):
    (execOp ρ o).run P w= .ok (.enter f args.toArray) w:=by
 simp only[execOp];simp only[resolve,Deferred.ofValue,invoke];have:(c.args.toList.map ρ).toArray=c.args.map ρ:=φ
 grind
theorem sU{M:Nat->Prop}{β:Bq}{w:World}{ρ:Operand->Value}:∀{xs:List Operand} {as:La},(∀x∈xs,∀a,ev x=some a->RV M β w a (ρ x))->evs ev xs=some as->RVs M β w as (xs.map ρ)
 |[],as,_,h=>by simp only[evs,Option.some.injEq] at h;subst h;exact rfl
 |x::xs,as,hev,h=>by
  simp only[evs] at h;split at h
  ·rename_i a as' h1 h2
   simp only[Option.some.injEq] at h;subst h;exact⟨_,_,rfl,hev x (List.mem_cons_self ..) a h1,sU (λy hy=>hev y (List.mem_cons_of_mem _ hy)) h2⟩
  cases h
theorem AEval.callB {t:List UInt8} {rest:List Operand} (h1:c.callee= .value callee) (h2:ev callee=some (.clos f [] [])) (h3:c.args.toList=x0::rest) (h4:ev x0=some (.lptr i 0 0)) (h5:evs ev rest=some as) (h6:hp i=some ⟨tB,2,[dX i j s]⟩)
    (h7:∀q,s=some q->hp j=some ⟨tb,1,bE q⟩/\i≠j) (h8:BSpec P f tB tb s t (as.map coe) r):AEval P id ev hp (.call c) ⟨r,updB tB tb i j id s t⟩ (rdB i j s):=by
 refine .sem λM0 w0 β hp' w ρ o ho mem hev hcst hid0 hid hidh hrd=>?_
 have hopn:∀x,x∈(Op.call c).operands↔x=callee\/x∈x0::rest:=by
  simp[Op.operands,Call.operands,h1,<-Array.mem_toList_iff,h3]
 obtain⟨xs,ys,hx,hr1,hr2⟩:=hev callee ((hopn _).2 (.inl rfl)) _ h2;have hxs:xs= #[]:=Array.ext' hr1;have hys:ys= #[]:=Array.ext' hr2;subst hxs hys;have hi:hp' i=some ⟨tB,2,[dX i j s]⟩:=(hrd i (by cases s <;> simp[rdB])).trans h6;have hj:∀q,s=some q->hp' j=some ⟨tb,1,bE q⟩/\i≠j:=λq hq=>⟨(hrd j (by rw[hq];simp[rdB])).trans (h7 q hq).1,(h7 q hq).2⟩;have has:RVs (MM M0 β hp') β w as (rest.map ρ):=sU (λx hx=>hev x ((hopn _).2 (.inr (List.mem_cons_of_mem _ hx)))) h5;exact .inr ⟨f,(ρ x0::rest.map ρ).toArray,ii ho h1 hx φ h8.enters,h8.calls M0 w0 β hp' w id i j (ρ x0) (rest.map ρ) mem hid0 hid hidh hi hj (hev x0 ((hopn _).2 (.inr (List.mem_cons_self ..))) _ h4) (dW h8.cl (iy has))⟩
structure CSpec (P:Program)(f tB:Nat):Prop where
 enters:∀(xs:Array Value) (w:World),(callFunc f xs).run P w= .ok (.enter f xs) w
 used:∀(b:Nat) (w:World),w.cell? ⟨b,0,none⟩=some (.pointer (some ⟨b,0,none⟩))->Calls P f #[.pointer (some ⟨b,0,none⟩)] w λe w'=>e= .returned (.tuple #[])/\w'=w
 fresh:∀(b:Nat) (w:World) (cs:Array Value),w.heap[b]?=some (.cells cs tB (0,0))->2<=cs.size->cs[0]?=some (.pointer none)->Calls P f #[.pointer (some ⟨b,0,none⟩)] w λe w'=>e= .returned (.tuple #[])/\w'=w.setCell ⟨b,0,none⟩ (.pointer (some ⟨b,0,none⟩))
theorem AEval.callC{a X:AV}(h1:c.callee= .value callee)(h2:ev callee=some (.clos f [] []))(h3:c.args.toList=[x0])(h4:ev x0=some (.lptr i 0 0))(h5:hp i=some ⟨tB,2,[[a,X]]⟩)(h6:a= .v (.pointer none)\/a= .lptr i 0 0)(h7:CSpec P f tB):
    AEval P id ev hp (.call c) ⟨.tup [],[(i,some ⟨tB,2,[[.lptr i 0 0,X]]⟩)]⟩ [i]:=by
 refine .sem λM0 w0 β hp' w ρ o ho mem hev hcst hid0 hid hidh hrd=>?_
 have hopn:∀x,x∈(Op.call c).operands↔x=callee\/x∈[x0]:=by
  intro x;simp[Op.operands,Call.operands,h1,<-Array.mem_toList_iff,h3]
 obtain⟨xs,ys,hx,hr1,hr2⟩:=hev callee ((hopn _).2 (.inl rfl)) _ h2;have hxs:xs= #[]:=Array.ext' hr1;have hys:ys= #[]:=Array.ext' hr2;subst hxs hys;have hi:hp' i=some ⟨tB,2,[[a,X]]⟩:=(hrd i ψ).trans h5;obtain⟨b,sz0,hbi,hy0⟩:=hev x0 ((hopn _).2 (.inr (List.mem_cons_self ..))) _ h4;obtain⟨b',cs,hbi',hh,⟨_,⟨⟨x1,hc1,hx1⟩,⟨x2,hc2,hx2⟩,_⟩,_⟩,hl⟩:=mem.cells hi (by decide:(2:Nat)≠0);rw[hbi] at hbi';cases hbi';have hl2:2<=cs.size:=φ
 have hbi2:β i=some (b,2):=hbi;have hp0:ρ x0= .pointer (some ⟨b,0,none⟩):=φ
 have hun:iM hp' [(i,some ⟨tB,2,[[.lptr i 0 0,X]]⟩)]=upd hp' i (some ⟨tB,2,[[.lptr i 0 0,X]]⟩):=rfl;have g1:cs[0]?=some x1:=by simpa[World.cell?,hh] using hc1
 have g2:cs[1]?=some x2:=by simpa[World.cell?,hh] using hc2
 have hsz:aL w b=some cs.size:=by simp[aL,hh]
 have e:Calls P f #[.pointer (some ⟨b,0,none⟩)] w λe w'=>e= .returned (.tuple #[])/\w'=w.setCell ⟨b,0,none⟩ (.pointer (some ⟨b,0,none⟩))\/e= .returned (.tuple #[])/\w'=w/\x1= .pointer (some ⟨b,0,none⟩):=by
  rcases h6 with rfl|rfl
  cases (hx1:x1= .pointer none);exact(h7.fresh b w cs hh hl2 g1).mono λ_ _ h=> .inl h;obtain⟨b2,s2,hb2,hx⟩:=hx1;rw[hbi2] at hb2;cases hb2;have hx':x1= .pointer (some ⟨b,0,none⟩):=by rw[hx]
  exact(h7.used b w φ).mono λ_ _ h=> .inr ⟨h.1,h.2,hx'⟩
 refine .inr ⟨f, #[.pointer (some ⟨b,0,none⟩)],ii ho h1 hx φ h7.enters,e.mono ?_⟩;rintro e w' (⟨rfl,rfl⟩|⟨rfl,rfl,hx1'⟩)
 have hw:=mem.write (w':=w.setCell ⟨b,0,none⟩ (.pointer (some ⟨b,0,none⟩))) (es:=[[.lptr i 0 0,X]]) (cs:=cs.setIfInBounds 0 (.pointer (some ⟨b,0,none⟩))) (by decide:(2:Nat)≠0) hi hbi2 ⟨rfl,rfl,rfl⟩ (by simp[World.setCell]) (heap_setCell_same w b 0 cs tB _ hh) (λk hk=>heap_setCell_other w _ k _ hk)
  (λk e he=>by
   cases k with
   |zero=>
    simp only[List.getElem?_cons_zero,Option.some.injEq] at he;subst he;refine⟨[.pointer (some ⟨b,0,none⟩),x2],⟨_,_,rfl,⟨b,2,hbi2,rfl⟩,_,_,rfl,hx2,rfl⟩,rfl,λm v hm=>?_⟩
    match m,hm with
    |0,hm=>cases hm;show(cs.setIfInBounds 0 _)[0* 2+0]?=_;rw[Array.getElem?_setIfInBounds,if_pos rfl,if_pos ω]
    |1,hm=>cases hm;simpa[Array.getElem?_setIfInBounds] using g2
   |succ k=>simp at he) (by simpa using hl2) (by rw[Array.size_setIfInBounds];exact hsz)
 exact⟨_,rfl,β,hw.1,⟨#[],rfl,rfl⟩,hw.2,λ_ _=>rfl⟩
 have hw:=mem.write (w':=w') (es:=[[.lptr i 0 0,X]]) (cs:=cs) (by decide:(2:Nat)≠0) hi hbi2 ⟨rfl,rfl,rfl⟩ rfl hh (λk _=>rfl)
  (λk e he=>by
   cases k with
   |zero=>
    simp only[List.getElem?_cons_zero,Option.some.injEq] at he;subst he;refine⟨[.pointer (some ⟨b,0,none⟩),x2],⟨_,_,rfl,⟨b,2,hbi2,rfl⟩,_,_,rfl,hx2,rfl⟩,rfl,λm v hm=>?_⟩
    match m,hm with
    |0,hm=>cases hm;rw[<-hx1'];simpa using g1
    |1,hm=>cases hm;simpa using g2
   |succ k=>simp at he) (by simpa using hl2) hsz
 exact⟨_,rfl,β,hw.1,⟨#[],rfl,rfl⟩,hw.2,λ_ _=>rfl⟩
structure DSpec (P:Program)(f tB tb:Nat):Prop where
 enters:∀(xs:Array Value) (w:World),(callFunc f xs).run P w= .ok (.enter f xs) w
 calls:∀(b bj cap:Nat) (q:List UInt8) (w:World) (cs ck:Array Value),q≠[]->w.heap[b]?=some (.cells cs tB (0,0))->cs[1]?=some (.slice (some ⟨bj,0,none⟩) q.length cap)->q.length<=cap->cap<=maxLen->b≠bj->w.heap[bj]?=some (.cells ck tb (0,0))->cap<=ck.size->
  (∀(k:Nat) (x:UInt8),q[k]?=some x->ck[k]?=some (Value.int .u8 x.toNat))->Calls P f #[.pointer (some ⟨b,0,none⟩)] w λe w'=>e= .returned (.string ⟨q.toArray⟩)/\But bj w w'
theorem Mem.gone(h:Mem M0 w0 β hp w){j:Nat}{B:ABlk}{s:Nat}{ids:Ln}(hb:But b w w')(hj:hp j=some B)(hbj:β j=some (b,s))(hin:j∈ids):
    Mem M0 w0 β (dK hp ids) w'/\Stab (MM M0 β hp) (MM M0 β (dK hp ids)) β β w w':=by
 have hsub:∀m X,dK hp ids m=some X->hp m=some X/\m∉ids:=λm X hm=>by
  simp only[dK] at hm;grind
 obtain⟨m1,st1⟩:=h.forget λm X hm=>(hsub m X hm).1;have hmb:MM M0 β hp b:= .inr ⟨j,B,s,hj,hbj⟩;have hrng:=h.rng j b s hbj
 have hcell:∃N,aL w b=some N:=by
  obtain⟨b',e1,e2⟩:=h.blk j B hj;rw[hbj] at e1;cases e1;exact e2.size
 have st:Stab (MM M0 β hp) (MM M0 β (dK hp ids)) β β w w':=
  ⟨⟨λc N hs hm=>hb.block c (ci hs) λe=>hm (e▸hmb),st1.m,λ_ _ h=>h,hb.sizes⟩,
   λc hlt hn=>hb.block c hlt λe=>by grind⟩
 refine⟨⟨⟨hb.os.trans h.below.os,hb.tape.trans h.below.tape,hb.output.trans h.below.output,Nat.le_trans h.below.size hb.size,λk hk=>(hb.block k (Nat.lt_of_lt_of_le (w0.lt k hk) h.below.size) λe=>hrng.1 (e▸hk)).trans (h.below.block k hk),λc n hs=>hb.sizes c n (h.below.sizes c n hs)⟩,h.m0,λm c ss hm=>⟨(h.rng m c ss hm).1,Nat.lt_of_lt_of_le (h.rng m c ss hm).2 hb.size⟩,m1.pin,λm X hm=>?_,m1.inj⟩,st⟩;obtain⟨h1,h2⟩:=hsub m X hm;obtain⟨c,e1,e2⟩:=h.blk m X h1
 have hne:c≠b:=λe=>by
  subst e;have:=h.inj m j X B c _ _ h1 hj e1 hbj;grind
 have hsame:=hb.block c (h.rng m c _ e1).2 hne;exact⟨c,e1,e2.stab st.toStabC hsame⟩
theorem AEval.callD{q:List UInt8}(h1:c.callee= .value callee)(h2:ev callee=some (.clos f [] []))(h3:c.args.toList=[x0])(h4:ev x0=some (.lptr i 0 0))(h5:hp i=some ⟨tB,2,[dX i j (some q)]⟩)(h6:hp j=some ⟨tb,1,bE q⟩)(hij:i≠j)(hq:q≠[])(h7:DSpec P f tB tb):
    AEval P id ev hp (.call c) ⟨.v (.string ⟨q.toArray⟩),[(i,none),(j,none)]⟩ [i,j]:=by
 refine .sem λM0 w0 β hp' w ρ o ho mem hev hcst hid0 hid hidh hrd=>?_
 have hopn:∀x,x∈(Op.call c).operands↔x=callee\/x∈[x0]:=by
  intro x;simp[Op.operands,Call.operands,h1,<-Array.mem_toList_iff,h3]
 obtain⟨xs,ys,hx,hr1,hr2⟩:=hev callee ((hopn _).2 (.inl rfl)) _ h2;have hxs:xs= #[]:=Array.ext' hr1;have hys:ys= #[]:=Array.ext' hr2;subst hxs hys;have hi:hp' i=some ⟨tB,2,[dX i j (some q)]⟩:=(hrd i ψ).trans h5;have hj:hp' j=some ⟨tb,1,bE q⟩:=(hrd j ψ).trans h6;obtain⟨b,sz0,hbi,hy0⟩:=hev x0 ((hopn _).2 (.inr (List.mem_cons_self ..))) _ h4;obtain⟨b',cs,hbi',hh,⟨_,⟨⟨x1,hc1,hx1⟩,⟨x2,hc2,hx2⟩,_⟩,_⟩,hl⟩:=mem.cells hi (by decide:(2:Nat)≠0);rw[hbi] at hbi';cases hbi';obtain⟨bj,ck,e1,e2,e3,e4⟩:=mem.cells hj (by decide:(1:Nat)≠0);obtain⟨bj',cap,f1,f2,f3,f4,_,N,f5,f6⟩:=hx2;rw[e1] at f1;cases f1;have hp0:ρ x0= .pointer (some ⟨b,0,none⟩):=φ
 have g2:cs[1]?=some x2:=by simpa[World.cell?,hh] using hc2
 have hne:b≠bj:=λe=>by subst e;exact hij (mem.inj i j _ _ b _ _ hi hj hbi e1)
 have hN:N=ck.size:=by simp[aL,e2] at f5;grind
 refine .inr ⟨f, #[.pointer (some ⟨b,0,none⟩)],ii ho h1 hx φ h7.enters,(h7.calls b bj cap q w cs ck hq hh φ f3 f4 hne e2 φ λk x hk=>?_).mono ?_⟩;have:=(e3.get (i:=k) (e:=[.v (.int .u8 x.toNat)]) (by simp[bE,hk])).1;obtain⟨⟨y,hy1,hy2⟩,_⟩:=this;cases (hy2:y=_);simpa[World.cell?,e2] using hy1;rintro e w' ⟨rfl,hbut⟩;have hg:=mem.gone (ids:=[i,j]) hbut hj e1 ψ;refine⟨_,rfl,β,?_⟩;unfold mS;rw[show([(i,none),(j,none)]:List (Nat×Option ABlk))=[i,j].map λi=>(i,none) from rfl,rA];exact⟨hg.1,rfl,hg.2,λ_ _=>rfl⟩
def Fc:Option (List UInt8)->La
 |none=>[.v (.pointer none),.emp]
 |some q=>[.any,.arr (bE q)]
theorem AEval.callR{r:Value}(h1:c.callee= .value callee)(h2:ev callee=some (.clos f [] []))(h3:c.args.toList=[x0])(h4:ev x0=some (.lptr i 0 0))(h5:hp i=some ⟨tB,2,[dX i j s]⟩)(h6:∀q,s=some q->hp j=some ⟨tb,1,bE q⟩)(h7:FSpec P f [.aptr [Fc s] 0 0] (.v r)):
    AEval P id ev hp (.call c) ⟨.v r,[]⟩ (rdB i j s):=by
 refine .sem λM0 w0 β hp' w ρ o ho mem hev hcst hid0 hid hidh hrd=>?_
 have hopn:∀x,x∈(Op.call c).operands↔x=callee\/x∈[x0]:=by
  intro x;simp[Op.operands,Call.operands,h1,<-Array.mem_toList_iff,h3]
 obtain⟨xs,ys,hx,hr1,hr2⟩:=hev callee ((hopn _).2 (.inl rfl)) _ h2;have hxs:xs= #[]:=Array.ext' hr1;have hys:ys= #[]:=Array.ext' hr2;subst hxs hys;have hi:hp' i=some ⟨tB,2,[dX i j s]⟩:=(hrd i (by cases s <;> simp[rdB])).trans h5;have hj:∀q,s=some q->hp' j=some ⟨tb,1,bE q⟩:=λq hq=>(hrd j (by rw[hq];simp[rdB])).trans (h6 q hq);obtain⟨b,sz0,hbi,hy0⟩:=hev x0 ((hopn _).2 (.inr (List.mem_cons_self ..))) _ h4;obtain⟨b',cs,hbi',hh,hr,hl⟩:=mem.cells hi (by decide:(2:Nat)≠0);rw[hbi] at hbi';cases hbi';have hbi2:β i=some (b,2):=hbi;have hp0:ρ x0= .pointer (some ⟨b,0,none⟩):=φ
 let hp2:=dK hp' [i,j]
 have hsub:∀m X,hp2 m=some X->hp' m=some X/\m≠i/\m≠j:=λm X hm=>by
  simp only[hp2,dK] at hm;grind
 have hM:∀x,MM M0 β hp2 x->MM M0 β hp' x:=by
  rintro x (hx|⟨m,X,s',g1,g2⟩);exact .inl hx;exact .inr ⟨m,X,s',(hsub m X g1).1,g2⟩
 have hnb:∀m X x s',hp' m=some X->β m=some (x,s')->(m=i\/m=j)->¬MM M0 β hp2 x:=by
  rintro m X x s' g1 g2 gm (hx|⟨m',X',s'',g3,g4⟩);exact(mem.rng m x s' g2).1 (mem.m0 x hx).1;obtain⟨g5,g6,g7⟩:=hsub m' X' g3;have:=mem.inj m m' X X' x s' s'' g1 g5 g2 g4;grind
 have harg:RVs (MM M0 β hp2) (λ_=>none) w [.aptr [Fc s] 0 0] [.pointer (some ⟨b,0,none⟩)]:=by
  refine⟨_,_,rfl,⟨ψ,b,0,2,ψ,⟨cs.size,by simp[aL,hh]⟩,hnb i _ b 2 hi hbi2 (.inl rfl),?_⟩,rfl⟩;obtain⟨_,hc,_⟩:=hr;cases hs:s with
  |none=>
   rw[hs] at hc;obtain⟨⟨x,h1,h2⟩,⟨y,h3,h4⟩,_⟩:=hc;exact⟨rfl,⟨⟨x,h1,h2⟩,⟨y,h3,h4⟩,trivial⟩,trivial⟩
  |some q=>
   rw[hs] at hc;obtain⟨⟨x,h1,_⟩,⟨y,h3,⟨bj,cap,g1,g2,g3,g4,_,N,g5,g6⟩⟩,_⟩:=hc;obtain⟨bj',ck,e1,e2,e3,e4⟩:=mem.cells (hj q hs) (by decide:(1:Nat)≠0);rw[g1] at e1;cases e1;refine⟨rfl,⟨⟨x,h1,trivial⟩,⟨y,h3,⟨some ⟨bj,0,none⟩,cap,by rw[g2,dz],by rw[dz];exact g3,g4,.inr ⟨bj,0,1,rfl,⟨N,g5⟩,hnb j _ bj 1 (hj q hs) g1 (.inr rfl),pg e3⟩⟩⟩,trivial⟩,trivial⟩
 refine .inr ⟨f, #[.pointer (some ⟨b,0,none⟩)],ii ho h1 hx (by rw[h3];simp[hp0]) h7.enters,(h7.calls (MM M0 β hp2) w _ (mem.fit.sub hM) harg).mono ?_⟩;rintro e w' ⟨y,rfl,hy,hb⟩;have hm:=mem.ext hb;exact⟨y,rfl,β,hm.1,hy,hm.2,λ_ _=>rfl⟩
end
end
end
section
variable {P:Program}{M0:Nat->Prop}{w0:Base}{β:Bq}{hp:Hq}{w w':World}
theorem RVkv.snoc{M:Nat->Prop}:∀{es:Lc} {ens:List MapEntry} {x:La} {e:MapEntry},RVkv M β w es ens->RVs M β w x [e.key,e.val]->RVkv M β w (es++[x]) (ens++[e])
 |[],ens,x,e,h,hx=>by cases (h:ens=[]);exact⟨e,[],rfl,hx,rfl⟩
 |y::es,ens,x,e,⟨e',es',he,h1,h2⟩,hx=>by subst he;exact⟨e',es'++[e],rfl,h1,RVkv.snoc h2 hx⟩
def By(kd:IntKind)(k:Int):Lc->Bool
 |[]=>true
 |[.v (.int kd' k'),_]::l=>decide (kd=kd') && !decide (k=k') && By kd k l
 |_=>false
theorem zx{M:Nat->Prop}{kd kd0:IntKind}{k:Int}:∀{es:Lc} {ens:List MapEntry} (i:Nat),By kd k es=true->RVkv M β w es ens->Instr.findNow (.int kd0) (.int kd k) ens i=some none
 |[],ens,i,_,h=>by cases (h:ens=[]);rfl
 |[.v (.int kd' k'),a]::es,ens,i,hn,⟨e,es',he,⟨x,xs,e1,hx,_⟩,h2⟩=>by
  subst he;simp only[By,Bool.and_eq_true,decide_eq_true_eq,Bool.not_eq_true',decide_eq_false_iff_not] at hn;obtain⟨⟨rfl,h1⟩,h3⟩:=hn;cases e1;have hk:e.key= .int kd k':=hx;have hs:Instr.sameNow (.int kd0) (.int kd k) e.key=some false:=by rw[hk];simp[Instr.sameNow,h1]
  simp only[Instr.findNow,hs];exact zx (i+1) h3 h2
section
variable {id:Nat}{ev:Operand->Option AV}{T kt e:Nat}{kd:IntKind}
def DB(kd:IntKind)(k:Int):List Value->Option Nat
 |[]=>none
 | .int kd' k'::l=>if kd=kd' then(if k=k' then some 0 else(DB kd k l).map (· +1)) else none
 |_=>none
def Dq(k:Int):List Value->Bool
 |[]=>true
 | .int _ k'::l=>!decide (k=k') && Dq k l
 |_=>false
theorem tY{k:Int}:∀{l:List Value},Dq k l=true->Value.int kd k∉l
 |[],_=>by simp
 |c::l,h=>by
  cases c <;> simp only[Dq,Bool.false_eq_true,Bool.and_eq_true,Bool.not_eq_true',decide_eq_false_iff_not] at h;intro hm;rcases List.mem_cons.1 hm with e|e
  cases e;exact h.1 rfl;exact tY h.2 e
def pK(kd:IntKind):List Value->Bool
 |[]=>true
 | .int kd' k'::l=>decide (kd=kd') && Dq k' l && pK kd l
 |_=>false
theorem wa{M:Nat->Prop}{k:Int}:∀{ks:List Value} {vs:La} {l:List MapEntry} (n:Nat) (a:AV),l.map (·.key)=ks->RVs M β w vs (l.map (·.val))->DB kd k ks=some n->vs[n]?=some a->∃e,e∈l/\e.key= .int kd k/\RV M β w a e.val
 |[],_,_,_,_,_,_,h,_=>by cases h
 |c::ks,vs,[],n,a,h1,_,_,_=>by grind
 |c::ks,[],e::l,n,a,h1,h2,_,_=>by grind
 |c::ks,u::vs,e::l,n,a,h1,⟨x,xs,e1,g1,g2⟩,h3,h4=>by
  simp only[List.map_cons,List.cons.injEq] at h1 e1;obtain⟨hc,h1⟩:=h1;obtain⟨rfl,rfl⟩:=e1;cases c <;> simp only[DB,reduceCtorEq] at h3;split at h3
  ·rename_i hkd
   split at h3
   ·grind
   obtain⟨n',hn',rfl⟩:=Option.map_eq_some_iff.1 h3;obtain⟨e',f1,f2,f3⟩:=wa n' a h1 g2 hn' φ;grind
  grind
theorem nW:∀{ks:List Value},pK kd ks=true->ks.Nodup/\∀k∈ks,∃n,k= .int kd n
 |[],_=>⟨List.nodup_nil,λ_ h=>by cases h⟩
 |c::ks,h=>by
  cases c <;> simp only[pK,Bool.false_eq_true,Bool.and_eq_true,decide_eq_true_eq] at h;obtain⟨⟨rfl,h1⟩,h2⟩:=h;obtain⟨i1,i2⟩:=nW h2;exact⟨List.nodup_cons.2 ⟨tY h1,i1⟩,λk hk=>(φ)⟩
theorem Al{kd0:IntKind}{k:Int}{e:MapEntry}:∀{l:List MapEntry} (i:Nat),e∈l->e.key= .int kd k->(l.map (·.key)).Nodup->(∀x∈l.map (·.key),∃n,x= .int kd n)->∃j,Instr.findNow (.int kd0) (.int kd k) l i=some (some (j,e.val))
 |[],_,h,_,_,_=>by cases h
 |x::l,i,h,hk,hnd,hall=>by
  rw[List.map_cons,List.nodup_cons] at hnd;obtain⟨n,hn⟩:=hall x.key (List.mem_cons_self ..);by_cases hkn:k=n;subst hkn;have he:e=x:=φ
  subst he;exact⟨i,by simp[Instr.findNow,Instr.sameNow,hn]⟩;have hne:e≠x:=λhe=>by grind
  have hs:Instr.sameNow (.int kd0) (.int kd k) x.key=some false:=by rw[hn];simp[Instr.sameNow,hkn]
  obtain⟨j,hj⟩:=Al (kd0:=kd0) (i+1) ((List.mem_cons.1 h).resolve_left hne) hk hnd.2 (λy hy=>hall y (List.mem_cons_of_mem _ hy));exact⟨j,by simp only[Instr.findNow];grind⟩
theorem AEval.lookup{x ix:Operand}{ks:List Value}{vs:La}{kk:Int}{n:Nat}{a:AV}(h1:ev x=some (.mp ks vs))(h3:ev ix=some (.v (.int kd kk)))(hT:P.underlying T=some (.map kt e))(hK:P.underlying kt=some (.int kd))(hn:DB kd kk ks=some n)(ha:vs[n]?=some a)(hg:pK kd ks=true):
    AEval P id ev hp (.lookup T x ix false) ⟨a,[]⟩ []:=by
 refine .sem λM0 w0 β hp' w ρ o ho mem hev hcst hid0 hid hidh hrd=>?_;obtain⟨r,ens,ck,hm,g1,_,l,gp,g2,g3⟩:=hev x θ _ h1;have hk:ρ ix= .int kd kk:=hev ix θ _ h3;obtain⟨en,f0,f1,f2⟩:=wa n a g2 g3 hn ha;obtain⟨k1,k2⟩:=nW hg;have hp:=gp.map (λe:MapEntry=>e.key);rw[g2] at hp;obtain⟨j,hj⟩:=Al (kd0:=kd) 0 (gp.mem_iff.1 f0) f1 (hp.nodup_iff.1 k1) (λy hy=>k2 y (hp.mem_iff.2 hy));refine .pure (y:=en.val) mem ?_ f2
 have hrun:(Instr.lookup T (.map (some r)) (.int kd kk) false).run P w= .ok en.val w:=by
  simp[Instr.lookup,run_underlying hT,MapKept.run_getObj_map g1,MapKept.run_checkKey (k:= .int kd kk) hK (by simp[MapKept.IsKey]),MapKept.run_findKey hK hj]
 simp only[execOp];simp_all
end
end
theorem CvL.two{r:Ren}{hp hp':Hq}{x x' y y':AV}(h:Cv r hp hp' x x')(h':Cv r hp hp' y y'):CvL r hp hp' [x,y] [x',y']:=af h (af h' ax)
section
variable {P:Program}{ops:Array Oper}{nx n j:Nat}{rest:List Oper}{fr:Fr}{hp:Hp}{K:Fps->Fr->Hp->Prop}
variable {d:Nat}{op:Op}{ty:Nat}{pos:String}{after:Array Edge}{a:AV}{p q s:Nat×Option ABlk}{rd:Ln}
theorem AR.op3 (hs:AEval P (nx+j) (evF (look fr)) (au hp) op ⟨a,[p,q,s]⟩ rd) (hnd:ce op=true) (hd:Nat.blt d n=true)
    (h:AR P ops nx n (j+1) rest ((d,a)::fr) (s::q::p::hp) λfps f h=>K (([p.1,q.1,s.1],rd)::fps) f h):AR P ops nx n j (⟨some d,op,ty,pos,after,none⟩::rest) fr hp K:=
 AR.cons ⟨bz hnd,hs⟩ hd h
end
abbrev tx(t:List UInt8):AV:= .v (.string ⟨t.toArray⟩)
def iK(t:List UInt8):List Value:=t.map λb=> .int .u8 b.toNat
section
variable {P:Program}{w:World}
theorem first_text(t:List UInt8)(w:World):(Builtin.firstCells 1 t.length (.string ⟨t.toArray⟩)).run P w= .ok (iK t).toArray w:=by
 have hs:(⟨t.toArray⟩:ByteArray).size=t.length:=by simp[ByteArray.size]
 have he:(⟨t.toArray⟩:ByteArray).extract 0 t.length=⟨t.toArray⟩:=by rw[<-hs];simp
 simp only[Builtin.firstCells];simp[iK]
theorem kx {T T' E bs sz:Nat} {zs:List Value} (h1:eg P T=some (E,sz)) (h2:P.underlying T'=some .string) (h3:fm P E=some zs) (h4:rv P E=some bs)
    {base:Option Addr} {n c m:Nat} {s:ByteArray} {old new:Array Value} (hm:s.size=m) (hgrow:c< n+m) (hroom:(n+m) * bs<=140737488355328) (h63:n+m<=maxLen- 1) (ty:TypeId)
    (hold:∀w',w'.heap=w.heap->(Builtin.firstCells sz n (.slice base n c)).run P w'= .ok old w') (hnew:∀w',w'.heap=w.heap->(Builtin.firstCells sz m (.string s)).run P w'= .ok new w'):
    ∃nc z,n+m<=nc/\nc< 2^ 63/\z.toList=zs/\(Builtin.append_ #[T,T'] ty #[.slice base n c,.string s]).run P w=
     .ok (.slice (some ⟨w.heap.size,0,none⟩) (n+m) nc) (w.drew.alloc (.cells (old++new++Builtin.zeroCells z (nc- (n+m))) E)):=by
 obtain⟨hu,hz⟩:=dU h1;obtain⟨inf,z,i1,i2,i3,i4,i5⟩:=xz hz h3 h4;have h63':n+m< 2^ 63:=by unfold maxLen at h63;omega
 obtain⟨hc1,hc2⟩:=DZ (need:=n+m) (old:=c) (e:=E) (w.tape w.drawn (.appendCap (n+m) c E)) h63';refine⟨(Question.appendCap (n+m) c E).cut (w.tape w.drawn (.appendCap (n+m) c E)),z.cells,hc1,hc2,i3,?_⟩;have hfit:=growslice_fits hgrow hroom
 have hmax:¬((n:Int)+(m:Int)> IntKind.i64.max):=by
  have:IntKind.i64.max=9223372036854775807:=δ
  grind
 have g1:¬(n+m<=c):=ω
 have hw:∀w:World,({w with drawn:=w.drawn+1}:World)=w.drew:=λ_=>rfl;have f1:=hold w.drew rfl;have f2:=hnew w.drew rfl;have hforced:(Question.appendCap (n+m) c E).forced=false:=rfl;have hcond:¬(((n+m:Nat):Int)> IntKind.i64.max/\(False\/inf.bytes=0)):=λh=>hmax φ;have hfit':¬(Builtin.nextslicecap (n+m) c* inf.bytes> 2^ 48):=φ
 unfold Builtin.append_
 simp only[List.getElem?_toArray,List.getElem?_cons_zero,List.getElem?_cons_succ,Sem.run_bind,run_underlying hu w,run_underlying h2 w,Result.andThen_ok,run_sizeOf' hz,Sem.run_pure,
  Bool.false_eq_true,if_false,Builtin.lenOf,hm,g1,typeInfo,run_program,i1,hcond,hfit',run_choose,hforced,hw,run_askRoom,Bool.not_false,if_true,f1,f2,zeroValue,i2,newRow,run_newObj]
 rfl
theorem qy {T T' E sz:Nat} (h1:eg P T=some (E,sz)) (h2:P.underlying T'=some .string)
    {b off n c m:Nat} {s:ByteArray} {new:Array Value} (hm:s.size=m) (hroom:n+m<=c) (ty:TypeId) (hnew:(Builtin.firstCells sz m (.string s)).run P w= .ok new w) {w':World}
    (hst:(storeCells ⟨b,off+n* sz,none⟩ new.toList).run P w= .ok () w'):
    (Builtin.append_ #[T,T'] ty #[.slice (some ⟨b,off,none⟩) n c,.string s]).run P w= .ok (.slice (some ⟨b,off,none⟩) (n+m) c) w':=by
 obtain⟨hu,hz⟩:=dU h1;unfold Builtin.append_
 simp only[List.getElem?_toArray,List.getElem?_cons_zero,List.getElem?_cons_succ,Sem.run_bind,run_underlying hu w,run_underlying h2 w,Result.andThen_ok,run_sizeOf' hz,Sem.run_pure,
  Bool.false_eq_true,if_false,Builtin.lenOf,hm,hroom,Bool.not_false,if_true,hnew,jM,hst]
end
theorem ws{M:Nat->Prop}{β:Bq}{w:World}(t:List UInt8):Flat M β w 1 (bE t) (iK t):=by
 refine⟨by simp[iK,bE],λi e he=>?_⟩;simp only[bE,List.getElem?_map,Option.map_eq_some_iff] at he;obtain⟨x,hx,rfl⟩:=he;refine⟨[.int .u8 x.toNat],⟨_,_,rfl,rfl,rfl⟩,rfl,λj v hj=>?_⟩;cases j with
 |zero=>simp only[List.getElem?_cons_zero,Option.some.injEq] at hj;subst hj;simp[iK,hx]
 |succ j=>grind
section
variable {P:Program}{id:Nat}{ev:Operand->Option AV}{hp:Hq}{c:Call}{x y:Operand}{T T' E:Nat}{t q:List UInt8}{zs:List Value}
theorem AEval.appS_e (h1:c.callee= .builtin .append) (h2:c.args= #[x,y]) (h3:c.argTypes= #[T,T']) (h4:eg P T=some (E,1)) (h5:P.underlying T'=some .string) (h6:ev x=some .emp) (h7:ev y=some (tx t)) (h9:t≠[])
    (h10:fm P E=some zs) (h11:zs.length=1) (h12:rv P E=some 1) (h13:t.length<=140737488355328):
    AEval P id ev hp (.call c) ⟨.lsl id 0 t.length none 1,[(id,some ⟨E,1,bE t⟩)]⟩ []:=by
 refine .sem λM0 w0 β hp' w ρ o ho mem hev hcst hid0 hid hidh hrd=>?_
 have hopn:∀z,z∈(Op.call c).operands↔z∈[x,y]:=by
  intro z;simp[Op.operands,Call.operands,h1,h2]
 obtain⟨b,hx⟩:=hev x ((hopn _).2 ψ) _ h6;have hy:ρ y= .string ⟨t.toArray⟩:=hev y ((hopn _).2 ψ) _ h7;have hpos:0< t.length:=φ
 have hold:∀w':World,w'.heap=w.heap->(Builtin.firstCells 1 0 (.slice b 0 0)).run P w'= .ok #[] w':=by
  intro w' _;cases b with
  |none=>rfl
  |some ad=>simp[Builtin.firstCells,loadCells,loadCellsFrom]
 have hflat:Flat (MM M0 β hp') β w 1 (bE t) (iK t):=ws t;obtain⟨nc,z,g1,g2,g3,hr⟩:=kx (w:=w) (n:=0) (m:=t.length) (c:=0) (s:=⟨t.toArray⟩) (base:=b) h4 h5 h10 h12 (by simp[ByteArray.size]) ω ω (by unfold maxLen;omega) o.type hold (λw' _=>first_text t w');have hzs:z.size=1:=φ
 have hdr:=mem.ext ((Below.refl w.heap.size w).drew)
 have hal:=hdr.1.alloc (i:=id) (ty:=E) (s:=1) (es:=bE t) (cs:= #[]++(iK t).toArray++Builtin.zeroCells z (nc- (0+t.length))) Nat.one_ne_zero hid0 hid hidh (λk e he=>by
  obtain⟨ys,r1,r2,r3⟩:=hflat.2 k e he;refine⟨ys,hdr.2.vs r1,r2,λj v hj=>?_⟩;grind) (by simp[hflat.1])
 refine .inl ⟨.slice (some ⟨w.heap.size,0,none⟩) t.length nc,_,_,.inl ?_,hal.1,⟨w.heap.size,nc,bn _ _ _,ψ,ω,by unfold maxLen;omega,(λk hk=>φ),nc* 1,?_,ψ⟩,⟨⟨λbb N hN hm=>(hal.2.heap bb N hN hm),hal.2.m,hal.2.be,hal.2.sz⟩,hal.2.oth⟩,λj hj=>br _ _ hj⟩;simp only[execOp,ho,resolve,h1,h2,Sem.run_bind,Sem.run_pure,Result.andThen_ok,invoke,builtin,List.map_toArray,List.map_cons,List.map_nil,hx,hy,h3,hr,Nat.zero_add];unfold aL;have:(w.drew.alloc (.cells (#[]++(iK t).toArray++Builtin.zeroCells z (nc- (0+t.length))) E)).heap[w.heap.size]?=_:=heap_alloc_new' w.drew _;rw[this];simp only[Array.size_append,List.size_toArray,List.length_nil,gC,hzs,Option.some.injEq];have:(iK t).length=t.length:=by simp[iK]
 omega
theorem AEval.appS_l {i n:Nat} {cap:Option Nat} (h1:c.callee= .builtin .append) (h2:c.args= #[x,y]) (h3:c.argTypes= #[T,T']) (h4:eg P T=some (E,1)) (h5:P.underlying T'=some .string) (h6:ev x=some (.lsl i 0 n cap 1)) (h7:hp i=some ⟨E,1,bE q⟩) (hn:n=q.length) (h13:ev y=some (tx t))
    (h15:fm P E=some zs) (h16:zs.length=1) (h17:rv P E=some 1) (h18:q.length+t.length<=140737488355328):
    AEval P id ev hp (.call c) ⟨.lsl id 0 (q++t).length none 1,[(i,none),(id,some ⟨E,1,bE (q++t)⟩)]⟩ [i]:=by
 subst hn;refine .sem λM0 w0 β hp' w ρ o ho mem hev hcst hid0 hid hidh hrd=>?_
 have hopn:∀z,z∈(Op.call c).operands↔z∈[x,y]:=by
  intro z;simp[Op.operands,Call.operands,h1,h2]
 have hi:hp' i=some ⟨E,1,bE q⟩:=(hrd i ψ).trans h7;have hxv:=hev x ((hopn _).2 ψ) _ h6;have hy:ρ y= .string ⟨t.toArray⟩:=hev y ((hopn _).2 ψ) _ h13
 have hsrcx:SrcOf hp' 1 (.lsl i 0 q.length cap 1) (bE q) [i]:=by
  have:=SrcOf.lsl (s:=1) (hp:=hp') (i:=i) (e:=0) (n:=q.length) (cap:=cap) (B:=⟨E,1,bE q⟩) (dY hi Nat.one_ne_zero) (by simp[bE]);simpa[dz,List.take_of_length_le] using this
 obtain⟨xs0,cc,hflat0,⟨a0,hx⟩,_,hrun0⟩:=hsrcx.run (P:=P) mem hxv;obtain⟨b,c2,hb,hx2,hnc,hcm,hcap,N,hN,hcN⟩:=hxv;rw[hx,dz] at hx2;simp only[Value.slice.injEq,true_and] at hx2;obtain⟨rfl,rfl⟩:=hx2;have hflat:Flat (MM M0 β hp') β w 1 (bE t) (iK t):=ws t;have hne:i≠id:=λe=>by grind
 simp only[Nat.zero_mul] at hx hcN;rw[Nat.zero_add] at hcN;rw[dz] at hx
 have hone:∀v∈iK t,v.oneCell'=true:=by
  intro v hv;obtain⟨u,_,rfl⟩:=List.mem_map.1 hv;rfl
 by_cases hroom:q.length+t.length<=cc;have hle:(q.length+t.length) * 1<=N:=ω
 obtain⟨w',r1,r2,r3,r4⟩:=mem.storeEls (P:=P) (i:=i) (B:=⟨E,1,bE q⟩) (e:=q.length) (fs:=bE t) (es':=bE (q++t)) Nat.one_ne_zero hi hb hflat hone hN (by rw[dz];grind) (λp el hp=>by
  rw[wG] at hp;rw[dz];by_cases hql:p< q.length;rw[List.getElem?_append_left (by rw[dz];exact hql)] at hp;exact .inr ⟨.inl hql,hp⟩;rw[List.getElem?_append_right (by rw[dz];omega),dz] at hp;have:=(List.getElem?_eq_some_iff.1 hp).1;rw[dz] at this;exact .inl ⟨ω,ω,hp⟩) (by rw[dz,List.length_append];exact hle)
 have hrn:=r2.rename (i:=i) (id:=id) (B:=⟨E,1,bE (q++t)⟩) (bn _ _ _) hb hid0 hid (by rw[br _ _ (λe=>hne e.symm)];exact hidh);rw[oW] at hrn;refine .inl ⟨.slice (some ⟨b,0,none⟩) (q.length+t.length) cc,w',_,.inl ?_,hrn.1,⟨b,cc,bn _ _ _,ψ,by simpa using hroom,hcm,(λk hk=>by cases hk),N,r3.sz b N hN,by rw[Nat.zero_add];exact hcN⟩,r3.trans hrn.2 ω,λj hj=>br _ _ hj⟩;have hr:=qy (P:=P) (w:=w) (w':=w') (b:=b) (off:=0) (n:=q.length) (m:=t.length) (c:=cc) (s:=⟨t.toArray⟩) (new:=(iK t).toArray) h4 h5 (by simp[ByteArray.size]) hroom o.type (first_text t w) (by simpa using r1);simp only[execOp,ho,resolve,h1,h2,Sem.run_bind,Sem.run_pure,Result.andThen_ok,invoke,builtin,List.map_toArray,List.map_cons,List.map_nil,hx,hy,h3,hr];have hold:=hrun0 (bE q).length (Nat.le_refl _);have hl0:(bE q).length* 1=xs0.length:=hflat0.1.symm;rw[hx,hl0,List.take_length,dz] at hold;obtain⟨nc,z,g1,g2,g3,hr⟩:=kx (w:=w) (n:=q.length) (m:=t.length) (c:=cc) (s:=⟨t.toArray⟩) (base:=some ⟨b,0,none⟩) h4 h5 h15 h17 (by simp[ByteArray.size]) ω ω (by unfold maxLen;omega) o.type hold (λw' _=>first_text t w');have hzs:z.size=1:=by rw[<-Array.length_toList,g3];exact h16
 have hdr:=mem.ext ((Below.refl w.heap.size w).drew);have hboth:=(hflat.append hflat0).stab hdr.2.toStabC;rw[<-wG] at hboth;have hbl:(iK t).length=t.length:=by simp[iK]
 rw[dz] at hl0
 have hal:=hdr.1.alloc (i:=id) (ty:=E) (s:=1) (es:=bE (q++t)) (cs:=xs0.toArray++(iK t).toArray++Builtin.zeroCells z (nc- (q.length+t.length))) Nat.one_ne_zero hid0 hid hidh (λk e he=>by
  obtain⟨ys,q1,q2,q3⟩:=hboth.2 k e he;refine⟨ys,q1,q2,λj v hj=>?_⟩;have h4:=q3 j v hj;have hlt:=(List.getElem?_eq_some_iff.1 h4).1;rw[Array.getElem?_append_left (by simpa using hlt)];simpa using h4) (by rw[dz];simp;omega)
 have hfg:=hal.1.forget (hp':=upd (upd hp' i none) id (some ⟨E,1,bE (q++t)⟩)) (λj B' hj=>by
  by_cases hji:j=id;subst hji;rw[bn] at hj⊢;exact hj;rw[br _ _ hji] at hj⊢;by_cases hj2:j=i;subst hj2;rw[bn] at hj;cases hj;rw[br _ _ hj2] at hj;exact hj)
 refine .inl ⟨.slice (some ⟨w.heap.size,0,none⟩) (q.length+t.length) nc,_,_,.inl ?_,hfg.1,⟨w.heap.size,nc,bn _ _ _,ψ,χ,by unfold maxLen;omega,(λk hk=>by cases hk),nc* 1,?_,ψ⟩,(hdr.2.trans hal.2 (Nat.le_refl _)).trans hfg.2 ψ,λj hj=>br _ _ hj⟩;simp only[execOp,ho,resolve,h1,h2,Sem.run_bind,Sem.run_pure,Result.andThen_ok,invoke,builtin,List.map_toArray,List.map_cons,List.map_nil,hx,hy,h3,hr];unfold aL;have:(w.drew.alloc (.cells (xs0.toArray++(iK t).toArray++Builtin.zeroCells z (nc- (q.length+t.length))) E)).heap[w.heap.size]?=_:=heap_alloc_new' w.drew _;rw[this];simp only[Array.size_append,List.size_toArray,gC,hzs,Option.some.injEq];omega
end
end Go.Abs
