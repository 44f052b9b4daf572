/- Part Y05 of the proof. -/
import Derived.Test.YtdjfjpeoddmamaaGreatDoorY04
import Derived.MapKept
import Derived.Lib.UnsafeStr
set_option linter.all false
namespace Go.Abs
open Go.RowKit
def bE(s:List UInt8):List (List AV):=s.map fun c=>[.v (.int .u8 c.toNat)]
theorem bO_(s:List UInt8):(bE s).length=s.length:=by simp[bE]
theorem mA_(s:List UInt8):∀e∈bE s,∀c∈e,Closed c:=by
 intro e he c hc
 obtain⟨x,_,rfl⟩:=List.mem_map.1 he
 rw[List.mem_singleton.1 hc];exact ad_ _
theorem mH_(s t:List UInt8):bE (s++t)=bE s++bE t:=by simp[bE]
def bldC(i j:Nat):Option (List UInt8)→List AV
 |none=>[.v (.pointer none),.emp]
 |some s=>[.lptr i 0 0,.lsl j 0 s.length none 1]
def updB(tB tb i j id:Nat)(s:Option (List UInt8))(t:List UInt8):List (Nat×Option ABlk):=
 match s with
 |none=>[(i,some ⟨tB,2,[bldC i id (some t)]⟩),(id,some ⟨tb,1,bE t⟩)]
 |some _=>[(j,none),(i,some ⟨tB,2,[bldC i id (some t)]⟩),(id,some ⟨tb,1,bE t⟩)]
def Pure(a:AV):Prop:=∀(M M':Nat→Prop) β β' w w' y,RV M β w a y→RV M' β' w' a y
structure BSpec (P:Program)(f tB tb:Nat)(s:Option (List UInt8))(t:List UInt8)(args:List AV)(r:AV):Prop where
 cl:∀a∈args,Closed a
 enters:∀(xs:Array Value) (w:World),(callFunc f xs).run P w= .ok (.enter f xs) w
 calls:∀(M0:Nat→Prop) (w0:Base) (β:Nat→Option (Nat×Nat)) (hp:Nat→Option ABlk) (w:World) (id i j:Nat) (y0:Value) (vals:List Value),Mem M0 w0 β hp w→id≠0→β id=none→hp id=none→hp i=some ⟨tB,2,[bldC i j s]⟩→
  (∀q,s=some q→hp j=some ⟨tb,1,bE q⟩∧i≠j)→RV (MM M0 β hp) β w (.lptr i 0 0) y0→RVs (MM M0 β hp) (fun _=>none) w args vals→
  Calls P f (y0::vals).toArray w fun x w'=> ∃y,x= .returned y∧∃β',After M0 w0 β hp w id ⟨r,updB tB tb i j id s t⟩ y w' β'
section
variable {P:Program}{M0:Nat→Prop}{w0:Base}{β:Nat→Option (Nat×Nat)}{hp:Nat→Option ABlk}{w w':World}
theorem Mem.two (h:Mem M0 w0 β hp w) {i id b bk tB tb:Nat} {B:ABlk} {D:Nat→Prop} {es es2:List (List AV)} {hp2:Nat→Option ABlk} {cs ck:Array Value} (hi:hp i=some B) (hb:β i=some (b,2)) (hid0:id≠0) (hid:β id=none) (hidh:hp id=none)
    -- hp2:the blocks but for those that are given up
    (hsub:∀x X,hp2 x=some X→hp x=some X) (h2i:hp2 i=some B) (hD:∀x,D x→x=b∨∃m X s,hp m=some X∧β m=some (x,s)∧(hp2 m=none)) (hDb:D b)
    (os:w'.os=w.os∧w'.tape=w.tape∧w'.output=w.output) (size:w.heap.size≤w'.heap.size) (block:∀x,x< w.heap.size→¬D x→w'.heap[x]?=w.heap[x]?) (sizes:∀x n,aN_ w x=some n→aN_ w' x=some n)
    (hbk:bk< w'.heap.size) (hbkn:w.heap.size≤bk∨(D bk∧bk≠b))
    (hcs:w'.heap[b]?=some (.cells cs tB (0,0))) (hck:w'.heap[bk]?=some (.cells ck tb (0,0)))
    (hes:∀M β2,(∀m x,β m=some x→β2 m=some x)→β2 id=some (bk,1)→RVess M β2 w' b 2 es 0) (hes2:∀M β2,RVess M β2 w' bk 1 es2 0) (hl:es.length* 2≤cs.size) (hl2:es2.length* 1≤ck.size):
    Mem M0 w0 (upd β id (some (bk,1))) (upd (upd hp2 i (some ⟨tB,2,es⟩)) id (some ⟨tb,1,es2⟩)) w'∧
     Stab (MM M0 β hp) (MM M0 (upd β id (some (bk,1))) (upd (upd hp2 i (some ⟨tB,2,es⟩)) id (some ⟨tb,1,es2⟩))) β (upd β id (some (bk,1))) w w':=by
 obtain⟨β2,hβ2⟩:∃x,x=upd β id (some (bk,1)):=⟨_,rfl⟩
 obtain⟨hp3,hhp3⟩:∃x,x=upd (upd hp2 i (some (⟨tB,2,es⟩:ABlk))) id (some ⟨tb,1,es2⟩):=⟨_,rfl⟩
 rw[←hβ2,←hhp3]
 have hiid:i≠id:=fun e=>by subst e;rw[hi] at hidh;cases hidh
 have hbe:∀m x,β m=some x→β2 m=some x:=fun m x hm=>by
  rw[hβ2,aW_];exact hm
  intro e;subst e;rw[hid] at hm;cases hm
 have hβid:β2 id=some (bk,1):=by rw[hβ2,aP_]
 have h3id:hp3 id=some ⟨tb,1,es2⟩:=by rw[hhp3,aP_]
 have h3i:hp3 i=some ⟨tB,2,es⟩:=by rw[hhp3,aW_ _ _ hiid,aP_]
 have h3o:∀x,x≠id→x≠i→hp3 x=hp2 x:=fun x h1 h2=>by rw[hhp3,aW_ _ _ h1,aW_ _ _ h2]
 have hβo:∀x,x≠id→β2 x=β x:=fun x h1=>by rw[hβ2,aW_ _ _ h1]
 -- what is not written
 have nD:∀m X c s,hp2 m=some X→m≠i→β m=some (c,s)→¬D c:=by
  intro m X c s hm hmi hc hd
  rcases hD c hd with rfl|⟨m',X',s',h1,h2,h3⟩
  exact hmi (h.inj m i X B c s 2 (hsub m X hm) hi hc hb)
  have:=h.inj m m' X X' c s s' (hsub m X hm) h1 hc h2
  subst this;rw[hm] at h3;cases h3
 have nK:∀x,D x→¬w0.K x:=by
  intro x hd
  rcases hD x hd with rfl|⟨m',X',s',_,h2,_⟩
  exact(h.rng i _ 2 hb).1
  exact(h.rng m' x s' h2).1
 have nbK:¬w0.K bk:=by
  rcases hbkn with hn|hn
  intro hk;have:=w0.lt bk hk;have:=h.below.size;omega
  exact nK bk hn.1
 have hmmD:∀x,D x→MM M0 β hp x:=by
  intro x hd
  rcases hD x hd with rfl|⟨m',X',s',h1,h2,_⟩
  exact .inr ⟨i,B,2,hi,hb⟩
  exact .inr ⟨m',X',s',h1,h2⟩
 have hDc:∀x,D x→∃N,aN_ w x=some N:=by
  intro x hd
  have key:∀m X s,hp m=some X→β m=some (x,s)→∃N,aN_ w x=some N:=by
   intro m X s h1 h2
   obtain⟨b',e1,e2⟩:=h.blk m X h1
   rw[h2] at e1;cases e1
   exact e2.size
  rcases hD x hd with rfl|⟨m',X',s',h1,h2,_⟩
  exact key i B 2 hi hb
  exact key m' X' s' h1 h2
 have hmm:∀c,MM M0 β2 hp3 c→MM M0 β hp c∨w.heap.size≤c:=by
  rintro c (hc|⟨m,X,s,h1,h2⟩)
  exact .inl (.inl hc)
  by_cases hm:m=id
  subst hm;rw[hβid] at h2;cases h2
  rcases hbkn with hn|hn
  exact .inr hn
  exact .inl (hmmD bk hn.1)
  rw[hβo m hm] at h2
  by_cases hmi:m=i
  subst hmi;exact .inl (.inr ⟨m,B,s,hi,h2⟩)
  rw[h3o m hm hmi] at h1;exact .inl (.inr ⟨m,X,s,hsub m X h1,h2⟩)
 have st:Stab (MM M0 β hp) (MM M0 β2 hp3) β β2 w w':=
  ⟨⟨fun c N hs hm=>block c (bz_ hs) fun hd=>hm (hmmD c hd),fun c N hs hm=>(hmm c hm).elim (fun h=>h) fun hn=>by have:=bz_ hs;omega,hbe,sizes⟩,
   fun c hlt hn=>block c hlt fun hd=>by obtain⟨N,hN⟩:=hDc c hd;rw[hN] at hn;cases hn⟩
 refine⟨⟨⟨os.1.trans h.below.os,os.2.1.trans h.below.tape,os.2.2.trans h.below.output,Nat.le_trans h.below.size size,fun k hk=>(block k (Nat.lt_of_lt_of_le (w0.lt k hk) h.below.size) fun hd=>nK k hd hk).trans (h.below.block k hk),fun c n hs=>sizes c n (h.below.sizes c n hs)⟩,h.m0,
  fun m c s hm=>?_,fun h0=>?_,fun m X hm=>?_,fun m k X Y c s s' h1 h2 h3 h4=>?_⟩,st⟩
 by_cases hmid:m=id
 subst hmid;rw[hβid] at hm;cases hm;exact⟨nbK,hbk⟩
 rw[hβo m hmid] at hm;exact⟨(h.rng m c s hm).1,Nat.lt_of_lt_of_le (h.rng m c s hm).2 size⟩
 rw[hβo 0 (Ne.symm hid0)]
 refine h.pin ?_
 by_cases h0i:0=i
 rw[h0i,hi];rfl
 rw[h3o 0 (Ne.symm hid0) h0i] at h0
 obtain⟨X,hX⟩:=Option.isSome_iff_exists.1 h0
 rw[hsub 0 X hX];rfl
 by_cases hmid:m=id
 subst hmid;rw[h3id] at hm;cases hm
 exact⟨bk,hβid,.inl ⟨Nat.one_ne_zero,ck,hck,hes2 _ _,hl2⟩⟩
 by_cases hmi:m=i
 subst hmi;rw[h3i] at hm;cases hm
 exact⟨b,hbe _ _ hb,.inl ⟨(by decide:(2:Nat)≠0),cs,hcs,hes _ _ hbe hβid,hl⟩⟩
 rw[h3o m hmid hmi] at hm
 obtain⟨c,e1,e2⟩:=h.blk m X (hsub m X hm)
 exact⟨c,hbe _ _ e1,e2.stab st.toStabC (block c (h.rng m c _ e1).2 (nD m X c _ hm hmi e1))⟩
 have key:∀m X c s,hp3 m=some X→β2 m=some (c,s)→m≠id→∃X',hp m=some X'∧β m=some (c,s)∧c≠bk:=by
  intro m X c s hm hc hmid
  rw[hβo m hmid] at hc
  by_cases hmi:m=i
  subst hmi
  rw[hb] at hc;cases hc
  refine⟨B,hi,hb,?_⟩
  rintro rfl
  rcases hbkn with hn|hn
  have:=(h.rng m _ 2 hb).2;omega
  exact hn.2 rfl
  rw[h3o m hmid hmi] at hm
  refine⟨X,hsub m X hm,hc,?_⟩
  rintro rfl
  rcases hbkn with hn|hn
  have:=(h.rng m _ s hc).2;omega
  exact nD m X _ s hm hmi hc hn.1
 by_cases hm:m=id
 by_cases hk:k=id
 rw[hm,hk]
 subst hm;rw[hβid] at h3;cases h3
 obtain⟨_,_,_,hne⟩:=key k Y _ s' h2 h4 hk
 exact absurd rfl hne
 by_cases hk:k=id
 subst hk;rw[hβid] at h4;cases h4
 obtain⟨_,_,_,hne⟩:=key m X _ s h1 h3 hm
 exact absurd rfl hne
 obtain⟨X',e1,e2,_⟩:=key m X c s h1 h3 hm
 obtain⟨Y',f1,f2,_⟩:=key k Y c s' h2 h4 hk
 exact h.inj m k X' Y' c s s' e1 f1 e2 f2
theorem hQ_{M M':Nat→Prop}{β β':Nat→Option (Nat×Nat)}{b:Nat}:∀{t:List UInt8} {off:Nat},RVess M β w b 1 (bE t) off→RVess M' β' w b 1 (bE t) off
 |[],_,_=>trivial
 |_::_,_,⟨h0,⟨⟨x,h1,h2⟩,_⟩,h3⟩=>⟨h0,⟨⟨x,h1,h2⟩,trivial⟩,hQ_ h3⟩
theorem lt_ {M M':Nat→Prop} {β β':Nat→Option (Nat×Nat)} {b i j i' j':Nat} {s:Option (List UInt8)} (hi:∀x,β i=some x→β' i'=some x) (hj:s≠none→∀x,β j=some x→β' j'=some x)
    (h:RVess M β w b 2 [bldC i j s] 0):RVess M' β' w b 2 [bldC i' j' s] 0:=by
 obtain⟨_,hc,_⟩:=h
 cases s with
 |none=>
  obtain⟨⟨x,h1,h2⟩,⟨y,h3,h4⟩,_⟩:=hc
  exact⟨rfl,⟨⟨x,h1,h2⟩,⟨y,h3,h4⟩,trivial⟩,trivial⟩
 |some q=>
  obtain⟨⟨x,h1,⟨b1,s1,h2,h3⟩⟩,⟨y,h4,⟨b2,c2,h5,h6⟩⟩,_⟩:=hc
  exact⟨rfl,⟨⟨x,h1,⟨b1,s1,hi _ h2,h3⟩⟩,⟨y,h4,⟨b2,c2,hj (by simp) _ h5,h6⟩⟩,trivial⟩,trivial⟩
def hpB(tB tb:Nat):Option (List UInt8)→List (Nat×Option ABlk)
 |none=>[(0,some ⟨tB,2,[bldC 0 1 none]⟩)]
 |some q=>[(0,some ⟨tB,2,[bldC 0 1 (some q)]⟩),(1,some ⟨tb,1,bE q⟩)]
theorem iH_(tB tb:Nat)(s:Option (List UInt8))(m:Nat):lookB (hpB tB tb s) m=if m=0 then some ⟨tB,2,[bldC 0 1 s]⟩ else if m=1 then s.map fun q=>⟨tb,1,bE q⟩ else none:=by
 cases s with
 |none=>
  rw[hpB,b3_];unfold upd
  by_cases h0:m=0
  rw[if_pos h0,if_pos h0]
  rw[if_neg h0,if_neg h0];by_cases h1:m=1
  rw[if_pos h1];rfl
  rw[if_neg h1];rfl
 |some q=>
  rw[hpB,b3_];unfold upd
  by_cases h0:m=0
  rw[if_pos h0,if_pos h0]
  rw[if_neg h0,if_neg h0,b3_];unfold upd
  by_cases h1:m=1
  rw[if_pos h1,if_pos h1];rfl
  rw[if_neg h1,if_neg h1];rfl
def dropJ(hp:Nat→Option ABlk)(j:Nat):Option (List UInt8)→Nat→Option ABlk
 |none=>hp
 |some _=>upd hp j none
theorem BSpec.intro {f:Nat} {fn:Func} {c:Code} {tB tb:Nat} {s:Option (List UInt8)} {t:List UInt8} {args:List AV} {r:AV} (hf:P.funcs[f]?=some fn) (hb:fn.body=some c) (hname:(fn.name== "runtime.NumGoroutine")=false)
    (hcl:∀a∈args,Closed a) (hpure:Pure r) (hn:args.length+1≤fn.ntmps)
    (h:AWp none P c (fun x st=>(x= .normal∨x= .ret)∧ResOK P fn.results.toList st r∧∃k,k≠0∧lookB st.hp 0=some ⟨tB,2,[bldC 0 k (some t)]⟩∧lookB st.hp k=some ⟨tb,1,bE t⟩) ⟨(0,.lptr 0 0 0)::argFr 1 args,hpB tB tb s,2,fn.ntmps⟩):BSpec P f tB tb s t args r:=by
 refine⟨hcl,fun xs w=>?_,fun M0 w0 β hp w id i j y0 vals mem hid0 hid hidh hi hj hy0 hargs=>?_⟩
 have hname':¬fn.name= "runtime.NumGoroutine" :=by simpa using hname
 simp[callFunc,hf,hname',hb]
 refine(callsIn_wide (n:=0)).1 ?_
 refine callsIn_of_wp_marks (F:=Fence.wide) hf hb trivial ?_
 have hlen:=hargs.length
 obtain⟨b,sz0,hbi,rfl⟩:=hy0
 obtain⟨b',cs,hbi',hh,hr,hl⟩:=mem.cells hi (by decide:(2:Nat)≠0)
 rw[hbi] at hbi';cases hbi'
 have hbi2:β i=some (b,2):=hbi
 -- the buffer
 have hbuf:∀q,s=some q→∃bj ck,β j=some (bj,1)∧w.heap[bj]?=some (.cells ck tb (0,0))∧RVess (MM M0 β hp) β w bj 1 (bE q) 0∧(bE q).length* 1≤ck.size∧bj≠b:=fun q hq=>by
  obtain⟨h1,h2⟩:=hj q hq
  obtain⟨bj,ck,e1,e2,e3,e4⟩:=mem.cells h1 (by decide:(1:Nat)≠0)
  exact⟨bj,ck,e1,e2,e3,e4,fun e=>by subst e;exact h2 (mem.inj i j _ _ bj 2 1 hi h1 hbi2 e1)⟩
 let D:Nat→Prop:=fun x=>x=b∨(s≠none∧∃ss,β j=some (x,ss))
 let M0c:Nat→Prop:=fun x=>MM M0 β hp x∧¬D x
 let β0:Nat→Option (Nat×Nat):=fun m=>if m=0 then some (b,2) else if m=1∧s≠none then β j else none
 have hDm:∀x,D x→x< w.heap.size∧MM M0 β hp x:=by
  rintro x (rfl|⟨hs,ss,hx⟩)
  exact⟨(mem.rng i x 2 hbi2).2,.inr ⟨i,_,2,hi,hbi2⟩⟩
  obtain⟨q,hq⟩:=Option.ne_none_iff_exists'.1 hs
  exact⟨(mem.rng j x ss hx).2,.inr ⟨j,_,ss,(hj q hq).1,hx⟩⟩
 let bs:Base:=⟨w,fun x=>x< w.heap.size∧¬D x,fun _ h=>h.1,some (b,2),fun _=>undef,⟨mem.tab.lt,fun hd=>mem.nt (hDm GT hd).2⟩,mem.tab⟩
 have hβ00:β0 0=some (b,2):=rfl
 have hβ01:s≠none→β0 1=β j:=fun hs=>by simp only[β0];rw[if_neg (by decide),if_pos ⟨trivial,hs⟩]
 have hβ0c:∀m x ss,β0 m=some (x,ss)→D x∧(m=0∨m=1):=by
  intro m x ss hm
  simp only[β0] at hm
  split at hm
  cases hm;exact⟨.inl rfl,.inl ‹_›⟩
  split at hm
  ·rename_i h1;exact⟨.inr ⟨h1.2,ss,hm⟩,.inr h1.1⟩
  cases hm
 have hmm:MM M0c β0 (lookB (hpB tB tb s))=MM M0 β hp:=by
  funext x
  refine propext ⟨?_,fun hx=>?_⟩
  rintro(hx|⟨m,B,ss,_,h2⟩)
  exact hx.1
  exact(hDm x (hβ0c m x ss h2).1).2
  by_cases hd:D x
  rcases hd with rfl|⟨hs,ss,hx2⟩
  exact .inr ⟨0,⟨tB,2,[bldC 0 1 s]⟩,2,by rw[iH_];rfl,rfl⟩
  obtain⟨q,hq⟩:=Option.ne_none_iff_exists'.1 hs
  exact .inr ⟨1,⟨tb,1,bE q⟩,ss,by rw[iH_,hq];rfl,(hβ01 hs).trans hx2⟩
  exact .inl ⟨hx,hd⟩
 have hmem:Mem M0c bs β0 (lookB (hpB tB tb s)) w:=by
  refine⟨⟨rfl,rfl,rfl,Nat.le_refl _,fun _ _=>rfl,fun _ _ h=>h⟩,fun x hx=>⟨⟨mem.lt hx.1,hx.2⟩,fun e=>mem.nt (e▸hx.1)⟩,fun m x ss hm=>?_,(fun _=>rfl),fun m B hm=>?_,fun m k B B' x ss ss' h1 h2 h3 h4=>?_⟩
  have:=hβ0c m x ss hm
  exact⟨fun hk=>hk.2 this.1,(hDm x this.1).1⟩
  rw[hmm]
  rw[iH_] at hm
  split at hm
  ·rename_i h0;subst h0;cases hm
   exact⟨b,rfl,.inl ⟨(by decide:(2:Nat)≠0),cs,hh,lt_ (i:=i) (j:=j) (fun x hx=>by rw[hbi2] at hx;cases hx;rfl) (fun hs x hx=>(hβ01 hs).trans hx) hr,hl⟩⟩
  split at hm
  ·rename_i h1;subst h1
   cases hs:s with
   |none=>rw[hs] at hm;cases hm
   |some q=>
    rw[hs] at hm;cases hm
    obtain⟨bj,ck,e1,e2,e3,e4,_⟩:=hbuf q hs
    exact⟨bj,(hβ01 (by rw[hs];simp)).trans e1,.inl ⟨(by decide:(1:Nat)≠0),ck,e2,hQ_ e3,e4⟩⟩
  cases hm
  have g1:=(hβ0c m x ss h3).2
  have g2:=(hβ0c k x ss' h4).2
  have hne:∀ss ss',β0 0=some (x,ss)→β0 1=some (x,ss')→False:=fun ss ss' e1 e2=>by
   cases e1
   cases hs:s with
   |none=>simp only[β0] at e2;rw[if_neg (by decide),if_neg (by rw[hs];simp)] at e2;cases e2
   |some q=>
    obtain⟨bj,ck,f1,_,_,_,f2⟩:=hbuf q hs
    rw[hβ01 (by rw[hs];simp),f1] at e2;cases e2;exact f2 rfl
  rcases g1 with rfl|rfl <;> rcases g2 with rfl|rfl
  rfl
  exact(hne _ _ h3 h4).elim
  exact(hne _ _ h4 h3).elim
  rfl
 have hrel:ARel M0c bs ⟨(0,.lptr 0 0 0)::argFr 1 args,hpB tB tb s,2,fn.ntmps⟩ {tmps:=(Value.pointer (some ⟨b,0* 2+0,none⟩)::vals).toArray++Array.replicate (fn.ntmps- (Value.pointer (some ⟨b,0* 2+0,none⟩)::vals).toArray.size) undef,defers:=[]} w:=by
  refine⟨β0,hmem,by simp;omega,fun t x hx=>?_,fun m (hm:2≤m)=>⟨by simp only[β0];rw[if_neg (by omega),if_neg (by omega)],by omega⟩,⟨[],rfl,List.nodup_nil,by simp⟩⟩
  show RV (MM M0c β0 (lookB (hpB tB tb s))) _ _ _ _
  rw[hmm,b2_ rfl]
  rw[show(look ((0,.lptr 0 0 0)::argFr 1 args) t=some x)↔(upd (look (argFr 1 args)) 0 (some (.lptr 0 0 0)) t=some x) by rw[b8_]] at hx
  obtain⟨y0,hy0⟩:∃y0,y0=Value.pointer (some ⟨b,0* 2+0,none⟩):=⟨_,rfl⟩
  rw[←hy0]
  have get:∀(k:Nat) (y:Value),(y0::vals)[k]?=some y→((y0::vals).toArray++Array.replicate (fn.ntmps- (y0::vals).toArray.size) undef).getD k undef=y:=by
   intro k y hk
   have hlt:k< (y0::vals).length:=(List.getElem?_eq_some_iff.1 hk).1
   rw[Array.getD_eq_getD_getElem?,Array.getElem?_append_left (by simpa using hlt)]
   simp only[List.getElem?_toArray]
   rw[hk];rfl
  unfold upd at hx
  split at hx
  ·rename_i h0;subst h0;cases hx
   rw[get 0 y0 rfl]
   exact⟨b,2,rfl,by rw[hy0]⟩
  obtain⟨h1,y,h2,h3⟩:=dm_ hargs hx
  rw[get t y (by rw[show t=(t- 1)+1 by omega,List.getElem?_cons_succ];exact h2)]
  exact StabC.all (w:=w) (w':=w) (M:=MM M0 β hp) (β:=fun _=>none) ⟨fun _ _ _ _=>rfl,fun _ _ _ h=>h,(fun _ _ h=>by cases h),fun _ _ h=>h⟩ h3
 refine wpIn_mono (h _ bs _ w hrel) fun x a' w' ⟨st',⟨β',mem',hsz,hfr,hfree,Ds,hds,hnd,hDs⟩,he,hres,k,hk0,hl0,hlk⟩=>?_
 have hL:LeavesInM (FR none) 0 P fn a'.tmps (fun x w'=> ∃y,x= .returned y∧∃β',After M0 w0 β hp w id ⟨r,updB tB tb i j id s t⟩ y w' β') a'.defers .returning w':=by
  rw[hds]
  refine f2_ hres (fun y w'' h1 h2 _ _=>?_) Ds w' hnd hDs mem' (fun t x hx=>by have:=hfr t x hx;rwa[b2_ rfl] at this)
  have hb0:β' 0=some (b,2):=h2.pin (by rw[hl0];rfl)
  obtain⟨b1,cs1,e1,e2,e3,e4⟩:=h2.cells hl0 (by decide:(2:Nat)≠0)
  rw[hb0] at e1;cases e1
  obtain⟨bk,ck1,f1,f2,f3,f4⟩:=h2.cells hlk (by decide:(1:Nat)≠0)
  have hkb:bk≠b:=fun e=>hk0 (h2.inj k 0 _ _ bk _ _ hlk hl0 f1 (by rw[e];exact hb0))
  have hrk:=h2.rng k bk _ f1
  have hbkn:w.heap.size≤bk∨(D bk∧bk≠b):=by
   by_cases hlt:bk< w.heap.size
   by_cases hd:D bk
   exact .inr ⟨hd,hkb⟩
   exact absurd ⟨hlt,hd⟩ hrk.1
   exact .inl (by omega)
  obtain⟨hp2,hhp2⟩:∃hp2:Nat→Option ABlk,hp2=dropJ hp j s:=⟨_,rfl⟩
  have hji:s≠none→i≠j:=fun hs=>by obtain⟨q,hq⟩:=Option.ne_none_iff_exists'.1 hs;exact(hj q hq).2
  have h2sub:∀x X,hp2 x=some X→hp x=some X:=by
   intro x X hx
   rw[hhp2] at hx
   cases hs:s with
   |none=>rw[hs] at hx;exact hx
   |some q=>
    rw[hs] at hx
    simp only[dropJ,upd] at hx
    split at hx
    cases hx
    exact hx
  have h2i:hp2 i=some ⟨tB,2,[bldC i j s]⟩:=by
   rw[hhp2]
   cases hs:s with
   |none=>rw[hs] at hi;exact hi
   |some q=>show upd hp j none i=_;rw[aW_ _ _ (hji (by rw[hs];simp)),←hs];exact hi
  have htwo:=mem.two (w':=w'') (i:=i) (id:=id) (b:=b) (bk:=bk) (tB:=tB) (tb:=tb) (D:=D) (es:=[bldC i id (some t)]) (es2:=bE t) (hp2:=hp2) (cs:=cs1) (ck:=ck1) hi hbi2 hid0 hid hidh h2sub h2i
   (fun x hx=>by
    rcases hx with rfl|⟨hs,ss,hx⟩
    exact .inl rfl
    obtain⟨q,hq⟩:=Option.ne_none_iff_exists'.1 hs
    exact .inr ⟨j,_,ss,(hj q hq).1,hx,by rw[hhp2,hq];exact aP_ _ _ _⟩) (.inl rfl)
   ⟨h2.below.os,h2.below.tape,h2.below.output⟩ h2.below.size (fun x hx hd=>h2.below.block x ⟨hx,hd⟩) h2.below.sizes hrk.2 hbkn e2 f2
   (fun M β2 hbe hbid=>lt_ (i:=0) (j:=k) (fun x hx=>by rw[hb0] at hx;cases hx;exact hbe _ _ hbi2) (fun _ x hx=>by rw[f1] at hx;cases hx;exact hbid) e3) (fun M β2=>hQ_ f3) e4 f4
  refine⟨y,rfl,upd β id (some (bk,1)),?_⟩
  have happ:appB hp (updB tB tb i j id s t)=upd (upd hp2 i (some ⟨tB,2,[bldC i id (some t)]⟩)) id (some ⟨tb,1,bE t⟩):=by
   rw[hhp2];cases s <;> rfl
  unfold After
  rw[happ]
  exact⟨htwo.1,hpure _ _ _ _ _ _ _ h1,htwo.2,fun m hm=>aW_ _ _ hm⟩
 rcases he with rfl|rfl
 exact hL
 exact hL
section
variable {id:Nat}{ev:Operand→Option AV}{c:Call}{callee x0:Operand}{f i j tB tb:Nat}{as:List AV}{r:AV}
def rdB(i j:Nat):Option (List UInt8)→List Nat
 |none=>[i]
 |some _=>[i,j]
theorem eX_{ρ:Operand→Value}{o:Oper}{args:List Value}{w:World}(ho:o.op= .call c)(h1:c.callee= .value callee)(hx:ρ callee= .func (.func f) #[] #[])(ha:c.args.toList.map ρ=args)(he:∀(xs:Array Value) (w:World),(callFunc f xs).run P w= .ok (.enter f xs) w):
    (execOp ρ o).run P w= .ok (.enter f args.toArray) w:=by
 subst ha
 simp only[execOp,ho]
 simp only[resolve,h1,hx,Deferred.ofValue,Sem.run_bind,Sem.run_pure,Result.andThen_ok,invoke]
 rw[Array.empty_append,Array.append_empty,he]
 have:(c.args.toList.map ρ).toArray=c.args.map ρ:=by apply Array.ext';simp
 rw[this]
theorem nm_{M:Nat→Prop}{β:Nat→Option (Nat×Nat)}{w:World}{ρ:Operand→Value}:∀{xs:List Operand} {as:List AV},(∀x∈xs,∀a,ev x=some a→RV M β w a (ρ x))→evs ev xs=some as→RVs M β w as (xs.map ρ)
 |[],as,_,h=>by simp only[evs,Option.some.injEq] at h;subst h;exact rfl
 |x::xs,as,hev,h=>by
  simp only[evs] at h
  split at h
  ·rename_i a as' h1 h2
   simp only[Option.some.injEq] at h
   subst h
   exact⟨_,_,rfl,hev x (List.mem_cons_self ..) a h1,nm_ (fun y hy=>hev y (List.mem_cons_of_mem _ hy)) h2⟩
  cases h
theorem AEval.callB {s:Option (List UInt8)} {t:List UInt8} {rest:List Operand} (h1:c.callee= .value callee) (h2:ev callee=some (.clos f [] [])) (h3:c.args.toList=x0::rest) (h4:ev x0=some (.lptr i 0 0)) (h5:evs ev rest=some as) (h6:hp i=some ⟨tB,2,[bldC i j s]⟩)
    (h7:∀q,s=some q→hp j=some ⟨tb,1,bE q⟩∧i≠j) (h8:BSpec P f tB tb s t (as.map coe) r):AEval P id ev hp (.call c) ⟨r,updB tB tb i j id s t⟩ (rdB i j s):=by
 refine .sem fun M0 w0 β hp' w ρ o ho mem hev hcst hid0 hid hidh hrd=>?_
 have hopn:∀x,x∈(Op.call c).operands↔x=callee∨x∈x0::rest:=by
  intro x;simp[Op.operands,Call.operands,h1,←Array.mem_toList_iff,h3]
 obtain⟨xs,ys,hx,hr1,hr2⟩:=hev callee ((hopn _).2 (.inl rfl)) _ h2
 have hxs:xs= #[]:=Array.ext' hr1
 have hys:ys= #[]:=Array.ext' hr2
 subst hxs hys
 have hi:hp' i=some ⟨tB,2,[bldC i j s]⟩:=(hrd i (by cases s <;> simp[rdB])).trans h6
 have hj:∀q,s=some q→hp' j=some ⟨tb,1,bE q⟩∧i≠j:=fun q hq=>⟨(hrd j (by rw[hq];simp[rdB])).trans (h7 q hq).1,(h7 q hq).2⟩
 have has:RVs (MM M0 β hp') β w as (rest.map ρ):=nm_ (fun x hx=>hev x ((hopn _).2 (.inr (List.mem_cons_of_mem _ hx)))) h5
 refine .inr ⟨f,(ρ x0::rest.map ρ).toArray,eX_ ho h1 hx (by rw[h3];rfl) h8.enters,?_⟩
 exact h8.calls M0 w0 β hp' w id i j (ρ x0) (rest.map ρ) mem hid0 hid hidh hi hj (hev x0 ((hopn _).2 (.inr (List.mem_cons_self ..))) _ h4) (c0_ h8.cl (eZ_ has))
structure CSpec (P:Program)(f tB:Nat):Prop where
 enters:∀(xs:Array Value) (w:World),(callFunc f xs).run P w= .ok (.enter f xs) w
 used:∀(b:Nat) (w:World),w.cell? ⟨b,0,none⟩=some (.pointer (some ⟨b,0,none⟩))→Calls P f #[.pointer (some ⟨b,0,none⟩)] w fun e w'=>e= .returned (.tuple #[])∧w'=w
 fresh:∀(b:Nat) (w:World) (cs:Array Value),w.heap[b]?=some (.cells cs tB (0,0))→2≤cs.size→cs[0]?=some (.pointer none)→Calls P f #[.pointer (some ⟨b,0,none⟩)] w fun e w'=>e= .returned (.tuple #[])∧w'=w.setCell ⟨b,0,none⟩ (.pointer (some ⟨b,0,none⟩))
theorem AEval.callC{a X:AV}(h1:c.callee= .value callee)(h2:ev callee=some (.clos f [] []))(h3:c.args.toList=[x0])(h4:ev x0=some (.lptr i 0 0))(h5:hp i=some ⟨tB,2,[[a,X]]⟩)(h6:a= .v (.pointer none)∨a= .lptr i 0 0)(h7:CSpec P f tB):
    AEval P id ev hp (.call c) ⟨.tup [],[(i,some ⟨tB,2,[[.lptr i 0 0,X]]⟩)]⟩ [i]:=by
 refine .sem fun M0 w0 β hp' w ρ o ho mem hev hcst hid0 hid hidh hrd=>?_
 have hopn:∀x,x∈(Op.call c).operands↔x=callee∨x∈[x0]:=by
  intro x;simp[Op.operands,Call.operands,h1,←Array.mem_toList_iff,h3]
 obtain⟨xs,ys,hx,hr1,hr2⟩:=hev callee ((hopn _).2 (.inl rfl)) _ h2
 have hxs:xs= #[]:=Array.ext' hr1
 have hys:ys= #[]:=Array.ext' hr2
 subst hxs hys
 have hi:hp' i=some ⟨tB,2,[[a,X]]⟩:=(hrd i (by simp)).trans h5
 obtain⟨b,sz0,hbi,hy0⟩:=hev x0 ((hopn _).2 (.inr (List.mem_cons_self ..))) _ h4
 obtain⟨b',cs,hbi',hh,⟨_,⟨⟨x1,hc1,hx1⟩,⟨x2,hc2,hx2⟩,_⟩,_⟩,hl⟩:=mem.cells hi (by decide:(2:Nat)≠0)
 rw[hbi] at hbi';cases hbi'
 have hl2:2≤cs.size:=by simpa using hl
 have hbi2:β i=some (b,2):=hbi
 have hp0:ρ x0= .pointer (some ⟨b,0,none⟩):=by rw[hy0];simp
 have hun:appB hp' [(i,some ⟨tB,2,[[.lptr i 0 0,X]]⟩)]=upd hp' i (some ⟨tB,2,[[.lptr i 0 0,X]]⟩):=rfl
 have g1:cs[0]?=some x1:=by simpa[World.cell?,hh] using hc1
 have g2:cs[1]?=some x2:=by simpa[World.cell?,hh] using hc2
 have hsz:aN_ w b=some cs.size:=by simp[aN_,hh]
 have e:Calls P f #[.pointer (some ⟨b,0,none⟩)] w fun e w'=>e= .returned (.tuple #[])∧w'=w.setCell ⟨b,0,none⟩ (.pointer (some ⟨b,0,none⟩))∨e= .returned (.tuple #[])∧w'=w∧x1= .pointer (some ⟨b,0,none⟩):=by
  rcases h6 with rfl|rfl
  cases (hx1:x1= .pointer none)
  exact(h7.fresh b w cs hh hl2 g1).mono fun _ _ h=> .inl h
  obtain⟨b2,s2,hb2,hx⟩:=hx1
  rw[hbi2] at hb2;cases hb2
  have hx':x1= .pointer (some ⟨b,0,none⟩):=by rw[hx]
  exact(h7.used b w (by rw[←hx'];exact hc1)).mono fun _ _ h=> .inr ⟨h.1,h.2,hx'⟩
 refine .inr ⟨f, #[.pointer (some ⟨b,0,none⟩)],eX_ ho h1 hx (by rw[h3];simp[hp0]) h7.enters,?_⟩
 refine e.mono ?_
 rintro e w' (⟨rfl,rfl⟩|⟨rfl,rfl,hx1'⟩)
 have hw:=mem.write (w':=w.setCell ⟨b,0,none⟩ (.pointer (some ⟨b,0,none⟩))) (es:=[[.lptr i 0 0,X]]) (cs:=cs.setIfInBounds 0 (.pointer (some ⟨b,0,none⟩))) (by decide:(2:Nat)≠0) hi hbi2 ⟨rfl,rfl,rfl⟩ (by simp[World.setCell]) (heap_setCell_same w b 0 cs tB _ hh) (fun k hk=>heap_setCell_other w _ k _ hk)
  (fun k e he=>by
   cases k with
   |zero=>
    simp only[List.getElem?_cons_zero,Option.some.injEq] at he;subst he
    refine⟨[.pointer (some ⟨b,0,none⟩),x2],⟨_,_,rfl,⟨b,2,hbi2,rfl⟩,_,_,rfl,hx2,rfl⟩,rfl,fun m v hm=>?_⟩
    match m,hm with
    |0,hm=>cases hm;show(cs.setIfInBounds 0 _)[0* 2+0]?=_;rw[Array.getElem?_setIfInBounds,if_pos rfl,if_pos (by omega)]
    |1,hm=>cases hm;simpa[Array.getElem?_setIfInBounds] using g2
   |succ k=>simp at he) (by simpa using hl2) (by rw[Array.size_setIfInBounds];exact hsz)
 exact⟨_,rfl,β,hw.1,⟨#[],rfl,rfl⟩,hw.2,fun _ _=>rfl⟩
 have hw:=mem.write (w':=w') (es:=[[.lptr i 0 0,X]]) (cs:=cs) (by decide:(2:Nat)≠0) hi hbi2 ⟨rfl,rfl,rfl⟩ rfl hh (fun k _=>rfl)
  (fun k e he=>by
   cases k with
   |zero=>
    simp only[List.getElem?_cons_zero,Option.some.injEq] at he;subst he
    refine⟨[.pointer (some ⟨b,0,none⟩),x2],⟨_,_,rfl,⟨b,2,hbi2,rfl⟩,_,_,rfl,hx2,rfl⟩,rfl,fun m v hm=>?_⟩
    match m,hm with
    |0,hm=>cases hm;rw[←hx1'];simpa using g1
    |1,hm=>cases hm;simpa using g2
   |succ k=>simp at he) (by simpa using hl2) hsz
 exact⟨_,rfl,β,hw.1,⟨#[],rfl,rfl⟩,hw.2,fun _ _=>rfl⟩
structure DSpec (P:Program)(f tB tb:Nat):Prop where
 enters:∀(xs:Array Value) (w:World),(callFunc f xs).run P w= .ok (.enter f xs) w
 calls:∀(b bj cap:Nat) (q:List UInt8) (w:World) (cs ck:Array Value),q≠[]→w.heap[b]?=some (.cells cs tB (0,0))→cs[1]?=some (.slice (some ⟨bj,0,none⟩) q.length cap)→q.length≤cap→cap≤maxLen→b≠bj→w.heap[bj]?=some (.cells ck tb (0,0))→cap≤ck.size→
  (∀(k:Nat) (x:UInt8),q[k]?=some x→ck[k]?=some (Value.int .u8 x.toNat))→Calls P f #[.pointer (some ⟨b,0,none⟩)] w fun e w'=>e= .returned (.string ⟨q.toArray⟩)∧But bj w w'
theorem Mem.gone(h:Mem M0 w0 β hp w){j b:Nat}{B:ABlk}{s:Nat}{ids:List Nat}(hb:But b w w')(hj:hp j=some B)(hbj:β j=some (b,s))(hin:j∈ids):
    Mem M0 w0 β (cc_ hp ids) w'∧Stab (MM M0 β hp) (MM M0 β (cc_ hp ids)) β β w w':=by
 have hsub:∀m X,cc_ hp ids m=some X→hp m=some X∧m∉ids:=fun m X hm=>by
  simp only[cc_] at hm
  split at hm
  cases hm
  exact⟨hm,‹_›⟩
 obtain⟨m1,st1⟩:=h.forget fun m X hm=>(hsub m X hm).1
 have hmb:MM M0 β hp b:= .inr ⟨j,B,s,hj,hbj⟩
 have hrng:=h.rng j b s hbj
 have hcell:∃N,aN_ w b=some N:=by
  obtain⟨b',e1,e2⟩:=h.blk j B hj
  rw[hbj] at e1;cases e1
  exact e2.size
 have st:Stab (MM M0 β hp) (MM M0 β (cc_ hp ids)) β β w w':=
  ⟨⟨fun c N hs hm=>hb.block c (bz_ hs) fun e=>hm (e▸hmb),st1.m,fun _ _ h=>h,hb.sizes⟩,
   fun c hlt hn=>hb.block c hlt fun e=>by subst e;obtain⟨N,hN⟩:=hcell;rw[hN] at hn;cases hn⟩
 refine⟨⟨⟨hb.os.trans h.below.os,hb.tape.trans h.below.tape,hb.output.trans h.below.output,Nat.le_trans h.below.size hb.size,fun k hk=>(hb.block k (Nat.lt_of_lt_of_le (w0.lt k hk) h.below.size) fun e=>hrng.1 (e▸hk)).trans (h.below.block k hk),fun c n hs=>hb.sizes c n (h.below.sizes c n hs)⟩,h.m0,fun m c ss hm=>⟨(h.rng m c ss hm).1,Nat.lt_of_lt_of_le (h.rng m c ss hm).2 hb.size⟩,m1.pin,fun m X hm=>?_,m1.inj⟩,st⟩
 obtain⟨h1,h2⟩:=hsub m X hm
 obtain⟨c,e1,e2⟩:=h.blk m X h1
 have hne:c≠b:=fun e=>by
  subst e
  have:=h.inj m j X B c _ _ h1 hj e1 hbj
  subst this;exact h2 hin
 have hsame:=hb.block c (h.rng m c _ e1).2 hne
 exact⟨c,e1,e2.stab st.toStabC hsame⟩
theorem AEval.callD{q:List UInt8}(h1:c.callee= .value callee)(h2:ev callee=some (.clos f [] []))(h3:c.args.toList=[x0])(h4:ev x0=some (.lptr i 0 0))(h5:hp i=some ⟨tB,2,[bldC i j (some q)]⟩)(h6:hp j=some ⟨tb,1,bE q⟩)(hij:i≠j)(hq:q≠[])(h7:DSpec P f tB tb):
    AEval P id ev hp (.call c) ⟨.v (.string ⟨q.toArray⟩),[(i,none),(j,none)]⟩ [i,j]:=by
 refine .sem fun M0 w0 β hp' w ρ o ho mem hev hcst hid0 hid hidh hrd=>?_
 have hopn:∀x,x∈(Op.call c).operands↔x=callee∨x∈[x0]:=by
  intro x;simp[Op.operands,Call.operands,h1,←Array.mem_toList_iff,h3]
 obtain⟨xs,ys,hx,hr1,hr2⟩:=hev callee ((hopn _).2 (.inl rfl)) _ h2
 have hxs:xs= #[]:=Array.ext' hr1
 have hys:ys= #[]:=Array.ext' hr2
 subst hxs hys
 have hi:hp' i=some ⟨tB,2,[bldC i j (some q)]⟩:=(hrd i (by simp)).trans h5
 have hj:hp' j=some ⟨tb,1,bE q⟩:=(hrd j (by simp)).trans h6
 obtain⟨b,sz0,hbi,hy0⟩:=hev x0 ((hopn _).2 (.inr (List.mem_cons_self ..))) _ h4
 obtain⟨b',cs,hbi',hh,⟨_,⟨⟨x1,hc1,hx1⟩,⟨x2,hc2,hx2⟩,_⟩,_⟩,hl⟩:=mem.cells hi (by decide:(2:Nat)≠0)
 rw[hbi] at hbi';cases hbi'
 obtain⟨bj,ck,e1,e2,e3,e4⟩:=mem.cells hj (by decide:(1:Nat)≠0)
 obtain⟨bj',cap,f1,f2,f3,f4,_,N,f5,f6⟩:=hx2
 rw[e1] at f1;cases f1
 have hp0:ρ x0= .pointer (some ⟨b,0,none⟩):=by rw[hy0];simp
 have g2:cs[1]?=some x2:=by simpa[World.cell?,hh] using hc2
 have hne:b≠bj:=fun e=>by subst e;exact hij (mem.inj i j _ _ b _ _ hi hj hbi e1)
 have hN:N=ck.size:=by simp[aN_,e2] at f5;exact f5.symm
 refine .inr ⟨f, #[.pointer (some ⟨b,0,none⟩)],eX_ ho h1 hx (by rw[h3];simp[hp0]) h7.enters,?_⟩
 refine(h7.calls b bj cap q w cs ck hq hh (by rw[g2,f2]) f3 f4 hne e2 (by rw[←hN];simpa using f6) fun k x hk=>?_).mono ?_
 have:=(e3.get (i:=k) (e:=[.v (.int .u8 x.toNat)]) (by simp[bE,hk])).1
 obtain⟨⟨y,hy1,hy2⟩,_⟩:=this
 cases (hy2:y=_)
 simpa[World.cell?,e2] using hy1
 rintro e w' ⟨rfl,hbut⟩
 have hg:=mem.gone (ids:=[i,j]) hbut hj e1 (by simp)
 refine⟨_,rfl,β,?_⟩
 unfold After
 rw[show([(i,none),(j,none)]:List (Nat×Option ABlk))=[i,j].map fun i=>(i,none) from rfl,jn_]
 exact⟨hg.1,rfl,hg.2,fun _ _=>rfl⟩
def bldV:Option (List UInt8)→List AV
 |none=>[.v (.pointer none),.emp]
 |some q=>[.any,.arr (bE q)]
theorem AEval.callR{s:Option (List UInt8)}{r:Value}(h1:c.callee= .value callee)(h2:ev callee=some (.clos f [] []))(h3:c.args.toList=[x0])(h4:ev x0=some (.lptr i 0 0))(h5:hp i=some ⟨tB,2,[bldC i j s]⟩)(h6:∀q,s=some q→hp j=some ⟨tb,1,bE q⟩)(h7:FSpec P f [.aptr [bldV s] 0 0] (.v r)):
    AEval P id ev hp (.call c) ⟨.v r,[]⟩ (rdB i j s):=by
 refine .sem fun M0 w0 β hp' w ρ o ho mem hev hcst hid0 hid hidh hrd=>?_
 have hopn:∀x,x∈(Op.call c).operands↔x=callee∨x∈[x0]:=by
  intro x;simp[Op.operands,Call.operands,h1,←Array.mem_toList_iff,h3]
 obtain⟨xs,ys,hx,hr1,hr2⟩:=hev callee ((hopn _).2 (.inl rfl)) _ h2
 have hxs:xs= #[]:=Array.ext' hr1
 have hys:ys= #[]:=Array.ext' hr2
 subst hxs hys
 have hi:hp' i=some ⟨tB,2,[bldC i j s]⟩:=(hrd i (by cases s <;> simp[rdB])).trans h5
 have hj:∀q,s=some q→hp' j=some ⟨tb,1,bE q⟩:=fun q hq=>(hrd j (by rw[hq];simp[rdB])).trans (h6 q hq)
 obtain⟨b,sz0,hbi,hy0⟩:=hev x0 ((hopn _).2 (.inr (List.mem_cons_self ..))) _ h4
 obtain⟨b',cs,hbi',hh,hr,hl⟩:=mem.cells hi (by decide:(2:Nat)≠0)
 rw[hbi] at hbi';cases hbi'
 have hbi2:β i=some (b,2):=hbi
 have hp0:ρ x0= .pointer (some ⟨b,0,none⟩):=by rw[hy0];simp
 let hp2:=cc_ hp' [i,j]
 have hsub:∀m X,hp2 m=some X→hp' m=some X∧m≠i∧m≠j:=fun m X hm=>by
  simp only[hp2,cc_] at hm
  split at hm
  cases hm
  ·rename_i hn;simp at hn;exact⟨hm,hn.1,hn.2⟩
 have hM:∀x,MM M0 β hp2 x→MM M0 β hp' x:=by
  rintro x (hx|⟨m,X,s',g1,g2⟩)
  exact .inl hx
  exact .inr ⟨m,X,s',(hsub m X g1).1,g2⟩
 have hnb:∀m X x s',hp' m=some X→β m=some (x,s')→(m=i∨m=j)→¬MM M0 β hp2 x:=by
  rintro m X x s' g1 g2 gm (hx|⟨m',X',s'',g3,g4⟩)
  exact(mem.rng m x s' g2).1 (mem.m0 x hx).1
  obtain⟨g5,g6,g7⟩:=hsub m' X' g3
  have:=mem.inj m m' X X' x s' s'' g1 g5 g2 g4
  subst this
  rcases gm with rfl|rfl
  exact g6 rfl
  exact g7 rfl
 have harg:RVs (MM M0 β hp2) (fun _=>none) w [.aptr [bldV s] 0 0] [.pointer (some ⟨b,0,none⟩)]:=by
  refine⟨_,_,rfl,⟨by simp,b,0,2,by simp,⟨cs.size,by simp[aN_,hh]⟩,hnb i _ b 2 hi hbi2 (.inl rfl),?_⟩,rfl⟩
  obtain⟨_,hc,_⟩:=hr
  cases hs:s with
  |none=>
   rw[hs] at hc
   obtain⟨⟨x,h1,h2⟩,⟨y,h3,h4⟩,_⟩:=hc
   exact⟨rfl,⟨⟨x,h1,h2⟩,⟨y,h3,h4⟩,trivial⟩,trivial⟩
  |some q=>
   rw[hs] at hc
   obtain⟨⟨x,h1,_⟩,⟨y,h3,⟨bj,cap,g1,g2,g3,g4,_,N,g5,g6⟩⟩,_⟩:=hc
   obtain⟨bj',ck,e1,e2,e3,e4⟩:=mem.cells (hj q hs) (by decide:(1:Nat)≠0)
   rw[g1] at e1;cases e1
   refine⟨rfl,⟨⟨x,h1,trivial⟩,⟨y,h3,⟨some ⟨bj,0,none⟩,cap,by rw[g2,bO_],by rw[bO_];exact g3,g4,.inr ⟨bj,0,1,rfl,⟨N,g5⟩,hnb j _ bj 1 (hj q hs) g1 (.inr rfl),hQ_ e3⟩⟩⟩,trivial⟩,trivial⟩
 refine .inr ⟨f, #[.pointer (some ⟨b,0,none⟩)],eX_ ho h1 hx (by rw[h3];simp[hp0]) h7.enters,?_⟩
 refine(h7.calls (MM M0 β hp2) w _ (mem.fit.sub hM) harg).mono ?_
 rintro e w' ⟨y,rfl,hy,hb⟩
 have hm:=mem.ext hb
 exact⟨y,rfl,β,hm.1,hy,hm.2,fun _ _=>rfl⟩
end
end
section
variable {P:Program}{M0:Nat→Prop}{w0:Base}{β:Nat→Option (Nat×Nat)}{hp:Nat→Option ABlk}{w w':World}
theorem Mem.allocM(h:Mem M0 w0 β hp w){i ty:Nat}(hi0:i≠0)(hi:β i=none)(hpi:hp i=none):
    Mem M0 w0 (upd β i (some (w.heap.size,0))) (upd hp i (some ⟨ty,0,[]⟩)) (w.alloc (.map #[] 0))∧
    Stab (MM M0 β hp) (MM M0 (upd β i (some (w.heap.size,0))) (upd hp i (some ⟨ty,0,[]⟩))) β (upd β i (some (w.heap.size,0))) w (w.alloc (.map #[] 0)):=by
 have hbe:∀j x,β j=some x→upd β i (some (w.heap.size,0)) j=some x:=fun j x hj=>by
  rw[aW_];exact hj
  intro e;subst e;rw[hi] at hj;cases hj
 have st:Stab (MM M0 β hp) (MM M0 (upd β i (some (w.heap.size,0))) (upd hp i (some ⟨ty,0,[]⟩))) β (upd β i (some (w.heap.size,0))) w (w.alloc (.map #[] 0)):=by
  refine⟨⟨fun b N hs _=>Below.heap_alloc _ _ _ (bz_ hs),fun b N hs hm=>?_,hbe,fun b n h=>(b5_ (Below.heap_alloc _ _ _ (bz_ h))).trans h⟩,fun b hb _=>Below.heap_alloc _ _ _ hb⟩
  have hb:=bz_ hs
  rcases hm with hm|⟨j,B,s',h1,h2⟩
  exact .inl hm
  by_cases hj:j=i
  subst hj;rw[aP_] at h2;cases h2;omega
  rw[aW_ _ _ hj] at h1 h2;exact .inr ⟨j,B,s',h1,h2⟩
 refine⟨⟨⟨h.below.os,h.below.tape,h.below.output,by simp;have:=h.below.size;omega,fun b hk=>(Below.heap_alloc _ _ _ (Nat.lt_of_lt_of_le (w0.lt b hk) h.below.size)).trans (h.below.block b hk),fun b n hs=>st.sz b n (h.below.sizes b n hs)⟩,h.m0,fun j b s' hj=>?_,fun h0=>(aW_ _ _ (Ne.symm hi0)).trans (h.pin (by rw[aW_ _ _ (Ne.symm hi0)] at h0;exact h0)),fun j B hj=>?_,fun j k B B' b s1 s2 h1 h2 h3 h4=>?_⟩,st⟩
 by_cases hji:j=i
 subst hji;rw[aP_] at hj;cases hj;exact⟨fun hk=>absurd (w0.lt _ hk) (by have:=h.below.size;omega),by simp⟩
 rw[aW_ _ _ hji] at hj;have:=h.rng j b s' hj;exact⟨this.1,by simp;omega⟩
 by_cases hji:j=i
 subst hji
 rw[aP_] at hj
 cases hj
 exact⟨w.heap.size,aP_ _ _ _,.inr ⟨rfl, #[],0,heap_alloc_new' _ _,rfl⟩⟩
 rw[aW_ _ _ hji] at hj
 obtain⟨b,h1,h2⟩:=h.blk j B hj
 exact⟨b,hbe _ _ h1,h2.stab st.toStabC (Below.heap_alloc _ _ _ (h.rng j b _ h1).2)⟩
 by_cases hji:j=i <;> by_cases hki:k=i
 rw[hji,hki]
 subst hji;rw[aP_] at h3;cases h3;rw[aW_ _ _ hki] at h4;have:=(h.rng k _ _ h4).2;omega
 subst hki;rw[aP_] at h4;cases h4;rw[aW_ _ _ hji] at h3;have:=(h.rng j _ _ h3).2;omega
 rw[aW_ _ _ hji] at h1 h3;rw[aW_ _ _ hki] at h2 h4;exact h.inj j k B B' b s1 s2 h1 h2 h3 h4
theorem Mem.put (h:Mem M0 w0 β hp w) {i b:Nat} {B B':ABlk} (hi:hp i=some B) (hb:β i=some (b,B.sz)) (hBs:B'.sz=B.sz)
    (hsame:w'.os=w.os∧w'.tape=w.tape∧w'.output=w.output) (hsize:w'.heap.size=w.heap.size) (hold:∀k,k≠b→w'.heap[k]?=w.heap[k]?) {N:Nat} (hN:aN_ w b=some N) (hN':aN_ w' b=some N)
    (hB:StabC (MM M0 β hp) (MM M0 β hp) β β w w'→BlkAt (MM M0 β hp) β w' b B'):
    Mem M0 w0 β (upd hp i (some B')) w'∧Stab (MM M0 β hp) (MM M0 β (upd hp i (some B'))) β β w w':=by
 have hmb:MM M0 β hp b:= .inr ⟨i,B,_,hi,hb⟩
 have hrng:=h.rng i b _ hb
 have hmm:∀c,MM M0 β (upd hp i (some B')) c→MM M0 β hp c:=by
  rintro c (hc|⟨j,X,s,h1,h2⟩)
  exact .inl hc
  by_cases hji:j=i
  subst hji;exact .inr ⟨j,B,s,hi,h2⟩
  rw[aW_ _ _ hji] at h1;exact .inr ⟨j,X,s,h1,h2⟩
 have hsz:∀c n,aN_ w c=some n→aN_ w' c=some n:=fun c n hc=>by
  by_cases hcb:c=b
  subst hcb;rw[hN] at hc;cases hc;exact hN'
  exact(b5_ (hold c hcb)).trans hc
 have st0:StabC (MM M0 β hp) (MM M0 β hp) β β w w':=⟨fun c _ _ hm=>hold c (fun e=>hm (e▸hmb)),fun _ _ _ h=>h,fun _ _ h=>h,hsz⟩
 have st:Stab (MM M0 β hp) (MM M0 β (upd hp i (some B'))) β β w w':=
  ⟨⟨fun c _ _ hm=>hold c (fun e=>hm (e▸hmb)),fun c _ _ hm=>hmm c hm,fun _ _ h=>h,hsz⟩,fun c _ hn=>hold c (fun e=>by subst e;rw[hN] at hn;cases hn)⟩
 refine⟨⟨⟨hsame.1.trans h.below.os,hsame.2.1.trans h.below.tape,hsame.2.2.trans h.below.output,by have:=h.below.size;omega,fun k hk=>(hold k (fun e=>hrng.1 (e▸hk))).trans (h.below.block k hk),fun c n hs=>hsz c n (h.below.sizes c n hs)⟩,h.m0,fun j c s hj=>by have:=h.rng j c s hj;exact⟨this.1,by omega⟩,fun h0=>h.pin (by by_cases h00:0=i;(subst h00;rw[hi];rfl);rw[aW_ _ _ h00] at h0;exact h0),fun j X hj=>?_,fun j k B1 B2 c s s' h1 h2 h3 h4=>?_⟩,st⟩
 by_cases hji:j=i
 subst hji
 rw[aP_] at hj
 cases hj
 exact⟨b,by rw[hBs];exact hb,(hB st0).stab ⟨fun _ _ _ _=>rfl,fun c _ _ hm=>hmm c hm,fun _ _ h=>h,fun _ _ h=>h⟩ rfl⟩
 rw[aW_ _ _ hji] at hj
 obtain⟨c,h1,h2⟩:=h.blk j X hj
 have hcb:c≠b:=fun e=>by subst e;exact hji (h.inj j i X B c _ _ hj hi h1 hb)
 exact⟨c,h1,h2.stab st.toStabC (hold c hcb)⟩
 have e:∀j X,upd hp i (some B') j=some X→∃B,hp j=some B:=fun j X hj=>by
  by_cases hji:j=i
  subst hji;exact⟨_,hi⟩
  rw[aW_ _ _ hji] at hj;exact⟨_,hj⟩
 obtain⟨_,e1⟩:=e j _ h1
 obtain⟨_,e2⟩:=e k _ h2
 exact h.inj j k _ _ c s s' e1 e2 h3 h4
theorem RVkv.snoc{M:Nat→Prop}:∀{es:List (List AV)} {ens:List MapEntry} {x:List AV} {e:MapEntry},RVkv M β w es ens→RVs M β w x [e.key,e.val]→RVkv M β w (es++[x]) (ens++[e])
 |[],ens,x,e,h,hx=>by cases (h:ens=[]);exact⟨e,[],rfl,hx,rfl⟩
 |y::es,ens,x,e,⟨e',es',he,h1,h2⟩,hx=>by subst he;exact⟨e',es'++[e],rfl,h1,RVkv.snoc h2 hx⟩
def oe_(kd:IntKind)(k:Int):List (List AV)→Bool
 |[]=>true
 |[.v (.int kd' k'),_]::l=>decide (kd=kd') && !decide (k=k') && oe_ kd k l
 |_=>false
theorem iA_{M:Nat→Prop}{kd kd0:IntKind}{k:Int}:∀{es:List (List AV)} {ens:List MapEntry} (i:Nat),oe_ kd k es=true→RVkv M β w es ens→Instr.findNow (.int kd0) (.int kd k) ens i=some none
 |[],ens,i,_,h=>by cases (h:ens=[]);rfl
 |[.v (.int kd' k'),a]::es,ens,i,hn,⟨e,es',he,⟨x,xs,e1,hx,_⟩,h2⟩=>by
  subst he
  simp only[oe_,Bool.and_eq_true,decide_eq_true_eq,Bool.not_eq_true',decide_eq_false_iff_not] at hn
  obtain⟨⟨rfl,h1⟩,h3⟩:=hn
  cases e1
  have hk:e.key= .int kd k':=hx
  have hs:Instr.sameNow (.int kd0) (.int kd k) e.key=some false:=by rw[hk];simp[Instr.sameNow,h1]
  simp only[Instr.findNow,hs]
  exact iA_ (i+1) h3 h2
section
variable {id:Nat}{ev:Operand→Option AV}{T kt e:Nat}{kd:IntKind}
theorem AEval.makeMap:AEval P id ev hp (.makeMap T none) ⟨.lmp id,[(id,some ⟨T,0,[]⟩)]⟩ []:=by
 refine .sem fun M0 w0 β hp' w ρ o ho mem hev hcst hid0 hid hidh hrd=>?_
 have hal:=mem.allocM (i:=id) (ty:=T) hid0 hid hidh
 refine .inl ⟨.map (some w.heap.size),_,_,.inl ?_,hal.1,⟨w.heap.size,aP_ _ _ _,rfl⟩,hal.2,fun j hj=>aW_ _ _ hj⟩
 simp[execOp,ho,Instr.makeMap]
theorem AEval.insert{m k x:Operand}{i ty:Nat}{es:List (List AV)}{kk:Int}{a:AV}(h1:ev m=some (.lmp i))(h2:hp i=some ⟨ty,0,es⟩)(h3:ev k=some (.v (.int kd kk)))(h4:ev x=some a)(hT:P.underlying T=some (.map kt e))(hK:P.underlying kt=some (.int kd))(hn:oe_ kd kk es=true):
    AEval P id ev hp (.insert T m k x) ⟨.v undef,[(i,some ⟨ty,0,es++[[.v (.int kd kk),a]]⟩)]⟩ [i]:=by
 refine .sem fun M0 w0 β hp' w ρ o ho mem hev hcst hid0 hid hidh hrd=>?_
 obtain⟨r,hb,hm⟩:=hev m (by simp[Op.operands]) _ h1
 have hk:ρ k= .int kd kk:=hev k (by simp[Op.operands]) _ h3
 have hx:=hev x (by simp[Op.operands]) _ h4
 have hi:hp' i=some ⟨ty,0,es⟩:=(hrd i (by simp)).trans h2
 obtain⟨b,hb',hh⟩:=mem.blk i _ hi
 rw[hb] at hb'
 obtain⟨rfl,_⟩:r=b∧(0:Nat)=0:=by simpa using hb'
 rcases hh with⟨hz,_⟩|⟨_,ens,ck,g1,g2⟩
 exact absurd rfl hz
 obtain⟨w',hw'⟩:∃w',w'={w with heap:=w.heap.setIfInBounds r (.map (ens.push {key:= .int kd kk,val:=ρ x,born:=ck}) (ck+1))}:=⟨_,rfl⟩
 have hlt:r< w.heap.size:=(Array.getElem?_eq_some_iff.1 g1).1
 have hnew:w'.heap[r]?=some (.map (ens.push {key:= .int kd kk,val:=ρ x,born:=ck}) (ck+1)):=by rw[hw'];simp[hlt]
 have hput:=mem.put (w':=w') (i:=i) (b:=r) (B':=⟨ty,0,es++[[.v (.int kd kk),a]]⟩) hi hb rfl ⟨by rw[hw'],by rw[hw'],by rw[hw']⟩ (by rw[hw'];simp) (fun k hk=>by rw[hw'];simp[Ne.symm hk]) (N:=0) (by simp[aN_,g1]) (by simp[aN_,hnew]) fun st=>
  .inr ⟨rfl,_,_,hnew,by
   rw[Array.toList_push]
   exact(st.kv g2).snoc ⟨_,_,rfl,rfl,_,_,rfl,st.all hx,rfl⟩⟩
 refine .inl ⟨undef,w',β,.inr ⟨?_,rfl⟩,hput.1,rfl,hput.2,fun _ _=>rfl⟩
 have hfind:=iA_ (kd0:=kd) 0 hn g2
 have hrun:(Instr.mapUpdate T (.map (some r)) (.int kd kk) (ρ x)).run P w= .ok () w':=by
  rw[hw']
  simp[Instr.mapUpdate,run_underlying hT,MapKept.run_getObj_map g1,MapKept.run_checkKey (k:= .int kd kk) hK (by simp[MapKept.IsKey]),MapKept.run_findKey hK hfind,MapKept.run_setObj_map _ g1,Result.andThen]
 simp[execOp,ho,hm,hk,hrun]
def keyAt(kd:IntKind)(k:Int):List Value→Option Nat
 |[]=>none
 | .int kd' k'::l=>if kd=kd' then(if k=k' then some 0 else(keyAt kd k l).map (· +1)) else none
 |_=>none
def noKey(k:Int):List Value→Bool
 |[]=>true
 | .int _ k'::l=>!decide (k=k') && noKey k l
 |_=>false
theorem jQ_{k:Int}:∀{l:List Value},noKey k l=true→Value.int kd k∉l
 |[],_=>by simp
 |c::l,h=>by
  cases c <;> simp only[noKey,Bool.false_eq_true,Bool.and_eq_true,Bool.not_eq_true',decide_eq_false_iff_not] at h
  intro hm
  rcases List.mem_cons.1 hm with e|e
  cases e;exact h.1 rfl
  exact jQ_ h.2 e
def hX_(kd:IntKind):List Value→Bool
 |[]=>true
 | .int kd' k'::l=>decide (kd=kd') && noKey k' l && hX_ kd l
 |_=>false
theorem lO_{M:Nat→Prop}{k:Int}:∀{ks:List Value} {vs:List AV} {l:List MapEntry} (n:Nat) (a:AV),l.map (·.key)=ks→RVs M β w vs (l.map (·.val))→keyAt kd k ks=some n→vs[n]?=some a→∃e,e∈l∧e.key= .int kd k∧RV M β w a e.val
 |[],_,_,_,_,_,_,h,_=>by cases h
 |c::ks,vs,[],n,a,h1,_,_,_=>by cases h1
 |c::ks,[],e::l,n,a,h1,h2,_,_=>by cases (h2:_=[])
 |c::ks,u::vs,e::l,n,a,h1,⟨x,xs,e1,g1,g2⟩,h3,h4=>by
  simp only[List.map_cons,List.cons.injEq] at h1 e1
  obtain⟨hc,h1⟩:=h1
  obtain⟨rfl,rfl⟩:=e1
  cases c <;> simp only[keyAt,reduceCtorEq] at h3
  rename_i kd' k'
  split at h3
  ·rename_i hkd
   subst hkd
   split at h3
   ·rename_i hkk
    subst hkk
    cases h3
    cases h4
    exact⟨e,List.mem_cons_self ..,hc,g1⟩
   obtain⟨n',hn',rfl⟩:=Option.map_eq_some_iff.1 h3
   obtain⟨e',f1,f2,f3⟩:=lO_ n' a h1 g2 hn' (by simpa using h4)
   exact⟨e',List.mem_cons_of_mem _ f1,f2,f3⟩
  cases h3
theorem gv_:∀{ks:List Value},hX_ kd ks=true→ks.Nodup∧∀k∈ks,∃n,k= .int kd n
 |[],_=>⟨List.nodup_nil,fun _ h=>by cases h⟩
 |c::ks,h=>by
  cases c <;> simp only[hX_,Bool.false_eq_true,Bool.and_eq_true,decide_eq_true_eq] at h
  rename_i kd' k'
  obtain⟨⟨rfl,h1⟩,h2⟩:=h
  obtain⟨i1,i2⟩:=gv_ h2
  refine⟨List.nodup_cons.2 ⟨jQ_ h1,i1⟩,fun k hk=>?_⟩
  rcases List.mem_cons.1 hk with rfl|hk
  exact⟨_,rfl⟩
  exact i2 k hk
theorem oD_{kd0:IntKind}{k:Int}{e:MapEntry}:∀{l:List MapEntry} (i:Nat),e∈l→e.key= .int kd k→(l.map (·.key)).Nodup→(∀x∈l.map (·.key),∃n,x= .int kd n)→∃j,Instr.findNow (.int kd0) (.int kd k) l i=some (some (j,e.val))
 |[],_,h,_,_,_=>by cases h
 |x::l,i,h,hk,hnd,hall=>by
  rw[List.map_cons,List.nodup_cons] at hnd
  obtain⟨n,hn⟩:=hall x.key (List.mem_cons_self ..)
  by_cases hkn:k=n
  subst hkn
  have he:e=x:=by
   rcases List.mem_cons.1 h with h|h
   exact h
   exact absurd (List.mem_map_of_mem (f:=(·.key)) h) (by rw[hk,←hn];exact hnd.1)
  subst he
  exact⟨i,by simp[Instr.findNow,Instr.sameNow,hn]⟩
  have hne:e≠x:=fun he=>by subst he;rw[hk] at hn;cases hn;exact hkn rfl
  have hs:Instr.sameNow (.int kd0) (.int kd k) x.key=some false:=by rw[hn];simp[Instr.sameNow,hkn]
  obtain⟨j,hj⟩:=oD_ (kd0:=kd0) (i+1) ((List.mem_cons.1 h).resolve_left hne) hk hnd.2 (fun y hy=>hall y (List.mem_cons_of_mem _ hy))
  exact⟨j,by simp only[Instr.findNow,hs];exact hj⟩
theorem AEval.lookup{x ix:Operand}{ks:List Value}{vs:List AV}{kk:Int}{n:Nat}{a:AV}(h1:ev x=some (.mp ks vs))(h3:ev ix=some (.v (.int kd kk)))(hT:P.underlying T=some (.map kt e))(hK:P.underlying kt=some (.int kd))(hn:keyAt kd kk ks=some n)(ha:vs[n]?=some a)(hg:hX_ kd ks=true):
    AEval P id ev hp (.lookup T x ix false) ⟨a,[]⟩ []:=by
 refine .sem fun M0 w0 β hp' w ρ o ho mem hev hcst hid0 hid hidh hrd=>?_
 obtain⟨r,ens,ck,hm,g1,_,l,gp,g2,g3⟩:=hev x (by simp[Op.operands]) _ h1
 have hk:ρ ix= .int kd kk:=hev ix (by simp[Op.operands]) _ h3
 obtain⟨en,f0,f1,f2⟩:=lO_ n a g2 g3 hn ha
 obtain⟨k1,k2⟩:=gv_ hg
 have hp:=gp.map (fun e:MapEntry=>e.key)
 rw[g2] at hp
 obtain⟨j,hj⟩:=oD_ (kd0:=kd) 0 (gp.mem_iff.1 f0) f1 (hp.nodup_iff.1 k1) (fun y hy=>k2 y (hp.mem_iff.2 hy))
 refine .pure (y:=en.val) mem ?_ f2
 have hrun:(Instr.lookup T (.map (some r)) (.int kd kk) false).run P w= .ok en.val w:=by
  simp[Instr.lookup,run_underlying hT,MapKept.run_getObj_map g1,MapKept.run_checkKey (k:= .int kd kk) hK (by simp[MapKept.IsKey]),MapKept.run_findKey hK hj,Result.andThen]
 simp only[execOp,ho,hm,hk]
 exact run_v _ hrun
end
end
theorem CvL.two{r:Ren}{hp hp':Nat→Option ABlk}{x x' y y':AV}(h:Cv r hp hp' x x')(h':Cv r hp hp' y y'):CvL r hp hp' [x,y] [x',y']:=af_ h (af_ h' ao_)
section
variable {P:Program}{ops:Array Oper}{nx n j:Nat}{rest:List Oper}{fr:Fr}{hp:Hp}{K:Fps→Fr→Hp→Prop}
variable {d:Nat}{op:Op}{ty:Nat}{pos:String}{after:Array Edge}{a:AV}{p q s:Nat×Option ABlk}{rd:List Nat}
theorem AR.op3 (hs:AEval P (nx+j) (evF (look fr)) (lookB hp) op ⟨a,[p,q,s]⟩ rd) (hnd:bj_ op=true) (hd:Nat.blt d n=true)
    (h:AR P ops nx n (j+1) rest ((d,a)::fr) (s::q::p::hp) fun fps f h=>K (([p.1,q.1,s.1],rd)::fps) f h):AR P ops nx n j (⟨some d,op,ty,pos,after,none⟩::rest) fr hp K:=
 AR.cons ⟨a8_ hnd,hs⟩ hd h
end
abbrev tx(t:List UInt8):AV:= .v (.string ⟨t.toArray⟩)
def byteV(t:List UInt8):List Value:=t.map fun b=> .int .u8 b.toNat
section
variable {P:Program}{w:World}
theorem first_text(t:List UInt8)(w:World):(Builtin.firstCells 1 t.length (.string ⟨t.toArray⟩)).run P w= .ok (byteV t).toArray w:=by
 have hs:(⟨t.toArray⟩:ByteArray).size=t.length:=by simp[ByteArray.size]
 have he:(⟨t.toArray⟩:ByteArray).extract 0 t.length=⟨t.toArray⟩:=by rw[←hs];exact ByteArray.extract_zero_size
 simp only[Builtin.firstCells,he]
 simp[byteV]
theorem eO_ {T T' E bs sz:Nat} {zs:List Value} (h1:elOf P T=some (E,sz)) (h2:P.underlying T'=some .string) (h3:dL_ P E=some zs) (h4:byOf P E=some bs)
    {base:Option Addr} {n c m:Nat} {s:ByteArray} {old new:Array Value} (hm:s.size=m) (hgrow:c< n+m) (hroom:(n+m) * bs≤140737488355328) (h63:n+m≤maxLen- 1) (ty:TypeId)
    (hold:∀w',w'.heap=w.heap→(Builtin.firstCells sz n (.slice base n c)).run P w'= .ok old w') (hnew:∀w',w'.heap=w.heap→(Builtin.firstCells sz m (.string s)).run P w'= .ok new w'):
    ∃nc z,n+m≤nc∧nc< 2^ 63∧z.toList=zs∧(Builtin.append_ #[T,T'] ty #[.slice base n c,.string s]).run P w=
     .ok (.slice (some ⟨w.heap.size,0,none⟩) (n+m) nc) (w.drew.alloc (.cells (old++new++Builtin.zeroCells z (nc- (n+m))) E)):=by
 obtain⟨hu,hz⟩:=ca_ h1
 obtain⟨inf,z,i1,i2,i3,i4,i5⟩:=m6_ hz h3 h4
 have h63':n+m< 2^ 63:=by unfold maxLen at h63;omega
 obtain⟨hc1,hc2⟩:=r9_ (need:=n+m) (old:=c) (e:=E) (w.tape w.drawn (.appendCap (n+m) c E)) h63'
 refine⟨(Question.appendCap (n+m) c E).cut (w.tape w.drawn (.appendCap (n+m) c E)),z.cells,hc1,hc2,i3,?_⟩
 have hfit:=growslice_fits hgrow hroom
 have hmax:¬((n:Int)+(m:Int)> IntKind.i64.max):=by
  have:IntKind.i64.max=9223372036854775807:=by decide
  rw[this];omega
 have g1:¬(n+m≤c):=by omega
 have hw:∀w:World,({w with drawn:=w.drawn+1}:World)=w.drew:=fun _=>rfl
 have f1:=hold w.drew rfl
 have f2:=hnew w.drew rfl
 have hforced:(Question.appendCap (n+m) c E).forced=false:=rfl
 have hcond:¬(((n+m:Nat):Int)> IntKind.i64.max∧(False∨inf.bytes=0)):=fun h=>hmax (by have:=h.1;simpa using this)
 have hfit':¬(Builtin.nextslicecap (n+m) c* inf.bytes> 2^ 48):=by rw[i5];omega
 unfold Builtin.append_
 simp only[List.getElem?_toArray,List.getElem?_cons_zero,List.getElem?_cons_succ,Sem.run_bind,run_underlying hu w,run_underlying h2 w,Result.andThen_ok,run_sizeOf' hz,Sem.run_pure,
  Bool.false_eq_true,if_false,Builtin.lenOf,hm,g1,typeInfo,run_program,i1,hcond,hfit',run_choose,hforced,hw,run_askRoom,Bool.not_false,if_true,f1,f2,zeroValue,i2,newRow,run_newObj]
 rfl
theorem hN_ {T T' E sz:Nat} (h1:elOf P T=some (E,sz)) (h2:P.underlying T'=some .string)
    {b off n c m:Nat} {s:ByteArray} {new:Array Value} (hm:s.size=m) (hroom:n+m≤c) (ty:TypeId) (hnew:(Builtin.firstCells sz m (.string s)).run P w= .ok new w) {w':World}
    (hst:(storeCells ⟨b,off+n* sz,none⟩ new.toList).run P w= .ok () w'):
    (Builtin.append_ #[T,T'] ty #[.slice (some ⟨b,off,none⟩) n c,.string s]).run P w= .ok (.slice (some ⟨b,off,none⟩) (n+m) c) w':=by
 obtain⟨hu,hz⟩:=ca_ h1
 unfold Builtin.append_
 simp only[List.getElem?_toArray,List.getElem?_cons_zero,List.getElem?_cons_succ,Sem.run_bind,run_underlying hu w,run_underlying h2 w,Result.andThen_ok,run_sizeOf' hz,Sem.run_pure,
  Bool.false_eq_true,if_false,Builtin.lenOf,hm,hroom,Bool.not_false,if_true,hnew,fr_,hst]
end
theorem mg_{M:Nat→Prop}{β:Nat→Option (Nat×Nat)}{w:World}(t:List UInt8):Flat M β w 1 (bE t) (byteV t):=by
 refine⟨by simp[byteV,bE],fun i e he=>?_⟩
 simp only[bE,List.getElem?_map,Option.map_eq_some_iff] at he
 obtain⟨x,hx,rfl⟩:=he
 refine⟨[.int .u8 x.toNat],⟨_,_,rfl,rfl,rfl⟩,rfl,fun j v hj=>?_⟩
 cases j with
 |zero=>simp only[List.getElem?_cons_zero,Option.some.injEq] at hj;subst hj;simp[byteV,hx]
 |succ j=>simp at hj
section
variable {P:Program}{id:Nat}{ev:Operand→Option AV}{hp:Nat→Option ABlk}{c:Call}{x y:Operand}{T T' E:Nat}{t q:List UInt8}{zs:List Value}
theorem AEval.appS_e (h1:c.callee= .builtin .append) (h2:c.args= #[x,y]) (h3:c.argTypes= #[T,T']) (h4:elOf P T=some (E,1)) (h5:P.underlying T'=some .string) (h6:ev x=some .emp) (h7:ev y=some (tx t)) (h9:t≠[])
    (h10:dL_ P E=some zs) (h11:zs.length=1) (h12:byOf P E=some 1) (h13:t.length≤140737488355328):
    AEval P id ev hp (.call c) ⟨.lsl id 0 t.length none 1,[(id,some ⟨E,1,bE t⟩)]⟩ []:=by
 refine .sem fun M0 w0 β hp' w ρ o ho mem hev hcst hid0 hid hidh hrd=>?_
 have hopn:∀z,z∈(Op.call c).operands↔z∈[x,y]:=by
  intro z;simp[Op.operands,Call.operands,h1,h2]
 obtain⟨b,hx⟩:=hev x ((hopn _).2 (by simp)) _ h6
 have hy:ρ y= .string ⟨t.toArray⟩:=hev y ((hopn _).2 (by simp)) _ h7
 have hpos:0< t.length:=by cases t with|nil=>exact absurd rfl h9|cons e es=>simp
 have hold:∀w':World,w'.heap=w.heap→(Builtin.firstCells 1 0 (.slice b 0 0)).run P w'= .ok #[] w':=by
  intro w' _
  cases b with
  |none=>rfl
  |some ad=>simp[Builtin.firstCells,loadCells,loadCellsFrom]
 have hflat:Flat (MM M0 β hp') β w 1 (bE t) (byteV t):=mg_ t
 obtain⟨nc,z,g1,g2,g3,hr⟩:=eO_ (w:=w) (n:=0) (m:=t.length) (c:=0) (s:=⟨t.toArray⟩) (base:=b) h4 h5 h10 h12 (by simp[ByteArray.size]) (by omega) (by omega) (by unfold maxLen;omega) o.type hold (fun w' _=>first_text t w')
 have hzs:z.size=1:=by rw[←Array.length_toList,g3];exact h11
 have hdr:=mem.ext ((Below.refl w.heap.size w).drew)
 have hal:=hdr.1.alloc (i:=id) (ty:=E) (s:=1) (es:=bE t) (cs:= #[]++(byteV t).toArray++Builtin.zeroCells z (nc- (0+t.length))) Nat.one_ne_zero hid0 hid hidh (fun k e he=>by
  obtain⟨ys,r1,r2,r3⟩:=hflat.2 k e he
  refine⟨ys,hdr.2.vs r1,r2,fun j v hj=>?_⟩
  have:=r3 j v hj
  have hlt:=(List.getElem?_eq_some_iff.1 this).1
  rw[Array.getElem?_append_left (by simpa using hlt)]
  simpa using this) (by simp[hflat.1])
 refine .inl ⟨.slice (some ⟨w.heap.size,0,none⟩) t.length nc,_,_,.inl ?_,hal.1,⟨w.heap.size,nc,aP_ _ _ _,by simp,by omega,by unfold maxLen;omega,(fun k hk=>by cases hk),nc* 1,?_,by simp⟩,⟨⟨fun bb N hN hm=>(hal.2.heap bb N hN hm),hal.2.m,hal.2.be,hal.2.sz⟩,hal.2.oth⟩,fun j hj=>aW_ _ _ hj⟩
 simp only[execOp,ho,resolve,h1,h2,Sem.run_bind,Sem.run_pure,Result.andThen_ok,invoke,builtin,List.map_toArray,List.map_cons,List.map_nil,hx,hy,h3,hr,Nat.zero_add]
 unfold aN_
 have:(w.drew.alloc (.cells (#[]++(byteV t).toArray++Builtin.zeroCells z (nc- (0+t.length))) E)).heap[w.heap.size]?=_:=heap_alloc_new' w.drew _
 rw[this]
 simp only[Array.size_append,List.size_toArray,List.length_nil,dn_,hzs,Option.some.injEq]
 have:(byteV t).length=t.length:=by simp[byteV]
 omega
theorem AEval.appS_l {i n:Nat} {cap:Option Nat} (h1:c.callee= .builtin .append) (h2:c.args= #[x,y]) (h3:c.argTypes= #[T,T']) (h4:elOf P T=some (E,1)) (h5:P.underlying T'=some .string) (h6:ev x=some (.lsl i 0 n cap 1)) (h7:hp i=some ⟨E,1,bE q⟩) (hn:n=q.length) (h13:ev y=some (tx t))
    (h15:dL_ P E=some zs) (h16:zs.length=1) (h17:byOf P E=some 1) (h18:q.length+t.length≤140737488355328):
    AEval P id ev hp (.call c) ⟨.lsl id 0 (q++t).length none 1,[(i,none),(id,some ⟨E,1,bE (q++t)⟩)]⟩ [i]:=by
 subst hn
 refine .sem fun M0 w0 β hp' w ρ o ho mem hev hcst hid0 hid hidh hrd=>?_
 have hopn:∀z,z∈(Op.call c).operands↔z∈[x,y]:=by
  intro z;simp[Op.operands,Call.operands,h1,h2]
 have hi:hp' i=some ⟨E,1,bE q⟩:=(hrd i (by simp)).trans h7
 have hxv:=hev x ((hopn _).2 (by simp)) _ h6
 have hy:ρ y= .string ⟨t.toArray⟩:=hev y ((hopn _).2 (by simp)) _ h13
 have hsrcx:SrcOf hp' 1 (.lsl i 0 q.length cap 1) (bE q) [i]:=by
  have:=SrcOf.lsl (s:=1) (hp:=hp') (i:=i) (e:=0) (n:=q.length) (cap:=cap) (B:=⟨E,1,bE q⟩) (oX_ hi Nat.one_ne_zero) (by simp[bE])
  simpa[bO_,List.take_of_length_le] using this
 obtain⟨xs0,cc,hflat0,⟨a0,hx⟩,_,hrun0⟩:=hsrcx.run (P:=P) mem hxv
 obtain⟨b,c2,hb,hx2,hnc,hcm,hcap,N,hN,hcN⟩:=hxv
 rw[hx,bO_] at hx2
 simp only[Value.slice.injEq,true_and] at hx2
 obtain⟨rfl,rfl⟩:=hx2
 have hflat:Flat (MM M0 β hp') β w 1 (bE t) (byteV t):=mg_ t
 have hne:i≠id:=fun e=>by subst e;rw[hidh] at hi;cases hi
 simp only[Nat.zero_mul] at hx hcN
 rw[Nat.zero_add] at hcN
 rw[bO_] at hx
 have hone:∀v∈byteV t,v.oneCell'=true:=by
  intro v hv;obtain⟨u,_,rfl⟩:=List.mem_map.1 hv;rfl
 by_cases hroom:q.length+t.length≤cc
 have hle:(q.length+t.length) * 1≤N:=by omega
 obtain⟨w',r1,r2,r3,r4⟩:=mem.storeEls (P:=P) (i:=i) (B:=⟨E,1,bE q⟩) (e:=q.length) (fs:=bE t) (es':=bE (q++t)) Nat.one_ne_zero hi hb hflat hone hN (by rw[bO_];exact hle) (fun p el hp=>by
  rw[mH_] at hp
  rw[bO_]
  by_cases hql:p< q.length
  rw[List.getElem?_append_left (by rw[bO_];exact hql)] at hp;exact .inr ⟨.inl hql,hp⟩
  rw[List.getElem?_append_right (by rw[bO_];omega),bO_] at hp
  have:=(List.getElem?_eq_some_iff.1 hp).1
  rw[bO_] at this
  exact .inl ⟨by omega,by omega,hp⟩) (by rw[bO_,List.length_append];exact hle)
 have hrn:=r2.rename (i:=i) (id:=id) (B:=⟨E,1,bE (q++t)⟩) (aP_ _ _ _) hb hid0 hid (by rw[aW_ _ _ (fun e=>hne e.symm)];exact hidh)
 rw[hA_] at hrn
 refine .inl ⟨.slice (some ⟨b,0,none⟩) (q.length+t.length) cc,w',_,.inl ?_,hrn.1,⟨b,cc,aP_ _ _ _,by simp,by simpa using hroom,hcm,(fun k hk=>by cases hk),N,r3.sz b N hN,by rw[Nat.zero_add];exact hcN⟩,r3.trans hrn.2 (by omega),fun j hj=>aW_ _ _ hj⟩
 have hr:=hN_ (P:=P) (w:=w) (w':=w') (b:=b) (off:=0) (n:=q.length) (m:=t.length) (c:=cc) (s:=⟨t.toArray⟩) (new:=(byteV t).toArray) h4 h5 (by simp[ByteArray.size]) hroom o.type (first_text t w) (by simpa using r1)
 simp only[execOp,ho,resolve,h1,h2,Sem.run_bind,Sem.run_pure,Result.andThen_ok,invoke,builtin,List.map_toArray,List.map_cons,List.map_nil,hx,hy,h3,hr]
 have hold:=hrun0 (bE q).length (Nat.le_refl _)
 have hl0:(bE q).length* 1=xs0.length:=hflat0.1.symm
 rw[hx,hl0,List.take_length,bO_] at hold
 obtain⟨nc,z,g1,g2,g3,hr⟩:=eO_ (w:=w) (n:=q.length) (m:=t.length) (c:=cc) (s:=⟨t.toArray⟩) (base:=some ⟨b,0,none⟩) h4 h5 h15 h17 (by simp[ByteArray.size]) (by omega) (by omega) (by unfold maxLen;omega) o.type hold (fun w' _=>first_text t w')
 have hzs:z.size=1:=by rw[←Array.length_toList,g3];exact h16
 have hdr:=mem.ext ((Below.refl w.heap.size w).drew)
 have hboth:=(hflat.append hflat0).stab hdr.2.toStabC
 rw[←mH_] at hboth
 have hbl:(byteV t).length=t.length:=by simp[byteV]
 rw[bO_] at hl0
 have hal:=hdr.1.alloc (i:=id) (ty:=E) (s:=1) (es:=bE (q++t)) (cs:=xs0.toArray++(byteV t).toArray++Builtin.zeroCells z (nc- (q.length+t.length))) Nat.one_ne_zero hid0 hid hidh (fun k e he=>by
  obtain⟨ys,q1,q2,q3⟩:=hboth.2 k e he
  refine⟨ys,q1,q2,fun j v hj=>?_⟩
  have h4:=q3 j v hj
  have hlt:=(List.getElem?_eq_some_iff.1 h4).1
  rw[Array.getElem?_append_left (by simpa using hlt)]
  simpa using h4) (by rw[bO_];simp;omega)
 have hfg:=hal.1.forget (hp':=upd (upd hp' i none) id (some ⟨E,1,bE (q++t)⟩)) (fun j B' hj=>by
  by_cases hji:j=id
  subst hji;rw[aP_] at hj⊢;exact hj
  rw[aW_ _ _ hji] at hj⊢
  by_cases hj2:j=i
  subst hj2;rw[aP_] at hj;cases hj
  rw[aW_ _ _ hj2] at hj;exact hj)
 refine .inl ⟨.slice (some ⟨w.heap.size,0,none⟩) (q.length+t.length) nc,_,_,.inl ?_,hfg.1,⟨w.heap.size,nc,aP_ _ _ _,by simp,by simp;omega,by unfold maxLen;omega,(fun k hk=>by cases hk),nc* 1,?_,by simp⟩,(hdr.2.trans hal.2 (Nat.le_refl _)).trans hfg.2 (by simp),fun j hj=>aW_ _ _ hj⟩
 simp only[execOp,ho,resolve,h1,h2,Sem.run_bind,Sem.run_pure,Result.andThen_ok,invoke,builtin,List.map_toArray,List.map_cons,List.map_nil,hx,hy,h3,hr]
 unfold aN_
 have:(w.drew.alloc (.cells (xs0.toArray++(byteV t).toArray++Builtin.zeroCells z (nc- (q.length+t.length))) E)).heap[w.heap.size]?=_:=heap_alloc_new' w.drew _
 rw[this]
 simp only[Array.size_append,List.size_toArray,dn_,hzs,Option.some.injEq]
 omega
end
section
variable {P:Program}{M0:Nat→Prop}{w0:Base}{w:World}{ops:Array Oper}{id n:Nat}{fr:Nat→Option AV}{hp:Nat→Option ABlk}{o:Oper}{u:Upd}{rd:List Nat}{a:Act}{ρ:Option Nat}{Q:Exit→Act→World→Prop}{β:Nat→Option (Nat×Nat)}
end
section
variable {P:Program}{ops:Array Oper}{us:List (Upd×List Nat)}{anc:Nat→Nat→Bool}{nx n:Nat}{fr0:Nat→Option AV}{hp0:Nat→Option ABlk}{ρ:Option Nat}{Q:Exit→Act→World→Prop}{rid:Nat}
variable {X:List Nat→(Nat→Prop)→Base→(Nat→Option (Nat×Nat))→Act→World→Prop}{gh:Nat→Value}
end
structure MapTab where
 T:Nat
 kd:IntKind
 mi:Nat
 tm:Nat
 tab:List (Nat×Int×Nat×Nat)
 cp:List (Nat×Nat)
def isMapOp(o:Oper):Bool:=match o.op with| .makeMap .. =>true| .insert .. =>true|_=>false
def clsB(ops:Array Oper)(m:MapTab)(j:Nat)(o:Oper):Bool:=
 cond (Nat.beq j m.mi) (match o.op,o.dst,o.guard with| .makeMap T none,some d,none=>Nat.beq T m.T && Nat.beq d m.tm|_,_,_=>false)
 (match m.tab.find? fun q=>Nat.beq q.1 j with
 |some q=>(match o.op,o.dst,o.guard with| .insert T (.tmp t) (.const (.int kd k)) (.tmp s),none,none=>Nat.beq T m.T && Nat.beq t m.tm && decide (kd=m.kd) && decide (k=q.2.1) && Nat.beq s q.2.2.1 && ancOf ops m.mi j && ancOf ops q.2.2.2 j|_,_,_=>false)
 |none=>match m.cp.find? fun c=>Nat.beq c.1 j with
  |some c=>(match o.op,o.dst,o.guard with| .move (.tmp s),some d,none=>Nat.beq d c.2 && ancOf ops m.mi j && (Nat.beq s m.tm||m.cp.any fun e=>Nat.beq e.2 s && ancOf ops e.1 j)| .assign (.tmp s),some d,none=>Nat.beq d c.2 && ancOf ops m.mi j && (Nat.beq s m.tm||m.cp.any fun e=>Nat.beq e.2 s && ancOf ops e.1 j)|_,_,_=>false)
  |none=>!isMapOp o && (match o.dst with|none=>true|some d=>!Nat.beq d m.tm && (m.cp.all fun c=>!Nat.beq c.2 d) && m.tab.all fun q=>!Nat.beq q.2.2.1 d||Nat.beq q.2.2.2 j))
def chkB(ops:Array Oper)(m:MapTab):Bool:=
 (ops.toList.zipIdx.all fun p=>clsB ops m p.2 p.1) && (m.tab.all fun q=>!Nat.beq q.2.2.1 m.tm && m.cp.all fun c=>!Nat.beq c.2 q.2.2.1) && (m.cp.all fun c=>!Nat.beq c.2 m.tm) && decide ((m.cp.map (·.2)).Nodup) && decide ((m.tab.map (·.2.1)).Nodup) && decide ((m.tab.map (·.1)).Nodup)
def insT(m:MapTab)(j:Nat):Option (Int×Nat):=(m.tab.find? fun q=>Nat.beq q.1 j).map fun q=>(q.2.1,q.2.2.1)
structure XM (m:MapTab)(M00:Nat→Prop)(w00:Base)(σ:List Nat)(M0:Nat→Prop)(w0:Base)(a:Act)(w:World):Prop where
 kept:w00.Kept w
 m00:∀b,M00 b→w00.K b∧b≠GT
 pin:w0.pin=w00.pin
 dep:∀q∈m.tab,q.1∈σ→m.mi∈σ∧q.2.2.2∈σ
 dep2:∀c∈m.cp,c.1∈σ→m.mi∈σ
 no:m.mi∉σ→(∀b,M0 b↔M00 b)∧(∀b,w0.K b↔w00.K b)
 yes:m.mi∈σ→∃r ens ck,a.tmps.getD m.tm undef= .map (some r)∧w.heap[r]?=some (.map ens ck)∧w00.w.heap.size≤r∧(∀b,M0 b↔M00 b∨b=r)∧(∀b,w0.K b↔w00.K b∨b=r)∧
  (ens.toList.map fun e=>(e.key,e.val))=(σ.filterMap (insT m)).map (fun q=>(Value.int m.kd q.1,a.tmps.getD q.2 undef))∧∀c∈m.cp,c.1∈σ→a.tmps.getD c.2 undef= .map (some r)
theorem kq_{a:Act}{d t:Nat}{y:Value}(h:t≠d):(a.put (some d) y).tmps.getD t undef=a.tmps.getD t undef:=by
 simp only[Act.put,Array.getD_eq_getD_getElem?,Array.getElem?_setIfInBounds]
 rw[if_neg (Ne.symm h)]
theorem n1_{a:Act}{d:Nat}{y:Value}(h:d< a.tmps.size):(a.put (some d) y).tmps.getD d undef=y:=by
 simp[Act.put,Array.getD_eq_getD_getElem?,Array.getElem?_setIfInBounds,h]
theorem nbeqF{a b:Nat}(h:(!Nat.beq a b)=true):a≠b:=nbeq h
theorem nbeqT{a b:Nat}(h:Nat.beq a b=true):a=b:=Nat.eq_of_beq_eq_true h
section
variable {P:Program}{ops:Array Oper}{m:MapTab}{j:Nat}{o:Oper}
theorem chk_tab(h:chkB ops m=true){q:Nat×Int×Nat×Nat}(hq:q∈m.tab):q.2.2.1≠m.tm∧∀c∈m.cp,c.2≠q.2.2.1:=by
 unfold chkB at h
 simp only[Bool.and_eq_true,List.all_eq_true] at h
 have:=h.1.1.1.1.2 q hq
 exact⟨nbeqF this.1,fun c hc=>nbeqF (this.2 c hc)⟩
theorem chk_cp(h:chkB ops m=true){c:Nat×Nat}(hc:c∈m.cp):c.2≠m.tm:=by
 unfold chkB at h
 simp only[Bool.and_eq_true,List.all_eq_true] at h
 exact nbeqF (h.1.1.1.2 c hc)
theorem iz_{α γ:Type}{f:α→γ}:∀{l:List α},(l.map f).Nodup→∀{x y:α},x∈l→y∈l→f x=f y→x=y
 |[],_,_,_,hx,_,_=>by cases hx
 |a::l,h,x,y,hx,hy,e=>by
  rw[List.map_cons,List.nodup_cons] at h
  rcases List.mem_cons.1 hx with h1|h1 <;> rcases List.mem_cons.1 hy with h2|h2
  rw[h1,h2]
  rw[h1] at e;exact absurd (e▸List.mem_map_of_mem (f:=f) h2) h.1
  rw[h2] at e;exact absurd (e▸List.mem_map_of_mem (f:=f) h1) h.1
  exact iz_ h.2 h1 h2 e
theorem chk_nd(h:chkB ops m=true):(m.cp.map (·.2)).Nodup∧(m.tab.map (·.2.1)).Nodup∧(m.tab.map (·.1)).Nodup:=by
 unfold chkB at h
 simp only[Bool.and_eq_true,decide_eq_true_eq] at h
 exact⟨h.1.1.2,h.1.2,h.2⟩
theorem rb_{j:Nat}{q:Int×Nat}(h:insT m j=some q):∃x∈m.tab,x.1=j∧q=(x.2.1,x.2.2.1):=by
 obtain⟨x,h1,rfl⟩:=Option.map_eq_some_iff.1 h
 exact⟨x,List.mem_of_find?_eq_some h1,nbeqT (by simpa using List.find?_some h1),rfl⟩
theorem lP_{j:Nat}(h:∀x∈m.tab,x.1≠j):insT m j=none:=by
 unfold insT
 rw[List.find?_eq_none.2 fun x hx hb=>h x hx (nbeqT (by simpa using hb))];rfl
end
section
variable {P:Program}{ops:Array Oper}{m:MapTab}{j n nx:Nat}{o:Oper}{M00 M0:Nat→Prop}{w00 w0:Base}{σ:List Nat}{β β':Nat→Option (Nat×Nat)}{hp hp':Nat→Option ABlk}{a:Act}{w w':World}{u:Upd}{y:Value}
theorem gf_{i:Nat}(h:i∈σ++[j])(hne:i≠j):i∈σ:=by
 rcases List.mem_append.1 h with h|h
 exact h
 exact absurd (List.mem_singleton.1 h) hne
theorem XM.make(hc:chkB ops m=true)(ho:ops[m.mi]?=some o)(hop:o.op= .makeMap m.T none)(hdst:o.dst=some m.tm)(hn:m.tm< a.tmps.size)(hj:m.mi∉σ)(hti:∀q∈m.tab,q.1≠m.mi)(htc:∀c∈m.cp,c.1≠m.mi)(hX:XM m M00 w00 σ M0 w0 a w)(mem:Mem M0 w0 β hp w):
    ∃y w' M0' w0',((execOp a.eval o).run P w= .ok (.value y) w')∧Mem M0' w0' β hp w'∧w0'.gh=w0.gh∧RV (MM M0' β hp) β w' .any y∧StabC (MM M0 β hp) (MM M0' β hp) β β w w'∧(∀ds,DefOK ds w0 w→DefOK ds w0' w')∧
     XM m M00 w00 (σ++[m.mi]) M0' w0' (a.put o.dst y) w':=by
 obtain⟨n1,n2⟩:=hX.no hj
 obtain⟨w',hw'⟩:∃w',w'=w.alloc (.map #[] 0):=⟨_,rfl⟩
 have hold:∀b,b< w.heap.size→w'.heap[b]?=w.heap[b]?:=fun b hb=>by rw[hw'];exact Below.heap_alloc _ _ _ hb
 have hnew:w'.heap[w.heap.size]?=some (.map #[] 0):=by rw[hw'];exact heap_alloc_new' _ _
 have hsz:w'.heap.size=w.heap.size+1:=by rw[hw'];simp
 have hK:∀b,w0.K b→b< w.heap.size:=fun b hb=>Nat.lt_of_lt_of_le (w0.lt b hb) mem.below.size
 let M0':Nat→Prop:=fun b=>M0 b∨b=w.heap.size
 let w0':Base:=⟨w',fun b=>w0.K b∨b=w.heap.size,fun b hb=>by rcases hb with hb|rfl;have:=hK b hb;omega;omega,w0.pin,w0.gh,.inl w0.kt,mem.tab.congr (hold GT mem.tab.lt)⟩
 have st:StabC (MM M0 β hp) (MM M0' β hp) β β w w':=by
  refine⟨fun b N hb _=>hold b (bz_ hb),fun b N hb hm=>?_,fun _ _ h=>h,fun b N hb=>(b5_ (hold b (bz_ hb))).trans hb⟩
  rcases hm with(hm|rfl)|hm
  exact .inl hm
  have:=bz_ hb;omega
  exact .inr hm
 refine⟨.map (some w.heap.size),w',M0',w0',?_,⟨⟨rfl,rfl,rfl,Nat.le_refl _,fun _ _=>rfl,fun _ _ h=>h⟩,fun b hb=>⟨hb.imp (fun h=>(mem.m0 b h).1) id,fun e=>by
  rcases hb with hb|hb
  exact(mem.m0 b hb).2 e
  have:=mem.tab.lt;omega⟩,fun i b s hi=>⟨fun hk=>?_,?_⟩,mem.pin,fun i B hi=>?_,mem.inj⟩,rfl,trivial,st,fun ds hds=>?_,?_⟩
 rw[hw'];simp[execOp,hop,Instr.makeMap]
 rcases hk with hk|rfl
 exact(mem.rng i b s hi).1 hk
 have:=(mem.rng i _ s hi).2;omega
 have:=(mem.rng i b s hi).2;omega
 obtain⟨b,e1,e2⟩:=mem.blk i B hi
 exact⟨b,e1,e2.stab st (hold b (mem.rng i b _ e1).2)⟩
 obtain⟨Ds,d1,d2,d3⟩:=hds
 refine⟨Ds,d1,d2,fun D hD=>?_⟩
 obtain⟨e1,e2⟩:=d3 D hD
 have hlt:=(Array.getElem?_eq_some_iff.1 e1).1
 refine⟨by rw[hold D hlt];exact e1,fun hk=>?_⟩
 rcases hk with hk|rfl
 exact e2 hk
 omega
 have hni:∀q∈m.tab,q.1∉σ++[m.mi]:=fun q hq hi=>hj (hX.dep q hq (gf_ hi (hti q hq))).1
 refine⟨⟨by rw[hw'];exact hX.kept.os,by rw[hw'];exact hX.kept.tape,by rw[hw'];exact hX.kept.output,by have:=hX.kept.size;omega,fun b hb=>(hold b (hK b ((n2 b).2 hb))).trans (hX.kept.block b hb),fun b k hb=>st.sz b k (hX.kept.sizes b k hb)⟩,hX.m00,hX.pin,fun q hq hi=>absurd hi (hni q hq),fun c hcp hi=>List.mem_append_left _ (hX.dep2 c hcp (gf_ hi (htc c hcp))),fun hn=>absurd (by simp) hn,fun _=>?_⟩
 refine⟨w.heap.size, #[],0,?_,hnew,hX.kept.size,fun b=>or_congr (n1 b) Iff.rfl,fun b=>or_congr (n2 b) Iff.rfl,?_,fun c hcp hi=>absurd (hX.dep2 c hcp (gf_ hi (htc c hcp))) hj⟩
 rw[hdst];exact n1_ hn
 have:(σ++[m.mi]).filterMap (insT m)=[]:=by
  rw[List.filterMap_eq_nil_iff]
  intro i hi
  exact lP_ fun x hx e=>hni x hx (e▸hi)
 rw[this];rfl
theorem XM.copy (hc:chkB ops m=true) {d s:Nat} (hcp:(j,d)∈m.cp) (hop:o.op= .move (.tmp s)∨o.op= .assign (.tmp s)) (hdst:o.dst=some d) (hn:d< a.tmps.size) (hj:j∉σ) (hmi:m.mi∈σ) (hs:s=m.tm∨∃c∈m.cp,c.2=s∧c.1∈σ) (hmq:j≠m.mi) (hti:∀q∈m.tab,q.1≠j) (hcd:(m.cp.map (·.1)).Nodup)
    (hX:XM m M00 w00 σ M0 w0 a w):∃y,((execOp a.eval o).run P w= .ok (.value y) w)∧XM m M00 w00 (σ++[j]) M0 w0 (a.put o.dst y) w:=by
 obtain⟨r,ens,ck,k1,k2,k3,k4,k5,k6,k7⟩:=hX.yes hmi
 have hval:a.eval (.tmp s)= .map (some r):=by
  rcases hs with rfl|⟨c,h1,rfl,h3⟩
  exact k1
  exact k7 c h1 h3
 refine⟨.map (some r),?_,hX.kept,hX.m00,hX.pin,fun q hq hi=>?_,fun c hcc hi=>List.mem_append_left _ hmi,fun hn=>absurd (List.mem_append_left _ hmi) hn,fun _=>?_⟩
 rcases hop with hop|hop <;> simp[execOp,hop,hval]
 obtain⟨x1,x2⟩:=hX.dep q hq (gf_ hi (hti q hq))
 exact⟨List.mem_append_left _ x1,List.mem_append_left _ x2⟩
 refine⟨r,ens,ck,?_,k2,k3,k4,k5,?_,fun c hcc hi=>?_⟩
 rw[hdst,kq_ (Ne.symm (chk_cp hc hcp))];exact k1
 rw[List.filterMap_append,show [j].filterMap (insT m)=[] by simp[lP_ hti],List.append_nil,k6]
 refine List.map_congr_left fun q hq=>?_
 obtain⟨i,hi,hq'⟩:=List.mem_filterMap.1 hq
 obtain⟨x,hx1,hx2,rfl⟩:=rb_ hq'
 rw[hdst,kq_ (Ne.symm ((chk_tab hc hx1).2 (j,d) hcp))]
 by_cases hcj:c=(j,d)
 subst hcj;rw[hdst];exact n1_ hn
 have h1:c.1≠j:=fun e=>hcj (iz_ hcd hcc hcp e)
 have h2:c.2≠d:=fun e=>hcj (iz_ (chk_nd hc).1 hcc hcp e)
 rw[hdst,kq_ h2];exact k7 c hcc (gf_ hi h1)
end
def RunX(P:Program)(ops:Array Oper)(sp:Nat→Bool)(nx:Nat):Nat→List Oper→AState→List (Upd×List Nat)→AState→Prop
 |_,[],st,us,st'=>us=[]∧st'=st
 |j,o::rest,st,us,st'=> ∃u rd us',us=(u,rd)::us'∧(sp j=true→u=⟨.any,[]⟩∧rd=[])∧(sp j=false→AStep P ops (nx+j) (look st.fr) (lookB st.hp) o u rd)∧(∀d,o.dst=some d→d< st.n)∧RunX P ops sp nx (j+1) rest (st.step o.dst u) us' st'
def AX(P:Program)(ops:Array Oper)(sp:Nat→Bool)(nx n j:Nat)(rest:List Oper)(fr:Fr)(hp:Hp)(K:Fps→Fr→Hp→Prop):Prop:=
 ∃us st',RunX P ops sp nx j rest ⟨fr,hp,nx,n⟩ us st'∧K (us.map fp) st'.fr st'.hp
section
variable {P:Program}{ops:Array Oper}{spf:Nat→Bool}{nx n j:Nat}{rest:List Oper}{fr:Fr}{hp:Hp}{K:Fps→Fr→Hp→Prop}
variable {d:Nat}{op:Op}{ty:Nat}{pos:String}{after:Array Edge}{a:AV}{p q:Nat×Option ABlk}{rd:List Nat}
theorem AX.nil(h:K [] fr hp):AX P ops spf nx n j [] fr hp K:=⟨[],_,⟨rfl,rfl⟩,h⟩
theorem AX.cons {dst:Option Nat} {guard:Option (Nat×Bool)} {u:Upd} {rd:List Nat}
    (hs1:spf j=true→u=⟨.any,[]⟩∧rd=[]) (hs2:spf j=false→AStep P ops (nx+j) (look fr) (lookB hp) ⟨dst,op,ty,pos,after,guard⟩ u rd) (hd:(match dst with|some d=>Nat.blt d n|none=>true)=true)
    (h:AX P ops spf nx n (j+1) rest (putL fr dst u.val) (u.blk.reverse++hp) fun fps f h=>K ((u.blk.map (·.1),rd)::fps) f h):AX P ops spf nx n j (⟨dst,op,ty,pos,after,guard⟩::rest) fr hp K:=by
 obtain⟨us,st',h1,h2⟩:=h
 refine⟨(u,rd)::us,st',⟨u,rd,us,rfl,hs1,hs2,fun d hd'=>?_,h1⟩,h2⟩
 simp only at hd'
 subst hd'
 exact Nat.le_of_ble_eq_true hd
theorem AX.op0 (hs:AEval P (nx+j) (evF (look fr)) (lookB hp) op ⟨a,[]⟩ rd) (hnd:bj_ op=true) (hd:Nat.blt d n=true)
    (h:AX P ops spf nx n (j+1) rest ((d,a)::fr) hp fun fps f h=>K (([],rd)::fps) f h) (hsp:spf j=false:=by rfl):AX P ops spf nx n j (⟨some d,op,ty,pos,after,none⟩::rest) fr hp K:=
 AX.cons (fun e=>by rw[hsp] at e;cases e) (fun _=>⟨a8_ hnd,hs⟩) hd h
theorem AX.op1 (hs:AEval P (nx+j) (evF (look fr)) (lookB hp) op ⟨a,[p]⟩ rd) (hnd:bj_ op=true) (hd:Nat.blt d n=true)
    (h:AX P ops spf nx n (j+1) rest ((d,a)::fr) (p::hp) fun fps f h=>K (([p.1],rd)::fps) f h) (hsp:spf j=false:=by rfl):AX P ops spf nx n j (⟨some d,op,ty,pos,after,none⟩::rest) fr hp K:=
 AX.cons (fun e=>by rw[hsp] at e;cases e) (fun _=>⟨a8_ hnd,hs⟩) hd h
theorem AX.sp(hd:Nat.blt d n=true)(hsp:spf j=true)(h:AX P ops spf nx n (j+1) rest ((d,.any)::fr) hp fun fps f h=>K (([],[])::fps) f h):AX P ops spf nx n j (⟨some d,op,ty,pos,after,none⟩::rest) fr hp K:=
 AX.cons (u:=⟨.any,[]⟩) (rd:=[]) (fun _=>⟨rfl,rfl⟩) (fun e=>by rw[hsp] at e;cases e) hd h
end
def CvS(fr:Fr)(hp:Hp):List (Nat×Int×Nat×Nat)→List AV→Prop
 |[],vs=>vs=[]
 |q::l,vs=> ∃x v vs',vs=v::vs'∧look fr q.2.2.1=some x∧Cv (Ren.id 0) (lookB hp) (fun _=>none) x v∧CvS fr hp l vs'
theorem CvS.nil{fr:Fr}{hp:Hp}:CvS fr hp [] []:=rfl
theorem CvS.cons{fr:Fr}{hp:Hp}{q:Nat×Int×Nat×Nat}{l:List (Nat×Int×Nat×Nat)}{x v:AV}{vs:List AV}(h1:look fr q.2.2.1=some x)(h2:Cv (Ren.id 0) (lookB hp) (fun _=>none) x v)(h3:CvS fr hp l vs):CvS fr hp (q::l) (v::vs):=⟨x,v,vs,rfl,h1,h2,h3⟩
section
variable {P:Program}{ops:Array Oper}{m:MapTab}{j:Nat}{o:Oper}
end
def idAt2(fr:Fr)(t:Nat):Nat:=cond (Nat.blt t 100000) (idAt fr t) (t- 100000)
def rnm2(fr:Fr)(l:List (Nat×Nat))(n:Nat):Ren:=⟨n,fun i=>match look l i with|some t=>idAt2 fr t|none=>i⟩
theorem SEnt.to2 {fr fr':Fr} {hp hp':Hp} {nx nx' n:Nat} (l:List (Nat×Nat)) (hk:Nat.blt 0 nx'=true) (h0:(rnm2 fr l nx').s 0=0) (hinj:injL (rnm2 fr l nx') (hp'.map (·.1))=true) (hS:ShrL (rnm2 fr l nx') (lookB hp) hp')
    (hF:Shr (rnm2 fr l nx') (lookB hp) (lookB hp')→CvF (rnm2 fr l nx') (lookB hp) (lookB hp') fr fr')
    (hH:Shr (rnm2 fr l nx') (lookB hp) (lookB hp')→CvH (rnm2 fr l nx') (lookB hp) (lookB hp') hp'):SEnt ⟨fr,hp,nx,n⟩ ⟨fr',hp',nx',n⟩:=
 SEnt.intro (st:=⟨fr,hp,nx,n⟩) (st':=⟨fr',hp',nx',n⟩) (rnm2 fr l nx') rfl (Nat.le_of_ble_eq_true hk) h0 hinj rfl (hF hS.shr) (hH hS.shr)
theorem SEntT.to2 {fr fr':Fr} {hp hp':Hp} {nx nx' n:Nat} (l:List (Nat×Nat)) (hk:Nat.blt 0 nx'=true) (h0:(rnm2 fr l nx').s 0=0) (hinj:injL (rnm2 fr l nx') (hp'.map (·.1))=true) (hS:ShrL (rnm2 fr l nx') (lookB hp) hp')
    (hF:Shr (rnm2 fr l nx') (lookB hp) (lookB hp')→CvF (rnm2 fr l nx') (lookB hp) (lookB hp') fr fr')
    (hH:Shr (rnm2 fr l nx') (lookB hp) (lookB hp')→CvH (rnm2 fr l nx') (lookB hp) (lookB hp') hp'):SEntT ⟨fr,hp,nx,n⟩ ⟨fr',hp',nx',n⟩:=
 SEntT.intro (st:=⟨fr,hp,nx,n⟩) (st':=⟨fr',hp',nx',n⟩) (rnm2 fr l nx') rfl (Nat.le_of_ble_eq_true hk) h0 hinj rfl (hF hS.shr) (hH hS.shr)
section
variable {r:Ren}{hp hp':Nat→Option ABlk}{i i' j j':Nat}{s:List UInt8}
theorem CvLL.bld(hi:Nat.blt i' r.n=true)(hs:r.s i'=i)(hl:(hp' i').isSome=true)(hj:Nat.blt j' r.n=true)(hs2:r.s j'=j)(hl2:(hp' j').isSome=true):CvLL r hp hp' [bldC i j (some s)] [bldC i' j' (some s)]:=
 ae_ (af_ (Cv.ptr hi hs hl) (af_ (Cv.sl hj hs2 hl2) ao_))
theorem CvLL.bld0(h:Shr r hp hp'):CvLL r hp hp' [bldC i j none] [bldC i' j' none]:=
 ae_ (af_ (ak_ h (ad_ _)) (af_ (ak_ h bt_) ao_))
end
end Go.Abs
namespace Go.Abs
theorem au_c{p:Prop}(h:p:=by first|exact ak_ hs (ad_ _)|exact Cv.ptr rfl rfl rfl|exact Cv.sl rfl rfl rfl|exact Cv.slN rfl rfl rfl|exact ak_ hs bt_|(refine ak_ hs ?_;first|assumption|exact by_ _|exact aQ_ _|exact ad_ _|exact bt_|exact at_ _|exact bi_ _|exact gK_ _|exact a5_ _|exact az_ _|exact er_ _|exact b4_ _ _|exact aT_ ab_ ab_|exact bw_ _|exact cs_ _|exact fo_ _|exact fm_ _|exact hu_ _ _|exact fK_ _ _|exact mz_|exact bb_ _|exact a1_ _|(refine aT_ ab_ ?_;first|assumption|exact aa_ (bw_ _) ab_|exact aa_ (cs_ _) ab_|exact aa_ (fK_ _ _) ab_))|(refine Cv.boxp hs rfl (aM_ rfl) rfl ?_;first|exact aO_ _|exact ht_ _ _|exact ci_ _|exact bg_ _|(refine aa_ ?_ ab_;first|assumption|exact by_ _|exact aQ_ _|exact ad_ _|exact bt_|exact at_ _|exact bi_ _|exact gK_ _|exact a5_ _|exact az_ _|exact er_ _|exact b4_ _ _|exact aT_ ab_ ab_|exact bw_ _|exact cs_ _|exact fo_ _|exact fm_ _|exact hu_ _ _|exact fK_ _ _|exact mz_|exact bb_ _|exact a1_ _|(refine aT_ ab_ ?_;first|assumption|exact aa_ (bw_ _) ab_|exact aa_ (cs_ _) ab_|exact aa_ (fK_ _ _) ab_)))|(refine Cv.loE hs ?_ (ad_ _);first|rfl|(simp[i64,u64,u32,bln];done)|(simp[i64,u64,u32,bln]<;> omega))|(refine Cv.slE rfl rfl rfl ?_ ?_ ?_ <;> first|rfl|omega|(congr 1;omega)|(simp;done)|(simp <;> omega))|exact Cv.emp _):p:=h
theorem au_e{p:Prop}(h:p:=by(first|(first|exact CvLL.bld rfl rfl rfl rfl rfl rfl|exact CvLL.bld0 hs|exact aH_ hs (mA_ _)|exact aH_ hs (a3_ _)|(refine aD_ hs ?_ (a3_ _);first|(simp[ed_,fk_,du_];done)|(simp[dE,u32,ofV];done))|exact aH_ hs (aI_ _)|exact aH_ hs (bN_ _)|(refine aD_ hs ?_ (bN_ _);first|(simp[hF_,fa_,dt_];done)|(simp[iE,i64,ofV];done))|(refine aD_ hs ?_ (aI_ _);first|(simp[iu_,lx_];done)|(simp[pE,ofV];done))|(refine ae_ ?_;repeat' (first|exact ao_|exact CvL.clo hs (aO_ _)|refine af_ ?_ ?_))))<;> exact au_c):p:=h
theorem au_r{p:Prop}(h:p:=by repeat' (first|exact ShrL.nil|refine ShrL.cons rfl rfl rfl rfl (by first|rfl|(simp;done)|(simp <;> omega)) ?_)):p:=h
theorem au_f{p:Prop}(h:p:=by repeat' (first|exact aA_|refine au_ rfl ?_ ?_|exact au_c)):p:=h
theorem au_h{p:Prop}(h:p:=by repeat' (first|exact ap_|refine al_ rfl rfl rfl rfl ?_ ?_|exact au_e)):p:=h
section
variable {P:Program}{ops:Array Oper}{nx n j:Nat}{rest:List Oper}{fr:Fr}{hp:Hp}{K:Fps→Fr→Hp→Prop}
variable {d:Nat}{op:Op}{ty:Nat}{pos:String}{after:Array Edge}{a:AV}{p q s:Nat×Option ABlk}{rd:List Nat}
theorem o_0(hs:AEval P (nx+j) (evF (look fr)) (lookB hp) op ⟨a,[]⟩ rd)(h:AR P ops nx n (j+1) rest ((d,a)::fr) hp fun fps f h=>K (([],rd)::fps) f h)(hnd:bj_ op=true:=by exact rfl)(hd:Nat.blt d n=true:=by exact rfl):AR P ops nx n j (⟨some d,op,ty,pos,after,none⟩::rest) fr hp K:=aw_ hs hnd hd h
theorem o_1(hs:AEval P (nx+j) (evF (look fr)) (lookB hp) op ⟨a,[p]⟩ rd)(h:AR P ops nx n (j+1) rest ((d,a)::fr) (p::hp) fun fps f h=>K (([p.1],rd)::fps) f h)(hnd:bj_ op=true:=by exact rfl)(hd:Nat.blt d n=true:=by exact rfl):AR P ops nx n j (⟨some d,op,ty,pos,after,none⟩::rest) fr hp K:=AR.op1 hs hnd hd h
theorem o_2(hs:AEval P (nx+j) (evF (look fr)) (lookB hp) op ⟨a,[p,q]⟩ rd)(h:AR P ops nx n (j+1) rest ((d,a)::fr) (q::p::hp) fun fps f h=>K (([p.1,q.1],rd)::fps) f h)(hnd:bj_ op=true:=by exact rfl)(hd:Nat.blt d n=true:=by exact rfl):AR P ops nx n j (⟨some d,op,ty,pos,after,none⟩::rest) fr hp K:=AR.op2 hs hnd hd h
theorem o_3(hs:AEval P (nx+j) (evF (look fr)) (lookB hp) op ⟨a,[p,q,s]⟩ rd)(h:AR P ops nx n (j+1) rest ((d,a)::fr) (s::q::p::hp) fun fps f h=>K (([p.1,q.1,s.1],rd)::fps) f h)(hnd:bj_ op=true:=by exact rfl)(hd:Nat.blt d n=true:=by exact rfl):AR P ops nx n j (⟨some d,op,ty,pos,after,none⟩::rest) fr hp K:=AR.op3 hs hnd hd h
theorem o_1n(hs:AEval P (nx+j) (evF (look fr)) (lookB hp) op ⟨a,[p]⟩ rd)(h:AR P ops nx n (j+1) rest fr (p::hp) fun fps f h=>K (([p.1],rd)::fps) f h)(hnd:bj_ op=true:=by exact rfl):AR P ops nx n j (⟨none,op,ty,pos,after,none⟩::rest) fr hp K:=AR.op1n hs hnd h
theorem s_r{ρ:Option Nat}{Q:Exit→AState→Prop}{id:Nat}{y:Code}(m:Nat)(h:AR P ops nx n 0 ops.toList fr hp fun _ f h=>thenA (AWp ρ P y Q) Q .normal ⟨f,h,nx+m,n⟩)(hsz:ops.size=m:=by exact rfl):AWp ρ P (.seq (.region id ops false) y) Q ⟨fr,hp,nx,n⟩:=ac_ (sy_ hsz h)
end
theorem s_e {fr fr':Fr} {hp hp':Hp} {nx nx' n:Nat} (l:List (Nat×Nat)) (hS:ShrL (rnm fr l nx') (lookB hp) hp':=by exact au_r)
    (hF:Shr (rnm fr l nx') (lookB hp) (lookB hp')→CvF (rnm fr l nx') (lookB hp) (lookB hp') fr fr':=by exact fun hs=>au_f)
    (hH:Shr (rnm fr l nx') (lookB hp) (lookB hp')→CvH (rnm fr l nx') (lookB hp) (lookB hp') hp':=by exact fun hs=>au_h)
    (hk:Nat.blt 0 nx'=true:=by exact rfl) (h0:(rnm fr l nx').s 0=0:=by exact rfl) (hinj:injL (rnm fr l nx') (hp'.map (·.1))=true:=by exact rfl):SEnt ⟨fr,hp,nx,n⟩ ⟨fr',hp',nx',n⟩:=
 ar_ l hk h0 hinj hS hF hH
end Go.Abs
