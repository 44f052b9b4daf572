/- Part V07 of the proof. -/
import Derived.Test.YtdgbhlkabelmbaaGreatDoorV06
import Derived.MapKept
import Derived.Lib.UnsafeStr
set_option linter.all false
namespace Go.Abs
open Go.RowKit
def bE(s:List UInt8):List (List AV):=s.map fun c=>[.v (.int .u8 c.toNat)]
theorem dm(s:List UInt8):(bE s).length=s.length:=by simp[bE]
theorem wF(s:List UInt8):∀e∈bE s,∀c∈e,Closed c:=by
 intro e a c hc;obtain⟨x,_,rfl⟩:=List.mem_map.1 a;rw[List.mem_singleton.1 hc];exact ag _
theorem wI(s t:List UInt8):bE (s++t)=bE s++bE t:=by simp[bE]
def eo(i j:Nat):Option (List UInt8)→List AV
 |none=>[.v (.pointer none),.emp]
 |some s=>[.lptr i 0 0,.lsl j 0 s.length none 1]
def updB(tB tb i j id:Nat)(s:Option (List UInt8))(t:List UInt8):List (Nat×Option ABlk):=
 match s with
 |none=>[(i,some ⟨tB,2,[eo i id (some t)]⟩),(id,some ⟨tb,1,bE t⟩)]
 |some _=>[(j,none),(i,some ⟨tB,2,[eo i id (some t)]⟩),(id,some ⟨tb,1,bE t⟩)]
def Pure(a:AV):Prop:=∀(M M':Nat→Prop) β β' w w' y,RV M β w a y→RV M' β' w' a y
structure BSpec (P:Program)(f tB tb:Nat)(s:Option (List UInt8))(t:List UInt8)(args:List AV)(r:AV):Prop where
 cl:∀a∈args,Closed a
 enters:∀(xs:Array Value) (w:World),(callFunc f xs).run P w= .ok (.enter f xs) w
 calls:∀(M0:Nat→Prop) (w0:Base) (β:Nat→Option (Nat×Nat)) (hp:Nat→Option ABlk) (w:World) (id i j:Nat) (y0:Value) (vals:List Value),Mem M0 w0 β hp w→id≠0→β id=none→hp id=none→hp i=some ⟨tB,2,[eo i j s]⟩→
  (∀q,s=some q→hp j=some ⟨tb,1,bE q⟩∧i≠j)→RV (MM M0 β hp) β w (.lptr i 0 0) y0→RVs (MM M0 β hp) (fun _=>none) w args vals→
  Calls P f (y0::vals).toArray w fun x w'=> ∃y,x= .returned y∧∃β',mG M0 w0 β hp w id ⟨r,updB tB tb i j id s t⟩ y w' β'
section
variable {P:Program}{M0:Nat→Prop}{w0:Base}{β:Nat→Option (Nat×Nat)}{hp:Nat→Option ABlk}{w w':World}
theorem Mem.two (h:Mem M0 w0 β hp w) {i id b bk tB tb:Nat} {B:ABlk} {D:Nat→Prop} {es es2:List (List AV)} {hp2:Nat→Option ABlk} {cs ck:Array Value} (hi:hp i=some B) (hb:β i=some (b,2)) (hid0:id≠0) (hid:β id=none) (hidh:hp id=none)
    -- hp2:the blocks but for those that are given up
    (hsub:∀x X,hp2 x=some X→hp x=some X) (h2i:hp2 i=some B) (hD:∀x,D x→x=b∨∃m X s,hp m=some X∧β m=some (x,s)∧(hp2 m=none)) (hDb:D b)
    (os:w'.os=w.os∧w'.tape=w.tape∧w'.output=w.output) (size:w.heap.size≤w'.heap.size) (block:∀x,x< w.heap.size→¬D x→w'.heap[x]?=w.heap[x]?) (sizes:∀x n,aR w x=some n→aR w' x=some n)
    (hbk:bk< w'.heap.size) (hbkn:w.heap.size≤bk∨(D bk∧bk≠b))
    (hcs:w'.heap[b]?=some (.cells cs tB (0,0))) (hck:w'.heap[bk]?=some (.cells ck tb (0,0)))
    (hes:∀M β2,(∀m x,β m=some x→β2 m=some x)→β2 id=some (bk,1)→RVess M β2 w' b 2 es 0) (hes2:∀M β2,RVess M β2 w' bk 1 es2 0) (hl:es.length* 2≤cs.size) (hl2:es2.length* 1≤ck.size):
    Mem M0 w0 (upd β id (some (bk,1))) (upd (upd hp2 i (some ⟨tB,2,es⟩)) id (some ⟨tb,1,es2⟩)) w'∧
     Stab (MM M0 β hp) (MM M0 (upd β id (some (bk,1))) (upd (upd hp2 i (some ⟨tB,2,es⟩)) id (some ⟨tb,1,es2⟩))) β (upd β id (some (bk,1))) w w':=by
 obtain⟨β2,A⟩:∃x,x=upd β id (some (bk,1)):=⟨_,rfl⟩;obtain⟨q,p⟩:∃x,x=upd (upd hp2 i (some (⟨tB,2,es⟩:ABlk))) id (some ⟨tb,1,es2⟩):=⟨_,rfl⟩;rw[←A,←p];have J:i≠id:=fun e=>by subst e;rw[hi] at hidh;cases hidh
 have C:∀m x,β m=some x→β2 m=some x:=fun m x a=>by
  rw[A,bh];exact a;intro e;subst e;rw[hid] at a;cases a
 have g:β2 id=some (bk,1):=by rw[A,a7]
 have L:q id=some ⟨tb,1,es2⟩:=by rw[p,a7]
 have T:q i=some ⟨tB,2,es⟩:=by rw[p,bh _ _ J,a7]
 have y:∀x,x≠id→x≠i→q x=hp2 x:=fun x h1 j=>by rw[p,bh _ _ h1,bh _ _ j]
 have z:∀x,x≠id→β2 x=β x:=fun x h1=>by rw[A,bh _ _ h1]
 -- what is not written
 have Z:∀m X c s,hp2 m=some X→m≠i→β m=some (c,s)→¬D c:=by
  intro m X c s a f hc r;rcases hD c r with rfl|⟨G,v,u,h1,j,F⟩
  exact f (h.inj m i X B c s 2 (hsub m X a) hi hc hb);have:=h.inj m G X v c s u (hsub m X a) h1 hc j;subst this;rw[a] at F;cases F
 have V:∀x,D x→¬w0.K x:=by
  intro x r;rcases hD x r with rfl|⟨G,v,u,_,j,_⟩
  exact(h.rng i _ 2 hb).1;exact(h.rng G x u j).1
 have S:¬w0.K bk:=by
  rcases hbkn with l|l
  intro t;have:=w0.lt bk t;have:=h.below.size;omega;exact V bk l.1
 have E:∀x,D x→MM M0 β hp x:=by
  intro x r;rcases hD x r with rfl|⟨G,v,u,h1,j,_⟩
  exact .inr ⟨i,B,2,hi,hb⟩;exact .inr ⟨G,v,u,h1,j⟩
 have U:∀x,D x→∃N,aR w x=some N:=by
  intro x r
  have o:∀m X s,hp m=some X→β m=some (x,s)→∃N,aR w x=some N:=by
   intro m X s h1 j;obtain⟨b',e1,e2⟩:=h.blk m X h1;rw[j] at e1;cases e1;exact e2.size
  rcases hD x r with rfl|⟨G,v,u,h1,j,_⟩
  exact o i B 2 hi hb;exact o G v u h1 j
 have R:∀c,MM M0 β2 q c→MM M0 β hp c∨w.heap.size≤c:=by
  rintro c (hc|⟨m,X,s,h1,j⟩);exact .inl (.inl hc);by_cases a:m=id;subst a;rw[g] at j;cases j;rcases hbkn with l|l
  exact .inr l;exact .inl (E bk l.1);rw[z m a] at j;by_cases f:m=i;subst f;exact .inl (.inr ⟨m,B,s,hi,j⟩);rw[y m a f] at h1;exact .inl (.inr ⟨m,X,s,hsub m X h1,j⟩)
 have st:Stab (MM M0 β hp) (MM M0 β2 q) β β2 w w':=
  ⟨⟨fun c N hs a=>block c (b7 hs) fun r=>a (E c r),fun c N hs a=>(R c a).elim (fun h=>h) fun l=>by have:=b7 hs;omega,C,sizes⟩,
   fun c Q l=>block c Q fun r=>by obtain⟨N,hN⟩:=U c r;rw[hN] at l;cases l⟩
 refine⟨⟨⟨os.1.trans h.below.os,os.2.1.trans h.below.tape,os.2.2.trans h.below.output,Nat.le_trans h.below.size size,fun k t=>(block k (Nat.lt_of_lt_of_le (w0.lt k t) h.below.size) fun r=>V k r t).trans (h.below.block k t),fun c n hs=>sizes c n (h.below.sizes c n hs)⟩,h.m0,
  fun m c s a=>?_,fun W=>?_,fun m X a=>?_,fun m k X Y c s u h1 j F O=>?_⟩,st⟩
 by_cases d:m=id;subst d;rw[g] at a;cases a;exact⟨S,hbk⟩;rw[z m d] at a;exact⟨(h.rng m c s a).1,Nat.lt_of_lt_of_le (h.rng m c s a).2 size⟩;rw[z 0 (Ne.symm hid0)];refine h.pin ?_;by_cases h0i:0=i;rw[h0i,hi];rfl;rw[y 0 (Ne.symm hid0) h0i] at W;obtain⟨X,hX⟩:=Option.isSome_iff_exists.1 W;rw[hsub 0 X hX];rfl;by_cases d:m=id;subst d;rw[L] at a;cases a;exact⟨bk,g,.inl ⟨Nat.one_ne_zero,ck,hck,hes2 _ _,hl2⟩⟩;by_cases f:m=i;subst f;rw[T] at a;cases a;exact⟨b,C _ _ hb,.inl ⟨(by decide:(2:Nat)≠0),cs,hcs,hes _ _ C g,hl⟩⟩;rw[y m d f] at a;obtain⟨c,e1,e2⟩:=h.blk m X (hsub m X a);exact⟨c,C _ _ e1,e2.stab st.toStabC (block c (h.rng m c _ e1).2 (Z m X c _ a f e1))⟩
 have o:∀m X c s,q m=some X→β2 m=some (c,s)→m≠id→∃v,hp m=some v∧β m=some (c,s)∧c≠bk:=by
  intro m X c s a hc d;rw[z m d] at hc;by_cases f:m=i;subst f;rw[hb] at hc;cases hc;refine⟨B,hi,hb,?_⟩;rintro rfl;rcases hbkn with l|l
  have:=(h.rng m _ 2 hb).2;omega;exact l.2 rfl;rw[y m d f] at a;refine⟨X,hsub m X a,hc,?_⟩;rintro rfl;rcases hbkn with l|l
  have:=(h.rng m _ s hc).2;omega;exact Z m X _ s a f hc l.1
 by_cases a:m=id;by_cases t:k=id;rw[a,t];subst a;rw[g] at F;cases F;obtain⟨_,_,_,H⟩:=o k Y _ u j O t;exact absurd rfl H;by_cases t:k=id;subst t;rw[g] at O;cases O;obtain⟨_,_,_,H⟩:=o m X _ s h1 F a;exact absurd rfl H;obtain⟨v,e1,e2,_⟩:=o m X c s h1 F a;obtain⟨Y',f1,f2,_⟩:=o k Y c u j O t;exact h.inj m k v Y' c s u e1 f1 e2 f2
theorem oY{M M':Nat→Prop}{β β':Nat→Option (Nat×Nat)}{b:Nat}:∀{t:List UInt8} {off:Nat},RVess M β w b 1 (bE t) off→RVess M' β' w b 1 (bE t) off
 |[],_,_=>trivial
 |_::_,_,⟨h0,⟨⟨x,h1,h2⟩,_⟩,h3⟩=>⟨h0,⟨⟨x,h1,h2⟩,trivial⟩,oY h3⟩
theorem vN {M M':Nat→Prop} {β β':Nat→Option (Nat×Nat)} {b i j i' j':Nat} {s:Option (List UInt8)} (hi:∀x,β i=some x→β' i'=some x) (hj:s≠none→∀x,β j=some x→β' j'=some x)
    (h:RVess M β w b 2 [eo i j s] 0):RVess M' β' w b 2 [eo i' j' s] 0:=by
 obtain⟨_,hc,_⟩:=h;cases s with
 |none=>
  obtain⟨⟨x,h1,a⟩,⟨y,d,c⟩,_⟩:=hc;exact⟨rfl,⟨⟨x,h1,a⟩,⟨y,d,c⟩,trivial⟩,trivial⟩
 |some q=>
  obtain⟨⟨x,h1,⟨b1,s1,a,d⟩⟩,⟨y,c,⟨b2,f,g,e⟩⟩,_⟩:=hc;exact⟨rfl,⟨⟨x,h1,⟨b1,s1,hi _ a,d⟩⟩,⟨y,c,⟨b2,f,hj (by simp) _ g,e⟩⟩,trivial⟩,trivial⟩
def hpB(tB tb:Nat):Option (List UInt8)→List (Nat×Option ABlk)
 |none=>[(0,some ⟨tB,2,[eo 0 1 none]⟩)]
 |some q=>[(0,some ⟨tB,2,[eo 0 1 (some q)]⟩),(1,some ⟨tb,1,bE q⟩)]
theorem qE(tB tb:Nat)(s:Option (List UInt8))(m:Nat):an (hpB tB tb s) m=if m=0 then some ⟨tB,2,[eo 0 1 s]⟩ else if m=1 then s.map fun q=>⟨tb,1,bE q⟩ else none:=by
 cases s with
 |none=>
  rw[hpB,cX];unfold upd;by_cases h0:m=0;rw[if_pos h0,if_pos h0];by_cases h1:m=1;rw[if_pos h1];rfl;rw[if_neg h1];rfl
 |some q=>
  rw[hpB,cX];unfold upd;by_cases h0:m=0;rw[if_pos h0,if_pos h0];rw[if_neg h0,if_neg h0,cX];unfold upd;by_cases h1:m=1;rfl;rfl
def dropJ(hp:Nat→Option ABlk)(j:Nat):Option (List UInt8)→Nat→Option ABlk
 |none=>hp
 |some _=>upd hp j none
theorem BSpec.intro {f:Nat} {fn:Func} {c:Code} {tB tb:Nat} {s:Option (List UInt8)} {t:List UInt8} {args:List AV} {r:AV} (hf:P.funcs[f]?=some fn) (hb:fn.body=some c) (hname:(fn.name== "runtime.NumGoroutine")=false)
    (hcl:∀a∈args,Closed a) (hpure:Pure r) (hn:args.length+1≤fn.ntmps)
    (h:AWp none P c (fun x st=>(x= .normal∨x= .ret)∧lJ P fn.results.toList st r∧∃k,k≠0∧an st.hp 0=some ⟨tB,2,[eo 0 k (some t)]⟩∧an st.hp k=some ⟨tb,1,bE t⟩) ⟨(0,.lptr 0 0 0)::da 1 args,hpB tB tb s,2,fn.ntmps⟩):BSpec P f tB tb s t args r:=by
 refine⟨hcl,fun xs w=>?_,fun M0 w0 β hp w id i j y0 vals mem hid0 hid hidh hi hj hy0 hargs=>?_⟩;have hname':¬fn.name= "runtime.NumGoroutine" :=by grind
 simp[callFunc,hf,hname',hb];refine(callsIn_wide (n:=0)).1 (callsIn_of_wp_marks (F:=Fence.wide) hf hb trivial ?_);have hlen:=hargs.length;obtain⟨b,sz0,hbi,rfl⟩:=hy0;obtain⟨b',cs,hbi',hh,hr,hl⟩:=mem.cells hi (by decide:(2:Nat)≠0);rw[hbi] at hbi';cases hbi';have hbi2:β i=some (b,2):=hbi
 -- the buffer
 have hbuf:∀q,s=some q→∃bj ck,β j=some (bj,1)∧w.heap[bj]?=some (.cells ck tb (0,0))∧RVess (MM M0 β hp) β w bj 1 (bE q) 0∧(bE q).length* 1≤ck.size∧bj≠b:=fun q hq=>by
  obtain⟨h1,h2⟩:=hj q hq;obtain⟨bj,ck,e1,e2,e3,e4⟩:=mem.cells h1 (by decide:(1:Nat)≠0);exact⟨bj,ck,e1,e2,e3,e4,fun e=>by subst e;exact h2 (mem.inj i j _ _ bj 2 1 hi h1 hbi2 e1)⟩
 let D:Nat→Prop:=fun x=>x=b∨(s≠none∧∃ss,β j=some (x,ss))
 let M0c:Nat→Prop:=fun x=>MM M0 β hp x∧¬D x
 let β0:Nat→Option (Nat×Nat):=fun m=>if m=0 then some (b,2) else if m=1∧s≠none then β j else none
 have hDm:∀x,D x→x< w.heap.size∧MM M0 β hp x:=by
  rintro x (rfl|⟨hs,ss,hx⟩);exact⟨(mem.rng i x 2 hbi2).2,.inr ⟨i,_,2,hi,hbi2⟩⟩;obtain⟨q,hq⟩:=Option.ne_none_iff_exists'.1 hs;exact⟨(mem.rng j x ss hx).2,.inr ⟨j,_,ss,(hj q hq).1,hx⟩⟩
 let bs:Base:=⟨w,fun x=>x< w.heap.size∧¬D x,fun _ h=>h.1,some (b,2),fun _=>undef,⟨mem.tab.lt,fun hd=>mem.nt (hDm GT hd).2⟩,mem.tab⟩
 have hβ00:β0 0=some (b,2):=rfl;have hβ01:s≠none→β0 1=β j:=fun hs=>by grind
 have hβ0c:∀m x ss,β0 m=some (x,ss)→D x∧(m=0∨m=1):=by
  grind
 have hmm:MM M0c β0 (an (hpB tB tb s))=MM M0 β hp:=by
  funext x;refine propext ⟨?_,fun hx=>?_⟩;rintro(hx|⟨m,B,ss,_,h2⟩);exact hx.1;exact(hDm x (hβ0c m x ss h2).1).2;by_cases hd:D x;rcases hd with rfl|⟨hs,ss,hx2⟩
  exact .inr ⟨0,⟨tB,2,[eo 0 1 s]⟩,2,by rw[qE];rfl,rfl⟩;obtain⟨q,hq⟩:=Option.ne_none_iff_exists'.1 hs;exact .inr ⟨1,⟨tb,1,bE q⟩,ss,by rw[qE,hq];rfl,(hβ01 hs).trans hx2⟩;exact .inl ⟨hx,hd⟩
 have hmem:Mem M0c bs β0 (an (hpB tB tb s)) w:=by
  refine⟨⟨rfl,rfl,rfl,Nat.le_refl _,fun _ _=>rfl,fun _ _ h=>h⟩,fun x hx=>⟨⟨mem.lt hx.1,hx.2⟩,fun e=>mem.nt (e▸hx.1)⟩,fun m x ss hm=>?_,(fun _=>rfl),fun m B hm=>?_,fun m k B B' x ss ss' h1 h2 h3 h4=>?_⟩;have:=hβ0c m x ss hm;exact⟨fun hk=>hk.2 this.1,(hDm x this.1).1⟩;rw[hmm];rw[qE] at hm;split at hm
  ·rename_i h0;subst h0;cases hm
   exact⟨b,rfl,.inl ⟨(by decide:(2:Nat)≠0),cs,hh,vN (i:=i) (j:=j) (fun x hx=>by rw[hbi2] at hx;cases hx;rfl) (fun hs x hx=>(hβ01 hs).trans hx) hr,hl⟩⟩
  split at hm
  ·rename_i h1;subst h1
   cases hs:s with
   |none=>rw[hs] at hm;cases hm
   |some q=>
    rw[hs] at hm;cases hm;obtain⟨bj,ck,e1,e2,e3,e4,_⟩:=hbuf q hs;exact⟨bj,(hβ01 (by rw[hs];simp)).trans e1,.inl ⟨(by decide:(1:Nat)≠0),ck,e2,oY e3,e4⟩⟩
  cases hm;have g1:=(hβ0c m x ss h3).2;have g2:=(hβ0c k x ss' h4).2
  have hne:∀ss ss',β0 0=some (x,ss)→β0 1=some (x,ss')→False:=fun ss ss' e1 e2=>by
   cases e1;cases hs:s with
   |none=>simp only[β0] at e2;rw[if_neg (by decide),if_neg (by rw[hs];simp)] at e2;cases e2
   |some q=>
    obtain⟨bj,ck,f1,_,_,_,f2⟩:=hbuf q hs;rw[hβ01 (by rw[hs];simp),f1] at e2;cases e2;exact f2 rfl
  rcases g1 with rfl|rfl <;> rcases g2 with rfl|rfl
  rfl;exact(hne _ _ h3 h4).elim;exact(hne _ _ h4 h3).elim;rfl
 have hrel:iS M0c bs ⟨(0,.lptr 0 0 0)::da 1 args,hpB tB tb s,2,fn.ntmps⟩ {tmps:=(Value.pointer (some ⟨b,0* 2+0,none⟩)::vals).toArray++Array.replicate (fn.ntmps- (Value.pointer (some ⟨b,0* 2+0,none⟩)::vals).toArray.size) undef,defers:=[]} w:=by
  refine⟨β0,hmem,by simp;omega,fun t x hx=>?_,fun m (hm:2≤m)=>⟨by simp only[β0];rw[if_neg (by omega),if_neg (by omega)],by omega⟩,⟨[],rfl,List.nodup_nil,by simp⟩⟩;show RV (MM M0c β0 (an (hpB tB tb s))) _ _ _ _;rw[hmm,cg rfl];rw[show(look ((0,.lptr 0 0 0)::da 1 args) t=some x)↔(upd (look (da 1 args)) 0 (some (.lptr 0 0 0)) t=some x) by rw[cn]] at hx;obtain⟨y0,hy0⟩:∃y0,y0=Value.pointer (some ⟨b,0* 2+0,none⟩):=⟨_,rfl⟩;rw[←hy0]
  have get:∀(k:Nat) (y:Value),(y0::vals)[k]?=some y→((y0::vals).toArray++Array.replicate (fn.ntmps- (y0::vals).toArray.size) undef).getD k undef=y:=by
   intro k y hk;have hlt:k< (y0::vals).length:=(List.getElem?_eq_some_iff.1 hk).1;rw[Array.getD_eq_getD_getElem?,Array.getElem?_append_left (by simpa using hlt)];simp only[List.getElem?_toArray];rw[hk];rfl
  unfold upd at hx;split at hx
  ·rename_i h0;subst h0;cases hx
   rw[get 0 y0 rfl];exact⟨b,2,rfl,by rw[hy0]⟩
  obtain⟨h1,y,h2,h3⟩:=fF hargs hx;rw[get t y (by rw[show t=(t- 1)+1 by omega,List.getElem?_cons_succ];exact h2)];exact StabC.all (w:=w) (w':=w) (M:=MM M0 β hp) (β:=fun _=>none) ⟨fun _ _ _ _=>rfl,fun _ _ _ h=>h,(fun _ _ h=>by cases h),fun _ _ h=>h⟩ h3
 refine wpIn_mono (h _ bs _ w hrel) fun x a' w' ⟨st',⟨β',mem',hsz,hfr,hfree,Ds,hds,hnd,hDs⟩,he,hres,k,hk0,hl0,hlk⟩=>?_
 have hL:LeavesInM (FR none) 0 P fn a'.tmps (fun x w'=> ∃y,x= .returned y∧∃β',mG M0 w0 β hp w id ⟨r,updB tB tb i j id s t⟩ y w' β') a'.defers .returning w':=by
  rw[hds];refine gS hres (fun y w'' h1 h2 _ _=>?_) Ds w' hnd hDs mem' (fun t x hx=>by have:=hfr t x hx;rwa[cg rfl] at this);have hb0:β' 0=some (b,2):=h2.pin (by rw[hl0];rfl);obtain⟨b1,cs1,e1,e2,e3,e4⟩:=h2.cells hl0 (by decide:(2:Nat)≠0);rw[hb0] at e1;cases e1;obtain⟨bk,ck1,f1,f2,f3,f4⟩:=h2.cells hlk (by decide:(1:Nat)≠0);have hkb:bk≠b:=fun e=>hk0 (h2.inj k 0 _ _ bk _ _ hlk hl0 f1 (by rw[e];exact hb0));have hrk:=h2.rng k bk _ f1
  have hbkn:w.heap.size≤bk∨(D bk∧bk≠b):=by
   by_cases hlt:bk< w.heap.size;by_cases hd:D bk;exact .inr ⟨hd,hkb⟩;exact absurd ⟨hlt,hd⟩ hrk.1;exact .inl (by omega)
  obtain⟨hp2,hhp2⟩:∃hp2:Nat→Option ABlk,hp2=dropJ hp j s:=⟨_,rfl⟩;have hji:s≠none→i≠j:=fun hs=>by obtain⟨q,hq⟩:=Option.ne_none_iff_exists'.1 hs;exact(hj q hq).2
  have h2sub:∀x X,hp2 x=some X→hp x=some X:=by
   intro x X hx;rw[hhp2] at hx;cases hs:s with
   |none=>rw[hs] at hx;exact hx
   |some q=>
    rw[hs] at hx;simp only[dropJ,upd] at hx;split at hx;cases hx;exact hx
  have h2i:hp2 i=some ⟨tB,2,[eo i j s]⟩:=by
   rw[hhp2];cases hs:s with
   |none=>rw[hs] at hi;exact hi
   |some q=>show upd hp j none i=_;rw[bh _ _ (hji (by rw[hs];simp)),←hs];exact hi
  have htwo:=mem.two (w':=w'') (i:=i) (id:=id) (b:=b) (bk:=bk) (tB:=tB) (tb:=tb) (D:=D) (es:=[eo i id (some t)]) (es2:=bE t) (hp2:=hp2) (cs:=cs1) (ck:=ck1) hi hbi2 hid0 hid hidh h2sub h2i
   (fun x hx=>by
    rcases hx with rfl|⟨hs,ss,hx⟩
    exact .inl rfl;obtain⟨q,hq⟩:=Option.ne_none_iff_exists'.1 hs;exact .inr ⟨j,_,ss,(hj q hq).1,hx,by rw[hhp2,hq];exact a7 _ _ _⟩) (.inl rfl)
   ⟨h2.below.os,h2.below.tape,h2.below.output⟩ h2.below.size (fun x hx hd=>h2.below.block x ⟨hx,hd⟩) h2.below.sizes hrk.2 hbkn e2 f2
   (fun M β2 hbe hbid=>vN (i:=0) (j:=k) (fun x hx=>by rw[hb0] at hx;cases hx;exact hbe _ _ hbi2) (fun _ x hx=>by rw[f1] at hx;cases hx;exact hbid) e3) (fun M β2=>oY f3) e4 f4
  refine⟨y,rfl,upd β id (some (bk,1)),?_⟩
  have happ:ig hp (updB tB tb i j id s t)=upd (upd hp2 i (some ⟨tB,2,[eo i id (some t)]⟩)) id (some ⟨tb,1,bE t⟩):=by
   rw[hhp2];cases s <;> rfl
  unfold mG;rw[happ];exact⟨htwo.1,hpure _ _ _ _ _ _ _ h1,htwo.2,fun m hm=>bh _ _ hm⟩
 rcases he with rfl|rfl
 exact hL;exact hL
section
variable {id:Nat}{ev:Operand→Option AV}{c:Call}{callee x0:Operand}{f i j tB tb:Nat}{as:List AV}{r:AV}
def rdB(i j:Nat):Option (List UInt8)→List Nat
 |none=>[i]
 |some _=>[i,j]
theorem fG{ρ:Operand→Value}{o:Oper}{args:List Value}{w:World}(ho:o.op= .call c)(h1:c.callee= .value callee)(hx:ρ callee= .func (.func f) #[] #[])(ha:c.args.toList.map ρ=args)(he:∀(xs:Array Value) (w:World),(callFunc f xs).run P w= .ok (.enter f xs) w):
    (execOp ρ o).run P w= .ok (.enter f args.toArray) w:=by
 simp only[execOp];simp only[resolve,Deferred.ofValue,invoke];have:(c.args.toList.map ρ).toArray=c.args.map ρ:=by grind
 grind
theorem ye{M:Nat→Prop}{β:Nat→Option (Nat×Nat)}{w:World}{ρ:Operand→Value}:∀{xs:List Operand} {as:List AV},(∀x∈xs,∀a,ev x=some a→RV M β w a (ρ x))→evs ev xs=some as→RVs M β w as (xs.map ρ)
 |[],as,_,h=>by simp only[evs,Option.some.injEq] at h;subst h;exact rfl
 |x::xs,as,hev,h=>by
  simp only[evs] at h;split at h
  ·rename_i a b h1 d
   simp only[Option.some.injEq] at h;subst h;exact⟨_,_,rfl,hev x (List.mem_cons_self ..) a h1,ye (fun y c=>hev y (List.mem_cons_of_mem _ c)) d⟩
  cases h
theorem AEval.callB {s:Option (List UInt8)} {t:List UInt8} {rest:List Operand} (h1:c.callee= .value callee) (h2:ev callee=some (.clos f [] [])) (h3:c.args.toList=x0::rest) (h4:ev x0=some (.lptr i 0 0)) (h5:evs ev rest=some as) (h6:hp i=some ⟨tB,2,[eo i j s]⟩)
    (h7:∀q,s=some q→hp j=some ⟨tb,1,bE q⟩∧i≠j) (h8:BSpec P f tB tb s t (as.map coe) r):AEval P id ev hp (.call c) ⟨r,updB tB tb i j id s t⟩ (rdB i j s):=by
 refine .sem fun B D β b w ρ o C n d A h l e g=>?_
 have a:∀x,x∈(Op.call c).operands↔x=callee∨x∈x0::rest:=by
  simp[Op.operands,Call.operands,h1,←Array.mem_toList_iff,h3]
 obtain⟨xs,E,m,k,z⟩:=d callee ((a _).2 (.inl rfl)) _ h2;have p:xs= #[]:=Array.ext' k;have v:E= #[]:=Array.ext' z;subst p v;have F:b i=some ⟨tB,2,[eo i j s]⟩:=(g i (by cases s <;> simp[rdB])).trans h6;have G:∀q,s=some q→b j=some ⟨tb,1,bE q⟩∧i≠j:=fun q y=>⟨(g j (by rw[y];simp[rdB])).trans (h7 q y).1,(h7 q y).2⟩;have u:RVs (MM B β b) β w as (rest.map ρ):=ye (fun x m=>d x ((a _).2 (.inr (List.mem_cons_of_mem _ m)))) h5;exact .inr ⟨f,(ρ x0::rest.map ρ).toArray,fG C h1 m (by grind) h8.enters,h8.calls B D β b w id i j (ρ x0) (rest.map ρ) n h l e F G (d x0 ((a _).2 (.inr (List.mem_cons_self ..))) _ h4) (df h8.cl (gq u))⟩
structure CSpec (P:Program)(f tB:Nat):Prop where
 enters:∀(xs:Array Value) (w:World),(callFunc f xs).run P w= .ok (.enter f xs) w
 used:∀(b:Nat) (w:World),w.cell? ⟨b,0,none⟩=some (.pointer (some ⟨b,0,none⟩))→Calls P f #[.pointer (some ⟨b,0,none⟩)] w fun e w'=>e= .returned (.tuple #[])∧w'=w
 fresh:∀(b:Nat) (w:World) (cs:Array Value),w.heap[b]?=some (.cells cs tB (0,0))→2≤cs.size→cs[0]?=some (.pointer none)→Calls P f #[.pointer (some ⟨b,0,none⟩)] w fun e w'=>e= .returned (.tuple #[])∧w'=w.setCell ⟨b,0,none⟩ (.pointer (some ⟨b,0,none⟩))
theorem AEval.callC{a X:AV}(h1:c.callee= .value callee)(h2:ev callee=some (.clos f [] []))(h3:c.args.toList=[x0])(h4:ev x0=some (.lptr i 0 0))(h5:hp i=some ⟨tB,2,[[a,X]]⟩)(h6:a= .v (.pointer none)∨a= .lptr i 0 0)(h7:CSpec P f tB):
    AEval P id ev hp (.call c) ⟨.tup [],[(i,some ⟨tB,2,[[.lptr i 0 0,X]]⟩)]⟩ [i]:=by
 refine .sem fun M0 w0 β q w ρ o W p y T V hid R J=>?_
 have l:∀x,x∈(Op.call c).operands↔x=callee∨x∈[x0]:=by
  intro x;simp[Op.operands,Call.operands,h1,←Array.mem_toList_iff,h3]
 obtain⟨xs,ys,K,F,Q⟩:=y callee ((l _).2 (.inl rfl)) _ h2;have L:xs= #[]:=Array.ext' F;have N:ys= #[]:=Array.ext' Q;subst L N;have M:q i=some ⟨tB,2,[[a,X]]⟩:=(J i (by simp)).trans h5;obtain⟨b,sz0,z,Y⟩:=y x0 ((l _).2 (.inr (List.mem_cons_self ..))) _ h4;obtain⟨b',cs,j,s,⟨_,⟨⟨D,E,B⟩,⟨H,O,A⟩,_⟩,_⟩,hl⟩:=p.cells M (by decide:(2:Nat)≠0);rw[z] at j;cases j;have n:2≤cs.size:=by grind
 have d:β i=some (b,2):=z;have hp0:ρ x0= .pointer (some ⟨b,0,none⟩):=by grind
 have hun:ig q [(i,some ⟨tB,2,[[.lptr i 0 0,X]]⟩)]=upd q i (some ⟨tB,2,[[.lptr i 0 0,X]]⟩):=rfl;have S:cs[0]?=some D:=by simpa[World.cell?,s] using E
 have U:cs[1]?=some H:=by simpa[World.cell?,s] using O
 have C:aR w b=some cs.size:=by simp[aR,s]
 have e:Calls P f #[.pointer (some ⟨b,0,none⟩)] w fun e w'=>e= .returned (.tuple #[])∧w'=w.setCell ⟨b,0,none⟩ (.pointer (some ⟨b,0,none⟩))∨e= .returned (.tuple #[])∧w'=w∧D= .pointer (some ⟨b,0,none⟩):=by
  rcases h6 with rfl|rfl
  cases (B:D= .pointer none);exact(h7.fresh b w cs s n S).mono fun _ _ h=> .inl h;obtain⟨b2,s2,hb2,K⟩:=B;rw[d] at hb2;cases hb2;have G:D= .pointer (some ⟨b,0,none⟩):=by rw[K]
  exact(h7.used b w (by grind)).mono fun _ _ h=> .inr ⟨h.1,h.2,G⟩
 refine .inr ⟨f, #[.pointer (some ⟨b,0,none⟩)],fG W h1 K (by grind) h7.enters,e.mono ?_⟩;rintro e w' (⟨rfl,rfl⟩|⟨rfl,rfl,t⟩)
 have u:=p.write (w':=w.setCell ⟨b,0,none⟩ (.pointer (some ⟨b,0,none⟩))) (es:=[[.lptr i 0 0,X]]) (cs:=cs.setIfInBounds 0 (.pointer (some ⟨b,0,none⟩))) (by decide:(2:Nat)≠0) M d ⟨rfl,rfl,rfl⟩ (by simp[World.setCell]) (heap_setCell_same w b 0 cs tB _ s) (fun k Z=>heap_setCell_other w _ k _ Z)
  (fun k e r=>by
   cases k with
   |zero=>
    simp only[List.getElem?_cons_zero,Option.some.injEq] at r;subst r;refine⟨[.pointer (some ⟨b,0,none⟩),H],⟨_,_,rfl,⟨b,2,d,rfl⟩,_,_,rfl,A,rfl⟩,rfl,fun m v g=>?_⟩
    match m,g with
    |0,g=>cases g;show(cs.setIfInBounds 0 _)[0* 2+0]?=_;rw[Array.getElem?_setIfInBounds,if_pos rfl,if_pos (by omega)]
    |1,g=>cases g;simpa[Array.getElem?_setIfInBounds] using U
   |succ k=>simp at r) (by simpa using n) (by rw[Array.size_setIfInBounds];exact C)
 exact⟨_,rfl,β,u.1,⟨#[],rfl,rfl⟩,u.2,fun _ _=>rfl⟩
 have u:=p.write (w':=w') (es:=[[.lptr i 0 0,X]]) (cs:=cs) (by decide:(2:Nat)≠0) M d ⟨rfl,rfl,rfl⟩ rfl s (fun k _=>rfl)
  (fun k e r=>by
   cases k with
   |zero=>
    simp only[List.getElem?_cons_zero,Option.some.injEq] at r;subst r;refine⟨[.pointer (some ⟨b,0,none⟩),H],⟨_,_,rfl,⟨b,2,d,rfl⟩,_,_,rfl,A,rfl⟩,rfl,fun m v g=>?_⟩
    match m,g with
    |0,g=>cases g;rw[←t];simpa using S
    |1,g=>cases g;simpa using U
   |succ k=>simp at r) (by simpa using n) C
 exact⟨_,rfl,β,u.1,⟨#[],rfl,rfl⟩,u.2,fun _ _=>rfl⟩
structure DSpec (P:Program)(f tB tb:Nat):Prop where
 enters:∀(xs:Array Value) (w:World),(callFunc f xs).run P w= .ok (.enter f xs) w
 calls:∀(b bj cap:Nat) (q:List UInt8) (w:World) (cs ck:Array Value),q≠[]→w.heap[b]?=some (.cells cs tB (0,0))→cs[1]?=some (.slice (some ⟨bj,0,none⟩) q.length cap)→q.length≤cap→cap≤maxLen→b≠bj→w.heap[bj]?=some (.cells ck tb (0,0))→cap≤ck.size→
  (∀(k:Nat) (x:UInt8),q[k]?=some x→ck[k]?=some (Value.int .u8 x.toNat))→Calls P f #[.pointer (some ⟨b,0,none⟩)] w fun e w'=>e= .returned (.string ⟨q.toArray⟩)∧But bj w w'
theorem Mem.gone(h:Mem M0 w0 β hp w){j b:Nat}{B:ABlk}{s:Nat}{ids:List Nat}(hb:But b w w')(hj:hp j=some B)(hbj:β j=some (b,s))(hin:j∈ids):
    Mem M0 w0 β (dC hp ids) w'∧Stab (MM M0 β hp) (MM M0 β (dC hp ids)) β β w w':=by
 have d:∀m X,dC hp ids m=some X→hp m=some X∧m∉ids:=fun m X a=>by
  simp only[dC] at a;grind
 obtain⟨m1,r⟩:=h.forget fun m X a=>(d m X a).1;have i:MM M0 β hp b:= .inr ⟨j,B,s,hj,hbj⟩;have g:=h.rng j b s hbj
 have l:∃N,aR w b=some N:=by
  obtain⟨u,e1,e2⟩:=h.blk j B hj;rw[hbj] at e1;cases e1;exact e2.size
 have st:Stab (MM M0 β hp) (MM M0 β (dC hp ids)) β β w w':=
  ⟨⟨fun c N hs a=>hb.block c (b7 hs) fun e=>a (e▸i),r.m,fun _ _ h=>h,hb.sizes⟩,
   fun c o t=>hb.block c o fun e=>by grind⟩
 refine⟨⟨⟨hb.os.trans h.below.os,hb.tape.trans h.below.tape,hb.output.trans h.below.output,Nat.le_trans h.below.size hb.size,fun k q=>(hb.block k (Nat.lt_of_lt_of_le (w0.lt k q) h.below.size) fun e=>g.1 (e▸q)).trans (h.below.block k q),fun c n hs=>hb.sizes c n (h.below.sizes c n hs)⟩,h.m0,fun m c ss a=>⟨(h.rng m c ss a).1,Nat.lt_of_lt_of_le (h.rng m c ss a).2 hb.size⟩,m1.pin,fun m X a=>?_,m1.inj⟩,st⟩;obtain⟨h1,v⟩:=d m X a;obtain⟨c,e1,e2⟩:=h.blk m X h1
 have p:c≠b:=fun e=>by
  subst e;have:=h.inj m j X B c _ _ h1 hj e1 hbj;grind
 have f:=hb.block c (h.rng m c _ e1).2 p;exact⟨c,e1,e2.stab st.toStabC f⟩
theorem AEval.callD{q:List UInt8}(h1:c.callee= .value callee)(h2:ev callee=some (.clos f [] []))(h3:c.args.toList=[x0])(h4:ev x0=some (.lptr i 0 0))(h5:hp i=some ⟨tB,2,[eo i j (some q)]⟩)(h6:hp j=some ⟨tb,1,bE q⟩)(hij:i≠j)(hq:q≠[])(h7:DSpec P f tB tb):
    AEval P id ev hp (.call c) ⟨.v (.string ⟨q.toArray⟩),[(i,none),(j,none)]⟩ [i,j]:=by
 refine .sem fun M0 w0 β n w ρ o U a h L O Y G m=>?_
 have g:∀x,x∈(Op.call c).operands↔x=callee∨x∈[x0]:=by
  intro x;simp[Op.operands,Call.operands,h1,←Array.mem_toList_iff,h3]
 obtain⟨xs,Z,hx,t,F⟩:=h callee ((g _).2 (.inl rfl)) _ h2;have B:xs= #[]:=Array.ext' t;have C:Z= #[]:=Array.ext' F;subst B C;have M:n i=some ⟨tB,2,[eo i j (some q)]⟩:=(m i (by simp)).trans h5;have D:n j=some ⟨tb,1,bE q⟩:=(m j (by simp)).trans h6;obtain⟨b,sz0,l,T⟩:=h x0 ((g _).2 (.inr (List.mem_cons_self ..))) _ h4;obtain⟨b',cs,d,H,⟨_,⟨⟨x1,R,hx1⟩,⟨X,E,z⟩,_⟩,_⟩,hl⟩:=a.cells M (by decide:(2:Nat)≠0);rw[l] at d;cases d;obtain⟨Q,J,e1,e2,e3,e4⟩:=a.cells D (by decide:(1:Nat)≠0);obtain⟨S,r,K,f2,V,f4,_,N,f5,f6⟩:=z;rw[e1] at K;cases K;have hp0:ρ x0= .pointer (some ⟨b,0,none⟩):=by grind
 have g2:cs[1]?=some X:=by simpa[World.cell?,H] using E
 have u:b≠Q:=fun e=>by subst e;exact hij (a.inj i j _ _ b _ _ M D l e1)
 have hN:N=J.size:=by simp[aR,e2] at f5;grind
 refine .inr ⟨f, #[.pointer (some ⟨b,0,none⟩)],fG U h1 hx (by grind) h7.enters,(h7.calls b Q r q w cs J hq H (by grind) V f4 u e2 (by grind) fun k x W=>?_).mono ?_⟩;have:=(e3.get (i:=k) (e:=[.v (.int .u8 x.toNat)]) (by simp[bE,W])).1;obtain⟨⟨y,s,A⟩,_⟩:=this;cases (A:y=_);simpa[World.cell?,e2] using s;rintro e w' ⟨rfl,p⟩;have hg:=a.gone (ids:=[i,j]) p D e1 (by simp);refine⟨_,rfl,β,?_⟩;unfold mG;rw[show([(i,none),(j,none)]:List (Nat×Option ABlk))=[i,j].map fun i=>(i,none) from rfl,rp];exact⟨hg.1,rfl,hg.2,fun _ _=>rfl⟩
def Fx:Option (List UInt8)→List AV
 |none=>[.v (.pointer none),.emp]
 |some q=>[.any,.arr (bE q)]
theorem AEval.callR{s:Option (List UInt8)}{r:Value}(h1:c.callee= .value callee)(h2:ev callee=some (.clos f [] []))(h3:c.args.toList=[x0])(h4:ev x0=some (.lptr i 0 0))(h5:hp i=some ⟨tB,2,[eo i j s]⟩)(h6:∀q,s=some q→hp j=some ⟨tb,1,bE q⟩)(h7:FSpec P f [.aptr [Fx s] 0 0] (.v r)):
    AEval P id ev hp (.call c) ⟨.v r,[]⟩ (rdB i j s):=by
 refine .sem fun z w0 β d w ρ o ho a C hcst Y hid T A=>?_
 have k:∀x,x∈(Op.call c).operands↔x=callee∨x∈[x0]:=by
  intro x;simp[Op.operands,Call.operands,h1,←Array.mem_toList_iff,h3]
 obtain⟨xs,ys,u,G,J⟩:=C callee ((k _).2 (.inl rfl)) _ h2;have R:xs= #[]:=Array.ext' G;have M:ys= #[]:=Array.ext' J;subst R M;have W:d i=some ⟨tB,2,[eo i j s]⟩:=(A i (by cases s <;> simp[rdB])).trans h5;have Z:∀q,s=some q→d j=some ⟨tb,1,bE q⟩:=fun q U=>(A j (by rw[U];simp[rdB])).trans (h6 q U);obtain⟨b,sz0,D,hy0⟩:=C x0 ((k _).2 (.inr (List.mem_cons_self ..))) _ h4;obtain⟨b',cs,g,hh,hr,hl⟩:=a.cells W (by decide:(2:Nat)≠0);rw[D] at g;cases g;have B:β i=some (b,2):=D;have L:ρ x0= .pointer (some ⟨b,0,none⟩):=by grind
 let hp2:=dC d [i,j]
 have h:∀m X,hp2 m=some X→d m=some X∧m≠i∧m≠j:=fun m X F=>by
  simp only[hp2,dC] at F;grind
 have hM:∀x,MM z β hp2 x→MM z β d x:=by
  rintro x (u|⟨m,X,p,n,l⟩);exact .inl u;exact .inr ⟨m,X,p,(h m X n).1,l⟩
 have E:∀m X x p,d m=some X→β m=some (x,p)→(m=i∨m=j)→¬MM z β hp2 x:=by
  rintro m X x p n l gm (u|⟨V,X',Q,g3,S⟩);exact(a.rng m x p l).1 (a.m0 x u).1;obtain⟨O,g6,g7⟩:=h V X' g3;have:=a.inj m V X X' x p Q n O l S;grind
 have t:RVs (MM z β hp2) (fun _=>none) w [.aptr [Fx s] 0 0] [.pointer (some ⟨b,0,none⟩)]:=by
  refine⟨_,_,rfl,⟨by simp,b,0,2,by simp,⟨cs.size,by simp[aR,hh]⟩,E i _ b 2 W B (.inl rfl),?_⟩,rfl⟩;obtain⟨_,hc,_⟩:=hr;cases hs:s with
  |none=>
   rw[hs] at hc;obtain⟨⟨x,h1,h2⟩,⟨y,h3,h4⟩,_⟩:=hc;exact⟨rfl,⟨⟨x,h1,h2⟩,⟨y,h3,h4⟩,trivial⟩,trivial⟩
  |some q=>
   rw[hs] at hc;obtain⟨⟨x,h1,_⟩,⟨y,h3,⟨H,K,n,l,g3,S,_,N,O,g6⟩⟩,_⟩:=hc;obtain⟨bj',ck,e1,e2,e3,e4⟩:=a.cells (Z q hs) (by decide:(1:Nat)≠0);rw[n] at e1;cases e1;refine⟨rfl,⟨⟨x,h1,trivial⟩,⟨y,h3,⟨some ⟨H,0,none⟩,K,by rw[l,dm],by rw[dm];exact g3,S,.inr ⟨H,0,1,rfl,⟨N,O⟩,E j _ H 1 (Z q hs) n (.inr rfl),oY e3⟩⟩⟩,trivial⟩,trivial⟩
 refine .inr ⟨f, #[.pointer (some ⟨b,0,none⟩)],fG ho h1 u (by rw[h3];simp[L]) h7.enters,(h7.calls (MM z β hp2) w _ (a.fit.sub hM) t).mono ?_⟩;rintro e w' ⟨y,rfl,hy,hb⟩;have F:=a.ext hb;exact⟨y,rfl,β,F.1,hy,F.2,fun _ _=>rfl⟩
end
end
section
variable {P:Program}{M0:Nat→Prop}{w0:Base}{β:Nat→Option (Nat×Nat)}{hp:Nat→Option ABlk}{w w':World}
theorem RVkv.snoc{M:Nat→Prop}:∀{es:List (List AV)} {ens:List MapEntry} {x:List AV} {e:MapEntry},RVkv M β w es ens→RVs M β w x [e.key,e.val]→RVkv M β w (es++[x]) (ens++[e])
 |[],ens,x,e,h,hx=>by cases (h:ens=[]);exact⟨e,[],rfl,hx,rfl⟩
 |y::es,ens,x,e,⟨e',es',he,h1,h2⟩,hx=>by subst he;exact⟨e',es'++[e],rfl,h1,RVkv.snoc h2 hx⟩
def BN(kd:IntKind)(k:Int):List (List AV)→Bool
 |[]=>true
 |[.v (.int kd' k'),_]::l=>decide (kd=kd') && !decide (k=k') && BN kd k l
 |_=>false
theorem zx{M:Nat→Prop}{kd kd0:IntKind}{k:Int}:∀{es:List (List AV)} {ens:List MapEntry} (i:Nat),BN kd k es=true→RVkv M β w es ens→Instr.findNow (.int kd0) (.int kd k) ens i=some none
 |[],ens,i,_,h=>by cases (h:ens=[]);rfl
 |[.v (.int kd' k'),a]::es,ens,i,hn,⟨e,es',he,⟨x,xs,e1,hx,_⟩,h2⟩=>by
  subst he;simp only[BN,Bool.and_eq_true,decide_eq_true_eq,Bool.not_eq_true',decide_eq_false_iff_not] at hn;obtain⟨⟨rfl,h1⟩,c⟩:=hn;cases e1;have b:e.key= .int kd k':=hx;have hs:Instr.sameNow (.int kd0) (.int kd k) e.key=some false:=by rw[b];simp[Instr.sameNow,h1]
  simp only[Instr.findNow,hs];exact zx (i+1) c h2
section
variable {id:Nat}{ev:Operand→Option AV}{T kt e:Nat}{kd:IntKind}
def DP(kd:IntKind)(k:Int):List Value→Option Nat
 |[]=>none
 | .int kd' k'::l=>if kd=kd' then(if k=k' then some 0 else(DP kd k l).map (· +1)) else none
 |_=>none
def DF(k:Int):List Value→Bool
 |[]=>true
 | .int _ k'::l=>!decide (k=k') && DF k l
 |_=>false
theorem tY{k:Int}:∀{l:List Value},DF k l=true→Value.int kd k∉l
 |[],_=>by simp
 |c::l,h=>by
  cases c <;> simp only[DF,Bool.false_eq_true,Bool.and_eq_true,Bool.not_eq_true',decide_eq_false_iff_not] at h;intro a;rcases List.mem_cons.1 a with e|e
  cases e;exact h.1 rfl;exact tY h.2 e
def pu(kd:IntKind):List Value→Bool
 |[]=>true
 | .int kd' k'::l=>decide (kd=kd') && DF k' l && pu kd l
 |_=>false
theorem v7{M:Nat→Prop}{k:Int}:∀{ks:List Value} {vs:List AV} {l:List MapEntry} (n:Nat) (a:AV),l.map (·.key)=ks→RVs M β w vs (l.map (·.val))→DP kd k ks=some n→vs[n]?=some a→∃e,e∈l∧e.key= .int kd k∧RV M β w a e.val
 |[],_,_,_,_,_,_,h,_=>by cases h
 |c::ks,vs,[],n,a,h1,_,_,_=>by grind
 |c::ks,[],e::l,n,a,h1,h2,_,_=>by grind
 |c::ks,u::vs,e::l,n,a,h1,⟨x,xs,e1,g1,g2⟩,h3,h4=>by
  simp only[List.map_cons,List.cons.injEq] at h1 e1;obtain⟨hc,h1⟩:=h1;obtain⟨rfl,rfl⟩:=e1;cases c <;> simp only[DP,reduceCtorEq] at h3;split at h3
  ·rename_i f
   split at h3
   ·grind
   obtain⟨d,b,rfl⟩:=Option.map_eq_some_iff.1 h3;obtain⟨m,j,i,g⟩:=v7 d a h1 g2 b (by grind);grind
  grind
theorem ny:∀{ks:List Value},pu kd ks=true→ks.Nodup∧∀k∈ks,∃n,k= .int kd n
 |[],_=>⟨List.nodup_nil,fun _ h=>by cases h⟩
 |c::ks,h=>by
  cases c <;> simp only[pu,Bool.false_eq_true,Bool.and_eq_true,decide_eq_true_eq] at h;obtain⟨⟨rfl,h1⟩,a⟩:=h;obtain⟨i1,i2⟩:=ny a;exact⟨List.nodup_cons.2 ⟨tY h1,i1⟩,fun k b=>((by grind))⟩
theorem Aj{kd0:IntKind}{k:Int}{e:MapEntry}:∀{l:List MapEntry} (i:Nat),e∈l→e.key= .int kd k→(l.map (·.key)).Nodup→(∀x∈l.map (·.key),∃n,x= .int kd n)→∃j,Instr.findNow (.int kd0) (.int kd k) l i=some (some (j,e.val))
 |[],_,h,_,_,_=>by cases h
 |x::l,i,h,hk,hnd,hall=>by
  rw[List.map_cons,List.nodup_cons] at hnd;obtain⟨n,c⟩:=hall x.key (List.mem_cons_self ..);by_cases hkn:k=n;subst hkn;have b:e=x:=by grind
  subst b;exact⟨i,by simp[Instr.findNow,Instr.sameNow,c]⟩;have a:e≠x:=fun b=>by grind
  have hs:Instr.sameNow (.int kd0) (.int kd k) x.key=some false:=by rw[c];simp[Instr.sameNow,hkn]
  obtain⟨j,f⟩:=Aj (kd0:=kd0) (i+1) ((List.mem_cons.1 h).resolve_left a) hk hnd.2 (fun y d=>hall y (List.mem_cons_of_mem _ d));exact⟨j,by simp only[Instr.findNow];grind⟩
theorem AEval.lookup{x ix:Operand}{ks:List Value}{vs:List AV}{kk:Int}{n:Nat}{a:AV}(h1:ev x=some (.mp ks vs))(h3:ev ix=some (.v (.int kd kk)))(hT:P.underlying T=some (.map kt e))(hK:P.underlying kt=some (.int kd))(hn:DP kd kk ks=some n)(ha:vs[n]?=some a)(hg:pu kd ks=true):
    AEval P id ev hp (.lookup T x ix false) ⟨a,[]⟩ []:=by
 refine .sem fun N L β C w ρ o J c b h m A d z=>?_;obtain⟨r,t,H,M,q,_,l,p,i,g3⟩:=b x (by simp[Op.operands]) _ h1;have K:ρ ix= .int kd kk:=b ix (by simp[Op.operands]) _ h3;obtain⟨g,G,u,D⟩:=v7 n a i g3 hn ha;obtain⟨B,F⟩:=ny hg;have hp:=p.map (fun e:MapEntry=>e.key);rw[i] at hp;obtain⟨j,E⟩:=Aj (kd0:=kd) 0 (p.mem_iff.1 G) u (hp.nodup_iff.1 B) (fun y s=>F y (hp.mem_iff.2 s));refine .pure (y:=g.val) c ?_ D
 have f:(Instr.lookup T (.map (some r)) (.int kd kk) false).run P w= .ok g.val w:=by
  simp[Instr.lookup,run_underlying hT,MapKept.run_getObj_map q,MapKept.run_checkKey (k:= .int kd kk) hK (by simp[MapKept.IsKey]),MapKept.run_findKey hK E]
 simp only[execOp];simp_all
end
end
section
variable {P:Program}{ops:Array Oper}{nx n j:Nat}{rest:List Oper}{fr:Fr}{hp:Hp}{K:Fps→Fr→Hp→Prop}
variable {d:Nat}{op:Op}{ty:Nat}{pos:String}{after:Array Edge}{a:AV}{p q s:Nat×Option ABlk}{rd:List Nat}
theorem AR.op3 (hs:AEval P (nx+j) (evF (look fr)) (an hp) op ⟨a,[p,q,s]⟩ rd) (hnd:bU op=true) (hd:Nat.blt d n=true)
    (h:AR P ops nx n (j+1) rest ((d,a)::fr) (s::q::p::hp) fun fps f h=>K (([p.1,q.1,s.1],rd)::fps) f h):AR P ops nx n j (⟨some d,op,ty,pos,after,none⟩::rest) fr hp K:=
 AR.cons ⟨bq hnd,hs⟩ hd h
end
abbrev tx(t:List UInt8):AV:= .v (.string ⟨t.toArray⟩)
def iR(t:List UInt8):List Value:=t.map fun b=> .int .u8 b.toNat
section
variable {P:Program}{w:World}
theorem nX(t:List UInt8)(w:World):(Builtin.firstCells 1 t.length (.string ⟨t.toArray⟩)).run P w= .ok (iR t).toArray w:=by
 have hs:(⟨t.toArray⟩:ByteArray).size=t.length:=by simp[ByteArray.size]
 have a:(⟨t.toArray⟩:ByteArray).extract 0 t.length=⟨t.toArray⟩:=by rw[←hs];simp
 simp only[Builtin.firstCells];simp[iR]
theorem ky {T T' E bs sz:Nat} {zs:List Value} (h1:ec P T=some (E,sz)) (h2:P.underlying T'=some .string) (h3:fT P E=some zs) (h4:r6 P E=some bs)
    {base:Option Addr} {n c m:Nat} {s:ByteArray} {old new:Array Value} (hm:s.size=m) (hgrow:c< n+m) (hroom:(n+m) * bs≤140737488355328) (h63:n+m≤maxLen- 1) (ty:TypeId)
    (hold:∀w',w'.heap=w.heap→(Builtin.firstCells sz n (.slice base n c)).run P w'= .ok old w') (hnew:∀w',w'.heap=w.heap→(Builtin.firstCells sz m (.string s)).run P w'= .ok new w'):
    ∃nc z,n+m≤nc∧nc< 2^ 63∧z.toList=zs∧(Builtin.append_ #[T,T'] ty #[.slice base n c,.string s]).run P w=
     .ok (.slice (some ⟨w.heap.size,0,none⟩) (n+m) nc) (w.drew.alloc (.cells (old++new++Builtin.zeroCells z (nc- (n+m))) E)):=by
 obtain⟨u,o⟩:=dH h1;obtain⟨f,z,i1,i2,t,y,x⟩:=xK o h3 h4;have g:n+m< 2^ 63:=by unfold maxLen at h63;omega
 obtain⟨j,k⟩:=Ei (need:=n+m) (old:=c) (e:=E) (w.tape w.drawn (.appendCap (n+m) c E)) g;refine⟨(Question.appendCap (n+m) c E).cut (w.tape w.drawn (.appendCap (n+m) c E)),z.cells,j,k,t,?_⟩;have l:=growslice_fits hgrow hroom
 have i:¬((n:Int)+(m:Int)> IntKind.i64.max):=by
  have:IntKind.i64.max=9223372036854775807:=by decide
  grind
 have p:¬(n+m≤c):=by omega
 have q:∀w:World,({w with drawn:=w.drawn+1}:World)=w.drew:=fun _=>rfl;have r:=hold w.drew rfl;have v:=hnew w.drew rfl;have a:(Question.appendCap (n+m) c E).forced=false:=rfl;have b:¬(((n+m:Nat):Int)> IntKind.i64.max∧(False∨f.bytes=0)):=fun h=>i (by grind);have d:¬(Builtin.nextslicecap (n+m) c* f.bytes> 2^ 48):=by grind
 unfold Builtin.append_
 simp only[List.getElem?_toArray,List.getElem?_cons_zero,List.getElem?_cons_succ,Sem.run_bind,run_underlying u w,run_underlying h2 w,Result.andThen_ok,run_sizeOf' o,Sem.run_pure,
  Bool.false_eq_true,if_false,Builtin.lenOf,hm,p,typeInfo,run_program,i1,b,d,run_choose,a,q,run_askRoom,Bool.not_false,if_true,r,v,zeroValue,i2,newRow,run_newObj]
 rfl
theorem qq {T T' E sz:Nat} (h1:ec P T=some (E,sz)) (h2:P.underlying T'=some .string)
    {b off n c m:Nat} {s:ByteArray} {new:Array Value} (hm:s.size=m) (hroom:n+m≤c) (ty:TypeId) (hnew:(Builtin.firstCells sz m (.string s)).run P w= .ok new w) {w':World}
    (hst:(storeCells ⟨b,off+n* sz,none⟩ new.toList).run P w= .ok () w'):
    (Builtin.append_ #[T,T'] ty #[.slice (some ⟨b,off,none⟩) n c,.string s]).run P w= .ok (.slice (some ⟨b,off,none⟩) (n+m) c) w':=by
 obtain⟨a,d⟩:=dH h1;unfold Builtin.append_
 simp only[List.getElem?_toArray,List.getElem?_cons_zero,List.getElem?_cons_succ,Sem.run_bind,run_underlying a w,run_underlying h2 w,Result.andThen_ok,run_sizeOf' d,Sem.run_pure,
  Bool.false_eq_true,if_false,Builtin.lenOf,hm,hroom,Bool.not_false,if_true,hnew,jU,hst]
end
theorem wu{M:Nat→Prop}{β:Nat→Option (Nat×Nat)}{w:World}(t:List UInt8):Flat M β w 1 (bE t) (iR t):=by
 refine⟨by simp[iR,bE],fun i e a=>?_⟩;simp only[bE,List.getElem?_map,Option.map_eq_some_iff] at a;obtain⟨x,c,rfl⟩:=a;refine⟨[.int .u8 x.toNat],⟨_,_,rfl,rfl,rfl⟩,rfl,fun j v b=>?_⟩;cases j with
 |zero=>simp only[List.getElem?_cons_zero,Option.some.injEq] at b;subst b;simp[iR,c]
 |succ j=>grind
section
variable {P:Program}{id:Nat}{ev:Operand→Option AV}{hp:Nat→Option ABlk}{c:Call}{x y:Operand}{T T' E:Nat}{t q:List UInt8}{zs:List Value}
theorem AEval.appS_e (h1:c.callee= .builtin .append) (h2:c.args= #[x,y]) (h3:c.argTypes= #[T,T']) (h4:ec P T=some (E,1)) (h5:P.underlying T'=some .string) (h6:ev x=some .emp) (h7:ev y=some (tx t)) (h9:t≠[])
    (h10:fT P E=some zs) (h11:zs.length=1) (h12:r6 P E=some 1) (h13:t.length≤140737488355328):
    AEval P id ev hp (.call c) ⟨.lsl id 0 t.length none 1,[(id,some ⟨E,1,bE t⟩)]⟩ []:=by
 refine .sem fun V w0 β D w ρ o K B q G u A h O=>?_
 have f:∀z,z∈(Op.call c).operands↔z∈[x,y]:=by
  intro z;simp[Op.operands,Call.operands,h1,h2]
 obtain⟨b,R⟩:=q x ((f _).2 (by simp)) _ h6;have L:ρ y= .string ⟨t.toArray⟩:=q y ((f _).2 (by simp)) _ h7;have F:0< t.length:=by grind
 have p:∀g:World,g.heap=w.heap→(Builtin.firstCells 1 0 (.slice b 0 0)).run P g= .ok #[] g:=by
  intro g _;cases b with
  |none=>rfl
  |some Y=>simp[Builtin.firstCells,loadCells,loadCellsFrom]
 have d:Flat (MM V β D) β w 1 (bE t) (iR t):=wu t;obtain⟨r,z,Z,g2,g3,S⟩:=ky (w:=w) (n:=0) (m:=t.length) (c:=0) (s:=⟨t.toArray⟩) (base:=b) h4 h5 h10 h12 (by simp[ByteArray.size]) (by omega) (by omega) (by unfold maxLen;omega) o.type p (fun g _=>nX t g);have C:z.size=1:=by grind
 have l:=B.ext ((Below.refl w.heap.size w).drew)
 have a:=l.1.alloc (i:=id) (ty:=E) (s:=1) (es:=bE t) (cs:= #[]++(iR t).toArray++Builtin.zeroCells z (r- (0+t.length))) Nat.one_ne_zero u A h (fun k e W=>by
  obtain⟨Q,X,M,r3⟩:=d.2 k e W;refine⟨Q,l.2.vs X,M,fun j v H=>?_⟩;grind) (by simp[d.1])
 refine .inl ⟨.slice (some ⟨w.heap.size,0,none⟩) t.length r,_,_,.inl ?_,a.1,⟨w.heap.size,r,a7 _ _ _,by simp,by omega,by unfold maxLen;omega,(fun k hk=>by grind),r* 1,?_,by simp⟩,⟨⟨fun J N hN U=>(a.2.heap J N hN U),a.2.m,a.2.be,a.2.sz⟩,a.2.oth⟩,fun j H=>bh _ _ H⟩;simp only[execOp,K,resolve,h1,h2,Sem.run_bind,Sem.run_pure,Result.andThen_ok,invoke,builtin,List.map_toArray,List.map_cons,List.map_nil,R,L,h3,S,Nat.zero_add];unfold aR;have:(w.drew.alloc (.cells (#[]++(iR t).toArray++Builtin.zeroCells z (r- (0+t.length))) E)).heap[w.heap.size]?=_:=heap_alloc_new' w.drew _;rw[this];simp only[Array.size_append,List.size_toArray,List.length_nil,gH,C,Option.some.injEq];have:(iR t).length=t.length:=by simp[iR]
 omega
theorem AEval.appS_l {i n:Nat} {cap:Option Nat} (h1:c.callee= .builtin .append) (h2:c.args= #[x,y]) (h3:c.argTypes= #[T,T']) (h4:ec P T=some (E,1)) (h5:P.underlying T'=some .string) (h6:ev x=some (.lsl i 0 n cap 1)) (h7:hp i=some ⟨E,1,bE q⟩) (hn:n=q.length) (h13:ev y=some (tx t))
    (h15:fT P E=some zs) (h16:zs.length=1) (h17:r6 P E=some 1) (h18:q.length+t.length≤140737488355328):
    AEval P id ev hp (.call c) ⟨.lsl id 0 (q++t).length none 1,[(i,none),(id,some ⟨E,1,bE (q++t)⟩)]⟩ [i]:=by
 subst hn;refine .sem fun M0 w0 β hp' w ρ o ho K W hcst l X h hrd=>?_
 have A:∀z,z∈(Op.call c).operands↔z∈[x,y]:=by
  intro z;simp[Op.operands,Call.operands,h1,h2]
 have hi:hp' i=some ⟨E,1,bE q⟩:=(hrd i (by simp)).trans h7;have R:=W x ((A _).2 (by simp)) _ h6;have hy:ρ y= .string ⟨t.toArray⟩:=W y ((A _).2 (by simp)) _ h13
 have F:SrcOf hp' 1 (.lsl i 0 q.length cap 1) (bE q) [i]:=by
  have:=SrcOf.lsl (s:=1) (hp:=hp') (i:=i) (e:=0) (n:=q.length) (cap:=cap) (B:=⟨E,1,bE q⟩) (dP hi Nat.one_ne_zero) (by simp[bE]);simpa[dm,List.take_of_length_le] using this
 obtain⟨L,V,a,⟨a0,M⟩,_,H⟩:=F.run (P:=P) K R;obtain⟨b,c2,hb,J,hnc,Z,hcap,N,hN,C⟩:=R;rw[M,dm] at J;simp only[Value.slice.injEq,true_and] at J;obtain⟨rfl,rfl⟩:=J;have f:Flat (MM M0 β hp') β w 1 (bE t) (iR t):=wu t;have hne:i≠id:=fun e=>by grind
 simp only[Nat.zero_mul] at M C;rw[Nat.zero_add] at C;rw[dm] at M
 have Y:∀v∈iR t,v.oneCell'=true:=by
  intro v hv;obtain⟨u,_,rfl⟩:=List.mem_map.1 hv;rfl
 by_cases hroom:q.length+t.length≤V;have hle:(q.length+t.length) * 1≤N:=by omega
 obtain⟨w',r1,r2,r3,r4⟩:=K.storeEls (P:=P) (i:=i) (B:=⟨E,1,bE q⟩) (e:=q.length) (fs:=bE t) (es':=bE (q++t)) Nat.one_ne_zero hi hb f Y hN (by rw[dm];grind) (fun p el hp=>by
  rw[wI] at hp;rw[dm];by_cases hql:p< q.length;rw[List.getElem?_append_left (by rw[dm];exact hql)] at hp;exact .inr ⟨.inl hql,hp⟩;rw[List.getElem?_append_right (by rw[dm];omega),dm] at hp;have:=(List.getElem?_eq_some_iff.1 hp).1;rw[dm] at this;exact .inl ⟨by omega,by omega,hp⟩) (by rw[dm,List.length_append];exact hle)
 have D:=r2.rename (i:=i) (id:=id) (B:=⟨E,1,bE (q++t)⟩) (a7 _ _ _) hb l X (by rw[bh _ _ (fun e=>hne e.symm)];exact h);rw[oH] at D;refine .inl ⟨.slice (some ⟨b,0,none⟩) (q.length+t.length) V,w',_,.inl ?_,D.1,⟨b,V,a7 _ _ _,by simp,by simpa using hroom,Z,(fun k hk=>by cases hk),N,r3.sz b N hN,by rw[Nat.zero_add];exact C⟩,r3.trans D.2 (by omega),fun j d=>bh _ _ d⟩;have hr:=qq (P:=P) (w:=w) (w':=w') (b:=b) (off:=0) (n:=q.length) (m:=t.length) (c:=V) (s:=⟨t.toArray⟩) (new:=(iR t).toArray) h4 h5 (by simp[ByteArray.size]) hroom o.type (nX t w) (by simpa using r1);simp only[execOp,ho,resolve,h1,h2,Sem.run_bind,Sem.run_pure,Result.andThen_ok,invoke,builtin,List.map_toArray,List.map_cons,List.map_nil,M,hy,h3,hr];have r:=H (bE q).length (Nat.le_refl _);have Q:(bE q).length* 1=L.length:=a.1.symm;rw[M,Q,List.take_length,dm] at r;obtain⟨U,z,g1,g2,g3,hr⟩:=ky (w:=w) (n:=q.length) (m:=t.length) (c:=V) (s:=⟨t.toArray⟩) (base:=some ⟨b,0,none⟩) h4 h5 h15 h17 (by simp[ByteArray.size]) (by omega) (by omega) (by unfold maxLen;omega) o.type r (fun w' _=>nX t w');have hzs:z.size=1:=by rw[←Array.length_toList,g3];exact h16
 have G:=K.ext ((Below.refl w.heap.size w).drew);have g:=(f.append a).stab G.2.toStabC;rw[←wI] at g;have hbl:(iR t).length=t.length:=by simp[iR]
 rw[dm] at Q
 have O:=G.1.alloc (i:=id) (ty:=E) (s:=1) (es:=bE (q++t)) (cs:=L.toArray++(iR t).toArray++Builtin.zeroCells z (U- (q.length+t.length))) Nat.one_ne_zero l X h (fun k e he=>by
  obtain⟨ys,q1,q2,q3⟩:=g.2 k e he;refine⟨ys,q1,q2,fun j v d=>?_⟩;have h4:=q3 j v d;have hlt:=(List.getElem?_eq_some_iff.1 h4).1;rw[Array.getElem?_append_left (by simpa using hlt)];simpa using h4) (by rw[dm];simp;omega)
 have S:=O.1.forget (hp':=upd (upd hp' i none) id (some ⟨E,1,bE (q++t)⟩)) (fun j B' d=>by
  by_cases hji:j=id;subst hji;rw[a7] at d⊢;exact d;rw[bh _ _ hji] at d⊢;by_cases hj2:j=i;subst hj2;rw[a7] at d;cases d;rw[bh _ _ hj2] at d;exact d)
 refine .inl ⟨.slice (some ⟨w.heap.size,0,none⟩) (q.length+t.length) U,_,_,.inl ?_,S.1,⟨w.heap.size,U,a7 _ _ _,by simp,by simp;omega,by unfold maxLen;omega,(fun k hk=>by cases hk),U* 1,?_,by simp⟩,(G.2.trans O.2 (Nat.le_refl _)).trans S.2 (by simp),fun j d=>bh _ _ d⟩;simp only[execOp,ho,resolve,h1,h2,Sem.run_bind,Sem.run_pure,Result.andThen_ok,invoke,builtin,List.map_toArray,List.map_cons,List.map_nil,M,hy,h3,hr];unfold aR;have:(w.drew.alloc (.cells (L.toArray++(iR t).toArray++Builtin.zeroCells z (U- (q.length+t.length))) E)).heap[w.heap.size]?=_:=heap_alloc_new' w.drew _;rw[this];simp only[Array.size_append,List.size_toArray,gH,hzs,Option.some.injEq];omega
end
section
variable {P:Program}{M0:Nat→Prop}{w0:Base}{w:World}{ops:Array Oper}{id n:Nat}{fr:Nat→Option AV}{hp:Nat→Option ABlk}{o:Oper}{u:Upd}{rd:List Nat}{a:Act}{ρ:Option Nat}{Q:Exit→Act→World→Prop}{β:Nat→Option (Nat×Nat)}
theorem AStep.simF (h:AStep P ops id fr hp o u rd) (mem:Mem M0 w0 β hp w) (hfr:∀t x,fr t=some x→RV (MM M0 β hp) β w x (gG w0 a t)) (hidn:β id=none) (hid0:id≠0) {K:Act→World→Prop}
    (fin:∀y w' β',mG M0 w0 β hp w id u y w' β'→K (a.put o.dst y) w'):
    if Region.wanted o (yielded ops a.tmps) then o.wpIn (FR ρ) 0 P a w K Q else(∀f,o.about P w a.eval=some f→(FR ρ).fn f)∧K (a.put o.dst undef) w:=by
 have l:hp id=none:=by
  cases m:hp id with
  |none=>rfl
  |some B=>obtain⟨b,hb,_⟩:=mem.blk id B m;rw[hidn] at hb;cases hb
 have run:AEval P id (evF fr) hp o.op u rd→o.wpIn (FR ρ) 0 P a w K Q:=by
  intro r;refine⟨fun _ _=>trivial,?_⟩;rw[Oper.semAt_eq _ _ _ h.1];rcases r.good (ρ:=a.eval) (o:=o) mem (fv hfr) (fun _=>rfl) hid0 hidn l rfl with⟨y,w',β',c,i⟩|⟨f,z,c,j⟩
  rcases c with c|⟨c,rfl⟩
  rw[c];exact fin y w' β' i;rw[c];exact fin undef w' β' i;rw[c];refine⟨fun m=>by simp[FR] at m,sT (j.mono ?_)⟩;rintro e w' ⟨y,rfl,β',i⟩;exact fin y w' β' i
 have skip:u=⟨.v undef,[]⟩→K (a.put o.dst undef) w:=by
  rintro rfl;exact fin undef w β ⟨mem,rfl,.refl,fun _ _=>rfl⟩
 have p:=h.2;cases hg:o.guard with
 |none=>
  rw[hg] at p;rw[if_pos (by simp[Region.wanted,hg])];exact run p
 |some A=>
  obtain⟨g,n⟩:=A;rw[hg] at p;obtain⟨t,x,ht,C,hc⟩:=p;have d:a.tmps.getD t undef=x:=fv hfr (.tmp t) _ C
  have q:yielded ops a.tmps g=fX x:=by
   simp only[yielded,ht,Option.bind_some];cases htt:a.tmps[t]? with
   |none=>
    rw[Array.getD_eq_getD_getElem?,htt] at d;subst d;rfl
   |some y=>
    rw[Array.getD_eq_getD_getElem?,htt] at d;simp only[Option.getD_some] at d;subst d;cases y <;> rfl
  have s:Region.wanted o (yielded ops a.tmps)=true↔fX x=some n:=by
   simp only[Region.wanted,hg,q,beq_iff_eq]
  rcases hc with⟨k,r⟩|⟨k,D,_⟩
  rw[if_pos (s.2 k)];exact run r;rw[if_neg (fun m=>k (s.1 m))];exact⟨fun _ _=>trivial,skip D⟩
end
section
variable {P:Program}{ops:Array Oper}{us:List (Upd×List Nat)}{anc:Nat→Nat→Bool}{nx n:Nat}{fr0:Nat→Option AV}{hp0:Nat→Option ABlk}{ρ:Option Nat}{Q:Exit→Act→World→Prop}{rid:Nat}
variable {X:List Nat→(Nat→Prop)→Base→(Nat→Option (Nat×Nat))→Act→World→Prop}{gh:Nat→Value}
def FX(gh:Nat→Value)(fr:Nat→Option AV)(hp:Nat→Option ABlk)(free:Nat→Prop)(n:Nat)(X:(Nat→Prop)→Base→(Nat→Option (Nat×Nat))→Act→World→Prop)(a:Act)(w:World):Prop:=
 ∃M0 w0 β,Mem M0 w0 β hp w∧w0.gh=gh∧a.tmps.size=n∧(∀t x,fr t=some x→RV (MM M0 β hp) β w x (gG w0 a t))∧(∀i,free i→β i=none∧i≠0)∧DefOK a.defers w0 w∧X M0 w0 β a w
theorem yT{w0 w1:Base}(h:w1.gh=w0.gh)(a:Act)(t:Nat):gG w1 a t=gG w0 a t:=by unfold gG;rw[h]
end
end Go.Abs
