/- Part S07 of the proof. -/
import Derived.Test.YtkhclghbcicapaaGreatDoorS06
import Derived.MapKept
import Derived.Lib.UnsafeStr
set_option linter.all false
namespace Go.Abs
open Go.RowKit
def bE(s:List UInt8):List (List AV):=s.map fun c=>[.v (.int .u8 c.toNat)]
theorem da(s:List UInt8):(bE s).length=s.length:=by simp[bE]
theorem v7(s:List UInt8):∀e∈bE s,∀c∈e,Closed c:=by
 intro e a c hc;obtain⟨x,_,rfl⟩:=List.mem_map.1 a;rw[List.mem_singleton.1 hc];exact ag _
theorem wb(s t:List UInt8):bE (s++t)=bE s++bE t:=by simp[bE]
def ed(i j:Nat):Option (List UInt8)→List AV
 |none=>[.v (.pointer none),.emp]
 |some s=>[.lptr i 0 0,.lsl j 0 s.length none 1]
def updB(tB tb i j id:Nat)(s:Option (List UInt8))(t:List UInt8):List (Nat×Option ABlk):=
 match s with
 |none=>[(i,some ⟨tB,2,[ed i id (some t)]⟩),(id,some ⟨tb,1,bE t⟩)]
 |some _=>[(j,none),(i,some ⟨tB,2,[ed i id (some t)]⟩),(id,some ⟨tb,1,bE t⟩)]
def Pure(a:AV):Prop:=∀(M M':Nat→Prop) β β' w w' y,RV M β w a y→RV M' β' w' a y
structure BSpec (P:Program)(f tB tb:Nat)(s:Option (List UInt8))(t:List UInt8)(args:List AV)(r:AV):Prop where
 cl:∀a∈args,Closed a
 enters:∀(xs:Array Value) (w:World),(callFunc f xs).run P w= .ok (.enter f xs) w
 calls:∀(M0:Nat→Prop) (w0:Base) (β:Nat→Option (Nat×Nat)) (hp:Nat→Option ABlk) (w:World) (id i j:Nat) (y0:Value) (vals:List Value),Mem M0 w0 β hp w→id≠0→β id=none→hp id=none→hp i=some ⟨tB,2,[ed i j s]⟩→
  (∀q,s=some q→hp j=some ⟨tb,1,bE q⟩∧i≠j)→RV (MM M0 β hp) β w (.lptr i 0 0) y0→RVs (MM M0 β hp) (fun _=>none) w args vals→
  Calls P f (y0::vals).toArray w fun x w'=> ∃y,x= .returned y∧∃β',mM M0 w0 β hp w id ⟨r,updB tB tb i j id s t⟩ y w' β'
section
variable {P:Program}{M0:Nat→Prop}{w0:Base}{β:Nat→Option (Nat×Nat)}{hp:Nat→Option ABlk}{w w':World}
theorem Mem.two (h:Mem M0 w0 β hp w) {i id b bk tB tb:Nat} {B:ABlk} {D:Nat→Prop} {es es2:List (List AV)} {hp2:Nat→Option ABlk} {cs ck:Array Value} (hi:hp i=some B) (hb:β i=some (b,2)) (hid0:id≠0) (hid:β id=none) (hidh:hp id=none)
    -- hp2:the blocks but for those that are given up
    (hsub:∀x X,hp2 x=some X→hp x=some X) (h2i:hp2 i=some B) (hD:∀x,D x→x=b∨∃m X s,hp m=some X∧β m=some (x,s)∧(hp2 m=none)) (hDb:D b)
    (os:w'.os=w.os∧w'.tape=w.tape∧w'.output=w.output) (size:w.heap.size≤w'.heap.size) (block:∀x,x< w.heap.size→¬D x→w'.heap[x]?=w.heap[x]?) (sizes:∀x n,aN w x=some n→aN w' x=some n)
    (hbk:bk< w'.heap.size) (hbkn:w.heap.size≤bk∨(D bk∧bk≠b))
    (hcs:w'.heap[b]?=some (.cells cs tB (0,0))) (hck:w'.heap[bk]?=some (.cells ck tb (0,0)))
    (hes:∀M β2,(∀m x,β m=some x→β2 m=some x)→β2 id=some (bk,1)→RVess M β2 w' b 2 es 0) (hes2:∀M β2,RVess M β2 w' bk 1 es2 0) (hl:es.length* 2≤cs.size) (hl2:es2.length* 1≤ck.size):
    Mem M0 w0 (upd β id (some (bk,1))) (upd (upd hp2 i (some ⟨tB,2,es⟩)) id (some ⟨tb,1,es2⟩)) w'∧
     Stab (MM M0 β hp) (MM M0 (upd β id (some (bk,1))) (upd (upd hp2 i (some ⟨tB,2,es⟩)) id (some ⟨tb,1,es2⟩))) β (upd β id (some (bk,1))) w w':=by
 obtain⟨β2,z⟩:∃x,x=upd β id (some (bk,1)):=⟨_,rfl⟩;obtain⟨r,p⟩:∃x,x=upd (upd hp2 i (some (⟨tB,2,es⟩:ABlk))) id (some ⟨tb,1,es2⟩):=⟨_,rfl⟩;rw[←z,←p];have L:i≠id:=fun e=>by subst e;rw[hi] at hidh;cases hidh
 have A:∀m x,β m=some x→β2 m=some x:=fun m x a=>by
  rw[z,ba];exact a;intro e;subst e;rw[hid] at a;cases a
 have g:β2 id=some (bk,1):=by rw[z,aX]
 have J:r id=some ⟨tb,1,es2⟩:=by rw[p,aX]
 have U:r i=some ⟨tB,2,es⟩:=by rw[p,ba _ _ L,aX]
 have C:∀x,x≠id→x≠i→r x=hp2 x:=fun x h1 j=>by rw[p,ba _ _ h1,ba _ _ j]
 have y:∀x,x≠id→β2 x=β x:=fun x h1=>by rw[z,ba _ _ h1]
 -- what is not written
 have Z:∀m X c s,hp2 m=some X→m≠i→β m=some (c,s)→¬D c:=by
  intro m X c s a f hc q;rcases hD c q with rfl|⟨H,v,u,h1,j,F⟩
  exact f (h.inj m i X B c s 2 (hsub m X a) hi hc hb);have:=h.inj m H X v c s u (hsub m X a) h1 hc j;subst this;rw[a] at F;cases F
 have W:∀x,D x→¬w0.K x:=by
  intro x q;rcases hD x q with rfl|⟨H,v,u,_,j,_⟩
  exact(h.rng i _ 2 hb).1;exact(h.rng H x u j).1
 have R:¬w0.K bk:=by
  rcases hbkn with l|l
  intro t;have:=w0.lt bk t;have:=h.below.size;omega;exact W bk l.1
 have E:∀x,D x→MM M0 β hp x:=by
  intro x q;rcases hD x q with rfl|⟨H,v,u,h1,j,_⟩
  exact .inr ⟨i,B,2,hi,hb⟩;exact .inr ⟨H,v,u,h1,j⟩
 have Q:∀x,D x→∃N,aN w x=some N:=by
  intro x q
  have o:∀m X s,hp m=some X→β m=some (x,s)→∃N,aN w x=some N:=by
   intro m X s h1 j;obtain⟨b',e1,e2⟩:=h.blk m X h1;rw[j] at e1;cases e1;exact e2.size
  rcases hD x q with rfl|⟨H,v,u,h1,j,_⟩
  exact o i B 2 hi hb;exact o H v u h1 j
 have T:∀c,MM M0 β2 r c→MM M0 β hp c∨w.heap.size≤c:=by
  rintro c (hc|⟨m,X,s,h1,j⟩);exact .inl (.inl hc);by_cases a:m=id;subst a;rw[g] at j;cases j;rcases hbkn with l|l
  exact .inr l;exact .inl (E bk l.1);rw[y m a] at j;by_cases f:m=i;subst f;exact .inl (.inr ⟨m,B,s,hi,j⟩);rw[C m a f] at h1;exact .inl (.inr ⟨m,X,s,hsub m X h1,j⟩)
 have st:Stab (MM M0 β hp) (MM M0 β2 r) β β2 w w':=
  ⟨⟨fun c N hs a=>block c (b4 hs) fun q=>a (E c q),fun c N hs a=>(T c a).elim (fun h=>h) fun l=>by have:=b4 hs;omega,A,sizes⟩,
   fun c S l=>block c S fun q=>by obtain⟨N,hN⟩:=Q c q;rw[hN] at l;cases l⟩
 refine⟨⟨⟨os.1.trans h.below.os,os.2.1.trans h.below.tape,os.2.2.trans h.below.output,Nat.le_trans h.below.size size,fun k t=>(block k (Nat.lt_of_lt_of_le (w0.lt k t) h.below.size) fun q=>W k q t).trans (h.below.block k t),fun c n hs=>sizes c n (h.below.sizes c n hs)⟩,h.m0,
  fun m c s a=>?_,fun V=>?_,fun m X a=>?_,fun m k X Y c s u h1 j F O=>?_⟩,st⟩
 by_cases d:m=id;subst d;rw[g] at a;cases a;exact⟨R,hbk⟩;rw[y m d] at a;exact⟨(h.rng m c s a).1,Nat.lt_of_lt_of_le (h.rng m c s a).2 size⟩;rw[y 0 (Ne.symm hid0)];refine h.pin ?_;by_cases h0i:0=i;rw[h0i,hi];rfl;rw[C 0 (Ne.symm hid0) h0i] at V;obtain⟨X,hX⟩:=Option.isSome_iff_exists.1 V;rw[hsub 0 X hX];rfl;by_cases d:m=id;subst d;rw[J] at a;cases a;exact⟨bk,g,.inl ⟨Nat.one_ne_zero,ck,hck,hes2 _ _,hl2⟩⟩;by_cases f:m=i;subst f;rw[U] at a;cases a;exact⟨b,A _ _ hb,.inl ⟨(by decide:(2:Nat)≠0),cs,hcs,hes _ _ A g,hl⟩⟩;rw[C m d f] at a;obtain⟨c,e1,e2⟩:=h.blk m X (hsub m X a);exact⟨c,A _ _ e1,e2.stab st.toStabC (block c (h.rng m c _ e1).2 (Z m X c _ a f e1))⟩
 have o:∀m X c s,r m=some X→β2 m=some (c,s)→m≠id→∃v,hp m=some v∧β m=some (c,s)∧c≠bk:=by
  intro m X c s a hc d;rw[y m d] at hc;by_cases f:m=i;subst f;rw[hb] at hc;cases hc;refine⟨B,hi,hb,?_⟩;rintro rfl;rcases hbkn with l|l
  have:=(h.rng m _ 2 hb).2;omega;exact l.2 rfl;rw[C m d f] at a;refine⟨X,hsub m X a,hc,?_⟩;rintro rfl;rcases hbkn with l|l
  have:=(h.rng m _ s hc).2;omega;exact Z m X _ s a f hc l.1
 by_cases a:m=id;by_cases t:k=id;rw[a,t];subst a;rw[g] at F;cases F;obtain⟨_,_,_,G⟩:=o k Y _ u j O t;exact absurd rfl G;by_cases t:k=id;subst t;rw[g] at O;cases O;obtain⟨_,_,_,G⟩:=o m X _ s h1 F a;exact absurd rfl G;obtain⟨v,e1,e2,_⟩:=o m X c s h1 F a;obtain⟨Y',f1,f2,_⟩:=o k Y c u j O t;exact h.inj m k v Y' c s u e1 f1 e2 f2
theorem oD{M M':Nat→Prop}{β β':Nat→Option (Nat×Nat)}{b:Nat}:∀{t:List UInt8} {off:Nat},RVess M β w b 1 (bE t) off→RVess M' β' w b 1 (bE t) off
 |[],_,_=>trivial
 |_::_,_,⟨h0,⟨⟨x,h1,h2⟩,_⟩,h3⟩=>⟨h0,⟨⟨x,h1,h2⟩,trivial⟩,oD h3⟩
theorem vg {M M':Nat→Prop} {β β':Nat→Option (Nat×Nat)} {b i j i' j':Nat} {s:Option (List UInt8)} (hi:∀x,β i=some x→β' i'=some x) (hj:s≠none→∀x,β j=some x→β' j'=some x)
    (h:RVess M β w b 2 [ed i j s] 0):RVess M' β' w b 2 [ed i' j' s] 0:=by
 obtain⟨_,hc,_⟩:=h;cases s with
 |none=>
  obtain⟨⟨x,h1,a⟩,⟨y,d,c⟩,_⟩:=hc;exact⟨rfl,⟨⟨x,h1,a⟩,⟨y,d,c⟩,trivial⟩,trivial⟩
 |some q=>
  obtain⟨⟨x,h1,⟨b1,s1,a,d⟩⟩,⟨y,c,⟨b2,g,e,f⟩⟩,_⟩:=hc;exact⟨rfl,⟨⟨x,h1,⟨b1,s1,hi _ a,d⟩⟩,⟨y,c,⟨b2,g,hj (by simp) _ e,f⟩⟩,trivial⟩,trivial⟩
def hpB(tB tb:Nat):Option (List UInt8)→List (Nat×Option ABlk)
 |none=>[(0,some ⟨tB,2,[ed 0 1 none]⟩)]
 |some q=>[(0,some ⟨tB,2,[ed 0 1 (some q)]⟩),(1,some ⟨tb,1,bE q⟩)]
theorem qn(tB tb:Nat)(s:Option (List UInt8))(m:Nat):an (hpB tB tb s) m=if m=0 then some ⟨tB,2,[ed 0 1 s]⟩ else if m=1 then s.map fun q=>⟨tb,1,bE q⟩ else none:=by
 cases s with
 |none=>
  rw[hpB,cS];unfold upd;by_cases h0:m=0;rw[if_pos h0,if_pos h0];by_cases h1:m=1;rw[if_pos h1];rfl;rw[if_neg h1];rfl
 |some q=>
  rw[hpB,cS];unfold upd;by_cases h0:m=0;rw[if_pos h0,if_pos h0];rw[if_neg h0,if_neg h0,cS];unfold upd;by_cases h1:m=1;rfl;rfl
def dropJ(hp:Nat→Option ABlk)(j:Nat):Option (List UInt8)→Nat→Option ABlk
 |none=>hp
 |some _=>upd hp j none
theorem BSpec.intro {f:Nat} {fn:Func} {c:Code} {tB tb:Nat} {s:Option (List UInt8)} {t:List UInt8} {args:List AV} {r:AV} (hf:P.funcs[f]?=some fn) (hb:fn.body=some c) (hname:(fn.name== "runtime.NumGoroutine")=false)
    (hcl:∀a∈args,Closed a) (hpure:Pure r) (hn:args.length+1≤fn.ntmps)
    (h:AWp none P c (fun x st=>(x= .normal∨x= .ret)∧lr P fn.results.toList st r∧∃k,k≠0∧an st.hp 0=some ⟨tB,2,[ed 0 k (some t)]⟩∧an st.hp k=some ⟨tb,1,bE t⟩) ⟨(0,.lptr 0 0 0)::c5 1 args,hpB tB tb s,2,fn.ntmps⟩):BSpec P f tB tb s t args r:=by
 refine⟨hcl,fun xs w=>?_,fun M0 w0 β hp w id i j y0 vals mem hid0 hid hidh hi hj hy0 hargs=>?_⟩;have hname':¬fn.name= "runtime.NumGoroutine" :=by grind
 simp[callFunc,hf,hname',hb];refine(callsIn_wide (n:=0)).1 (callsIn_of_wp_marks (F:=Fence.wide) hf hb trivial ?_);have hlen:=hargs.length;obtain⟨b,sz0,hbi,rfl⟩:=hy0;obtain⟨b',cs,hbi',hh,hr,hl⟩:=mem.cells hi (by decide:(2:Nat)≠0);rw[hbi] at hbi';cases hbi';have hbi2:β i=some (b,2):=hbi
 -- the buffer
 have hbuf:∀q,s=some q→∃bj ck,β j=some (bj,1)∧w.heap[bj]?=some (.cells ck tb (0,0))∧RVess (MM M0 β hp) β w bj 1 (bE q) 0∧(bE q).length* 1≤ck.size∧bj≠b:=fun q hq=>by
  obtain⟨h1,h2⟩:=hj q hq;obtain⟨bj,ck,e1,e2,e3,e4⟩:=mem.cells h1 (by decide:(1:Nat)≠0);exact⟨bj,ck,e1,e2,e3,e4,fun e=>by subst e;exact h2 (mem.inj i j _ _ bj 2 1 hi h1 hbi2 e1)⟩
 let D:Nat→Prop:=fun x=>x=b∨(s≠none∧∃ss,β j=some (x,ss))
 let M0c:Nat→Prop:=fun x=>MM M0 β hp x∧¬D x
 let β0:Nat→Option (Nat×Nat):=fun m=>if m=0 then some (b,2) else if m=1∧s≠none then β j else none
 have hDm:∀x,D x→x< w.heap.size∧MM M0 β hp x:=by
  rintro x (rfl|⟨hs,ss,hx⟩);exact⟨(mem.rng i x 2 hbi2).2,.inr ⟨i,_,2,hi,hbi2⟩⟩;obtain⟨q,hq⟩:=Option.ne_none_iff_exists'.1 hs;exact⟨(mem.rng j x ss hx).2,.inr ⟨j,_,ss,(hj q hq).1,hx⟩⟩
 let bs:Base:=⟨w,fun x=>x< w.heap.size∧¬D x,fun _ h=>h.1,some (b,2),fun _=>undef,⟨mem.tab.lt,fun hd=>mem.nt (hDm GT hd).2⟩,mem.tab⟩
 have hβ00:β0 0=some (b,2):=rfl;have hβ01:s≠none→β0 1=β j:=fun hs=>by grind
 have hβ0c:∀m x ss,β0 m=some (x,ss)→D x∧(m=0∨m=1):=by
  grind
 have hmm:MM M0c β0 (an (hpB tB tb s))=MM M0 β hp:=by
  funext x;refine propext ⟨?_,fun hx=>?_⟩;rintro(hx|⟨m,B,ss,_,h2⟩);exact hx.1;exact(hDm x (hβ0c m x ss h2).1).2;by_cases hd:D x;rcases hd with rfl|⟨hs,ss,hx2⟩
  exact .inr ⟨0,⟨tB,2,[ed 0 1 s]⟩,2,by rw[qn];rfl,rfl⟩;obtain⟨q,hq⟩:=Option.ne_none_iff_exists'.1 hs;exact .inr ⟨1,⟨tb,1,bE q⟩,ss,by rw[qn,hq];rfl,(hβ01 hs).trans hx2⟩;exact .inl ⟨hx,hd⟩
 have hmem:Mem M0c bs β0 (an (hpB tB tb s)) w:=by
  refine⟨⟨rfl,rfl,rfl,Nat.le_refl _,fun _ _=>rfl,fun _ _ h=>h⟩,fun x hx=>⟨⟨mem.lt hx.1,hx.2⟩,fun e=>mem.nt (e▸hx.1)⟩,fun m x ss hm=>?_,(fun _=>rfl),fun m B hm=>?_,fun m k B B' x ss ss' h1 h2 h3 h4=>?_⟩;have:=hβ0c m x ss hm;exact⟨fun hk=>hk.2 this.1,(hDm x this.1).1⟩;rw[hmm];rw[qn] at hm;split at hm
  ·rename_i h0;subst h0;cases hm
   exact⟨b,rfl,.inl ⟨(by decide:(2:Nat)≠0),cs,hh,vg (i:=i) (j:=j) (fun x hx=>by rw[hbi2] at hx;cases hx;rfl) (fun hs x hx=>(hβ01 hs).trans hx) hr,hl⟩⟩
  split at hm
  ·rename_i h1;subst h1
   cases hs:s with
   |none=>rw[hs] at hm;cases hm
   |some q=>
    rw[hs] at hm;cases hm;obtain⟨bj,ck,e1,e2,e3,e4,_⟩:=hbuf q hs;exact⟨bj,(hβ01 (by rw[hs];simp)).trans e1,.inl ⟨(by decide:(1:Nat)≠0),ck,e2,oD e3,e4⟩⟩
  cases hm;have g1:=(hβ0c m x ss h3).2;have g2:=(hβ0c k x ss' h4).2
  have hne:∀ss ss',β0 0=some (x,ss)→β0 1=some (x,ss')→False:=fun ss ss' e1 e2=>by
   cases e1;cases hs:s with
   |none=>simp only[β0] at e2;rw[if_neg (by decide),if_neg (by rw[hs];simp)] at e2;cases e2
   |some q=>
    obtain⟨bj,ck,f1,_,_,_,f2⟩:=hbuf q hs;rw[hβ01 (by rw[hs];simp),f1] at e2;cases e2;exact f2 rfl
  rcases g1 with rfl|rfl <;> rcases g2 with rfl|rfl
  rfl;exact(hne _ _ h3 h4).elim;exact(hne _ _ h4 h3).elim;rfl
 have hrel:iJ M0c bs ⟨(0,.lptr 0 0 0)::c5 1 args,hpB tB tb s,2,fn.ntmps⟩ {tmps:=(Value.pointer (some ⟨b,0* 2+0,none⟩)::vals).toArray++Array.replicate (fn.ntmps- (Value.pointer (some ⟨b,0* 2+0,none⟩)::vals).toArray.size) undef,defers:=[]} w:=by
  refine⟨β0,hmem,by simp;omega,fun t x hx=>?_,fun m (hm:2≤m)=>⟨by simp only[β0];rw[if_neg (by omega),if_neg (by omega)],by omega⟩,⟨[],rfl,List.nodup_nil,by simp⟩⟩;show RV (MM M0c β0 (an (hpB tB tb s))) _ _ _ _;rw[hmm,ca rfl];rw[show(look ((0,.lptr 0 0 0)::c5 1 args) t=some x)↔(upd (look (c5 1 args)) 0 (some (.lptr 0 0 0)) t=some x) by rw[cj]] at hx;obtain⟨y0,hy0⟩:∃y0,y0=Value.pointer (some ⟨b,0* 2+0,none⟩):=⟨_,rfl⟩;rw[←hy0]
  have get:∀(k:Nat) (y:Value),(y0::vals)[k]?=some y→((y0::vals).toArray++Array.replicate (fn.ntmps- (y0::vals).toArray.size) undef).getD k undef=y:=by
   intro k y hk;have hlt:k< (y0::vals).length:=(List.getElem?_eq_some_iff.1 hk).1;rw[Array.getD_eq_getD_getElem?,Array.getElem?_append_left (by simpa using hlt)];simp only[List.getElem?_toArray];rw[hk];rfl
  unfold upd at hx;split at hx
  ·rename_i h0;subst h0;cases hx
   rw[get 0 y0 rfl];exact⟨b,2,rfl,by rw[hy0]⟩
  obtain⟨h1,y,h2,h3⟩:=fx hargs hx;rw[get t y (by rw[show t=(t- 1)+1 by omega,List.getElem?_cons_succ];exact h2)];exact StabC.all (w:=w) (w':=w) (M:=MM M0 β hp) (β:=fun _=>none) ⟨fun _ _ _ _=>rfl,fun _ _ _ h=>h,(fun _ _ h=>by cases h),fun _ _ h=>h⟩ h3
 refine wpIn_mono (h _ bs _ w hrel) fun x a' w' ⟨st',⟨β',mem',hsz,hfr,hfree,Ds,hds,hnd,hDs⟩,he,hres,k,hk0,hl0,hlk⟩=>?_
 have hL:LeavesInM (FR none) 0 P fn a'.tmps (fun x w'=> ∃y,x= .returned y∧∃β',mM M0 w0 β hp w id ⟨r,updB tB tb i j id s t⟩ y w' β') a'.defers .returning w':=by
  rw[hds];refine gF hres (fun y w'' h1 h2 _ _=>?_) Ds w' hnd hDs mem' (fun t x hx=>by have:=hfr t x hx;rwa[ca rfl] at this);have hb0:β' 0=some (b,2):=h2.pin (by rw[hl0];rfl);obtain⟨b1,cs1,e1,e2,e3,e4⟩:=h2.cells hl0 (by decide:(2:Nat)≠0);rw[hb0] at e1;cases e1;obtain⟨bk,ck1,f1,f2,f3,f4⟩:=h2.cells hlk (by decide:(1:Nat)≠0);have hkb:bk≠b:=fun e=>hk0 (h2.inj k 0 _ _ bk _ _ hlk hl0 f1 (by rw[e];exact hb0));have hrk:=h2.rng k bk _ f1
  have hbkn:w.heap.size≤bk∨(D bk∧bk≠b):=by
   by_cases hlt:bk< w.heap.size;by_cases hd:D bk;exact .inr ⟨hd,hkb⟩;exact absurd ⟨hlt,hd⟩ hrk.1;exact .inl (by omega)
  obtain⟨hp2,hhp2⟩:∃hp2:Nat→Option ABlk,hp2=dropJ hp j s:=⟨_,rfl⟩;have hji:s≠none→i≠j:=fun hs=>by obtain⟨q,hq⟩:=Option.ne_none_iff_exists'.1 hs;exact(hj q hq).2
  have h2sub:∀x X,hp2 x=some X→hp x=some X:=by
   intro x X hx;rw[hhp2] at hx;cases hs:s with
   |none=>rw[hs] at hx;exact hx
   |some q=>
    rw[hs] at hx;simp only[dropJ,upd] at hx;split at hx;cases hx;exact hx
  have h2i:hp2 i=some ⟨tB,2,[ed i j s]⟩:=by
   rw[hhp2];cases hs:s with
   |none=>rw[hs] at hi;exact hi
   |some q=>show upd hp j none i=_;rw[ba _ _ (hji (by rw[hs];simp)),←hs];exact hi
  have htwo:=mem.two (w':=w'') (i:=i) (id:=id) (b:=b) (bk:=bk) (tB:=tB) (tb:=tb) (D:=D) (es:=[ed i id (some t)]) (es2:=bE t) (hp2:=hp2) (cs:=cs1) (ck:=ck1) hi hbi2 hid0 hid hidh h2sub h2i
   (fun x hx=>by
    rcases hx with rfl|⟨hs,ss,hx⟩
    exact .inl rfl;obtain⟨q,hq⟩:=Option.ne_none_iff_exists'.1 hs;exact .inr ⟨j,_,ss,(hj q hq).1,hx,by rw[hhp2,hq];exact aX _ _ _⟩) (.inl rfl)
   ⟨h2.below.os,h2.below.tape,h2.below.output⟩ h2.below.size (fun x hx hd=>h2.below.block x ⟨hx,hd⟩) h2.below.sizes hrk.2 hbkn e2 f2
   (fun M β2 hbe hbid=>vg (i:=0) (j:=k) (fun x hx=>by rw[hb0] at hx;cases hx;exact hbe _ _ hbi2) (fun _ x hx=>by rw[f1] at hx;cases hx;exact hbid) e3) (fun M β2=>oD f3) e4 f4
  refine⟨y,rfl,upd β id (some (bk,1)),?_⟩
  have happ:gT hp (updB tB tb i j id s t)=upd (upd hp2 i (some ⟨tB,2,[ed i id (some t)]⟩)) id (some ⟨tb,1,bE t⟩):=by
   rw[hhp2];cases s <;> rfl
  unfold mM;rw[happ];exact⟨htwo.1,hpure _ _ _ _ _ _ _ h1,htwo.2,fun m hm=>ba _ _ hm⟩
 rcases he with rfl|rfl
 exact hL;exact hL
section
variable {id:Nat}{ev:Operand→Option AV}{c:Call}{callee x0:Operand}{f i j tB tb:Nat}{as:List AV}{r:AV}
def rdB(i j:Nat):Option (List UInt8)→List Nat
 |none=>[i]
 |some _=>[i,j]
theorem fy{ρ:Operand→Value}{o:Oper}{args:List Value}{w:World}(ho:o.op= .call c)(h1:c.callee= .value callee)(hx:ρ callee= .func (.func f) #[] #[])(ha:c.args.toList.map ρ=args)(he:∀(xs:Array Value) (w:World),(callFunc f xs).run P w= .ok (.enter f xs) w):
    (execOp ρ o).run P w= .ok (.enter f args.toArray) w:=by
 simp only[execOp];simp only[resolve,Deferred.ofValue,invoke];have:(c.args.toList.map ρ).toArray=c.args.map ρ:=by grind
 grind
theorem xF{M:Nat→Prop}{β:Nat→Option (Nat×Nat)}{w:World}{ρ:Operand→Value}:∀{xs:List Operand} {as:List AV},(∀x∈xs,∀a,ev x=some a→RV M β w a (ρ x))→evs ev xs=some as→RVs M β w as (xs.map ρ)
 |[],as,_,h=>by simp only[evs,Option.some.injEq] at h;subst h;exact rfl
 |x::xs,as,hev,h=>by
  simp only[evs] at h;split at h
  ·rename_i a c h1 b
   simp only[Option.some.injEq] at h;subst h;exact⟨_,_,rfl,hev x (List.mem_cons_self ..) a h1,xF (fun y d=>hev y (List.mem_cons_of_mem _ d)) b⟩
  cases h
theorem AEval.callB {s:Option (List UInt8)} {t:List UInt8} {rest:List Operand} (h1:c.callee= .value callee) (h2:ev callee=some (.clos f [] [])) (h3:c.args.toList=x0::rest) (h4:ev x0=some (.lptr i 0 0)) (h5:evs ev rest=some as) (h6:hp i=some ⟨tB,2,[ed i j s]⟩)
    (h7:∀q,s=some q→hp j=some ⟨tb,1,bE q⟩∧i≠j) (h8:BSpec P f tB tb s t (as.map coe) r):AEval P id ev hp (.call c) ⟨r,updB tB tb i j id s t⟩ (rdB i j s):=by
 refine .sem fun B D β b w ρ o F u d A e n g h=>?_
 have a:∀x,x∈(Op.call c).operands↔x=callee∨x∈x0::rest:=by
  simp[Op.operands,Call.operands,h1,←Array.mem_toList_iff,h3]
 obtain⟨xs,C,p,l,v⟩:=d callee ((a _).2 (.inl rfl)) _ h2;have m:xs= #[]:=Array.ext' l;have k:C= #[]:=Array.ext' v;subst m k;have E:b i=some ⟨tB,2,[ed i j s]⟩:=(h i (by cases s <;> simp[rdB])).trans h6;have G:∀q,s=some q→b j=some ⟨tb,1,bE q⟩∧i≠j:=fun q z=>⟨(h j (by rw[z];simp[rdB])).trans (h7 q z).1,(h7 q z).2⟩;have y:RVs (MM B β b) β w as (rest.map ρ):=xF (fun x p=>d x ((a _).2 (.inr (List.mem_cons_of_mem _ p)))) h5;exact .inr ⟨f,(ρ x0::rest.map ρ).toArray,fy F h1 p (by grind) h8.enters,h8.calls B D β b w id i j (ρ x0) (rest.map ρ) u e n g E G (d x0 ((a _).2 (.inr (List.mem_cons_self ..))) _ h4) (c7 h8.cl (fX y))⟩
structure CSpec (P:Program)(f tB:Nat):Prop where
 enters:∀(xs:Array Value) (w:World),(callFunc f xs).run P w= .ok (.enter f xs) w
 used:∀(b:Nat) (w:World),w.cell? ⟨b,0,none⟩=some (.pointer (some ⟨b,0,none⟩))→Calls P f #[.pointer (some ⟨b,0,none⟩)] w fun e w'=>e= .returned (.tuple #[])∧w'=w
 fresh:∀(b:Nat) (w:World) (cs:Array Value),w.heap[b]?=some (.cells cs tB (0,0))→2≤cs.size→cs[0]?=some (.pointer none)→Calls P f #[.pointer (some ⟨b,0,none⟩)] w fun e w'=>e= .returned (.tuple #[])∧w'=w.setCell ⟨b,0,none⟩ (.pointer (some ⟨b,0,none⟩))
theorem AEval.callC{a X:AV}(h1:c.callee= .value callee)(h2:ev callee=some (.clos f [] []))(h3:c.args.toList=[x0])(h4:ev x0=some (.lptr i 0 0))(h5:hp i=some ⟨tB,2,[[a,X]]⟩)(h6:a= .v (.pointer none)∨a= .lptr i 0 0)(h7:CSpec P f tB):
    AEval P id ev hp (.call c) ⟨.tup [],[(i,some ⟨tB,2,[[.lptr i 0 0,X]]⟩)]⟩ [i]:=by
 refine .sem fun M0 w0 β p w ρ o ho q t R S Z V Q=>?_
 have j:∀x,x∈(Op.call c).operands↔x=callee∨x∈[x0]:=by
  intro x;simp[Op.operands,Call.operands,h1,←Array.mem_toList_iff,h3]
 obtain⟨xs,Y,K,F,O⟩:=t callee ((j _).2 (.inl rfl)) _ h2;have G:xs= #[]:=Array.ext' F;have E:Y= #[]:=Array.ext' O;subst G E;have J:p i=some ⟨tB,2,[[a,X]]⟩:=(Q i (by simp)).trans h5;obtain⟨b,sz0,u,W⟩:=t x0 ((j _).2 (.inr (List.mem_cons_self ..))) _ h4;obtain⟨b',cs,l,s,⟨_,⟨⟨D,L,C⟩,⟨M,N,z⟩,_⟩,_⟩,hl⟩:=q.cells J (by decide:(2:Nat)≠0);rw[u] at l;cases l;have r:2≤cs.size:=by grind
 have d:β i=some (b,2):=u;have hp0:ρ x0= .pointer (some ⟨b,0,none⟩):=by grind
 have hun:gT p [(i,some ⟨tB,2,[[.lptr i 0 0,X]]⟩)]=upd p i (some ⟨tB,2,[[.lptr i 0 0,X]]⟩):=rfl;have T:cs[0]?=some D:=by simpa[World.cell?,s] using L
 have U:cs[1]?=some M:=by simpa[World.cell?,s] using N
 have y:aN w b=some cs.size:=by simp[aN,s]
 have e:Calls P f #[.pointer (some ⟨b,0,none⟩)] w fun e w'=>e= .returned (.tuple #[])∧w'=w.setCell ⟨b,0,none⟩ (.pointer (some ⟨b,0,none⟩))∨e= .returned (.tuple #[])∧w'=w∧D= .pointer (some ⟨b,0,none⟩):=by
  rcases h6 with rfl|rfl
  cases (C:D= .pointer none);exact(h7.fresh b w cs s r T).mono fun _ _ h=> .inl h;obtain⟨b2,s2,hb2,K⟩:=C;rw[d] at hb2;cases hb2;have H:D= .pointer (some ⟨b,0,none⟩):=by rw[K]
  exact(h7.used b w (by grind)).mono fun _ _ h=> .inr ⟨h.1,h.2,H⟩
 refine .inr ⟨f, #[.pointer (some ⟨b,0,none⟩)],fy ho h1 K (by grind) h7.enters,e.mono ?_⟩;rintro e w' (⟨rfl,rfl⟩|⟨rfl,rfl,B⟩)
 have A:=q.write (w':=w.setCell ⟨b,0,none⟩ (.pointer (some ⟨b,0,none⟩))) (es:=[[.lptr i 0 0,X]]) (cs:=cs.setIfInBounds 0 (.pointer (some ⟨b,0,none⟩))) (by decide:(2:Nat)≠0) J d ⟨rfl,rfl,rfl⟩ (by simp[World.setCell]) (heap_setCell_same w b 0 cs tB _ s) (fun k hk=>heap_setCell_other w _ k _ hk)
  (fun k e n=>by
   cases k with
   |zero=>
    simp only[List.getElem?_cons_zero,Option.some.injEq] at n;subst n;refine⟨[.pointer (some ⟨b,0,none⟩),M],⟨_,_,rfl,⟨b,2,d,rfl⟩,_,_,rfl,z,rfl⟩,rfl,fun m v g=>?_⟩
    match m,g with
    |0,g=>cases g;show(cs.setIfInBounds 0 _)[0* 2+0]?=_;rw[Array.getElem?_setIfInBounds,if_pos rfl,if_pos (by omega)]
    |1,g=>cases g;simpa[Array.getElem?_setIfInBounds] using U
   |succ k=>simp at n) (by simpa using r) (by rw[Array.size_setIfInBounds];exact y)
 exact⟨_,rfl,β,A.1,⟨#[],rfl,rfl⟩,A.2,fun _ _=>rfl⟩
 have A:=q.write (w':=w') (es:=[[.lptr i 0 0,X]]) (cs:=cs) (by decide:(2:Nat)≠0) J d ⟨rfl,rfl,rfl⟩ rfl s (fun k _=>rfl)
  (fun k e n=>by
   cases k with
   |zero=>
    simp only[List.getElem?_cons_zero,Option.some.injEq] at n;subst n;refine⟨[.pointer (some ⟨b,0,none⟩),M],⟨_,_,rfl,⟨b,2,d,rfl⟩,_,_,rfl,z,rfl⟩,rfl,fun m v g=>?_⟩
    match m,g with
    |0,g=>cases g;rw[←B];simpa using T
    |1,g=>cases g;simpa using U
   |succ k=>simp at n) (by simpa using r) y
 exact⟨_,rfl,β,A.1,⟨#[],rfl,rfl⟩,A.2,fun _ _=>rfl⟩
structure DSpec (P:Program)(f tB tb:Nat):Prop where
 enters:∀(xs:Array Value) (w:World),(callFunc f xs).run P w= .ok (.enter f xs) w
 calls:∀(b bj cap:Nat) (q:List UInt8) (w:World) (cs ck:Array Value),q≠[]→w.heap[b]?=some (.cells cs tB (0,0))→cs[1]?=some (.slice (some ⟨bj,0,none⟩) q.length cap)→q.length≤cap→cap≤maxLen→b≠bj→w.heap[bj]?=some (.cells ck tb (0,0))→cap≤ck.size→
  (∀(k:Nat) (x:UInt8),q[k]?=some x→ck[k]?=some (Value.int .u8 x.toNat))→Calls P f #[.pointer (some ⟨b,0,none⟩)] w fun e w'=>e= .returned (.string ⟨q.toArray⟩)∧But bj w w'
theorem Mem.gone(h:Mem M0 w0 β hp w){j b:Nat}{B:ABlk}{s:Nat}{ids:List Nat}(hb:But b w w')(hj:hp j=some B)(hbj:β j=some (b,s))(hin:j∈ids):
    Mem M0 w0 β (dn hp ids) w'∧Stab (MM M0 β hp) (MM M0 β (dn hp ids)) β β w w':=by
 have d:∀m X,dn hp ids m=some X→hp m=some X∧m∉ids:=fun m X a=>by
  simp only[dn] at a;grind
 obtain⟨m1,r⟩:=h.forget fun m X a=>(d m X a).1;have l:MM M0 β hp b:= .inr ⟨j,B,s,hj,hbj⟩;have g:=h.rng j b s hbj
 have i:∃N,aN w b=some N:=by
  obtain⟨t,e1,e2⟩:=h.blk j B hj;rw[hbj] at e1;cases e1;exact e2.size
 have st:Stab (MM M0 β hp) (MM M0 β (dn hp ids)) β β w w':=
  ⟨⟨fun c N hs a=>hb.block c (b4 hs) fun e=>a (e▸l),r.m,fun _ _ h=>h,hb.sizes⟩,
   fun c o u=>hb.block c o fun e=>by grind⟩
 refine⟨⟨⟨hb.os.trans h.below.os,hb.tape.trans h.below.tape,hb.output.trans h.below.output,Nat.le_trans h.below.size hb.size,fun k p=>(hb.block k (Nat.lt_of_lt_of_le (w0.lt k p) h.below.size) fun e=>g.1 (e▸p)).trans (h.below.block k p),fun c n hs=>hb.sizes c n (h.below.sizes c n hs)⟩,h.m0,fun m c ss a=>⟨(h.rng m c ss a).1,Nat.lt_of_lt_of_le (h.rng m c ss a).2 hb.size⟩,m1.pin,fun m X a=>?_,m1.inj⟩,st⟩;obtain⟨h1,v⟩:=d m X a;obtain⟨c,e1,e2⟩:=h.blk m X h1
 have q:c≠b:=fun e=>by
  subst e;have:=h.inj m j X B c _ _ h1 hj e1 hbj;grind
 have f:=hb.block c (h.rng m c _ e1).2 q;exact⟨c,e1,e2.stab st.toStabC f⟩
theorem AEval.callD{q:List UInt8}(h1:c.callee= .value callee)(h2:ev callee=some (.clos f [] []))(h3:c.args.toList=[x0])(h4:ev x0=some (.lptr i 0 0))(h5:hp i=some ⟨tB,2,[ed i j (some q)]⟩)(h6:hp j=some ⟨tb,1,bE q⟩)(hij:i≠j)(hq:q≠[])(h7:DSpec P f tB tb):
    AEval P id ev hp (.call c) ⟨.v (.string ⟨q.toArray⟩),[(i,none),(j,none)]⟩ [i,j]:=by
 refine .sem fun M0 w0 β n w ρ o ho a h G J U M p=>?_
 have d:∀x,x∈(Op.call c).operands↔x=callee∨x∈[x0]:=by
  intro x;simp[Op.operands,Call.operands,h1,←Array.mem_toList_iff,h3]
 obtain⟨xs,S,Y,s,E⟩:=h callee ((d _).2 (.inl rfl)) _ h2;have t:xs= #[]:=Array.ext' s;have r:S= #[]:=Array.ext' E;subst t r;have H:n i=some ⟨tB,2,[ed i j (some q)]⟩:=(p i (by simp)).trans h5;have D:n j=some ⟨tb,1,bE q⟩:=(p j (by simp)).trans h6;obtain⟨b,sz0,l,R⟩:=h x0 ((d _).2 (.inr (List.mem_cons_self ..))) _ h4;obtain⟨b',cs,g,Q,⟨_,⟨⟨x1,hc1,Z⟩,⟨x2,B,z⟩,_⟩,_⟩,hl⟩:=a.cells H (by decide:(2:Nat)≠0);rw[l] at g;cases g;obtain⟨O,L,e1,e2,V,e4⟩:=a.cells D (by decide:(1:Nat)≠0);obtain⟨bj',F,K,f2,X,T,_,N,f5,f6⟩:=z;rw[e1] at K;cases K;have W:ρ x0= .pointer (some ⟨b,0,none⟩):=by grind
 have g2:cs[1]?=some x2:=by simpa[World.cell?,Q] using B
 have C:b≠O:=fun e=>by subst e;exact hij (a.inj i j _ _ b _ _ H D l e1)
 have hN:N=L.size:=by simp[aN,e2] at f5;grind
 refine .inr ⟨f, #[.pointer (some ⟨b,0,none⟩)],fy ho h1 Y (by grind) h7.enters,(h7.calls b O F q w cs L hq Q (by grind) X T C e2 (by grind) fun k x hk=>?_).mono ?_⟩;have:=(V.get (i:=k) (e:=[.v (.int .u8 x.toNat)]) (by simp[bE,hk])).1;obtain⟨⟨y,u,A⟩,_⟩:=this;cases (A:y=_);simpa[World.cell?,e2] using u;rintro e w' ⟨rfl,m⟩;have hg:=a.gone (ids:=[i,j]) m D e1 (by simp);refine⟨_,rfl,β,?_⟩;unfold mM;rw[show([(i,none),(j,none)]:List (Nat×Option ABlk))=[i,j].map fun i=>(i,none) from rfl,qU];exact⟨hg.1,rfl,hg.2,fun _ _=>rfl⟩
def ER:Option (List UInt8)→List AV
 |none=>[.v (.pointer none),.emp]
 |some q=>[.any,.arr (bE q)]
theorem AEval.callR{s:Option (List UInt8)}{r:Value}(h1:c.callee= .value callee)(h2:ev callee=some (.clos f [] []))(h3:c.args.toList=[x0])(h4:ev x0=some (.lptr i 0 0))(h5:hp i=some ⟨tB,2,[ed i j s]⟩)(h6:∀q,s=some q→hp j=some ⟨tb,1,bE q⟩)(h7:FSpec P f [.aptr [ER s] 0 0] (.v r)):
    AEval P id ev hp (.call c) ⟨.v r,[]⟩ (rdB i j s):=by
 refine .sem fun B w0 β d w ρ o ho a D T Y hid Z A=>?_
 have g:∀x,x∈(Op.call c).operands↔x=callee∨x∈[x0]:=by
  intro x;simp[Op.operands,Call.operands,h1,←Array.mem_toList_iff,h3]
 obtain⟨xs,ys,C,M,S⟩:=D callee ((g _).2 (.inl rfl)) _ h2;have Q:xs= #[]:=Array.ext' M;have J:ys= #[]:=Array.ext' S;subst Q J;have W:d i=some ⟨tB,2,[ed i j s]⟩:=(A i (by cases s <;> simp[rdB])).trans h5;have hj:∀q,s=some q→d j=some ⟨tb,1,bE q⟩:=fun q hq=>(A j (by rw[hq];simp[rdB])).trans (h6 q hq);obtain⟨b,sz0,E,hy0⟩:=D x0 ((g _).2 (.inr (List.mem_cons_self ..))) _ h4;obtain⟨b',cs,h,hh,hr,hl⟩:=a.cells W (by decide:(2:Nat)≠0);rw[E] at h;cases h;have t:β i=some (b,2):=E;have R:ρ x0= .pointer (some ⟨b,0,none⟩):=by grind
 let hp2:=dn d [i,j]
 have k:∀m X,hp2 m=some X→d m=some X∧m≠i∧m≠j:=fun m X F=>by
  simp only[hp2,dn] at F;grind
 have hM:∀x,MM B β hp2 x→MM B β d x:=by
  rintro x (C|⟨m,X,p,l,n⟩);exact .inl C;exact .inr ⟨m,X,p,(k m X l).1,n⟩
 have u:∀m X x p,d m=some X→β m=some (x,p)→(m=i∨m=j)→¬MM B β hp2 x:=by
  rintro m X x p l n gm (C|⟨U,V,H,g3,O⟩);exact(a.rng m x p n).1 (a.m0 x C).1;obtain⟨G,g6,g7⟩:=k U V g3;have:=a.inj m U X V x p H l G n O;grind
 have z:RVs (MM B β hp2) (fun _=>none) w [.aptr [ER s] 0 0] [.pointer (some ⟨b,0,none⟩)]:=by
  refine⟨_,_,rfl,⟨by simp,b,0,2,by simp,⟨cs.size,by simp[aN,hh]⟩,u i _ b 2 W t (.inl rfl),?_⟩,rfl⟩;obtain⟨_,hc,_⟩:=hr;cases hs:s with
  |none=>
   rw[hs] at hc;obtain⟨⟨x,h1,h2⟩,⟨y,h3,h4⟩,_⟩:=hc;exact⟨rfl,⟨⟨x,h1,h2⟩,⟨y,h3,h4⟩,trivial⟩,trivial⟩
  |some q=>
   rw[hs] at hc;obtain⟨⟨x,h1,_⟩,⟨y,h3,⟨K,L,l,n,g3,O,_,N,G,g6⟩⟩,_⟩:=hc;obtain⟨bj',ck,e1,e2,e3,e4⟩:=a.cells (hj q hs) (by decide:(1:Nat)≠0);rw[l] at e1;cases e1;refine⟨rfl,⟨⟨x,h1,trivial⟩,⟨y,h3,⟨some ⟨K,0,none⟩,L,by rw[n,da],by rw[da];exact g3,O,.inr ⟨K,0,1,rfl,⟨N,G⟩,u j _ K 1 (hj q hs) l (.inr rfl),oD e3⟩⟩⟩,trivial⟩,trivial⟩
 refine .inr ⟨f, #[.pointer (some ⟨b,0,none⟩)],fy ho h1 C (by rw[h3];simp[R]) h7.enters,(h7.calls (MM B β hp2) w _ (a.fit.sub hM) z).mono ?_⟩;rintro e w' ⟨y,rfl,hy,hb⟩;have F:=a.ext hb;exact⟨y,rfl,β,F.1,hy,F.2,fun _ _=>rfl⟩
end
end
section
variable {P:Program}{M0:Nat→Prop}{w0:Base}{β:Nat→Option (Nat×Nat)}{hp:Nat→Option ABlk}{w w':World}
theorem RVkv.snoc{M:Nat→Prop}:∀{es:List (List AV)} {ens:List MapEntry} {x:List AV} {e:MapEntry},RVkv M β w es ens→RVs M β w x [e.key,e.val]→RVkv M β w (es++[x]) (ens++[e])
 |[],ens,x,e,h,hx=>by cases (h:ens=[]);exact⟨e,[],rfl,hx,rfl⟩
 |y::es,ens,x,e,⟨e',es',he,h1,h2⟩,hx=>by subst he;exact⟨e',es'++[e],rfl,h1,RVkv.snoc h2 hx⟩
def Ba(kd:IntKind)(k:Int):List (List AV)→Bool
 |[]=>true
 |[.v (.int kd' k'),_]::l=>decide (kd=kd') && !decide (k=k') && Ba kd k l
 |_=>false
theorem yS{M:Nat→Prop}{kd kd0:IntKind}{k:Int}:∀{es:List (List AV)} {ens:List MapEntry} (i:Nat),Ba kd k es=true→RVkv M β w es ens→Instr.findNow (.int kd0) (.int kd k) ens i=some none
 |[],ens,i,_,h=>by cases (h:ens=[]);rfl
 |[.v (.int kd' k'),a]::es,ens,i,hn,⟨e,es',he,⟨x,xs,e1,hx,_⟩,h2⟩=>by
  subst he;simp only[Ba,Bool.and_eq_true,decide_eq_true_eq,Bool.not_eq_true',decide_eq_false_iff_not] at hn;obtain⟨⟨rfl,h1⟩,c⟩:=hn;cases e1;have b:e.key= .int kd k':=hx;have hs:Instr.sameNow (.int kd0) (.int kd k) e.key=some false:=by rw[b];simp[Instr.sameNow,h1]
  simp only[Instr.findNow,hs];exact yS (i+1) c h2
section
variable {id:Nat}{ev:Operand→Option AV}{T kt e:Nat}{kd:IntKind}
def C5(kd:IntKind)(k:Int):List Value→Option Nat
 |[]=>none
 | .int kd' k'::l=>if kd=kd' then(if k=k' then some 0 else(C5 kd k l).map (· +1)) else none
 |_=>none
def CU(k:Int):List Value→Bool
 |[]=>true
 | .int _ k'::l=>!decide (k=k') && CU k l
 |_=>false
theorem tC{k:Int}:∀{l:List Value},CU k l=true→Value.int kd k∉l
 |[],_=>by simp
 |c::l,h=>by
  cases c <;> simp only[CU,Bool.false_eq_true,Bool.and_eq_true,Bool.not_eq_true',decide_eq_false_iff_not] at h;intro a;rcases List.mem_cons.1 a with e|e
  cases e;exact h.1 rfl;exact tC h.2 e
def o7(kd:IntKind):List Value→Bool
 |[]=>true
 | .int kd' k'::l=>decide (kd=kd') && CU k' l && o7 kd l
 |_=>false
theorem vv{M:Nat→Prop}{k:Int}:∀{ks:List Value} {vs:List AV} {l:List MapEntry} (n:Nat) (a:AV),l.map (·.key)=ks→RVs M β w vs (l.map (·.val))→C5 kd k ks=some n→vs[n]?=some a→∃e,e∈l∧e.key= .int kd k∧RV M β w a e.val
 |[],_,_,_,_,_,_,h,_=>by cases h
 |c::ks,vs,[],n,a,h1,_,_,_=>by grind
 |c::ks,[],e::l,n,a,h1,h2,_,_=>by grind
 |c::ks,u::vs,e::l,n,a,h1,⟨x,xs,e1,g1,g2⟩,h3,h4=>by
  simp only[List.map_cons,List.cons.injEq] at h1 e1;obtain⟨hc,h1⟩:=h1;obtain⟨rfl,rfl⟩:=e1;cases c <;> simp only[C5,reduceCtorEq] at h3;split at h3
  ·rename_i f
   split at h3
   ·grind
   obtain⟨d,b,rfl⟩:=Option.map_eq_some_iff.1 h3;obtain⟨m,j,g,i⟩:=vv d a h1 g2 b (by grind);grind
  grind
theorem nD:∀{ks:List Value},o7 kd ks=true→ks.Nodup∧∀k∈ks,∃n,k= .int kd n
 |[],_=>⟨List.nodup_nil,fun _ h=>by cases h⟩
 |c::ks,h=>by
  cases c <;> simp only[o7,Bool.false_eq_true,Bool.and_eq_true,decide_eq_true_eq] at h;obtain⟨⟨rfl,h1⟩,a⟩:=h;obtain⟨i1,i2⟩:=nD a;exact⟨List.nodup_cons.2 ⟨tC h1,i1⟩,fun k b=>((by grind))⟩
theorem zA{kd0:IntKind}{k:Int}{e:MapEntry}:∀{l:List MapEntry} (i:Nat),e∈l→e.key= .int kd k→(l.map (·.key)).Nodup→(∀x∈l.map (·.key),∃n,x= .int kd n)→∃j,Instr.findNow (.int kd0) (.int kd k) l i=some (some (j,e.val))
 |[],_,h,_,_,_=>by cases h
 |x::l,i,h,hk,hnd,hall=>by
  rw[List.map_cons,List.nodup_cons] at hnd;obtain⟨n,c⟩:=hall x.key (List.mem_cons_self ..);by_cases hkn:k=n;subst hkn;have b:e=x:=by grind
  subst b;exact⟨i,by simp[Instr.findNow,Instr.sameNow,c]⟩;have a:e≠x:=fun b=>by grind
  have hs:Instr.sameNow (.int kd0) (.int kd k) x.key=some false:=by rw[c];simp[Instr.sameNow,hkn]
  obtain⟨j,f⟩:=zA (kd0:=kd0) (i+1) ((List.mem_cons.1 h).resolve_left a) hk hnd.2 (fun y d=>hall y (List.mem_cons_of_mem _ d));exact⟨j,by simp only[Instr.findNow];grind⟩
theorem AEval.lookup{x ix:Operand}{ks:List Value}{vs:List AV}{kk:Int}{n:Nat}{a:AV}(h1:ev x=some (.mp ks vs))(h3:ev ix=some (.v (.int kd kk)))(hT:P.underlying T=some (.map kt e))(hK:P.underlying kt=some (.int kd))(hn:C5 kd kk ks=some n)(ha:vs[n]?=some a)(hg:o7 kd ks=true):
    AEval P id ev hp (.lookup T x ix false) ⟨a,[]⟩ []:=by
 refine .sem fun K H β A w ρ o N c b f g t m F=>?_;obtain⟨r,u,M,J,C,_,l,d,h,g3⟩:=b x (by simp[Op.operands]) _ h1;have L:ρ ix= .int kd kk:=b ix (by simp[Op.operands]) _ h3;obtain⟨p,E,B,z⟩:=vv n a h g3 hn ha;obtain⟨s,q⟩:=nD hg;have hp:=d.map (fun e:MapEntry=>e.key);rw[h] at hp;obtain⟨j,D⟩:=zA (kd0:=kd) 0 (d.mem_iff.1 E) B (hp.nodup_iff.1 s) (fun y G=>q y (hp.mem_iff.2 G));refine .pure (y:=p.val) c ?_ z
 have i:(Instr.lookup T (.map (some r)) (.int kd kk) false).run P w= .ok p.val w:=by
  simp[Instr.lookup,run_underlying hT,MapKept.run_getObj_map C,MapKept.run_checkKey (k:= .int kd kk) hK (by simp[MapKept.IsKey]),MapKept.run_findKey hK D]
 simp only[execOp];simp_all
end
end
section
variable {P:Program}{ops:Array Oper}{nx n j:Nat}{rest:List Oper}{fr:Fr}{hp:Hp}{K:Fps→Fr→Hp→Prop}
variable {d:Nat}{op:Op}{ty:Nat}{pos:String}{after:Array Edge}{a:AV}{p q s:Nat×Option ABlk}{rd:List Nat}
theorem AR.op3 (hs:AEval P (nx+j) (evF (look fr)) (an hp) op ⟨a,[p,q,s]⟩ rd) (hnd:bO op=true) (hd:Nat.blt d n=true)
    (h:AR P ops nx n (j+1) rest ((d,a)::fr) (s::q::p::hp) fun fps f h=>K (([p.1,q.1,s.1],rd)::fps) f h):AR P ops nx n j (⟨some d,op,ty,pos,after,none⟩::rest) fr hp K:=
 AR.cons ⟨bm hnd,hs⟩ hd h
end
abbrev tx(t:List UInt8):AV:= .v (.string ⟨t.toArray⟩)
def iH(t:List UInt8):List Value:=t.map fun b=> .int .u8 b.toNat
section
variable {P:Program}{w:World}
theorem nZ(t:List UInt8)(w:World):(Builtin.firstCells 1 t.length (.string ⟨t.toArray⟩)).run P w= .ok (iH t).toArray w:=by
 have hs:(⟨t.toArray⟩:ByteArray).size=t.length:=by simp[ByteArray.size]
 have a:(⟨t.toArray⟩:ByteArray).extract 0 t.length=⟨t.toArray⟩:=by rw[←hs];simp
 simp only[Builtin.firstCells];simp[iH]
theorem j2 {T T' E bs sz:Nat} {zs:List Value} (h1:dQ P T=some (E,sz)) (h2:P.underlying T'=some .string) (h3:fN P E=some zs) (h4:rI P E=some bs)
    {base:Option Addr} {n c m:Nat} {s:ByteArray} {old new:Array Value} (hm:s.size=m) (hgrow:c< n+m) (hroom:(n+m) * bs≤140737488355328) (h63:n+m≤maxLen- 1) (ty:TypeId)
    (hold:∀w',w'.heap=w.heap→(Builtin.firstCells sz n (.slice base n c)).run P w'= .ok old w') (hnew:∀w',w'.heap=w.heap→(Builtin.firstCells sz m (.string s)).run P w'= .ok new w'):
    ∃nc z,n+m≤nc∧nc< 2^ 63∧z.toList=zs∧(Builtin.append_ #[T,T'] ty #[.slice base n c,.string s]).run P w=
     .ok (.slice (some ⟨w.heap.size,0,none⟩) (n+m) nc) (w.drew.alloc (.cells (old++new++Builtin.zeroCells z (nc- (n+m))) E)):=by
 obtain⟨p,o⟩:=dq h1;obtain⟨i,z,i1,i2,u,x,y⟩:=xg o h3 h4;have g:n+m< 2^ 63:=by unfold maxLen at h63;omega
 obtain⟨j,k⟩:=DB (need:=n+m) (old:=c) (e:=E) (w.tape w.drawn (.appendCap (n+m) c E)) g;refine⟨(Question.appendCap (n+m) c E).cut (w.tape w.drawn (.appendCap (n+m) c E)),z.cells,j,k,u,?_⟩;have l:=growslice_fits hgrow hroom
 have f:¬((n:Int)+(m:Int)> IntKind.i64.max):=by
  have:IntKind.i64.max=9223372036854775807:=by decide
  grind
 have r:¬(n+m≤c):=by omega
 have t:∀w:World,({w with drawn:=w.drawn+1}:World)=w.drew:=fun _=>rfl;have v:=hold w.drew rfl;have q:=hnew w.drew rfl;have a:(Question.appendCap (n+m) c E).forced=false:=rfl;have b:¬(((n+m:Nat):Int)> IntKind.i64.max∧(False∨i.bytes=0)):=fun h=>f (by grind);have d:¬(Builtin.nextslicecap (n+m) c* i.bytes> 2^ 48):=by grind
 unfold Builtin.append_
 simp only[List.getElem?_toArray,List.getElem?_cons_zero,List.getElem?_cons_succ,Sem.run_bind,run_underlying p w,run_underlying h2 w,Result.andThen_ok,run_sizeOf' o,Sem.run_pure,
  Bool.false_eq_true,if_false,Builtin.lenOf,hm,r,typeInfo,run_program,i1,b,d,run_choose,a,t,run_askRoom,Bool.not_false,if_true,v,q,zeroValue,i2,newRow,run_newObj]
 rfl
theorem p8 {T T' E sz:Nat} (h1:dQ P T=some (E,sz)) (h2:P.underlying T'=some .string)
    {b off n c m:Nat} {s:ByteArray} {new:Array Value} (hm:s.size=m) (hroom:n+m≤c) (ty:TypeId) (hnew:(Builtin.firstCells sz m (.string s)).run P w= .ok new w) {w':World}
    (hst:(storeCells ⟨b,off+n* sz,none⟩ new.toList).run P w= .ok () w'):
    (Builtin.append_ #[T,T'] ty #[.slice (some ⟨b,off,none⟩) n c,.string s]).run P w= .ok (.slice (some ⟨b,off,none⟩) (n+m) c) w':=by
 obtain⟨d,a⟩:=dq h1;unfold Builtin.append_
 simp only[List.getElem?_toArray,List.getElem?_cons_zero,List.getElem?_cons_succ,Sem.run_bind,run_underlying d w,run_underlying h2 w,Result.andThen_ok,run_sizeOf' a,Sem.run_pure,
  Bool.false_eq_true,if_false,Builtin.lenOf,hm,hroom,Bool.not_false,if_true,hnew,jD,hst]
end
theorem vN{M:Nat→Prop}{β:Nat→Option (Nat×Nat)}{w:World}(t:List UInt8):Flat M β w 1 (bE t) (iH t):=by
 refine⟨by simp[iH,bE],fun i e b=>?_⟩;simp only[bE,List.getElem?_map,Option.map_eq_some_iff] at b;obtain⟨x,c,rfl⟩:=b;refine⟨[.int .u8 x.toNat],⟨_,_,rfl,rfl,rfl⟩,rfl,fun j v a=>?_⟩;cases j with
 |zero=>simp only[List.getElem?_cons_zero,Option.some.injEq] at a;subst a;simp[iH,c]
 |succ j=>grind
section
variable {P:Program}{id:Nat}{ev:Operand→Option AV}{hp:Nat→Option ABlk}{c:Call}{x y:Operand}{T T' E:Nat}{t q:List UInt8}{zs:List Value}
theorem AEval.appS_e (h1:c.callee= .builtin .append) (h2:c.args= #[x,y]) (h3:c.argTypes= #[T,T']) (h4:dQ P T=some (E,1)) (h5:P.underlying T'=some .string) (h6:ev x=some .emp) (h7:ev y=some (tx t)) (h9:t≠[])
    (h10:fN P E=some zs) (h11:zs.length=1) (h12:rI P E=some 1) (h13:t.length≤140737488355328):
    AEval P id ev hp (.call c) ⟨.lsl id 0 t.length none 1,[(id,some ⟨E,1,bE t⟩)]⟩ []:=by
 refine .sem fun Q Y β C w ρ o S D h G p B q V=>?_
 have f:∀z,z∈(Op.call c).operands↔z∈[x,y]:=by
  intro z;simp[Op.operands,Call.operands,h1,h2]
 obtain⟨b,O⟩:=h x ((f _).2 (by simp)) _ h6;have W:ρ y= .string ⟨t.toArray⟩:=h y ((f _).2 (by simp)) _ h7;have F:0< t.length:=by grind
 have u:∀g:World,g.heap=w.heap→(Builtin.firstCells 1 0 (.slice b 0 0)).run P g= .ok #[] g:=by
  intro g _;cases b with
  |none=>rfl
  |some ad=>simp[Builtin.firstCells,loadCells,loadCellsFrom]
 have d:Flat (MM Q β C) β w 1 (bE t) (iH t):=vN t;obtain⟨r,z,g1,g2,g3,X⟩:=j2 (w:=w) (n:=0) (m:=t.length) (c:=0) (s:=⟨t.toArray⟩) (base:=b) h4 h5 h10 h12 (by simp[ByteArray.size]) (by omega) (by omega) (by unfold maxLen;omega) o.type u (fun g _=>nZ t g);have A:z.size=1:=by grind
 have l:=D.ext ((Below.refl w.heap.size w).drew)
 have a:=l.1.alloc (i:=id) (ty:=E) (s:=1) (es:=bE t) (cs:= #[]++(iH t).toArray++Builtin.zeroCells z (r- (0+t.length))) Nat.one_ne_zero p B q (fun k e L=>by
  obtain⟨J,R,K,Z⟩:=d.2 k e L;refine⟨J,l.2.vs R,K,fun j v H=>?_⟩;grind) (by simp[d.1])
 refine .inl ⟨.slice (some ⟨w.heap.size,0,none⟩) t.length r,_,_,.inl ?_,a.1,⟨w.heap.size,r,aX _ _ _,by simp,by omega,by unfold maxLen;omega,(fun k hk=>by grind),r* 1,?_,by simp⟩,⟨⟨fun U N hN M=>(a.2.heap U N hN M),a.2.m,a.2.be,a.2.sz⟩,a.2.oth⟩,fun j H=>ba _ _ H⟩;simp only[execOp,S,resolve,h1,h2,Sem.run_bind,Sem.run_pure,Result.andThen_ok,invoke,builtin,List.map_toArray,List.map_cons,List.map_nil,O,W,h3,X,Nat.zero_add];unfold aN;have:(w.drew.alloc (.cells (#[]++(iH t).toArray++Builtin.zeroCells z (r- (0+t.length))) E)).heap[w.heap.size]?=_:=heap_alloc_new' w.drew _;rw[this];simp only[Array.size_append,List.size_toArray,List.length_nil,gu,A,Option.some.injEq];have:(iH t).length=t.length:=by simp[iH]
 omega
theorem AEval.appS_l {i n:Nat} {cap:Option Nat} (h1:c.callee= .builtin .append) (h2:c.args= #[x,y]) (h3:c.argTypes= #[T,T']) (h4:dQ P T=some (E,1)) (h5:P.underlying T'=some .string) (h6:ev x=some (.lsl i 0 n cap 1)) (h7:hp i=some ⟨E,1,bE q⟩) (hn:n=q.length) (h13:ev y=some (tx t))
    (h15:fN P E=some zs) (h16:zs.length=1) (h17:rI P E=some 1) (h18:q.length+t.length≤140737488355328):
    AEval P id ev hp (.call c) ⟨.lsl id 0 (q++t).length none 1,[(i,none),(id,some ⟨E,1,bE (q++t)⟩)]⟩ [i]:=by
 subst hn;refine .sem fun M0 w0 β hp' w ρ o ho D W hcst l S r hrd=>?_
 have h:∀z,z∈(Op.call c).operands↔z∈[x,y]:=by
  intro z;simp[Op.operands,Call.operands,h1,h2]
 have hi:hp' i=some ⟨E,1,bE q⟩:=(hrd i (by simp)).trans h7;have Q:=W x ((h _).2 (by simp)) _ h6;have hy:ρ y= .string ⟨t.toArray⟩:=W y ((h _).2 (by simp)) _ h13
 have H:SrcOf hp' 1 (.lsl i 0 q.length cap 1) (bE q) [i]:=by
  have:=SrcOf.lsl (s:=1) (hp:=hp') (i:=i) (e:=0) (n:=q.length) (cap:=cap) (B:=⟨E,1,bE q⟩) (dy hi Nat.one_ne_zero) (by simp[bE]);simpa[da,List.take_of_length_le] using this
 obtain⟨G,O,a,⟨a0,M⟩,_,L⟩:=H.run (P:=P) D Q;obtain⟨b,c2,hb,K,hnc,hcm,hcap,N,hN,C⟩:=Q;rw[M,da] at K;simp only[Value.slice.injEq,true_and] at K;obtain⟨rfl,rfl⟩:=K;have g:Flat (MM M0 β hp') β w 1 (bE t) (iH t):=vN t;have hne:i≠id:=fun e=>by grind
 simp only[Nat.zero_mul] at M C;rw[Nat.zero_add] at C;rw[da] at M
 have Y:∀v∈iH t,v.oneCell'=true:=by
  intro v hv;obtain⟨u,_,rfl⟩:=List.mem_map.1 hv;rfl
 by_cases hroom:q.length+t.length≤O;have hle:(q.length+t.length) * 1≤N:=by omega
 obtain⟨w',r1,r2,r3,r4⟩:=D.storeEls (P:=P) (i:=i) (B:=⟨E,1,bE q⟩) (e:=q.length) (fs:=bE t) (es':=bE (q++t)) Nat.one_ne_zero hi hb g Y hN (by rw[da];grind) (fun p el hp=>by
  rw[wb] at hp;rw[da];by_cases hql:p< q.length;rw[List.getElem?_append_left (by rw[da];exact hql)] at hp;exact .inr ⟨.inl hql,hp⟩;rw[List.getElem?_append_right (by rw[da];omega),da] at hp;have:=(List.getElem?_eq_some_iff.1 hp).1;rw[da] at this;exact .inl ⟨by omega,by omega,hp⟩) (by rw[da,List.length_append];exact hle)
 have J:=r2.rename (i:=i) (id:=id) (B:=⟨E,1,bE (q++t)⟩) (aX _ _ _) hb l S (by rw[ba _ _ (fun e=>hne e.symm)];exact r);rw[oi] at J;refine .inl ⟨.slice (some ⟨b,0,none⟩) (q.length+t.length) O,w',_,.inl ?_,J.1,⟨b,O,aX _ _ _,by simp,by simpa using hroom,hcm,(fun k hk=>by cases hk),N,r3.sz b N hN,by rw[Nat.zero_add];exact C⟩,r3.trans J.2 (by omega),fun j d=>ba _ _ d⟩;have hr:=p8 (P:=P) (w:=w) (w':=w') (b:=b) (off:=0) (n:=q.length) (m:=t.length) (c:=O) (s:=⟨t.toArray⟩) (new:=(iH t).toArray) h4 h5 (by simp[ByteArray.size]) hroom o.type (nZ t w) (by simpa using r1);simp only[execOp,ho,resolve,h1,h2,Sem.run_bind,Sem.run_pure,Result.andThen_ok,invoke,builtin,List.map_toArray,List.map_cons,List.map_nil,M,hy,h3,hr];have A:=L (bE q).length (Nat.le_refl _);have R:(bE q).length* 1=G.length:=a.1.symm;rw[M,R,List.take_length,da] at A;obtain⟨V,z,g1,g2,g3,hr⟩:=j2 (w:=w) (n:=q.length) (m:=t.length) (c:=O) (s:=⟨t.toArray⟩) (base:=some ⟨b,0,none⟩) h4 h5 h15 h17 (by simp[ByteArray.size]) (by omega) (by omega) (by unfold maxLen;omega) o.type A (fun w' _=>nZ t w');have hzs:z.size=1:=by rw[←Array.length_toList,g3];exact h16
 have F:=D.ext ((Below.refl w.heap.size w).drew);have f:=(g.append a).stab F.2.toStabC;rw[←wb] at f;have hbl:(iH t).length=t.length:=by simp[iH]
 rw[da] at R
 have U:=F.1.alloc (i:=id) (ty:=E) (s:=1) (es:=bE (q++t)) (cs:=G.toArray++(iH t).toArray++Builtin.zeroCells z (V- (q.length+t.length))) Nat.one_ne_zero l S r (fun k e he=>by
  obtain⟨ys,q1,q2,q3⟩:=f.2 k e he;refine⟨ys,q1,q2,fun j v d=>?_⟩;have h4:=q3 j v d;have Z:=(List.getElem?_eq_some_iff.1 h4).1;rw[Array.getElem?_append_left (by simpa using Z)];simpa using h4) (by rw[da];simp;omega)
 have X:=U.1.forget (hp':=upd (upd hp' i none) id (some ⟨E,1,bE (q++t)⟩)) (fun j B' d=>by
  by_cases hji:j=id;subst hji;rw[aX] at d⊢;exact d;rw[ba _ _ hji] at d⊢;by_cases hj2:j=i;subst hj2;rw[aX] at d;cases d;rw[ba _ _ hj2] at d;exact d)
 refine .inl ⟨.slice (some ⟨w.heap.size,0,none⟩) (q.length+t.length) V,_,_,.inl ?_,X.1,⟨w.heap.size,V,aX _ _ _,by simp,by simp;omega,by unfold maxLen;omega,(fun k hk=>by cases hk),V* 1,?_,by simp⟩,(F.2.trans U.2 (Nat.le_refl _)).trans X.2 (by simp),fun j d=>ba _ _ d⟩;simp only[execOp,ho,resolve,h1,h2,Sem.run_bind,Sem.run_pure,Result.andThen_ok,invoke,builtin,List.map_toArray,List.map_cons,List.map_nil,M,hy,h3,hr];unfold aN;have:(w.drew.alloc (.cells (G.toArray++(iH t).toArray++Builtin.zeroCells z (V- (q.length+t.length))) E)).heap[w.heap.size]?=_:=heap_alloc_new' w.drew _;rw[this];simp only[Array.size_append,List.size_toArray,gu,hzs,Option.some.injEq];omega
end
section
variable {P:Program}{M0:Nat→Prop}{w0:Base}{w:World}{ops:Array Oper}{id n:Nat}{fr:Nat→Option AV}{hp:Nat→Option ABlk}{o:Oper}{u:Upd}{rd:List Nat}{a:Act}{ρ:Option Nat}{Q:Exit→Act→World→Prop}{β:Nat→Option (Nat×Nat)}
theorem AStep.simF (h:AStep P ops id fr hp o u rd) (mem:Mem M0 w0 β hp w) (hfr:∀t x,fr t=some x→RV (MM M0 β hp) β w x (gq w0 a t)) (hidn:β id=none) (hid0:id≠0) {K:Act→World→Prop}
    (fin:∀y w' β',mM M0 w0 β hp w id u y w' β'→K (a.put o.dst y) w'):
    if Region.wanted o (yielded ops a.tmps) then o.wpIn (FR ρ) 0 P a w K Q else(∀f,o.about P w a.eval=some f→(FR ρ).fn f)∧K (a.put o.dst undef) w:=by
 have m:hp id=none:=by
  cases n:hp id with
  |none=>rfl
  |some B=>obtain⟨b,hb,_⟩:=mem.blk id B n;rw[hidn] at hb;cases hb
 have run:AEval P id (evF fr) hp o.op u rd→o.wpIn (FR ρ) 0 P a w K Q:=by
  intro r;refine⟨fun _ _=>trivial,?_⟩;rw[Oper.semAt_eq _ _ _ h.1];rcases r.good (ρ:=a.eval) (o:=o) mem (fm hfr) (fun _=>rfl) hid0 hidn m rfl with⟨y,w',β',c,i⟩|⟨f,z,c,j⟩
  rcases c with c|⟨c,rfl⟩
  rw[c];exact fin y w' β' i;rw[c];exact fin undef w' β' i;rw[c];refine⟨fun n=>by simp[FR] at n,sr (j.mono ?_)⟩;rintro e w' ⟨y,rfl,β',i⟩;exact fin y w' β' i
 have skip:u=⟨.v undef,[]⟩→K (a.put o.dst undef) w:=by
  rintro rfl;exact fin undef w β ⟨mem,rfl,.refl,fun _ _=>rfl⟩
 have p:=h.2;cases hg:o.guard with
 |none=>
  rw[hg] at p;rw[if_pos (by simp[Region.wanted,hg])];exact run p
 |some D=>
  obtain⟨g,l⟩:=D;rw[hg] at p;obtain⟨t,x,ht,C,hc⟩:=p;have d:a.tmps.getD t undef=x:=fm hfr (.tmp t) _ C
  have q:yielded ops a.tmps g=eH x:=by
   simp only[yielded,ht,Option.bind_some];cases htt:a.tmps[t]? with
   |none=>
    rw[Array.getD_eq_getD_getElem?,htt] at d;subst d;rfl
   |some y=>
    rw[Array.getD_eq_getD_getElem?,htt] at d;simp only[Option.getD_some] at d;subst d;cases y <;> rfl
  have s:Region.wanted o (yielded ops a.tmps)=true↔eH x=some l:=by
   simp only[Region.wanted,hg,q,beq_iff_eq]
  rcases hc with⟨k,r⟩|⟨k,A,_⟩
  rw[if_pos (s.2 k)];exact run r;rw[if_neg (fun n=>k (s.1 n))];exact⟨fun _ _=>trivial,skip A⟩
end
section
variable {P:Program}{ops:Array Oper}{us:List (Upd×List Nat)}{anc:Nat→Nat→Bool}{nx n:Nat}{fr0:Nat→Option AV}{hp0:Nat→Option ABlk}{ρ:Option Nat}{Q:Exit→Act→World→Prop}{rid:Nat}
variable {X:List Nat→(Nat→Prop)→Base→(Nat→Option (Nat×Nat))→Act→World→Prop}{gh:Nat→Value}
def FX(gh:Nat→Value)(fr:Nat→Option AV)(hp:Nat→Option ABlk)(free:Nat→Prop)(n:Nat)(X:(Nat→Prop)→Base→(Nat→Option (Nat×Nat))→Act→World→Prop)(a:Act)(w:World):Prop:=
 ∃M0 w0 β,Mem M0 w0 β hp w∧w0.gh=gh∧a.tmps.size=n∧(∀t x,fr t=some x→RV (MM M0 β hp) β w x (gq w0 a t))∧(∀i,free i→β i=none∧i≠0)∧DefOK a.defers w0 w∧X M0 w0 β a w
theorem yl{w0 w1:Base}(h:w1.gh=w0.gh)(a:Act)(t:Nat):gq w1 a t=gq w0 a t:=by unfold gq;rw[h]
end
end Go.Abs
