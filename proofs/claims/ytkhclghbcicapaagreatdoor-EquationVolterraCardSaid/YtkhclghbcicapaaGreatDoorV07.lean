/- Part V07 of the proof. -/
import Derived.Test.YtkhclghbcicapaaGreatDoorV06
import Derived.MapKept
import Derived.Lib.UnsafeStr
set_option linter.all false
namespace Go.Abs
open Go.RowKit
def bE(s:List UInt8):List (List AV):=s.map fun c=>[.v (.int .u8 c.toNat)]
theorem dK(s:List UInt8):(bE s).length=s.length:=by simp[bE]
theorem yD(s:List UInt8):∀e∈bE s,∀c∈e,Closed c:=by
 intro e a c hc;obtain⟨x,_,rfl⟩:=List.mem_map.1 a;rw[List.mem_singleton.1 hc];exact ah _
theorem yH(s t:List UInt8):bE (s++t)=bE s++bE t:=by simp[bE]
def fh(i j:Nat):Option (List UInt8)→List AV
 |none=>[.v (.pointer none),.emp]
 |some s=>[.lptr i 0 0,.lsl j 0 s.length none 1]
def updB(tB tb i j id:Nat)(s:Option (List UInt8))(t:List UInt8):List (Nat×Option ABlk):=
 match s with
 |none=>[(i,some ⟨tB,2,[fh i id (some t)]⟩),(id,some ⟨tb,1,bE t⟩)]
 |some _=>[(j,none),(i,some ⟨tB,2,[fh i id (some t)]⟩),(id,some ⟨tb,1,bE t⟩)]
def Pure(a:AV):Prop:=∀(M M':Nat→Prop) β β' w w' y,RV M β w a y→RV M' β' w' a y
structure BSpec (P:Program)(f tB tb:Nat)(s:Option (List UInt8))(t:List UInt8)(args:List AV)(r:AV):Prop where
 cl:∀a∈args,Closed a
 enters:∀(xs:Array Value) (w:World),(callFunc f xs).run P w= .ok (.enter f xs) w
 calls:∀(M0:Nat→Prop) (w0:Base) (β:Nat→Option (Nat×Nat)) (hp:Nat→Option ABlk) (w:World) (id i j:Nat) (y0:Value) (vals:List Value),Mem M0 w0 β hp w→id≠0→β id=none→hp id=none→hp i=some ⟨tB,2,[fh i j s]⟩→
  (∀q,s=some q→hp j=some ⟨tb,1,bE q⟩∧i≠j)→RV (MM M0 β hp) β w (.lptr i 0 0) y0→RVs (MM M0 β hp) (fun _=>none) w args vals→
  Calls P f (y0::vals).toArray w fun x w'=> ∃y,x= .returned y∧∃β',og M0 w0 β hp w id ⟨r,updB tB tb i j id s t⟩ y w' β'
section
variable {P:Program}{M0:Nat→Prop}{w0:Base}{β:Nat→Option (Nat×Nat)}{hp:Nat→Option ABlk}{w w':World}
theorem Mem.two (h:Mem M0 w0 β hp w) {i id b bk tB tb:Nat} {B:ABlk} {D:Nat→Prop} {es es2:List (List AV)} {hp2:Nat→Option ABlk} {cs ck:Array Value} (hi:hp i=some B) (hb:β i=some (b,2)) (hid0:id≠0) (hid:β id=none) (hidh:hp id=none)
    -- hp2:the blocks but for those that are given up
    (hsub:∀x X,hp2 x=some X→hp x=some X) (h2i:hp2 i=some B) (hD:∀x,D x→x=b∨∃m X s,hp m=some X∧β m=some (x,s)∧(hp2 m=none)) (hDb:D b)
    (os:w'.os=w.os∧w'.tape=w.tape∧w'.output=w.output) (size:w.heap.size≤w'.heap.size) (block:∀x,x< w.heap.size→¬D x→w'.heap[x]?=w.heap[x]?) (sizes:∀x n,aO w x=some n→aO w' x=some n)
    (hbk:bk< w'.heap.size) (hbkn:w.heap.size≤bk∨(D bk∧bk≠b))
    (hcs:w'.heap[b]?=some (.cells cs tB (0,0))) (hck:w'.heap[bk]?=some (.cells ck tb (0,0)))
    (hes:∀M β2,(∀m x,β m=some x→β2 m=some x)→β2 id=some (bk,1)→RVess M β2 w' b 2 es 0) (hes2:∀M β2,RVess M β2 w' bk 1 es2 0) (hl:es.length* 2≤cs.size) (hl2:es2.length* 1≤ck.size):
    Mem M0 w0 (upd β id (some (bk,1))) (upd (upd hp2 i (some ⟨tB,2,es⟩)) id (some ⟨tb,1,es2⟩)) w'∧
     Stab (MM M0 β hp) (MM M0 (upd β id (some (bk,1))) (upd (upd hp2 i (some ⟨tB,2,es⟩)) id (some ⟨tb,1,es2⟩))) β (upd β id (some (bk,1))) w w':=by
 obtain⟨β2,y⟩:∃x,x=upd β id (some (bk,1)):=⟨_,rfl⟩;obtain⟨q,p⟩:∃x,x=upd (upd hp2 i (some (⟨tB,2,es⟩:ABlk))) id (some ⟨tb,1,es2⟩):=⟨_,rfl⟩;rw[←y,←p];have L:i≠id:=fun e=>by subst e;rw[hi] at hidh;cases hidh
 have z:∀m x,β m=some x→β2 m=some x:=fun m x a=>by
  rw[y,bt];exact a;intro e;subst e;rw[hid] at a;cases a
 have j:β2 id=some (bk,1):=by rw[y,a8]
 have J:q id=some ⟨tb,1,es2⟩:=by rw[p,a8]
 have S:q i=some ⟨tB,2,es⟩:=by rw[p,bt _ _ L,a8]
 have A:∀x,x≠id→x≠i→q x=hp2 x:=fun x h1 g=>by rw[p,bt _ _ h1,bt _ _ g]
 have C:∀x,x≠id→β2 x=β x:=fun x h1=>by rw[y,bt _ _ h1]
 -- what is not written
 have V:∀m X c s,hp2 m=some X→m≠i→β m=some (c,s)→¬D c:=by
  intro m X c s a f hc r;rcases hD c r with rfl|⟨H,v,t,h1,g,F⟩
  exact f (h.inj m i X B c s 2 (hsub m X a) hi hc hb);have:=h.inj m H X v c s t (hsub m X a) h1 hc g;subst this;rw[a] at F;cases F
 have W:∀x,D x→¬w0.K x:=by
  intro x r;rcases hD x r with rfl|⟨H,v,t,_,g,_⟩
  exact(h.rng i _ 2 hb).1;exact(h.rng H x t g).1
 have U:¬w0.K bk:=by
  rcases hbkn with l|l
  intro u;have:=w0.lt bk u;have:=h.below.size;omega;exact W bk l.1
 have E:∀x,D x→MM M0 β hp x:=by
  intro x r;rcases hD x r with rfl|⟨H,v,t,h1,g,_⟩
  exact .inr ⟨i,B,2,hi,hb⟩;exact .inr ⟨H,v,t,h1,g⟩
 have T:∀x,D x→∃N,aO w x=some N:=by
  intro x r
  have o:∀m X s,hp m=some X→β m=some (x,s)→∃N,aO w x=some N:=by
   intro m X s h1 g;obtain⟨b',e1,e2⟩:=h.blk m X h1;rw[g] at e1;cases e1;exact e2.size
  rcases hD x r with rfl|⟨H,v,t,h1,g,_⟩
  exact o i B 2 hi hb;exact o H v t h1 g
 have R:∀c,MM M0 β2 q c→MM M0 β hp c∨w.heap.size≤c:=by
  rintro c (hc|⟨m,X,s,h1,g⟩);exact .inl (.inl hc);by_cases a:m=id;subst a;rw[j] at g;cases g;rcases hbkn with l|l
  exact .inr l;exact .inl (E bk l.1);rw[C m a] at g;by_cases f:m=i;subst f;exact .inl (.inr ⟨m,B,s,hi,g⟩);rw[A m a f] at h1;exact .inl (.inr ⟨m,X,s,hsub m X h1,g⟩)
 have st:Stab (MM M0 β hp) (MM M0 β2 q) β β2 w w':=
  ⟨⟨fun c N hs a=>block c (cy hs) fun r=>a (E c r),fun c N hs a=>(R c a).elim (fun h=>h) fun l=>by have:=cy hs;omega,z,sizes⟩,
   fun c Q l=>block c Q fun r=>by obtain⟨N,hN⟩:=T c r;rw[hN] at l;cases l⟩
 refine⟨⟨⟨os.1.trans h.below.os,os.2.1.trans h.below.tape,os.2.2.trans h.below.output,Nat.le_trans h.below.size size,fun k u=>(block k (Nat.lt_of_lt_of_le (w0.lt k u) h.below.size) fun r=>W k r u).trans (h.below.block k u),fun c n hs=>sizes c n (h.below.sizes c n hs)⟩,h.m0,
  fun m c s a=>?_,fun Z=>?_,fun m X a=>?_,fun m k X Y c s t h1 g F O=>?_⟩,st⟩
 by_cases d:m=id;subst d;rw[j] at a;cases a;exact⟨U,hbk⟩;rw[C m d] at a;exact⟨(h.rng m c s a).1,Nat.lt_of_lt_of_le (h.rng m c s a).2 size⟩;rw[C 0 (Ne.symm hid0)];refine h.pin ?_;by_cases h0i:0=i;rw[h0i,hi];rfl;rw[A 0 (Ne.symm hid0) h0i] at Z;obtain⟨X,hX⟩:=Option.isSome_iff_exists.1 Z;rw[hsub 0 X hX];rfl;by_cases d:m=id;subst d;rw[J] at a;cases a;exact⟨bk,j,.inl ⟨Nat.one_ne_zero,ck,hck,hes2 _ _,hl2⟩⟩;by_cases f:m=i;subst f;rw[S] at a;cases a;exact⟨b,z _ _ hb,.inl ⟨(by decide:(2:Nat)≠0),cs,hcs,hes _ _ z j,hl⟩⟩;rw[A m d f] at a;obtain⟨c,e1,e2⟩:=h.blk m X (hsub m X a);exact⟨c,z _ _ e1,e2.stab st.toStabC (block c (h.rng m c _ e1).2 (V m X c _ a f e1))⟩
 have o:∀m X c s,q m=some X→β2 m=some (c,s)→m≠id→∃v,hp m=some v∧β m=some (c,s)∧c≠bk:=by
  intro m X c s a hc d;rw[C m d] at hc;by_cases f:m=i;subst f;rw[hb] at hc;cases hc;refine⟨B,hi,hb,?_⟩;rintro rfl;rcases hbkn with l|l
  have:=(h.rng m _ 2 hb).2;omega;exact l.2 rfl;rw[A m d f] at a;refine⟨X,hsub m X a,hc,?_⟩;rintro rfl;rcases hbkn with l|l
  have:=(h.rng m _ s hc).2;omega;exact V m X _ s a f hc l.1
 by_cases a:m=id;by_cases u:k=id;rw[a,u];subst a;rw[j] at F;cases F;obtain⟨_,_,_,G⟩:=o k Y _ t g O u;exact absurd rfl G;by_cases u:k=id;subst u;rw[j] at O;cases O;obtain⟨_,_,_,G⟩:=o m X _ s h1 F a;exact absurd rfl G;obtain⟨v,e1,e2,_⟩:=o m X c s h1 F a;obtain⟨Y',f1,f2,_⟩:=o k Y c t g O u;exact h.inj m k v Y' c s t e1 f1 e2 f2
theorem qK{M M':Nat→Prop}{β β':Nat→Option (Nat×Nat)}{b:Nat}:∀{t:List UInt8} {off:Nat},RVess M β w b 1 (bE t) off→RVess M' β' w b 1 (bE t) off
 |[],_,_=>trivial
 |_::_,_,⟨h0,⟨⟨x,h1,h2⟩,_⟩,h3⟩=>⟨h0,⟨⟨x,h1,h2⟩,trivial⟩,qK h3⟩
theorem xR {M M':Nat→Prop} {β β':Nat→Option (Nat×Nat)} {b i j i' j':Nat} {s:Option (List UInt8)} (hi:∀x,β i=some x→β' i'=some x) (hj:s≠none→∀x,β j=some x→β' j'=some x)
    (h:RVess M β w b 2 [fh i j s] 0):RVess M' β' w b 2 [fh i' j' s] 0:=by
 obtain⟨_,hc,_⟩:=h;cases s with
 |none=>
  obtain⟨⟨x,h1,a⟩,⟨y,c,d⟩,_⟩:=hc;exact⟨rfl,⟨⟨x,h1,a⟩,⟨y,c,d⟩,trivial⟩,trivial⟩
 |some q=>
  obtain⟨⟨x,h1,⟨b1,s1,a,c⟩⟩,⟨y,d,⟨b2,f,g,e⟩⟩,_⟩:=hc;exact⟨rfl,⟨⟨x,h1,⟨b1,s1,hi _ a,c⟩⟩,⟨y,d,⟨b2,f,hj (by simp) _ g,e⟩⟩,trivial⟩,trivial⟩
def hpB(tB tb:Nat):Option (List UInt8)→List (Nat×Option ABlk)
 |none=>[(0,some ⟨tB,2,[fh 0 1 none]⟩)]
 |some q=>[(0,some ⟨tB,2,[fh 0 1 (some q)]⟩),(1,some ⟨tb,1,bE q⟩)]
theorem tf(tB tb:Nat)(s:Option (List UInt8))(m:Nat):ap (hpB tB tb s) m=if m=0 then some ⟨tB,2,[fh 0 1 s]⟩ else if m=1 then s.map fun q=>⟨tb,1,bE q⟩ else none:=by
 cases s with
 |none=>
  rw[hpB,dq];unfold upd;by_cases h0:m=0;rw[if_pos h0,if_pos h0];by_cases h1:m=1;rw[if_pos h1];rfl;rw[if_neg h1];rfl
 |some q=>
  rw[hpB,dq];unfold upd;by_cases h0:m=0;rw[if_pos h0,if_pos h0];rw[if_neg h0,if_neg h0,dq];unfold upd;by_cases h1:m=1;rfl;rfl
def dropJ(hp:Nat→Option ABlk)(j:Nat):Option (List UInt8)→Nat→Option ABlk
 |none=>hp
 |some _=>upd hp j none
theorem BSpec.intro {f:Nat} {fn:Func} {c:Code} {tB tb:Nat} {s:Option (List UInt8)} {t:List UInt8} {args:List AV} {r:AV} (hf:P.funcs[f]?=some fn) (hb:fn.body=some c) (hname:(fn.name== "runtime.NumGoroutine")=false)
    (hcl:∀a∈args,Closed a) (hpure:Pure r) (hn:args.length+1≤fn.ntmps)
    (h:AWp none P c (fun x st=>(x= .normal∨x= .ret)∧nr P fn.results.toList st r∧∃k,k≠0∧ap st.hp 0=some ⟨tB,2,[fh 0 k (some t)]⟩∧ap st.hp k=some ⟨tb,1,bE t⟩) ⟨(0,.lptr 0 0 0)::dI 1 args,hpB tB tb s,2,fn.ntmps⟩):BSpec P f tB tb s t args r:=by
 refine⟨hcl,fun xs w=>?_,fun M0 w0 β hp w id i j y0 vals mem hid0 hid hidh hi hj hy0 hargs=>?_⟩;have hname':¬fn.name= "runtime.NumGoroutine" :=by grind
 simp[callFunc,hf,hname',hb];refine(callsIn_wide (n:=0)).1 (callsIn_of_wp_marks (F:=Fence.wide) hf hb trivial ?_);have hlen:=hargs.length;obtain⟨b,sz0,hbi,rfl⟩:=hy0;obtain⟨b',cs,hbi',hh,hr,hl⟩:=mem.cells hi (by decide:(2:Nat)≠0);rw[hbi] at hbi';cases hbi';have hbi2:β i=some (b,2):=hbi
 -- the buffer
 have hbuf:∀q,s=some q→∃bj ck,β j=some (bj,1)∧w.heap[bj]?=some (.cells ck tb (0,0))∧RVess (MM M0 β hp) β w bj 1 (bE q) 0∧(bE q).length* 1≤ck.size∧bj≠b:=fun q hq=>by
  obtain⟨h1,h2⟩:=hj q hq;obtain⟨bj,ck,e1,e2,e3,e4⟩:=mem.cells h1 (by decide:(1:Nat)≠0);exact⟨bj,ck,e1,e2,e3,e4,fun e=>by subst e;exact h2 (mem.inj i j _ _ bj 2 1 hi h1 hbi2 e1)⟩
 let D:Nat→Prop:=fun x=>x=b∨(s≠none∧∃ss,β j=some (x,ss))
 let M0c:Nat→Prop:=fun x=>MM M0 β hp x∧¬D x
 let β0:Nat→Option (Nat×Nat):=fun m=>if m=0 then some (b,2) else if m=1∧s≠none then β j else none
 have hDm:∀x,D x→x< w.heap.size∧MM M0 β hp x:=by
  rintro x (rfl|⟨hs,ss,hx⟩);exact⟨(mem.rng i x 2 hbi2).2,.inr ⟨i,_,2,hi,hbi2⟩⟩;obtain⟨q,hq⟩:=Option.ne_none_iff_exists'.1 hs;exact⟨(mem.rng j x ss hx).2,.inr ⟨j,_,ss,(hj q hq).1,hx⟩⟩
 let bs:Base:=⟨w,fun x=>x< w.heap.size∧¬D x,fun _ h=>h.1,some (b,2),fun _=>undef,⟨mem.tab.lt,fun hd=>mem.nt (hDm GT hd).2⟩,mem.tab⟩
 have hβ00:β0 0=some (b,2):=rfl;have hβ01:s≠none→β0 1=β j:=fun hs=>by grind
 have hβ0c:∀m x ss,β0 m=some (x,ss)→D x∧(m=0∨m=1):=by
  grind
 have hmm:MM M0c β0 (ap (hpB tB tb s))=MM M0 β hp:=by
  funext x;refine propext ⟨?_,fun hx=>?_⟩;rintro(hx|⟨m,B,ss,_,h2⟩);exact hx.1;exact(hDm x (hβ0c m x ss h2).1).2;by_cases hd:D x;rcases hd with rfl|⟨hs,ss,hx2⟩
  exact .inr ⟨0,⟨tB,2,[fh 0 1 s]⟩,2,by rw[tf];rfl,rfl⟩;obtain⟨q,hq⟩:=Option.ne_none_iff_exists'.1 hs;exact .inr ⟨1,⟨tb,1,bE q⟩,ss,by rw[tf,hq];rfl,(hβ01 hs).trans hx2⟩;exact .inl ⟨hx,hd⟩
 have hmem:Mem M0c bs β0 (ap (hpB tB tb s)) w:=by
  refine⟨⟨rfl,rfl,rfl,Nat.le_refl _,fun _ _=>rfl,fun _ _ h=>h⟩,fun x hx=>⟨⟨mem.lt hx.1,hx.2⟩,fun e=>mem.nt (e▸hx.1)⟩,fun m x ss hm=>?_,(fun _=>rfl),fun m B hm=>?_,fun m k B B' x ss ss' h1 h2 h3 h4=>?_⟩;have:=hβ0c m x ss hm;exact⟨fun hk=>hk.2 this.1,(hDm x this.1).1⟩;rw[hmm];rw[tf] at hm;split at hm
  ·rename_i h0;subst h0;cases hm
   exact⟨b,rfl,.inl ⟨(by decide:(2:Nat)≠0),cs,hh,xR (i:=i) (j:=j) (fun x hx=>by rw[hbi2] at hx;cases hx;rfl) (fun hs x hx=>(hβ01 hs).trans hx) hr,hl⟩⟩
  split at hm
  ·rename_i h1;subst h1
   cases hs:s with
   |none=>rw[hs] at hm;cases hm
   |some q=>
    rw[hs] at hm;cases hm;obtain⟨bj,ck,e1,e2,e3,e4,_⟩:=hbuf q hs;exact⟨bj,(hβ01 (by rw[hs];simp)).trans e1,.inl ⟨(by decide:(1:Nat)≠0),ck,e2,qK e3,e4⟩⟩
  cases hm;have g1:=(hβ0c m x ss h3).2;have g2:=(hβ0c k x ss' h4).2
  have hne:∀ss ss',β0 0=some (x,ss)→β0 1=some (x,ss')→False:=fun ss ss' e1 e2=>by
   cases e1;cases hs:s with
   |none=>simp only[β0] at e2;rw[if_neg (by decide),if_neg (by rw[hs];simp)] at e2;cases e2
   |some q=>
    obtain⟨bj,ck,f1,_,_,_,f2⟩:=hbuf q hs;rw[hβ01 (by rw[hs];simp),f1] at e2;cases e2;exact f2 rfl
  rcases g1 with rfl|rfl <;> rcases g2 with rfl|rfl
  rfl;exact(hne _ _ h3 h4).elim;exact(hne _ _ h4 h3).elim;rfl
 have hrel:kV M0c bs ⟨(0,.lptr 0 0 0)::dI 1 args,hpB tB tb s,2,fn.ntmps⟩ {tmps:=(Value.pointer (some ⟨b,0* 2+0,none⟩)::vals).toArray++Array.replicate (fn.ntmps- (Value.pointer (some ⟨b,0* 2+0,none⟩)::vals).toArray.size) undef,defers:=[]} w:=by
  refine⟨β0,hmem,by simp;omega,fun t x hx=>?_,fun m (hm:2≤m)=>⟨by simp only[β0];rw[if_neg (by omega),if_neg (by omega)],by omega⟩,⟨[],rfl,List.nodup_nil,by simp⟩⟩;show RV (MM M0c β0 (ap (hpB tB tb s))) _ _ _ _;rw[hmm,cW rfl];rw[show(look ((0,.lptr 0 0 0)::dI 1 args) t=some x)↔(upd (look (dI 1 args)) 0 (some (.lptr 0 0 0)) t=some x) by rw[cO]] at hx;obtain⟨y0,hy0⟩:∃y0,y0=Value.pointer (some ⟨b,0* 2+0,none⟩):=⟨_,rfl⟩;rw[←hy0]
  have get:∀(k:Nat) (y:Value),(y0::vals)[k]?=some y→((y0::vals).toArray++Array.replicate (fn.ntmps- (y0::vals).toArray.size) undef).getD k undef=y:=by
   intro k y hk;have hlt:k< (y0::vals).length:=(List.getElem?_eq_some_iff.1 hk).1;rw[Array.getD_eq_getD_getElem?,Array.getElem?_append_left (by simpa using hlt)];simp only[List.getElem?_toArray];rw[hk];rfl
  unfold upd at hx;split at hx
  ·rename_i h0;subst h0;cases hx
   rw[get 0 y0 rfl];exact⟨b,2,rfl,by rw[hy0]⟩
  obtain⟨h1,y,h2,h3⟩:=iz hargs hx;rw[get t y (by rw[show t=(t- 1)+1 by omega,List.getElem?_cons_succ];exact h2)];exact StabC.all (w:=w) (w':=w) (M:=MM M0 β hp) (β:=fun _=>none) ⟨fun _ _ _ _=>rfl,fun _ _ _ h=>h,(fun _ _ h=>by cases h),fun _ _ h=>h⟩ h3
 refine wpIn_mono (h _ bs _ w hrel) fun x a' w' ⟨st',⟨β',mem',hsz,hfr,hfree,Ds,hds,hnd,hDs⟩,he,hres,k,hk0,hl0,hlk⟩=>?_
 have hL:LeavesInM (FR none) 0 P fn a'.tmps (fun x w'=> ∃y,x= .returned y∧∃β',og M0 w0 β hp w id ⟨r,updB tB tb i j id s t⟩ y w' β') a'.defers .returning w':=by
  rw[hds];refine jF hres (fun y w'' h1 h2 _ _=>?_) Ds w' hnd hDs mem' (fun t x hx=>by have:=hfr t x hx;rwa[cW rfl] at this);have hb0:β' 0=some (b,2):=h2.pin (by rw[hl0];rfl);obtain⟨b1,cs1,e1,e2,e3,e4⟩:=h2.cells hl0 (by decide:(2:Nat)≠0);rw[hb0] at e1;cases e1;obtain⟨bk,ck1,f1,f2,f3,f4⟩:=h2.cells hlk (by decide:(1:Nat)≠0);have hkb:bk≠b:=fun e=>hk0 (h2.inj k 0 _ _ bk _ _ hlk hl0 f1 (by rw[e];exact hb0));have hrk:=h2.rng k bk _ f1
  have hbkn:w.heap.size≤bk∨(D bk∧bk≠b):=by
   by_cases hlt:bk< w.heap.size;by_cases hd:D bk;exact .inr ⟨hd,hkb⟩;exact absurd ⟨hlt,hd⟩ hrk.1;exact .inl (by omega)
  obtain⟨hp2,hhp2⟩:∃hp2:Nat→Option ABlk,hp2=dropJ hp j s:=⟨_,rfl⟩;have hji:s≠none→i≠j:=fun hs=>by obtain⟨q,hq⟩:=Option.ne_none_iff_exists'.1 hs;exact(hj q hq).2
  have h2sub:∀x X,hp2 x=some X→hp x=some X:=by
   intro x X hx;rw[hhp2] at hx;cases hs:s with
   |none=>rw[hs] at hx;exact hx
   |some q=>
    rw[hs] at hx;simp only[dropJ,upd] at hx;split at hx;cases hx;exact hx
  have h2i:hp2 i=some ⟨tB,2,[fh i j s]⟩:=by
   rw[hhp2];cases hs:s with
   |none=>rw[hs] at hi;exact hi
   |some q=>show upd hp j none i=_;rw[bt _ _ (hji (by rw[hs];simp)),←hs];exact hi
  have htwo:=mem.two (w':=w'') (i:=i) (id:=id) (b:=b) (bk:=bk) (tB:=tB) (tb:=tb) (D:=D) (es:=[fh i id (some t)]) (es2:=bE t) (hp2:=hp2) (cs:=cs1) (ck:=ck1) hi hbi2 hid0 hid hidh h2sub h2i
   (fun x hx=>by
    rcases hx with rfl|⟨hs,ss,hx⟩
    exact .inl rfl;obtain⟨q,hq⟩:=Option.ne_none_iff_exists'.1 hs;exact .inr ⟨j,_,ss,(hj q hq).1,hx,by rw[hhp2,hq];exact a8 _ _ _⟩) (.inl rfl)
   ⟨h2.below.os,h2.below.tape,h2.below.output⟩ h2.below.size (fun x hx hd=>h2.below.block x ⟨hx,hd⟩) h2.below.sizes hrk.2 hbkn e2 f2
   (fun M β2 hbe hbid=>xR (i:=0) (j:=k) (fun x hx=>by rw[hb0] at hx;cases hx;exact hbe _ _ hbi2) (fun _ x hx=>by rw[f1] at hx;cases hx;exact hbid) e3) (fun M β2=>qK f3) e4 f4
  refine⟨y,rfl,upd β id (some (bk,1)),?_⟩
  have happ:ja hp (updB tB tb i j id s t)=upd (upd hp2 i (some ⟨tB,2,[fh i id (some t)]⟩)) id (some ⟨tb,1,bE t⟩):=by
   rw[hhp2];cases s <;> rfl
  unfold og;rw[happ];exact⟨htwo.1,hpure _ _ _ _ _ _ _ h1,htwo.2,fun m hm=>bt _ _ hm⟩
 rcases he with rfl|rfl
 exact hL;exact hL
section
variable {id:Nat}{ev:Operand→Option AV}{c:Call}{callee x0:Operand}{f i j tB tb:Nat}{as:List AV}{r:AV}
def rdB(i j:Nat):Option (List UInt8)→List Nat
 |none=>[i]
 |some _=>[i,j]
theorem iB{ρ:Operand→Value}{o:Oper}{args:List Value}{w:World}(ho:o.op= .call c)(h1:c.callee= .value callee)(hx:ρ callee= .func (.func f) #[] #[])(ha:c.args.toList.map ρ=args)(he:∀(xs:Array Value) (w:World),(callFunc f xs).run P w= .ok (.enter f xs) w):
    (execOp ρ o).run P w= .ok (.enter f args.toArray) w:=by
 simp only[execOp];simp only[resolve,Deferred.ofValue,invoke];have:(c.args.toList.map ρ).toArray=c.args.map ρ:=by grind
 grind
theorem Ad{M:Nat→Prop}{β:Nat→Option (Nat×Nat)}{w:World}{ρ:Operand→Value}:∀{xs:List Operand} {as:List AV},(∀x∈xs,∀a,ev x=some a→RV M β w a (ρ x))→evs ev xs=some as→RVs M β w as (xs.map ρ)
 |[],as,_,h=>by simp only[evs,Option.some.injEq] at h;subst h;exact rfl
 |x::xs,as,hev,h=>by
  simp only[evs] at h;split at h
  ·rename_i a c h1 b
   simp only[Option.some.injEq] at h;subst h;exact⟨_,_,rfl,hev x (List.mem_cons_self ..) a h1,Ad (fun y d=>hev y (List.mem_cons_of_mem _ d)) b⟩
  cases h
theorem AEval.callB {s:Option (List UInt8)} {t:List UInt8} {rest:List Operand} (h1:c.callee= .value callee) (h2:ev callee=some (.clos f [] [])) (h3:c.args.toList=x0::rest) (h4:ev x0=some (.lptr i 0 0)) (h5:evs ev rest=some as) (h6:hp i=some ⟨tB,2,[fh i j s]⟩)
    (h7:∀q,s=some q→hp j=some ⟨tb,1,bE q⟩∧i≠j) (h8:BSpec P f tB tb s t (as.map coe) r):AEval P id ev hp (.call c) ⟨r,updB tB tb i j id s t⟩ (rdB i j s):=by
 refine .sem fun A D β b w ρ o C k d B h v e g=>?_
 have a:∀x,x∈(Op.call c).operands↔x=callee∨x∈x0::rest:=by
  simp[Op.operands,Call.operands,h1,←Array.mem_toList_iff,h3]
 obtain⟨xs,F,p,z,l⟩:=d callee ((a _).2 (.inl rfl)) _ h2;have y:xs= #[]:=Array.ext' z;have m:F= #[]:=Array.ext' l;subst y m;have E:b i=some ⟨tB,2,[fh i j s]⟩:=(g i (by cases s <;> simp[rdB])).trans h6;have G:∀q,s=some q→b j=some ⟨tb,1,bE q⟩∧i≠j:=fun q n=>⟨(g j (by rw[n];simp[rdB])).trans (h7 q n).1,(h7 q n).2⟩;have u:RVs (MM A β b) β w as (rest.map ρ):=Ad (fun x p=>d x ((a _).2 (.inr (List.mem_cons_of_mem _ p)))) h5;exact .inr ⟨f,(ρ x0::rest.map ρ).toArray,iB C h1 p (by grind) h8.enters,h8.calls A D β b w id i j (ρ x0) (rest.map ρ) k h v e E G (d x0 ((a _).2 (.inr (List.mem_cons_self ..))) _ h4) (eI h8.cl (jD u))⟩
structure CSpec (P:Program)(f tB:Nat):Prop where
 enters:∀(xs:Array Value) (w:World),(callFunc f xs).run P w= .ok (.enter f xs) w
 used:∀(b:Nat) (w:World),w.cell? ⟨b,0,none⟩=some (.pointer (some ⟨b,0,none⟩))→Calls P f #[.pointer (some ⟨b,0,none⟩)] w fun e w'=>e= .returned (.tuple #[])∧w'=w
 fresh:∀(b:Nat) (w:World) (cs:Array Value),w.heap[b]?=some (.cells cs tB (0,0))→2≤cs.size→cs[0]?=some (.pointer none)→Calls P f #[.pointer (some ⟨b,0,none⟩)] w fun e w'=>e= .returned (.tuple #[])∧w'=w.setCell ⟨b,0,none⟩ (.pointer (some ⟨b,0,none⟩))
theorem AEval.callC{a X:AV}(h1:c.callee= .value callee)(h2:ev callee=some (.clos f [] []))(h3:c.args.toList=[x0])(h4:ev x0=some (.lptr i 0 0))(h5:hp i=some ⟨tB,2,[[a,X]]⟩)(h6:a= .v (.pointer none)∨a= .lptr i 0 0)(h7:CSpec P f tB):
    AEval P id ev hp (.call c) ⟨.tup [],[(i,some ⟨tB,2,[[.lptr i 0 0,X]]⟩)]⟩ [i]:=by
 refine .sem fun M0 w0 β p w ρ o Y n y T V Z S K=>?_
 have l:∀x,x∈(Op.call c).operands↔x=callee∨x∈[x0]:=by
  intro x;simp[Op.operands,Call.operands,h1,←Array.mem_toList_iff,h3]
 obtain⟨xs,ys,H,O,E⟩:=y callee ((l _).2 (.inl rfl)) _ h2;have M:xs= #[]:=Array.ext' O;have G:ys= #[]:=Array.ext' E;subst M G;have N:p i=some ⟨tB,2,[[a,X]]⟩:=(K i (by simp)).trans h5;obtain⟨b,sz0,u,hy0⟩:=y x0 ((l _).2 (.inr (List.mem_cons_self ..))) _ h4;obtain⟨b',cs,j,s,⟨_,⟨⟨D,F,z⟩,⟨L,J,B⟩,_⟩,_⟩,hl⟩:=n.cells N (by decide:(2:Nat)≠0);rw[u] at j;cases j;have q:2≤cs.size:=by grind
 have d:β i=some (b,2):=u;have W:ρ x0= .pointer (some ⟨b,0,none⟩):=by grind
 have hun:ja p [(i,some ⟨tB,2,[[.lptr i 0 0,X]]⟩)]=upd p i (some ⟨tB,2,[[.lptr i 0 0,X]]⟩):=rfl;have R:cs[0]?=some D:=by simpa[World.cell?,s] using F
 have U:cs[1]?=some L:=by simpa[World.cell?,s] using J
 have A:aO w b=some cs.size:=by simp[aO,s]
 have e:Calls P f #[.pointer (some ⟨b,0,none⟩)] w fun e w'=>e= .returned (.tuple #[])∧w'=w.setCell ⟨b,0,none⟩ (.pointer (some ⟨b,0,none⟩))∨e= .returned (.tuple #[])∧w'=w∧D= .pointer (some ⟨b,0,none⟩):=by
  rcases h6 with rfl|rfl
  cases (z:D= .pointer none);exact(h7.fresh b w cs s q R).mono fun _ _ h=> .inl h;obtain⟨b2,s2,hb2,H⟩:=z;rw[d] at hb2;cases hb2;have Q:D= .pointer (some ⟨b,0,none⟩):=by rw[H]
  exact(h7.used b w (by grind)).mono fun _ _ h=> .inr ⟨h.1,h.2,Q⟩
 refine .inr ⟨f, #[.pointer (some ⟨b,0,none⟩)],iB Y h1 H (by grind) h7.enters,e.mono ?_⟩;rintro e w' (⟨rfl,rfl⟩|⟨rfl,rfl,t⟩)
 have C:=n.write (w':=w.setCell ⟨b,0,none⟩ (.pointer (some ⟨b,0,none⟩))) (es:=[[.lptr i 0 0,X]]) (cs:=cs.setIfInBounds 0 (.pointer (some ⟨b,0,none⟩))) (by decide:(2:Nat)≠0) N d ⟨rfl,rfl,rfl⟩ (by simp[World.setCell]) (heap_setCell_same w b 0 cs tB _ s) (fun k hk=>heap_setCell_other w _ k _ hk)
  (fun k e r=>by
   cases k with
   |zero=>
    simp only[List.getElem?_cons_zero,Option.some.injEq] at r;subst r;refine⟨[.pointer (some ⟨b,0,none⟩),L],⟨_,_,rfl,⟨b,2,d,rfl⟩,_,_,rfl,B,rfl⟩,rfl,fun m v g=>?_⟩
    match m,g with
    |0,g=>cases g;show(cs.setIfInBounds 0 _)[0* 2+0]?=_;rw[Array.getElem?_setIfInBounds,if_pos rfl,if_pos (by omega)]
    |1,g=>cases g;simpa[Array.getElem?_setIfInBounds] using U
   |succ k=>simp at r) (by simpa using q) (by rw[Array.size_setIfInBounds];exact A)
 exact⟨_,rfl,β,C.1,⟨#[],rfl,rfl⟩,C.2,fun _ _=>rfl⟩
 have C:=n.write (w':=w') (es:=[[.lptr i 0 0,X]]) (cs:=cs) (by decide:(2:Nat)≠0) N d ⟨rfl,rfl,rfl⟩ rfl s (fun k _=>rfl)
  (fun k e r=>by
   cases k with
   |zero=>
    simp only[List.getElem?_cons_zero,Option.some.injEq] at r;subst r;refine⟨[.pointer (some ⟨b,0,none⟩),L],⟨_,_,rfl,⟨b,2,d,rfl⟩,_,_,rfl,B,rfl⟩,rfl,fun m v g=>?_⟩
    match m,g with
    |0,g=>cases g;rw[←t];simpa using R
    |1,g=>cases g;simpa using U
   |succ k=>simp at r) (by simpa using q) A
 exact⟨_,rfl,β,C.1,⟨#[],rfl,rfl⟩,C.2,fun _ _=>rfl⟩
structure DSpec (P:Program)(f tB tb:Nat):Prop where
 enters:∀(xs:Array Value) (w:World),(callFunc f xs).run P w= .ok (.enter f xs) w
 calls:∀(b bj cap:Nat) (q:List UInt8) (w:World) (cs ck:Array Value),q≠[]→w.heap[b]?=some (.cells cs tB (0,0))→cs[1]?=some (.slice (some ⟨bj,0,none⟩) q.length cap)→q.length≤cap→cap≤maxLen→b≠bj→w.heap[bj]?=some (.cells ck tb (0,0))→cap≤ck.size→
  (∀(k:Nat) (x:UInt8),q[k]?=some x→ck[k]?=some (Value.int .u8 x.toNat))→Calls P f #[.pointer (some ⟨b,0,none⟩)] w fun e w'=>e= .returned (.string ⟨q.toArray⟩)∧But bj w w'
theorem Mem.gone(h:Mem M0 w0 β hp w){j b:Nat}{B:ABlk}{s:Nat}{ids:List Nat}(hb:But b w w')(hj:hp j=some B)(hbj:β j=some (b,s))(hin:j∈ids):
    Mem M0 w0 β (dY hp ids) w'∧Stab (MM M0 β hp) (MM M0 β (dY hp ids)) β β w w':=by
 have d:∀m X,dY hp ids m=some X→hp m=some X∧m∉ids:=fun m X a=>by
  simp only[dY] at a;grind
 obtain⟨m1,p⟩:=h.forget fun m X a=>(d m X a).1;have r:MM M0 β hp b:= .inr ⟨j,B,s,hj,hbj⟩;have g:=h.rng j b s hbj
 have q:∃N,aO w b=some N:=by
  obtain⟨t,e1,e2⟩:=h.blk j B hj;rw[hbj] at e1;cases e1;exact e2.size
 have st:Stab (MM M0 β hp) (MM M0 β (dY hp ids)) β β w w':=
  ⟨⟨fun c N hs a=>hb.block c (cy hs) fun e=>a (e▸r),p.m,fun _ _ h=>h,hb.sizes⟩,
   fun c i v=>hb.block c i fun e=>by grind⟩
 refine⟨⟨⟨hb.os.trans h.below.os,hb.tape.trans h.below.tape,hb.output.trans h.below.output,Nat.le_trans h.below.size hb.size,fun k l=>(hb.block k (Nat.lt_of_lt_of_le (w0.lt k l) h.below.size) fun e=>g.1 (e▸l)).trans (h.below.block k l),fun c n hs=>hb.sizes c n (h.below.sizes c n hs)⟩,h.m0,fun m c ss a=>⟨(h.rng m c ss a).1,Nat.lt_of_lt_of_le (h.rng m c ss a).2 hb.size⟩,m1.pin,fun m X a=>?_,m1.inj⟩,st⟩;obtain⟨h1,u⟩:=d m X a;obtain⟨c,e1,e2⟩:=h.blk m X h1
 have o:c≠b:=fun e=>by
  subst e;have:=h.inj m j X B c _ _ h1 hj e1 hbj;grind
 have f:=hb.block c (h.rng m c _ e1).2 o;exact⟨c,e1,e2.stab st.toStabC f⟩
theorem AEval.callD{q:List UInt8}(h1:c.callee= .value callee)(h2:ev callee=some (.clos f [] []))(h3:c.args.toList=[x0])(h4:ev x0=some (.lptr i 0 0))(h5:hp i=some ⟨tB,2,[fh i j (some q)]⟩)(h6:hp j=some ⟨tb,1,bE q⟩)(hij:i≠j)(hq:q≠[])(h7:DSpec P f tB tb):
    AEval P id ev hp (.call c) ⟨.v (.string ⟨q.toArray⟩),[(i,none),(j,none)]⟩ [i,j]:=by
 refine .sem fun M0 w0 β p w ρ o Y a m L Q hid H n=>?_
 have g:∀x,x∈(Op.call c).operands↔x=callee∨x∈[x0]:=by
  intro x;simp[Op.operands,Call.operands,h1,←Array.mem_toList_iff,h3]
 obtain⟨xs,ys,V,D,r⟩:=m callee ((g _).2 (.inl rfl)) _ h2;have B:xs= #[]:=Array.ext' D;have s:ys= #[]:=Array.ext' r;subst B s;have O:p i=some ⟨tB,2,[fh i j (some q)]⟩:=(n i (by simp)).trans h5;have F:p j=some ⟨tb,1,bE q⟩:=(n j (by simp)).trans h6;obtain⟨b,sz0,l,hy0⟩:=m x0 ((g _).2 (.inr (List.mem_cons_self ..))) _ h4;obtain⟨b',cs,d,J,⟨_,⟨⟨x1,S,W⟩,⟨x2,t,E⟩,_⟩,_⟩,hl⟩:=a.cells O (by decide:(2:Nat)≠0);rw[l] at d;cases d;obtain⟨K,G,e1,e2,e3,e4⟩:=a.cells F (by decide:(1:Nat)≠0);obtain⟨Z,u,M,f2,U,T,_,N,X,f6⟩:=E;rw[e1] at M;cases M;have R:ρ x0= .pointer (some ⟨b,0,none⟩):=by grind
 have g2:cs[1]?=some x2:=by simpa[World.cell?,J] using t
 have C:b≠K:=fun e=>by subst e;exact hij (a.inj i j _ _ b _ _ O F l e1)
 have hN:N=G.size:=by simp[aO,e2] at X;grind
 refine .inr ⟨f, #[.pointer (some ⟨b,0,none⟩)],iB Y h1 V (by grind) h7.enters,(h7.calls b K u q w cs G hq J (by grind) U T C e2 (by grind) fun k x hk=>?_).mono ?_⟩;have:=(e3.get (i:=k) (e:=[.v (.int .u8 x.toNat)]) (by simp[bE,hk])).1;obtain⟨⟨y,z,A⟩,_⟩:=this;cases (A:y=_);simpa[World.cell?,e2] using z;rintro e w' ⟨rfl,h⟩;have hg:=a.gone (ids:=[i,j]) h F e1 (by simp);refine⟨_,rfl,β,?_⟩;unfold og;rw[show([(i,none),(j,none)]:List (Nat×Option ABlk))=[i,j].map fun i=>(i,none) from rfl,tV];exact⟨hg.1,rfl,hg.2,fun _ _=>rfl⟩
def GJ:Option (List UInt8)→List AV
 |none=>[.v (.pointer none),.emp]
 |some q=>[.any,.arr (bE q)]
theorem AEval.callR{s:Option (List UInt8)}{r:Value}(h1:c.callee= .value callee)(h2:ev callee=some (.clos f [] []))(h3:c.args.toList=[x0])(h4:ev x0=some (.lptr i 0 0))(h5:hp i=some ⟨tB,2,[fh i j s]⟩)(h6:∀q,s=some q→hp j=some ⟨tb,1,bE q⟩)(h7:FSpec P f [.aptr [GJ s] 0 0] (.v r)):
    AEval P id ev hp (.call c) ⟨.v r,[]⟩ (rdB i j s):=by
 refine .sem fun A w0 β d w ρ o ho a u U V hid T C=>?_
 have k:∀x,x∈(Op.call c).operands↔x=callee∨x∈[x0]:=by
  intro x;simp[Op.operands,Call.operands,h1,←Array.mem_toList_iff,h3]
 obtain⟨xs,ys,E,S,Q⟩:=u callee ((k _).2 (.inl rfl)) _ h2;have H:xs= #[]:=Array.ext' S;have R:ys= #[]:=Array.ext' Q;subst H R;have hi:d i=some ⟨tB,2,[fh i j s]⟩:=(C i (by cases s <;> simp[rdB])).trans h5;have Z:∀q,s=some q→d j=some ⟨tb,1,bE q⟩:=fun q Y=>(C j (by rw[Y];simp[rdB])).trans (h6 q Y);obtain⟨b,sz0,D,hy0⟩:=u x0 ((k _).2 (.inr (List.mem_cons_self ..))) _ h4;obtain⟨b',cs,h,hh,hr,hl⟩:=a.cells hi (by decide:(2:Nat)≠0);rw[D] at h;cases h;have t:β i=some (b,2):=D;have G:ρ x0= .pointer (some ⟨b,0,none⟩):=by grind
 let hp2:=dY d [i,j]
 have g:∀m X,hp2 m=some X→d m=some X∧m≠i∧m≠j:=fun m X F=>by
  simp only[hp2,dY] at F;grind
 have hM:∀x,MM A β hp2 x→MM A β d x:=by
  rintro x (E|⟨m,X,p,l,n⟩);exact .inl E;exact .inr ⟨m,X,p,(g m X l).1,n⟩
 have z:∀m X x p,d m=some X→β m=some (x,p)→(m=i∨m=j)→¬MM A β hp2 x:=by
  rintro m X x p l n gm (E|⟨m',W,J,g3,O⟩);exact(a.rng m x p n).1 (a.m0 x E).1;obtain⟨M,g6,g7⟩:=g m' W g3;have:=a.inj m m' X W x p J l M n O;grind
 have B:RVs (MM A β hp2) (fun _=>none) w [.aptr [GJ s] 0 0] [.pointer (some ⟨b,0,none⟩)]:=by
  refine⟨_,_,rfl,⟨by simp,b,0,2,by simp,⟨cs.size,by simp[aO,hh]⟩,z i _ b 2 hi t (.inl rfl),?_⟩,rfl⟩;obtain⟨_,hc,_⟩:=hr;cases hs:s with
  |none=>
   rw[hs] at hc;obtain⟨⟨x,h1,h2⟩,⟨y,h3,h4⟩,_⟩:=hc;exact⟨rfl,⟨⟨x,h1,h2⟩,⟨y,h3,h4⟩,trivial⟩,trivial⟩
  |some q=>
   rw[hs] at hc;obtain⟨⟨x,h1,_⟩,⟨y,h3,⟨L,K,l,n,g3,O,_,N,M,g6⟩⟩,_⟩:=hc;obtain⟨bj',ck,e1,e2,e3,e4⟩:=a.cells (Z q hs) (by decide:(1:Nat)≠0);rw[l] at e1;cases e1;refine⟨rfl,⟨⟨x,h1,trivial⟩,⟨y,h3,⟨some ⟨L,0,none⟩,K,by rw[n,dK],by rw[dK];exact g3,O,.inr ⟨L,0,1,rfl,⟨N,M⟩,z j _ L 1 (Z q hs) l (.inr rfl),qK e3⟩⟩⟩,trivial⟩,trivial⟩
 refine .inr ⟨f, #[.pointer (some ⟨b,0,none⟩)],iB ho h1 E (by rw[h3];simp[G]) h7.enters,(h7.calls (MM A β hp2) w _ (a.fit.sub hM) B).mono ?_⟩;rintro e w' ⟨y,rfl,hy,hb⟩;have F:=a.ext hb;exact⟨y,rfl,β,F.1,hy,F.2,fun _ _=>rfl⟩
end
end
section
variable {P:Program}{M0:Nat→Prop}{w0:Base}{β:Nat→Option (Nat×Nat)}{hp:Nat→Option ABlk}{w w':World}
theorem RVkv.snoc{M:Nat→Prop}:∀{es:List (List AV)} {ens:List MapEntry} {x:List AV} {e:MapEntry},RVkv M β w es ens→RVs M β w x [e.key,e.val]→RVkv M β w (es++[x]) (ens++[e])
 |[],ens,x,e,h,hx=>by cases (h:ens=[]);exact⟨e,[],rfl,hx,rfl⟩
 |y::es,ens,x,e,⟨e',es',he,h1,h2⟩,hx=>by subst he;exact⟨e',es'++[e],rfl,h1,RVkv.snoc h2 hx⟩
def Dk(kd:IntKind)(k:Int):List (List AV)→Bool
 |[]=>true
 |[.v (.int kd' k'),_]::l=>decide (kd=kd') && !decide (k=k') && Dk kd k l
 |_=>false
theorem Bj{M:Nat→Prop}{kd kd0:IntKind}{k:Int}:∀{es:List (List AV)} {ens:List MapEntry} (i:Nat),Dk kd k es=true→RVkv M β w es ens→Instr.findNow (.int kd0) (.int kd k) ens i=some none
 |[],ens,i,_,h=>by cases (h:ens=[]);rfl
 |[.v (.int kd' k'),a]::es,ens,i,hn,⟨e,es',he,⟨x,xs,e1,hx,_⟩,h2⟩=>by
  subst he;simp only[Dk,Bool.and_eq_true,decide_eq_true_eq,Bool.not_eq_true',decide_eq_false_iff_not] at hn;obtain⟨⟨rfl,h1⟩,c⟩:=hn;cases e1;have b:e.key= .int kd k':=hx;have hs:Instr.sameNow (.int kd0) (.int kd k) e.key=some false:=by rw[b];simp[Instr.sameNow,h1]
  simp only[Instr.findNow,hs];exact Bj (i+1) c h2
section
variable {id:Nat}{ev:Operand→Option AV}{T kt e:Nat}{kd:IntKind}
def E5(kd:IntKind)(k:Int):List Value→Option Nat
 |[]=>none
 | .int kd' k'::l=>if kd=kd' then(if k=k' then some 0 else(E5 kd k l).map (· +1)) else none
 |_=>none
def ET(k:Int):List Value→Bool
 |[]=>true
 | .int _ k'::l=>!decide (k=k') && ET k l
 |_=>false
theorem v8{k:Int}:∀{l:List Value},ET k l=true→Value.int kd k∉l
 |[],_=>by simp
 |c::l,h=>by
  cases c <;> simp only[ET,Bool.false_eq_true,Bool.and_eq_true,Bool.not_eq_true',decide_eq_false_iff_not] at h;intro a;rcases List.mem_cons.1 a with e|e
  cases e;exact h.1 rfl;exact v8 h.2 e
def rD(kd:IntKind):List Value→Bool
 |[]=>true
 | .int kd' k'::l=>decide (kd=kd') && ET k' l && rD kd l
 |_=>false
theorem yc{M:Nat→Prop}{k:Int}:∀{ks:List Value} {vs:List AV} {l:List MapEntry} (n:Nat) (a:AV),l.map (·.key)=ks→RVs M β w vs (l.map (·.val))→E5 kd k ks=some n→vs[n]?=some a→∃e,e∈l∧e.key= .int kd k∧RV M β w a e.val
 |[],_,_,_,_,_,_,h,_=>by cases h
 |c::ks,vs,[],n,a,h1,_,_,_=>by grind
 |c::ks,[],e::l,n,a,h1,h2,_,_=>by grind
 |c::ks,u::vs,e::l,n,a,h1,⟨x,xs,e1,g1,g2⟩,h3,h4=>by
  simp only[List.map_cons,List.cons.injEq] at h1 e1;obtain⟨hc,h1⟩:=h1;obtain⟨rfl,rfl⟩:=e1;cases c <;> simp only[E5,reduceCtorEq] at h3;split at h3
  ·rename_i d
   split at h3
   ·grind
   obtain⟨f,b,rfl⟩:=Option.map_eq_some_iff.1 h3;obtain⟨m,j,i,g⟩:=yc f a h1 g2 b (by grind);grind
  grind
theorem pK:∀{ks:List Value},rD kd ks=true→ks.Nodup∧∀k∈ks,∃n,k= .int kd n
 |[],_=>⟨List.nodup_nil,fun _ h=>by cases h⟩
 |c::ks,h=>by
  cases c <;> simp only[rD,Bool.false_eq_true,Bool.and_eq_true,decide_eq_true_eq] at h;obtain⟨⟨rfl,h1⟩,a⟩:=h;obtain⟨i1,i2⟩:=pK a;exact⟨List.nodup_cons.2 ⟨v8 h1,i1⟩,fun k b=>((by grind))⟩
theorem BM{kd0:IntKind}{k:Int}{e:MapEntry}:∀{l:List MapEntry} (i:Nat),e∈l→e.key= .int kd k→(l.map (·.key)).Nodup→(∀x∈l.map (·.key),∃n,x= .int kd n)→∃j,Instr.findNow (.int kd0) (.int kd k) l i=some (some (j,e.val))
 |[],_,h,_,_,_=>by cases h
 |x::l,i,h,hk,hnd,hall=>by
  rw[List.map_cons,List.nodup_cons] at hnd;obtain⟨n,b⟩:=hall x.key (List.mem_cons_self ..);by_cases hkn:k=n;subst hkn;have c:e=x:=by grind
  subst c;exact⟨i,by simp[Instr.findNow,Instr.sameNow,b]⟩;have a:e≠x:=fun c=>by grind
  have hs:Instr.sameNow (.int kd0) (.int kd k) x.key=some false:=by rw[b];simp[Instr.sameNow,hkn]
  obtain⟨j,f⟩:=BM (kd0:=kd0) (i+1) ((List.mem_cons.1 h).resolve_left a) hk hnd.2 (fun y d=>hall y (List.mem_cons_of_mem _ d));exact⟨j,by simp only[Instr.findNow];grind⟩
theorem AEval.lookup{x ix:Operand}{ks:List Value}{vs:List AV}{kk:Int}{n:Nat}{a:AV}(h1:ev x=some (.mp ks vs))(h3:ev ix=some (.v (.int kd kk)))(hT:P.underlying T=some (.map kt e))(hK:P.underlying kt=some (.int kd))(hn:E5 kd kk ks=some n)(ha:vs[n]?=some a)(hg:rD kd ks=true):
    AEval P id ev hp (.lookup T x ix false) ⟨a,[]⟩ []:=by
 refine .sem fun L N β A w ρ o K c b i m G g z=>?_;obtain⟨r,s,J,H,q,_,l,f,p,g3⟩:=b x (by simp[Op.operands]) _ h1;have M:ρ ix= .int kd kk:=b ix (by simp[Op.operands]) _ h3;obtain⟨h,t,C,B⟩:=yc n a p g3 hn ha;obtain⟨u,D⟩:=pK hg;have hp:=f.map (fun e:MapEntry=>e.key);rw[p] at hp;obtain⟨j,F⟩:=BM (kd0:=kd) 0 (f.mem_iff.1 t) C (hp.nodup_iff.1 u) (fun y E=>D y (hp.mem_iff.2 E));refine .pure (y:=h.val) c ?_ B
 have d:(Instr.lookup T (.map (some r)) (.int kd kk) false).run P w= .ok h.val w:=by
  simp[Instr.lookup,run_underlying hT,MapKept.run_getObj_map q,MapKept.run_checkKey (k:= .int kd kk) hK (by simp[MapKept.IsKey]),MapKept.run_findKey hK F]
 simp only[execOp];simp_all
end
end
theorem CvL.two{r:Ren}{hp hp':Nat→Option ABlk}{x x' y y':AV}(h:Cv r hp hp' x x')(h':Cv r hp hp' y y'):CvL r hp hp' [x,y] [x',y']:=ai h (ai h' aw)
section
variable {P:Program}{ops:Array Oper}{nx n j:Nat}{rest:List Oper}{fr:Fr}{hp:Hp}{K:Fps→Fr→Hp→Prop}
variable {d:Nat}{op:Op}{ty:Nat}{pos:String}{after:Array Edge}{a:AV}{p q s:Nat×Option ABlk}{rd:List Nat}
theorem AR.op3 (hs:AEval P (nx+j) (evF (look fr)) (ap hp) op ⟨a,[p,q,s]⟩ rd) (hnd:cb op=true) (hd:Nat.blt d n=true)
    (h:AR P ops nx n (j+1) rest ((d,a)::fr) (s::q::p::hp) fun fps f h=>K (([p.1,q.1,s.1],rd)::fps) f h):AR P ops nx n j (⟨some d,op,ty,pos,after,none⟩::rest) fr hp K:=
 AR.cons ⟨bF hnd,hs⟩ hd h
end
abbrev tx(t:List UInt8):AV:= .v (.string ⟨t.toArray⟩)
def jT(t:List UInt8):List Value:=t.map fun b=> .int .u8 b.toNat
section
variable {P:Program}{w:World}
theorem qk(t:List UInt8)(w:World):(Builtin.firstCells 1 t.length (.string ⟨t.toArray⟩)).run P w= .ok (jT t).toArray w:=by
 have hs:(⟨t.toArray⟩:ByteArray).size=t.length:=by simp[ByteArray.size]
 have a:(⟨t.toArray⟩:ByteArray).extract 0 t.length=⟨t.toArray⟩:=by rw[←hs];simp
 simp only[Builtin.firstCells];simp[jT]
theorem lM {T T' E bs sz:Nat} {zs:List Value} (h1:eO P T=some (E,sz)) (h2:P.underlying T'=some .string) (h3:ic P E=some zs) (h4:uB P E=some bs)
    {base:Option Addr} {n c m:Nat} {s:ByteArray} {old new:Array Value} (hm:s.size=m) (hgrow:c< n+m) (hroom:(n+m) * bs≤140737488355328) (h63:n+m≤maxLen- 1) (ty:TypeId)
    (hold:∀w',w'.heap=w.heap→(Builtin.firstCells sz n (.slice base n c)).run P w'= .ok old w') (hnew:∀w',w'.heap=w.heap→(Builtin.firstCells sz m (.string s)).run P w'= .ok new w'):
    ∃nc z,n+m≤nc∧nc< 2^ 63∧z.toList=zs∧(Builtin.append_ #[T,T'] ty #[.slice base n c,.string s]).run P w=
     .ok (.slice (some ⟨w.heap.size,0,none⟩) (n+m) nc) (w.drew.alloc (.cells (old++new++Builtin.zeroCells z (nc- (n+m))) E)):=by
 obtain⟨q,l⟩:=ed h1;obtain⟨i,z,i1,i2,r,y,x⟩:=zK l h3 h4;have f:n+m< 2^ 63:=by unfold maxLen at h63;omega
 obtain⟨j,k⟩:=Ft (need:=n+m) (old:=c) (e:=E) (w.tape w.drawn (.appendCap (n+m) c E)) f;refine⟨(Question.appendCap (n+m) c E).cut (w.tape w.drawn (.appendCap (n+m) c E)),z.cells,j,k,r,?_⟩;have o:=growslice_fits hgrow hroom
 have g:¬((n:Int)+(m:Int)> IntKind.i64.max):=by
  have:IntKind.i64.max=9223372036854775807:=by decide
  grind
 have p:¬(n+m≤c):=by omega
 have v:∀w:World,({w with drawn:=w.drawn+1}:World)=w.drew:=fun _=>rfl;have u:=hold w.drew rfl;have t:=hnew w.drew rfl;have a:(Question.appendCap (n+m) c E).forced=false:=rfl;have b:¬(((n+m:Nat):Int)> IntKind.i64.max∧(False∨i.bytes=0)):=fun h=>g (by grind);have d:¬(Builtin.nextslicecap (n+m) c* i.bytes> 2^ 48):=by grind
 unfold Builtin.append_
 simp only[List.getElem?_toArray,List.getElem?_cons_zero,List.getElem?_cons_succ,Sem.run_bind,run_underlying q w,run_underlying h2 w,Result.andThen_ok,run_sizeOf' l,Sem.run_pure,
  Bool.false_eq_true,if_false,Builtin.lenOf,hm,p,typeInfo,run_program,i1,b,d,run_choose,a,v,run_askRoom,Bool.not_false,if_true,u,t,zeroValue,i2,newRow,run_newObj]
 rfl
theorem sT {T T' E sz:Nat} (h1:eO P T=some (E,sz)) (h2:P.underlying T'=some .string)
    {b off n c m:Nat} {s:ByteArray} {new:Array Value} (hm:s.size=m) (hroom:n+m≤c) (ty:TypeId) (hnew:(Builtin.firstCells sz m (.string s)).run P w= .ok new w) {w':World}
    (hst:(storeCells ⟨b,off+n* sz,none⟩ new.toList).run P w= .ok () w'):
    (Builtin.append_ #[T,T'] ty #[.slice (some ⟨b,off,none⟩) n c,.string s]).run P w= .ok (.slice (some ⟨b,off,none⟩) (n+m) c) w':=by
 obtain⟨d,a⟩:=ed h1;unfold Builtin.append_
 simp only[List.getElem?_toArray,List.getElem?_cons_zero,List.getElem?_cons_succ,Sem.run_bind,run_underlying d w,run_underlying h2 w,Result.andThen_ok,run_sizeOf' a,Sem.run_pure,
  Bool.false_eq_true,if_false,Builtin.lenOf,hm,hroom,Bool.not_false,if_true,hnew,kT,hst]
end
theorem yo{M:Nat→Prop}{β:Nat→Option (Nat×Nat)}{w:World}(t:List UInt8):Flat M β w 1 (bE t) (jT t):=by
 refine⟨by simp[jT,bE],fun i e b=>?_⟩;simp only[bE,List.getElem?_map,Option.map_eq_some_iff] at b;obtain⟨x,c,rfl⟩:=b;refine⟨[.int .u8 x.toNat],⟨_,_,rfl,rfl,rfl⟩,rfl,fun j v a=>?_⟩;cases j with
 |zero=>simp only[List.getElem?_cons_zero,Option.some.injEq] at a;subst a;simp[jT,c]
 |succ j=>grind
section
variable {P:Program}{id:Nat}{ev:Operand→Option AV}{hp:Nat→Option ABlk}{c:Call}{x y:Operand}{T T' E:Nat}{t q:List UInt8}{zs:List Value}
theorem AEval.appS_e (h1:c.callee= .builtin .append) (h2:c.args= #[x,y]) (h3:c.argTypes= #[T,T']) (h4:eO P T=some (E,1)) (h5:P.underlying T'=some .string) (h6:ev x=some .emp) (h7:ev y=some (tx t)) (h9:t≠[])
    (h10:ic P E=some zs) (h11:zs.length=1) (h12:uB P E=some 1) (h13:t.length≤140737488355328):
    AEval P id ev hp (.call c) ⟨.lsl id 0 t.length none 1,[(id,some ⟨E,1,bE t⟩)]⟩ []:=by
 refine .sem fun S w0 β C w ρ o O A l G r D p Q=>?_
 have f:∀z,z∈(Op.call c).operands↔z∈[x,y]:=by
  intro z;simp[Op.operands,Call.operands,h1,h2]
 obtain⟨b,K⟩:=l x ((f _).2 (by simp)) _ h6;have W:ρ y= .string ⟨t.toArray⟩:=l y ((f _).2 (by simp)) _ h7;have F:0< t.length:=by grind
 have q:∀g:World,g.heap=w.heap→(Builtin.firstCells 1 0 (.slice b 0 0)).run P g= .ok #[] g:=by
  intro g _;cases b with
  |none=>rfl
  |some ad=>simp[Builtin.firstCells,loadCells,loadCellsFrom]
 have d:Flat (MM S β C) β w 1 (bE t) (jT t):=yo t;obtain⟨u,z,Y,g2,g3,V⟩:=lM (w:=w) (n:=0) (m:=t.length) (c:=0) (s:=⟨t.toArray⟩) (base:=b) h4 h5 h10 h12 (by simp[ByteArray.size]) (by omega) (by omega) (by unfold maxLen;omega) o.type q (fun g _=>qk t g);have B:z.size=1:=by grind
 have h:=A.ext ((Below.refl w.heap.size w).drew)
 have a:=h.1.alloc (i:=id) (ty:=E) (s:=1) (es:=bE t) (cs:= #[]++(jT t).toArray++Builtin.zeroCells z (u- (0+t.length))) Nat.one_ne_zero r D p (fun k e U=>by
  obtain⟨X,R,L,r3⟩:=d.2 k e U;refine⟨X,h.2.vs R,L,fun j v H=>?_⟩;grind) (by simp[d.1])
 refine .inl ⟨.slice (some ⟨w.heap.size,0,none⟩) t.length u,_,_,.inl ?_,a.1,⟨w.heap.size,u,a8 _ _ _,by simp,by omega,by unfold maxLen;omega,(fun k Z=>by grind),u* 1,?_,by simp⟩,⟨⟨fun M N hN J=>(a.2.heap M N hN J),a.2.m,a.2.be,a.2.sz⟩,a.2.oth⟩,fun j H=>bt _ _ H⟩;simp only[execOp,O,resolve,h1,h2,Sem.run_bind,Sem.run_pure,Result.andThen_ok,invoke,builtin,List.map_toArray,List.map_cons,List.map_nil,K,W,h3,V,Nat.zero_add];unfold aO;have:(w.drew.alloc (.cells (#[]++(jT t).toArray++Builtin.zeroCells z (u- (0+t.length))) E)).heap[w.heap.size]?=_:=heap_alloc_new' w.drew _;rw[this];simp only[Array.size_append,List.size_toArray,List.length_nil,iJ,B,Option.some.injEq];have:(jT t).length=t.length:=by simp[jT]
 omega
theorem AEval.appS_l {i n:Nat} {cap:Option Nat} (h1:c.callee= .builtin .append) (h2:c.args= #[x,y]) (h3:c.argTypes= #[T,T']) (h4:eO P T=some (E,1)) (h5:P.underlying T'=some .string) (h6:ev x=some (.lsl i 0 n cap 1)) (h7:hp i=some ⟨E,1,bE q⟩) (hn:n=q.length) (h13:ev y=some (tx t))
    (h15:ic P E=some zs) (h16:zs.length=1) (h17:uB P E=some 1) (h18:q.length+t.length≤140737488355328):
    AEval P id ev hp (.call c) ⟨.lsl id 0 (q++t).length none 1,[(i,none),(id,some ⟨E,1,bE (q++t)⟩)]⟩ [i]:=by
 subst hn;refine .sem fun M0 w0 β hp' w ρ o ho G O hcst A Y r hrd=>?_
 have l:∀z,z∈(Op.call c).operands↔z∈[x,y]:=by
  intro z;simp[Op.operands,Call.operands,h1,h2]
 have hi:hp' i=some ⟨E,1,bE q⟩:=(hrd i (by simp)).trans h7;have Q:=O x ((l _).2 (by simp)) _ h6;have hy:ρ y= .string ⟨t.toArray⟩:=O y ((l _).2 (by simp)) _ h13
 have C:SrcOf hp' 1 (.lsl i 0 q.length cap 1) (bE q) [i]:=by
  have:=SrcOf.lsl (s:=1) (hp:=hp') (i:=i) (e:=0) (n:=q.length) (cap:=cap) (B:=⟨E,1,bE q⟩) (ew hi Nat.one_ne_zero) (by simp[bE]);simpa[dK,List.take_of_length_le] using this
 obtain⟨L,V,a,⟨a0,M⟩,_,H⟩:=C.run (P:=P) G Q;obtain⟨b,c2,hb,F,hnc,hcm,hcap,N,hN,K⟩:=Q;rw[M,dK] at F;simp only[Value.slice.injEq,true_and] at F;obtain⟨rfl,rfl⟩:=F;have f:Flat (MM M0 β hp') β w 1 (bE t) (jT t):=yo t;have hne:i≠id:=fun e=>by grind
 simp only[Nat.zero_mul] at M K;rw[Nat.zero_add] at K;rw[dK] at M
 have X:∀v∈jT t,v.oneCell'=true:=by
  intro v hv;obtain⟨u,_,rfl⟩:=List.mem_map.1 hv;rfl
 by_cases hroom:q.length+t.length≤V;have hle:(q.length+t.length) * 1≤N:=by omega
 obtain⟨w',r1,r2,r3,r4⟩:=G.storeEls (P:=P) (i:=i) (B:=⟨E,1,bE q⟩) (e:=q.length) (fs:=bE t) (es':=bE (q++t)) Nat.one_ne_zero hi hb f X hN (by rw[dK];grind) (fun p el hp=>by
  rw[yH] at hp;rw[dK];by_cases hql:p< q.length;rw[List.getElem?_append_left (by rw[dK];exact hql)] at hp;exact .inr ⟨.inl hql,hp⟩;rw[List.getElem?_append_right (by rw[dK];omega),dK] at hp;have:=(List.getElem?_eq_some_iff.1 hp).1;rw[dK] at this;exact .inl ⟨by omega,by omega,hp⟩) (by rw[dK,List.length_append];exact hle)
 have D:=r2.rename (i:=i) (id:=id) (B:=⟨E,1,bE (q++t)⟩) (a8 _ _ _) hb A Y (by rw[bt _ _ (fun e=>hne e.symm)];exact r);rw[qz] at D;refine .inl ⟨.slice (some ⟨b,0,none⟩) (q.length+t.length) V,w',_,.inl ?_,D.1,⟨b,V,a8 _ _ _,by simp,by simpa using hroom,hcm,(fun k hk=>by cases hk),N,r3.sz b N hN,by rw[Nat.zero_add];exact K⟩,r3.trans D.2 (by omega),fun j d=>bt _ _ d⟩;have hr:=sT (P:=P) (w:=w) (w':=w') (b:=b) (off:=0) (n:=q.length) (m:=t.length) (c:=V) (s:=⟨t.toArray⟩) (new:=(jT t).toArray) h4 h5 (by simp[ByteArray.size]) hroom o.type (qk t w) (by simpa using r1);simp only[execOp,ho,resolve,h1,h2,Sem.run_bind,Sem.run_pure,Result.andThen_ok,invoke,builtin,List.map_toArray,List.map_cons,List.map_nil,M,hy,h3,hr];have h:=H (bE q).length (Nat.le_refl _);have S:(bE q).length* 1=L.length:=a.1.symm;rw[M,S,List.take_length,dK] at h;obtain⟨W,z,g1,g2,g3,hr⟩:=lM (w:=w) (n:=q.length) (m:=t.length) (c:=V) (s:=⟨t.toArray⟩) (base:=some ⟨b,0,none⟩) h4 h5 h15 h17 (by simp[ByteArray.size]) (by omega) (by omega) (by unfold maxLen;omega) o.type h (fun w' _=>qk t w');have Z:z.size=1:=by rw[←Array.length_toList,g3];exact h16
 have J:=G.ext ((Below.refl w.heap.size w).drew);have g:=(f.append a).stab J.2.toStabC;rw[←yH] at g;have hbl:(jT t).length=t.length:=by simp[jT]
 rw[dK] at S
 have R:=J.1.alloc (i:=id) (ty:=E) (s:=1) (es:=bE (q++t)) (cs:=L.toArray++(jT t).toArray++Builtin.zeroCells z (W- (q.length+t.length))) Nat.one_ne_zero A Y r (fun k e he=>by
  obtain⟨ys,q1,q2,q3⟩:=g.2 k e he;refine⟨ys,q1,q2,fun j v d=>?_⟩;have h4:=q3 j v d;have hlt:=(List.getElem?_eq_some_iff.1 h4).1;rw[Array.getElem?_append_left (by simpa using hlt)];simpa using h4) (by rw[dK];simp;omega)
 have U:=R.1.forget (hp':=upd (upd hp' i none) id (some ⟨E,1,bE (q++t)⟩)) (fun j B' d=>by
  by_cases hji:j=id;subst hji;rw[a8] at d⊢;exact d;rw[bt _ _ hji] at d⊢;by_cases hj2:j=i;subst hj2;rw[a8] at d;cases d;rw[bt _ _ hj2] at d;exact d)
 refine .inl ⟨.slice (some ⟨w.heap.size,0,none⟩) (q.length+t.length) W,_,_,.inl ?_,U.1,⟨w.heap.size,W,a8 _ _ _,by simp,by simp;omega,by unfold maxLen;omega,(fun k hk=>by cases hk),W* 1,?_,by simp⟩,(J.2.trans R.2 (Nat.le_refl _)).trans U.2 (by simp),fun j d=>bt _ _ d⟩;simp only[execOp,ho,resolve,h1,h2,Sem.run_bind,Sem.run_pure,Result.andThen_ok,invoke,builtin,List.map_toArray,List.map_cons,List.map_nil,M,hy,h3,hr];unfold aO;have:(w.drew.alloc (.cells (L.toArray++(jT t).toArray++Builtin.zeroCells z (W- (q.length+t.length))) E)).heap[w.heap.size]?=_:=heap_alloc_new' w.drew _;rw[this];simp only[Array.size_append,List.size_toArray,iJ,Z,Option.some.injEq];omega
end
section
variable {P:Program}{M0:Nat→Prop}{w0:Base}{w:World}{ops:Array Oper}{id n:Nat}{fr:Nat→Option AV}{hp:Nat→Option ABlk}{o:Oper}{u:Upd}{rd:List Nat}{a:Act}{ρ:Option Nat}{Q:Exit→Act→World→Prop}{β:Nat→Option (Nat×Nat)}
theorem AStep.simF (h:AStep P ops id fr hp o u rd) (mem:Mem M0 w0 β hp w) (hfr:∀t x,fr t=some x→RV (MM M0 β hp) β w x (iI w0 a t)) (hidn:β id=none) (hid0:id≠0) {K:Act→World→Prop}
    (fin:∀y w' β',og M0 w0 β hp w id u y w' β'→K (a.put o.dst y) w'):
    if Region.wanted o (yielded ops a.tmps) then o.wpIn (FR ρ) 0 P a w K Q else(∀f,o.about P w a.eval=some f→(FR ρ).fn f)∧K (a.put o.dst undef) w:=by
 have m:hp id=none:=by
  cases n:hp id with
  |none=>rfl
  |some B=>obtain⟨b,hb,_⟩:=mem.blk id B n;rw[hidn] at hb;cases hb
 have run:AEval P id (evF fr) hp o.op u rd→o.wpIn (FR ρ) 0 P a w K Q:=by
  intro q;refine⟨fun _ _=>trivial,?_⟩;rw[Oper.semAt_eq _ _ _ h.1];rcases q.good (ρ:=a.eval) (o:=o) mem (ii hfr) (fun _=>rfl) hid0 hidn m rfl with⟨y,w',β',c,i⟩|⟨f,s,c,j⟩
  rcases c with c|⟨c,rfl⟩
  rw[c];exact fin y w' β' i;rw[c];exact fin undef w' β' i;rw[c];refine⟨fun n=>by simp[FR] at n,u5 (j.mono ?_)⟩;rintro e w' ⟨y,rfl,β',i⟩;exact fin y w' β' i
 have skip:u=⟨.v undef,[]⟩→K (a.put o.dst undef) w:=by
  rintro rfl;exact fin undef w β ⟨mem,rfl,.refl,fun _ _=>rfl⟩
 have p:=h.2;cases hg:o.guard with
 |none=>
  rw[hg] at p;rw[if_pos (by simp[Region.wanted,hg])];exact run p
 |some D=>
  obtain⟨g,l⟩:=D;rw[hg] at p;obtain⟨t,x,ht,A,hc⟩:=p;have d:a.tmps.getD t undef=x:=ii hfr (.tmp t) _ A
  have r:yielded ops a.tmps g=ij x:=by
   simp only[yielded,ht,Option.bind_some];cases htt:a.tmps[t]? with
   |none=>
    rw[Array.getD_eq_getD_getElem?,htt] at d;subst d;rfl
   |some y=>
    rw[Array.getD_eq_getD_getElem?,htt] at d;simp only[Option.getD_some] at d;subst d;cases y <;> rfl
  have z:Region.wanted o (yielded ops a.tmps)=true↔ij x=some l:=by
   simp only[Region.wanted,hg,r,beq_iff_eq]
  rcases hc with⟨k,q⟩|⟨k,C,_⟩
  rw[if_pos (z.2 k)];exact run q;rw[if_neg (fun n=>k (z.1 n))];exact⟨fun _ _=>trivial,skip C⟩
end
section
variable {P:Program}{ops:Array Oper}{us:List (Upd×List Nat)}{anc:Nat→Nat→Bool}{nx n:Nat}{fr0:Nat→Option AV}{hp0:Nat→Option ABlk}{ρ:Option Nat}{Q:Exit→Act→World→Prop}{rid:Nat}
variable {X:List Nat→(Nat→Prop)→Base→(Nat→Option (Nat×Nat))→Act→World→Prop}{gh:Nat→Value}
def FX(gh:Nat→Value)(fr:Nat→Option AV)(hp:Nat→Option ABlk)(free:Nat→Prop)(n:Nat)(X:(Nat→Prop)→Base→(Nat→Option (Nat×Nat))→Act→World→Prop)(a:Act)(w:World):Prop:=
 ∃M0 w0 β,Mem M0 w0 β hp w∧w0.gh=gh∧a.tmps.size=n∧(∀t x,fr t=some x→RV (MM M0 β hp) β w x (iI w0 a t))∧(∀i,free i→β i=none∧i≠0)∧DefOK a.defers w0 w∧X M0 w0 β a w
theorem AP{w0 w1:Base}(h:w1.gh=w0.gh)(a:Act)(t:Nat):iI w1 a t=iI w0 a t:=by unfold iI;rw[h]
end
end Go.Abs
