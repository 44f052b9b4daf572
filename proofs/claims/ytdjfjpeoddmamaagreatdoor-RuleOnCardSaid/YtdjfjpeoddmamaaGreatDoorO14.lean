/- Part O14 of the proof. -/
import Derived.Test.YtdjfjpeoddmamaaGreatDoorO13
set_option linter.all false
namespace Go.Abs
theorem dvE_add(p q:List Rat)(x:Rat):dvE (addP p q) x=dvE p x+dvE q x:=by
 rw[←pI_];exact lB_ (fun i=>by rw[dy_,c8_]) x
theorem tl_(a x:Rat):dvE (c3_ a) x=0:=by
 show dvE (trimQ [a]) x=0;rw[lB_ (q:=[a]) (bg_ [a]) x,ci_];show(0:Rat)+0* x=0;grind
theorem pH_(q:List Rat)(x:Rat):∀p,dvE (compP q p) x=dvE p (evalP q x) * dvE q x
 |[]=>by show(0:Rat)=0* _;grind
 |a::l=>by
  rw[compP,dvE_add,tl_,hI_,pH_ q x l,dx_,ci_];grind
theorem c7_(u v x:Rat):evalP [u,v] x=u+v* x:=by rw[ay_,ay_,ax_];grind
theorem dvE_uv(u v x:Rat):dvE [u,v] x=v:=by
 show(0* x+v)+(0+(0:Rat) * x) * x=v;grind
def itP(a b:Rat)(p:List Rat):Rat:=evalP (aF_ p) b- evalP (aF_ p) a
theorem hW_{p q:List Rat}(h:∀i,coP p i=coP q i)(x:Rat):evalP (aF_ p) x=evalP (aF_ q) x:=
 cl_ (fun i=>by rw[bG_,bG_,h]) x
theorem i9_{p q:List Rat}(h:Eqv p q)(a b:Rat):itP a b p=itP a b q:=by
 have:=trim_iff.1 (eqv_trim.1 h);unfold itP;rw[hW_ this,hW_ this]
theorem sv_(a b:Rat)(p q:List Rat):itP a b (addP p q)=itP a b p+itP a b q:=by
 have e:∀x,evalP (aF_ (addP p q)) x=evalP (aF_ p) x+evalP (aF_ q) x:=fun x=>by
  rw[←a1_];refine cl_ (fun i=>?_) x;rw[dy_ (aF_ p),bG_,bG_,bG_,dy_];grind
 unfold itP;grind
theorem fa_(a b:Rat)(p:List Rat)(k:Rat):itP a b (av_ p k)=itP a b p* k:=by
 have e:∀x,evalP (aF_ (av_ p k)) x=evalP (aF_ p) x* k:=fun x=>by
  rw[←as_];refine cl_ (fun i=>?_) x;rw[a5_ (aF_ p),bG_,bG_,a5_];grind
 unfold itP;grind
theorem oi_(p:List Rat)(x:Rat):dvE (aF_ p) x=evalP p x:=by
 rw[←a4_,←bk_,jx_,bk_]
theorem nQ_pos'(n:Nat):(((n+1:Nat):Int):Rat)≠0:=fun e=>by
 have h:(((n+1:Nat):Int):Rat)=((0:Int):Rat):=e;have:=Rat.intCast_inj.1 h;omega
theorem fJ_(G:List Rat)(y:Rat):evalP (aF_ (at_ G)) y=evalP G y- coP G 0:=by
 rw[show evalP G y- coP G 0=evalP (subP G (c3_ (coP G 0))) y by rw[bf_,fh_]];refine cl_ (fun i=>?_) y;rw[bG_,gF_,tA_];cases i with
 |zero=>grind
 |succ i=>
  rw[bm_,Nat.add_sub_cancel,Rat.mul_div_cancel (nQ_pos' i)];grind
theorem su_(c r:Rat)(p:List Rat):itP (c- r) (c+r) p=r* itP (-1) 1 (compP [c,r] p):=by
 have e:Eqv (at_ (compP [c,r] (aF_ p))) (av_ (compP [c,r] p) r):=fun x=>by
  rw[a4_,pH_,oi_,as_,dx_,dvE_uv]
 have h1:=fa_ (-1) 1 (compP [c,r] p) r;rw[←i9_ e] at h1
 have h2:itP (-1) 1 (at_ (compP [c,r] (aF_ p)))=itP (c- r) (c+r) p:=by
  unfold itP;rw[fJ_,fJ_,dx_,dx_,c7_,c7_];grind
 grind
theorem ct_(x:Rat):∀n,evalP (gK [1] n) x=x^ n
 |0=>by rw[Rat.pow_zero];show evalP [1] x=1;rw[ay_,ax_];grind
 |n+1=>by rw[gK,ak_,ct_ x n,c7_];grind
theorem ofQ_it{a b:Rat}{m:List Rat}{N:Nat}(hm:∀i,i< N→coP m i=itP a b (gK [1] i))(p:List Rat):∀n,n≤N→n≤p.length→ofQ p m n=itP a b (p.take n)
 |0,_,_=>by
  show(0:Rat)=itP a b [];unfold itP
  have e:∀x,evalP (aF_ []) x=0:=fun x=>d4_ (fun i=>by
   rw[bG_];split;rfl;show(0:Rat) / _=0;grind) x
  grind
 |n+1,h1,h2=>by
  rw[ofQ,ofQ_it hm p n (by omega) (by omega),i9_ (p:=p.take (n+1)) (q:=addP (p.take n) (av_ (gK [1] n) (coP p n))) (fun x=>by
   rw[cU_ _ _ _ (by omega),a1_,as_,ct_];grind),sv_,fa_]
  grind
theorem mt_{a b:Rat}{m:List Rat}{N:Nat}(hm:∀i,i< N→coP m i=itP a b (gK [1] i)){p:List Rat}(h:(trimQ p).length≤N):ofP m p=itP a b p:=by
 unfold ofP;rw[ofQ_it hm _ _ h (Nat.le_refl _),List.take_length];exact i9_ (fun x=>bk_ p x) a b
theorem iZ_(p q:List Rat)(n:Nat)(hp:p.length≤n+1)(hq:q.length≤n+1):(mulP p q).length≤2* n+1:=by
 by_cases h:p=[];subst h;unfold mulP;simp;by_cases h2:q=[];subst h2;unfold mulP;simp;have:=gU_ p q h;omega
theorem mulP_line_len'(v:List Rat)(u w:Rat):(mulP v [u,w]).length≤v.length+1:=by
 by_cases h:v=[];subst h;unfold mulP;simp;have:=gU_ v [u,w] h;grind
theorem nT_(m:List Rat):∀k,(ldr m k).1.length≤k+1∧(ldr m k).2.1.length≤k+1
 |0=>⟨by simp[ldr],by simp[ldr]⟩
 |k+1=>by
  obtain⟨h1,h2⟩:=nT_ m k;refine⟨?_,Nat.le_trans h1 (by omega)⟩;show(subP (mulP (ldr m k).1 [-ldA m (ldr m k).1,1]) (av_ (ldr m k).2.1 (if k=0 then 0 else ldN m (ldr m k).1/ (ldr m k).2.2))).length≤_;have a:=kN_ (mulP (ldr m k).1 [-ldA m (ldr m k).1,1]) (av_ (ldr m k).2.1 (if k=0 then 0 else ldN m (ldr m k).1/ (ldr m k).2.2));have b:=bM_ (ldr m k).2.1 (if k=0 then 0 else ldN m (ldr m k).1/ (ldr m k).2.2)
  have c:(mulP (ldr m k).1 [-ldA m (ldr m k).1,1]).length≤k+1+1:=by
   by_cases h:(ldr m k).1=[];rw[h];unfold mulP;simp;have:=gU_ (ldr m k).1 [-ldA m (ldr m k).1,1] h;grind
  omega
structure Mv (m m0:List Rat)(c r:Rat)(N:Nat):Prop where
 r0:r≠0
 h:∀i,i< N→coP m i=itP (c- r) (c+r) (gK [1] i)
 h0:∀i,i< N→coP m0 i=itP (-1) 1 (gK [1] i)
theorem Mv.of{m m0:List Rat}{c r:Rat}{N:Nat}(H:Mv m m0 c r N){p q:List Rat}{k:Rat}(hp:(trimQ p).length≤N)(hq:(trimQ q).length≤N)(e:∀y,evalP p (c+r* y)=k* evalP q y):ofP m p=r* k* ofP m0 q:=by
 rw[mt_ H.h hp,mt_ H.h0 hq,su_,i9_ (p:=compP [c,r] p) (q:=av_ q k) (fun y=>by rw[dx_,c7_,as_];grind),fa_];grind
theorem Mv.ldr{m m0:List Rat}{c r:Rat}{N:Nat}(H:Mv m m0 c r N):∀k,2* k≤N→(∀j,j< k→ldN m0 (ldr m0 j).1≠0)→
    (∀y,evalP (ldr m k).1 (c+r* y)=r^ k* evalP (ldr m0 k).1 y)∧(∀y,evalP (Go.Abs.ldr m k).2.1 (c+r* y) * r=r^ k* evalP (Go.Abs.ldr m0 k).2.1 y)∧(k≠0→(Go.Abs.ldr m k).2.2* r=r^ k* r^ k* (Go.Abs.ldr m0 k).2.2)
 |0,_,_=>⟨fun y=>by rw[Rat.pow_zero];show evalP [1] _=1* evalP [1] y;rw[ay_,ax_,ay_,ax_];grind,fun y=>by rw[Rat.pow_zero];show(0:Rat) * r=1* 0;grind,fun h=>absurd rfl h⟩
 |k+1,hk,hn=>by
  obtain⟨i1,i2,i3⟩:=Mv.ldr H k (by omega) fun j hj=>hn j (by omega);have hl:=(nT_ m k).1;have hl0:=(nT_ m0 k).1
  have t1:∀p:List Rat,p.length≤k+1→(trimQ (mulP p p)).length≤N∧(trimQ (mulP (mulP p p) [0,1])).length≤N:=fun p hp=>by
   have a:=iZ_ p p k hp hp;have b:=aB_ (mulP p p);have c:=aB_ (mulP (mulP p p) [0,1]);have d:=mulP_line_len' (mulP p p) 0 1;omega
  have eN:ldN m (Go.Abs.ldr m k).1=r* (r^ k* r^ k) * ldN m0 (Go.Abs.ldr m0 k).1:=H.of (t1 _ hl).1 (t1 _ hl0).1 fun y=>by rw[ak_,ak_,i1];grind
  have hN0:=hn k (by omega);have hrk:r^ k≠0:=pow_ne H.r0 k
  have eA:ldA m (Go.Abs.ldr m k).1=c+r* ldA m0 (Go.Abs.ldr m0 k).1:=by
   have e1:ofP m (mulP (mulP (Go.Abs.ldr m k).1 (Go.Abs.ldr m k).1) [0,1])=r* (r^ k* r^ k) * ofP m0 (addP (av_ (mulP (Go.Abs.ldr m0 k).1 (Go.Abs.ldr m0 k).1) c) (av_ (mulP (mulP (Go.Abs.ldr m0 k).1 (Go.Abs.ldr m0 k).1) [0,1]) r)):=
    H.of (t1 _ hl).2 (by
     have a:=hn_ (av_ (mulP (Go.Abs.ldr m0 k).1 (Go.Abs.ldr m0 k).1) c) (av_ (mulP (mulP (Go.Abs.ldr m0 k).1 (Go.Abs.ldr m0 k).1) [0,1]) r);have b:=bM_ (mulP (Go.Abs.ldr m0 k).1 (Go.Abs.ldr m0 k).1) c;have d:=bM_ (mulP (mulP (Go.Abs.ldr m0 k).1 (Go.Abs.ldr m0 k).1) [0,1]) r;have e:=iZ_ _ _ k hl0 hl0;have f:=mulP_line_len' (mulP (Go.Abs.ldr m0 k).1 (Go.Abs.ldr m0 k).1) 0 1;have g:=aB_ (addP (av_ (mulP (Go.Abs.ldr m0 k).1 (Go.Abs.ldr m0 k).1) c) (av_ (mulP (mulP (Go.Abs.ldr m0 k).1 (Go.Abs.ldr m0 k).1) [0,1]) r))
     omega) fun y=>by
      rw[ak_,ak_,i1,c7_,a1_,as_,as_,ak_,ak_,ak_,c7_];grind
   have e2:ofP m0 (addP (av_ (mulP (Go.Abs.ldr m0 k).1 (Go.Abs.ldr m0 k).1) c) (av_ (mulP (mulP (Go.Abs.ldr m0 k).1 (Go.Abs.ldr m0 k).1) [0,1]) r))=c* ldN m0 (Go.Abs.ldr m0 k).1+r* ofP m0 (mulP (mulP (Go.Abs.ldr m0 k).1 (Go.Abs.ldr m0 k).1) [0,1]):=by
    have hA:=t1 _ hl0;have a:=hn_ (av_ (mulP (Go.Abs.ldr m0 k).1 (Go.Abs.ldr m0 k).1) c) (av_ (mulP (mulP (Go.Abs.ldr m0 k).1 (Go.Abs.ldr m0 k).1) [0,1]) r);have b:=bM_ (mulP (Go.Abs.ldr m0 k).1 (Go.Abs.ldr m0 k).1) c;have d:=bM_ (mulP (mulP (Go.Abs.ldr m0 k).1 (Go.Abs.ldr m0 k).1) [0,1]) r;have e:=iZ_ _ _ k hl0 hl0;have f:=mulP_line_len' (mulP (Go.Abs.ldr m0 k).1 (Go.Abs.ldr m0 k).1) 0 1;have g:=aB_ (addP (av_ (mulP (Go.Abs.ldr m0 k).1 (Go.Abs.ldr m0 k).1) c) (av_ (mulP (mulP (Go.Abs.ldr m0 k).1 (Go.Abs.ldr m0 k).1) [0,1]) r));rw[mt_ H.h0 (by omega),sv_,fa_,fa_];unfold ldN;rw[mt_ H.h0 hA.1,mt_ H.h0 hA.2];grind
   unfold ldA;rw[e1,e2,eN]
   have h1:r* (r^ k* r^ k)≠0:=fun e=>by
    rcases Rat.mul_eq_zero.1 e with e|e
    exact H.r0 e;rcases Rat.mul_eq_zero.1 e with e|e <;> exact hrk e
   generalize r* (r^ k* r^ k)=z at *
   generalize ldN m0 (Go.Abs.ldr m0 k).1=w at *
   grind
  have eB:(if k=0 then 0 else ldN m (Go.Abs.ldr m k).1/ (Go.Abs.ldr m k).2.2)=r* r* (if k=0 then 0 else ldN m0 (Go.Abs.ldr m0 k).1/ (Go.Abs.ldr m0 k).2.2):=by
   by_cases h:k=0;rw[if_pos h,if_pos h];grind;rw[if_neg h,if_neg h,eN];have h3:=i3 h
   have h4:(Go.Abs.ldr m0 k).2.2≠0:=by
    cases k with
    |zero=>exact absurd rfl h
    |succ j=>exact hn j (by omega)
   have hr0:=H.r0
   have h5:(Go.Abs.ldr m k).2.2≠0:=fun e=>by
    rw[e] at h3
    have:r^ k* r^ k* (Go.Abs.ldr m0 k).2.2≠0:=fun e=>by
     rcases Rat.mul_eq_zero.1 e with e|e
     rcases Rat.mul_eq_zero.1 e with e|e <;> exact hrk e
     exact h4 e
    grind
   generalize ldN m0 (Go.Abs.ldr m0 k).1=w at *
   generalize (Go.Abs.ldr m0 k).2.2=v at *
   generalize (Go.Abs.ldr m k).2.2=u at *
   generalize r^ k=s at *
   have h6:u=s* s* v/ r:=by rw[←h3];exact(Rat.mul_div_cancel hr0).symm
   rw[h6];grind
  refine⟨fun y=>?_,fun y=>?_,fun _=>?_⟩;show evalP (subP (mulP (Go.Abs.ldr m k).1 [-ldA m (Go.Abs.ldr m k).1,1]) (av_ (Go.Abs.ldr m k).2.1 _)) _=_* evalP (subP (mulP (Go.Abs.ldr m0 k).1 [-ldA m0 (Go.Abs.ldr m0 k).1,1]) (av_ (Go.Abs.ldr m0 k).2.1 _)) y;rw[bf_,bf_,ak_,ak_,as_,as_,c7_,c7_,i1,eA,eB,Rat.pow_succ];have h2:=i2 y;generalize evalP (Go.Abs.ldr m k).2.1 (c+r* y)=w at *
  generalize evalP (Go.Abs.ldr m0 k).2.1 y=w0 at *
  generalize (if k=0 then 0 else ldN m0 (Go.Abs.ldr m0 k).1/ (Go.Abs.ldr m0 k).2.2)=B at *
  have:w* (r* r* B)=r^ k* w0* r* B:=by rw[←h2];grind
  rw[this];grind;show evalP (Go.Abs.ldr m k).1 (c+r* y) * r=_* evalP (Go.Abs.ldr m0 k).1 y;rw[i1,Rat.pow_succ];grind;show ldN m (Go.Abs.ldr m k).1* r=_* ldN m0 (Go.Abs.ldr m0 k).1;grind
theorem kI_:∀(f k:Nat) (last next:List Rat) (acc out:List (List Rat)),en_ f k last next acc=some out→out.length≤acc.length+(trimQ next).length
 |_,0,_,_,_,_,h=>by cases h
 |f,k+1,last,next,acc,out,h=>by
  rw[en_] at h;split at h;cases h;omega
  ·rename_i h0
   split at h
   ·have ih:=kI_ f k _ _ _ _ h
    obtain⟨c,c0,hc⟩:=fD_ h0;obtain⟨d1,d2,_⟩:=cu_ h0 (show c≠0 by grind) hc;have hm1:(-1:Rat)≠0:=by grind
    have hlt:=(cm_ last _ d1).2;have a2:=List.length_pos_iff.2 h0;rw[eK_ hm1] at ih;unfold dg at d2;grind
   cases h
theorem ow_{e:Int}(he:e=1∨e= -1):∀(l:List Int) (t:Int),(t=1∨t= -1)→(∀s∈l,-1≤s∧s≤1)→(t::l).getLast?=some e→chL l 0 t % 2=if t=e then 0 else 1
 |[],t,ht,_,h=>by
  have:t=e:=by grind
  rw[if_pos this];rfl
 |s::l,t,ht,hs,h=>by
  have h0:=hs s (List.mem_cons_self ..);by_cases hz:s≠0;have ih:=ow_ he l s (by omega) (fun x hx=>hs x (List.mem_cons_of_mem _ hx)) (by grind);rw[chL,if_pos hz,jH_];by_cases h1:s=e;by_cases h2:s= -t;omega;omega;by_cases h2:s= -t;omega;omega;rw[chL,if_neg hz];refine ow_ he l t ht (fun x hx=>hs x (List.mem_cons_of_mem _ hx)) ?_;grind
theorem Ch.last{u:List Rat}{L:List (List Rat)}(H:Ch u L):∃e:Int,(e=1∨e= -1)∧∀x,((u::L).map (sgE x)).getLast?=some e:=by
 induction H with
 | @one u c hc hu=>
  have h:=Ch.sg (.one hc hu) 0;have hb:=es_ 0 u;exact⟨sgE 0 u,by have:=(h 0).2;omega,fun x=>((by grind))⟩
 | @pair u v _ ih=>
  simp_all
 | @step u v w L a c q _ _ _ _ ih=>
  simp_all
theorem Ch.drop{u v:List Rat}{L:List (List Rat)}{k:Rat}(H:Ch u (v::L))(hk:0< k)(hd:∀x,evalP v x=k* dvE u x){x y:Rat}(hxy:x≤y)(hs:evalP u x* evalP u y< 0):chV (u::v::L) y+1≤chV (u::v::L) x:=by
 have h1:=H.fall hk hd hxy;obtain⟨e,he,h⟩:=H.last
 have key:∀z,sgE z u≠0→chV (u::v::L) z % 2=if sgE z u=e then 0 else 1:=fun z hz=>by
  have hb:=es_ z u;unfold chV;rw[List.map_cons,chL,if_pos hz,if_neg (by omega)]
  exact ow_ he _ _ (by omega) (fun s hs=>by
   obtain⟨q,_,rfl⟩:=List.mem_map.1 hs;exact es_ z q) (by grind)
 have hx0:sgE x u≠0∧sgE y u≠0∧sgE x u≠sgE y u:=by
  rcases dE_ x u with⟨a,b⟩|⟨a,b⟩|⟨a,b⟩<;> rcases dE_ y u with⟨a',b'⟩|⟨a',b'⟩|⟨a',b'⟩
  have:=Rat.mul_pos b b';grind;omega;rw[b'] at hs;grind;omega;have:=Rat.mul_pos (show 0< -evalP u x by grind) (show 0< -evalP u y by grind);grind;rw[b'] at hs;grind;rw[b] at hs;grind;rw[b] at hs;grind;rw[b] at hs;grind
 have kx:=key x hx0.1;have ky:=key y hx0.2.1;have bx:=es_ x u;have bY:=es_ y u;grind
theorem h7_{f:Nat}{p:List Rat}{c:Cnt}(h:cn_ f p=some c)(hp:nz p):∃u L k,c.ch=u::L∧0< k∧(∀x,evalP u x=evalP c.p x* k)∧Ch u L∧L.length≤dg c.p∧(∀v L',L=v::L'→∃c':Rat,0< c'∧∀x,evalP v x=c'* dvE u x)∧(∀d,nz d→Dv d c.p→Dv d (at_ c.p)→dg d=0):=by
 unfold cn_ at h;cases hs:sqfM f p with
 |none=>grind
 |some s=>
  rw[hs,Option.bind_some] at h;cases hc:er_ f s with
  |none=>grind
  |some ch=>
   rw[hc,Option.bind_some] at h;split at h
   ·cases h
    obtain⟨s0,s1⟩:=l7_ hs hp;unfold er_ at hc;split at hc;have hlen:=kI_ _ _ _ _ _ _ hc;obtain⟨L,e,hL⟩:=fn_ _ _ _ _ _ _ hc;obtain⟨k,k0,hk⟩:=fD_ s0;have hkne:k≠0:=by grind
    have hu0:nz (primP s):=(cu_ s0 hkne hk).1;have hk1:k* (1/ k)=1:=by grind
    have hk2:0< 1/ k:=by
     obtain⟨m,m0,m1⟩:=part 1 (d:=k) (by grind) k0;grind
    obtain⟨c1,c2⟩:=hL.ch hu0 fun d d0 d1 d2=>s1 d d0 (d1.scale (k:=1/ k) fun x=>by grind) d2;refine⟨primP s,L,k,e,k0,hk,c1,?_,fun v L' hv=>?_,s1⟩;rw[e] at hlen;have h2:=dd_ (trimQ s);have h3:trimQ (at_ s)=trimQ (at_ (trimQ s)):=eo_ fun i=>by rw[bm_,bm_,bg_]
    have h4:=aB_ (at_ (trimQ s));simp only[List.length_append,List.length_singleton] at hlen;rw[h3] at hlen;show L.length≤dg s;unfold dg;omega;obtain⟨c',c0,hv'⟩:=c2 v L' hv;refine⟨c'* (1/ k),Rat.mul_pos c0 hk2,fun x=>?_⟩;rw[hv',a4_,dvE_k hk x];generalize 1/ k=m at *
    grind;grind
   cases h
theorem chL_nn(l:List Int):0≤chL l 0 0∧chL l 0 0≤(l.length:Int)- 1∨l=[]:=by
 cases l with
 |nil=>grind
 |cons s l=>
  by_cases hs:s≠0;rw[chL,if_pos hs,if_neg (by omega)];have:=hh_ l 0 s;simp only[List.length_cons];omega;rw[chL];have:=hh_ l 0 0;grind
theorem np_{k:Rat}(hk:k≠0)(lead:Rat):∀(l:List Rat) (m:Rat),boL (lead* k) (l.map (· * k)) m=boL lead l m
 |[],m=>rfl
 |c::l,m=>by
  rw[List.map_cons,boL,boL,np_ hk lead l,show c* k/ (lead* k)=c/ lead by
   grind]
theorem nw_{p q:List Rat}{k:Rat}(hk:k≠0)(h:∀x,evalP q x=evalP p x* k):trimQ q=(trimQ p).map (· * k):=by
 have e:∀i,coP q i=coP p i* k:=fun i=>by
  have:=trim_iff.1 (dm_ (p:=q) (q:=av_ p k) fun x=>by rw[h,as_]) i;rw[this,a5_]
 have e2:trimQ q=trimQ (av_ (trimQ p) k):=eo_ fun i=>by rw[a5_,bg_,e]
 rw[e2,cT_,me_ (aO_ p) hk]
theorem ib_{p q:List Rat}{k:Rat}(hk:k≠0)(hp:nz p)(h:∀x,evalP q x=evalP p x* k):aN_ q=aN_ p:=by
 have e:=nw_ hk h;unfold aN_;rw[(cu_ hp hk h).2.2,e,List.length_map,←List.map_take,np_ hk]
theorem to_(p q:List Rat):(divP p q).1.length≤(trimQ p).length+1- (trimQ q).length:=by
 have h1:=ej_ (trimQ q) (leadP q) ((trimQ p).length+1- (trimQ q).length) (List.replicate ((trimQ p).length+1- (trimQ q).length) 0) (trimQ p);have h3:=aB_ (divR (trimQ q) (leadP q) ((trimQ p).length+1- (trimQ q).length) (List.replicate ((trimQ p).length+1- (trimQ q).length) 0) (trimQ p)).1;rw[h1.1,List.length_replicate] at h3;exact h3
theorem fG_(p q:List Rat):(mulP p q).length≤p.length+q.length- 1:=by
 by_cases h:p=[];subst h;unfold mulP;simp;exact gU_ p q h
def zB:Nat→Nat→Nat→Nat→Nat→Nat→Nat→Nat→Nat→Nat→Nat→Bool
 |0,_,_,_,_,_,_,_,_,_,_=>false
 |f+1,m,n,s,t,u,v,la,lc,X,W=>if n=0 then decide (s≤X) && decide (u≤X) && decide (la≤W) else
  decide (2^ (m+1- n) * (s+2* t+1)≤137438953472) && decide ((m+1- n) * (2^ (m+1- n) * (s+2* t+1)+v+1)+1≤137438953472) && decide (u≤137438953472) && decide (v≤137438953472) && decide (la+lc+m≤1000) &&
  (List.range n).all fun k=>zB f n k t (2^ (m+1- n) * (s+2* t+1)) v (u+((m+1- n) * (2^ (m+1- n) * (s+2* t+1)+v+1)+1)+1) lc (max la (m+1- n+lc- 1)) X W
theorem pX_:∀f m n s t u v la lc X W (g nx a c:List Rat),zB f m n s t u v la lc X W=true→(trimQ g).length=m→(trimQ nx).length=n→bdL g s→bdL nx t→bdL a u→bdL c v→a.length≤la→c.length≤lc→1≤s→1≤t→1≤u→1≤v→g.length≤1000→nx.length≤1000→
    ∃G A,bzL f g nx a c=some (G,A)∧bdL G X∧bdL A X∧A.length≤W∧G.length≤1000
 |0,_,_,_,_,_,_,_,_,_,_,_,_,_,_,h,_,_,_,_,_,_,_,_,_,_,_,_,_,_=>by rw[zB] at h;cases h
 |f+1,m,n,s,t,u,v,la,lc,X,W,g,nx,a,c,h,hm,hn,hg,hx,ha,hc,hla,hlc,hs,ht,hu,hv,hgl,hxl=>by
  rw[zB] at h;rw[bzL];by_cases h0:n=0;rw[if_pos h0] at h;simp only[Bool.and_eq_true,decide_eq_true_eq] at h;have e:trimQ nx=[]:=List.length_eq_zero_iff.1 (by omega);rw[if_pos e];exact⟨g,a,rfl,fun x hx=>Nat.le_trans (hg x hx) h.1.1,fun x hx=>Nat.le_trans (ha x hx) h.1.2,by omega,hgl⟩;rw[if_neg h0] at h;simp only[Bool.and_eq_true,decide_eq_true_eq,List.all_eq_true,List.mem_range] at h;obtain⟨⟨⟨⟨⟨c1,c2⟩,c3⟩,c4⟩,c5⟩,ck⟩:=h;have hq0:trimQ nx≠[]:=fun e=>by grind
  rw[if_neg hq0];have hL1:1≤2^ (m+1- n) * (s+2* t+1):=Nat.mul_pos (Nat.two_pow_pos _) (by omega);obtain⟨d1,d2⟩:=fk_ (L:=2^ (m+1- n) * (s+2* t+1)) hg hx hs ht hq0 (by grind);have hql:=to_ g nx;rw[hm,hn] at hql;have hmm:=gz_ d1 hc hL1 hv;have hmml:=fG_ (divP g nx).1 c;generalize hL:2^ (m+1- n) * (s+2* t+1)=L at *
  have hmb:bdL (mulP (divP g nx).1 c) ((m+1- n) * (L+v+1)+1):=fun x hx=>Nat.le_trans (hmm x hx) (by have:=Nat.mul_le_mul_right (L+v+1) hql;omega);have mg:=bN_ hg hs;have mn:=bN_ hx ht;have mk:=bN_ d1 hL1;have mc:=bN_ hc hv;have hrl:=(fj_ (p:=g) (q:=nx)).2
  have hok:okBs g nx a c∧nx.length≤1099511627776:=by
   refine⟨⟨⟨?_,by omega,by omega⟩,⟨?_,by omega,by omega,by omega⟩,fun q hq=>Nat.le_trans (ha q hq) c3,fun q hq=>Nat.le_trans (hmb q hq) c2,by omega,by omega⟩,by omega⟩;rw[hm,hn];have:=Nat.mul_le_mul_left (2^ (m+1- n)) (show mxL g+2* mxL nx+1≤s+2* t+1 by omega);omega;have:=Nat.mul_le_mul hql (show mxL (divP g nx).1+mxL c+1≤L+v+1 by omega);omega
  rw[if_pos hok];have hkn:(trimQ (divP g nx).2).length< n:=by rw[←hn];exact(cm_ g nx hq0).2
  refine pX_ f n _ t L v _ lc _ X W nx (divP g nx).2 c _ (ck _ hkn) hn rfl hx d2 hc (lM_ ha hmb hu (by omega)) hlc ?_ ht hL1 hv (by omega) hxl (by omega);have:=kN_ a (mulP (divP g nx).1 c);omega
theorem pW_:∀f (g nx a c G A p q:List Rat),bzL f g nx a c=some (G,A)→(∃b,∀x,evalP g x=evalP a x* evalP p x+evalP b x* evalP q x)→(∃d,∀x,evalP nx x=evalP c x* evalP p x+evalP d x* evalP q x)→
    Dv G g∧Dv G nx∧∃b,∀x,evalP G x=evalP A x* evalP p x+evalP b x* evalP q x
 |0,_,_,_,_,_,_,_,_,h,_,_=>by cases h
 |f+1,g,nx,a,c,G,A,p,q,h,hb,hd=>by
  rw[bzL] at h;by_cases h0:trimQ nx=[];obtain⟨rfl,rfl⟩:g=G∧a=A:=by grind
  exact⟨.refl _,.zero _ (dJ_ fun e=>e h0),hb⟩;rw[if_neg h0] at h;split at h;obtain⟨b,hb⟩:=hb;obtain⟨d,hd⟩:=hd;have hm:=(cm_ g nx h0).1
  obtain⟨i1,i2,i3⟩:=pW_ f nx (divP g nx).2 c (subP a (mulP (divP g nx).1 c)) G A p q h ⟨d,hd⟩ ⟨subP b (mulP (divP g nx).1 d),fun x=>by
   have h1:=hm x;rw[bf_,ak_,bf_,ak_];grind⟩
  refine⟨i1.lin i2 (u:=(divP g nx).1) (v:=[1]) fun x=>?_,i1,i3⟩;rw[ay_,ax_];grind;cases h
theorem kJ_{f:Nat}{p q G A B C:List Rat}(h:bzL f p q (c3_ ((1:Int):Rat)) []=some (G,A))(hq:nz q)(hco:∀x,evalP B x* evalP p x+evalP C x* evalP q x=1):
    ∃γ:Rat,γ≠0∧(∀x,evalP G x=γ)∧nz G∧dg G=0∧leadP G=γ∧∃b,∀x,evalP A x* evalP p x+evalP b x* evalP q x=γ:=by
 obtain⟨h1,h2,b,hb⟩:=pW_ f _ _ _ _ G A p q h ⟨[],fun x=>by rw[fh_,ax_];grind⟩ ⟨[1],fun x=>by rw[ay_,ax_];grind⟩
 have hG:nz G:=fun e=>by
  obtain⟨w,hw⟩:=h2;refine hq ((eqv_trim (p:=q) (q:=[])).1 fun x=>?_);rw[hw,dJ_ (p:=G) (fun e'=>e' e),ax_];grind
 have hd:=(h1.lin h2 (r:=[1]) (u:=B) (v:=C) fun x=>by rw[ay_,ax_];grind).dg o5_;have hd1:dg [1]=0:=by decide+kernel
 have hd0:dg G=0:=by omega
 obtain⟨γ,γ0,hγ⟩:=hV_ hG hd0
 have hl:leadP G=γ:=by
  have e:=(bE_ hG).2;rw[hd0] at e;rw[←e,←hγ 0];have:trimQ G=trimQ [γ]:=eqv_trim.1 fun x=>by rw[ay_,ax_];grind
  have e2:=trim_iff.1 this 0;rw[e2,hγ];rfl
 exact⟨γ,γ0,hγ,hG,hd0,hl,b,fun x=>by grind⟩
theorem tM_{G:List Rat}{γ:Rat}(h0:γ≠0)(hl:leadP G=γ)(hG:∀x,evalP G x=γ):bzG G=[1]:=by
 have e:trimQ (bzG G)=trimQ [1]:=eqv_trim.1 fun x=>by
  unfold bzG;rw[as_,ay_,ax_];grind
 unfold bzG at e⊢;rw[cT_] at e;rw[e];decide+kernel
theorem div_one(q:List Rat):(divP q [1]).1=trimQ q:=by
 have h1:nz [1]:=o5_;obtain⟨m1,m2⟩:=bY_ q h1;have hd1:dg [1]=0:=by decide+kernel
 have hz:¬nz (md q [1]):=fun e=>by grind
 have:trimQ (divP q [1]).1=trimQ q:=eqv_trim.1 fun x=>by
  have:=m1 x;rw[dJ_ hz,ay_,ax_] at this;grind
 rw[←this];exact(ep_ q [1]).1.symm
theorem bzA_inv{f:Nat}{p q G A B C:List Rat}(h:bzL f p q (c3_ ((1:Int):Rat)) []=some (G,A))(hq:nz q)(hco:∀x,evalP B x* evalP p x+evalP C x* evalP q x=1):∃w,∀x,evalP (bzA q G A) x* evalP p x=1+evalP w x* evalP q x:=by
 obtain⟨γ,γ0,hγ,hG,hd0,hl,b,hb⟩:=kJ_ h hq hco;unfold bzA;rw[tM_ γ0 hl hγ,div_one];have hq':nz (trimQ q):=by unfold nz;rw[aO_];exact hq
 have m1:=(bY_ (av_ A (((1:Int):Rat) / γ)) hq').1;refine⟨addP (av_ b (-1/ γ)) (av_ (mulP (divP (av_ A (((1:Int):Rat) / γ)) (trimQ q)).1 p) (-1)),fun x=>?_⟩;have h1:=m1 x;rw[as_,bk_] at h1;unfold md at h1;rw[a1_,as_,as_,ak_];grind
def zOK(N s X:Nat):Bool:=
 decide (1≤X) && decide (N≤100) && decide (2^ (N+1) * (s+4* X+10)≤137438953472) && decide (2^ N* ((N+1) * (3* X+4* s+10)+2* X+2* s+10)≤137438953472) &&
 ((List.range (N+1)).all fun m=>(List.range (N+1)).all fun n=>if n≤m then true else zB (N+3) m n s s 1 1 1 0 X (n- 1))
theorem okBz_of{N s X:Nat}(hz:zOK N s X=true){p q B C:List Rat}(hp:bdL p s)(hq:bdL q s)(hs:1≤s)(hpl:p.length< q.length)(hql:q.length≤N)(hq0:nz q)(hqt:trimQ q=q)(hco:∀x,evalP B x* evalP p x+evalP C x* evalP q x=1):
    ∃G A,bzL (N+3) p q (c3_ ((1:Int):Rat)) []=some (G,A)∧okBz p q G A∧bdL (bzA q G A) (2* X+2* s+10)∧(bzA q G A).length< q.length∧bzG G=[1]:=by
 unfold zOK at hz;simp only[Bool.and_eq_true,decide_eq_true_eq,List.all_eq_true,List.mem_range] at hz;obtain⟨⟨⟨⟨hX,hN⟩,hS⟩,hT⟩,hB⟩:=hz;have hqlen:=List.length_pos_iff.2 hq0;have htp:=aB_ p;have hqe:(trimQ q).length=q.length:=by rw[hqt]
 have htq:=aB_ q;have hb:=hB (trimQ p).length (by omega) (trimQ q).length (by omega);rw[if_neg (by omega)] at hb;have c1:c3_ ((1:Int):Rat)=[1]:=by decide+kernel
 obtain⟨G,A,h1,h2,h3,h4,h5⟩:=pX_ (N+3) _ _ s s 1 1 1 0 X _ p q [1] [] hb rfl rfl hp hq (by decide) (by intro x hx;cases hx) (by simp) (by simp) hs hs (by decide) (by decide) (by omega) (by omega);rw[←c1] at h1;obtain⟨γ,γ0,hγ,hG,hd0,hl,b,hbb⟩:=kJ_ h1 hq0 hco;have g1:=tM_ γ0 hl hγ;have hlq:qs (leadP G)≤X:=gB_ h2 hX;have q1:qs ((1:Int):Rat)=1:=by decide
 have hqd:=cX_ ((1:Int):Rat) (leadP G);have hP:1≤2^ (N+1):=Nat.one_le_two_pow;have hP2:2^ 2≤2^ (N+1):=Nat.pow_le_pow_right (by decide) (by omega);have hS1:=Nat.mul_le_mul_right (s+4* X+10) hP2
 have hsc:bdL (av_ A (((1:Int):Rat) / leadP G)) (2* X+1):=fun x hx=>by
  have:=kK_ (k:=((1:Int):Rat) / leadP G) h3 hX x hx;omega
 have hscl:=bM_ A (((1:Int):Rat) / leadP G);have hsct:=aB_ (av_ A (((1:Int):Rat) / leadP G))
 have hdv:bdL (bzA q G A) (2* X+2* s+10):=by
  unfold bzA;rw[g1,div_one];refine(fk_ hsc (hk_ hq) (by omega) hs (by rw[aO_];exact hq0) ?_).2;rw[aO_,show(trimQ (av_ A (((1:Int):Rat) / leadP G))).length+1- (trimQ q).length=0 by omega];omega
 have hdl:(bzA q G A).length< q.length:=by
  have a:(trimQ (bzA q G A)).length< q.length:=by
   unfold bzA;rw[g1,div_one];have:=(cm_ (av_ A (((1:Int):Rat) / leadP G)) (trimQ q) (by rw[aO_];exact hq0)).2;rw[aO_,hqt] at this;rw[hqt];exact this
  have b:trimQ (bzA q G A)=bzA q G A:=(ep_ _ _).2;rwa[b] at a
 have m1:=bN_ hq hs;have m2:=bN_ hp hs;have m3:=bN_ hdv (by omega);have m4:=bN_ hsc (by omega);have o1:mxL [1]=1:=by decide+kernel
 have t1:trimQ [1]=[1]:=by decide+kernel
 have hmu:=gz_ hdv hp (by omega) hs;have hmul:=fG_ (bzA q G A) p;have e1:(bzA q G A).length* (2* X+2* s+10+s+1)≤N* (2* X+2* s+10+s+1):=Nat.mul_le_mul_right _ (by omega);have e2:N* (2* X+2* s+10+s+1)≤(N+1) * (3* X+4* s+10):=Nat.mul_le_mul (by omega) (by omega);have hP3:1≤2^ N:=Nat.one_le_two_pow;have hT1:=Nat.mul_le_mul_right ((N+1) * (3* X+4* s+10)+2* X+2* s+10) hP3;generalize hE:(N+1) * (3* X+4* s+10)=E at *
 have hmb:bdL (mulP (bzA q G A) p) (E+1):=fun x hx=>Nat.le_trans (hmu x hx) (by omega);have hsu:=lM_ (p:=[1]) (s:=1) (by intro x hx;rw[List.mem_singleton.1 hx];decide) hmb (by decide) (by omega);have m5:=bN_ hsu (by omega);have hsul:=kN_ [1] (mulP (bzA q G A) p);have hst:=aB_ (subP [1] (mulP (bzA q G A) p));simp only[List.length_singleton] at hsul;have hql2:q.length=(trimQ q).length:=by rw[hqt]
 have e3:2^ ((trimQ q).length+1- (trimQ [1]).length) * (mxL q+2* mxL [1]+1)≤2^ (N+1) * (s+4* X+10):=Nat.mul_le_mul (Nat.pow_le_pow_right (by decide) (by omega)) (by omega);have e4:2^ ((trimQ (subP [1] (mulP (bzA q G A) p))).length+1- (trimQ q).length) * (mxL (subP [1] (mulP (bzA q G A) p))+2* mxL q+1)≤2^ N* (E+2* X+2* s+10):=Nat.mul_le_mul (Nat.pow_le_pow_right (by decide) (by omega)) (by omega);have e5:(bzA q G A).length* (mxL (bzA q G A)+mxL p+1)≤(bzA q G A).length* (2* X+2* s+10+s+1):=Nat.mul_le_mul_left _ (by omega);refine⟨G,A,h1,⟨hG,by omega,by omega,fun x hx=>Nat.le_trans (h2 x hx) (by omega),fun x hx=>Nat.le_trans (h3 x hx) (by omega),by omega,?_,?_,?_,?_,?_,?_,?_,?_,by omega,?_⟩,hdv,hdl,g1⟩;rw[g1];exact⟨by omega,by omega,by simp⟩;rw[g1];exact o5_;rw[g1,div_one,hqt];exact⟨by rw[show(trimQ (av_ A (((1:Int):Rat) / leadP G))).length+1- (trimQ q).length=0 by omega];omega,by omega,by omega⟩;rw[g1,div_one,aO_];exact hq0;exact⟨by omega,by omega,by omega,by omega⟩;rw[g1];intro x hx;rw[List.mem_singleton.1 hx];decide;exact fun x hx=>Nat.le_trans (hmb x hx) (by omega);rw[g1];simp;rw[g1];exact⟨by omega,by omega,by omega⟩
structure Lin (φ:List Rat→Rat):Prop where
 eqv:∀{p q},Eqv p q→φ p=φ q
 add:∀p q,φ (addP p q)=φ p+φ q
 scale:∀p k,φ (av_ p k)=φ p* k
theorem Lin.zero{φ:List Rat→Rat}(H:Lin φ):φ []=0:=by
 have h:=H.scale [] 0;rw[H.eqv (p:=av_ [] 0) (q:=[]) fun x=>by rw[as_,ax_];grind] at h;grind
theorem lin_it(a b:Rat):Lin (itP a b):=⟨fun h=>i9_ h a b,sv_ a b,fa_ a b⟩
theorem Lin.ofQ{φ:List Rat→Rat}(H:Lin φ){m:List Rat}{N:Nat}(hm:∀i,i< N→coP m i=φ (gK [1] i))(p:List Rat):∀n,n≤N→n≤p.length→ofQ p m n=φ (p.take n)
 |0,_,_=>H.zero.symm
 |n+1,h1,h2=>by
  rw[Go.Abs.ofQ,Lin.ofQ H hm p n (by omega) (by omega),H.eqv (p:=p.take (n+1)) (q:=addP (p.take n) (av_ (gK [1] n) (coP p n))) (fun x=>by
   rw[cU_ _ _ _ (by omega),a1_,as_,ct_];grind),H.add,H.scale]
  grind
theorem sh_{p q r N:List Rat}{u v:Rat}(hN:nz N)(h:∀x,evalP r x=evalP p x* u+evalP q x* v):∀x,evalP (md r N) x=evalP (md p N) x* u+evalP (md q N) x* v:=by
 obtain⟨a1,a2⟩:=bY_ p hN;obtain⟨b1,b2⟩:=bY_ q hN
 have hl:∀w:List Rat,(nz w→dg w< dg N)→∀i,dg N≤i→coP w i=0:=fun w hw i hi=>by
  by_cases h:nz w;exact(bE_ h).1.2 i (by grind);exact trim_nil_iff.1 (Classical.not_not.1 h) i
 have:=dl_ (p:=r) (q:=N) (u:=addP (av_ (divP p N).1 u) (av_ (divP q N).1 v)) (v:=addP (av_ (md p N) u) (av_ (md q N) v)) hN (fun x=>by
  rw[h,a1_,a1_,as_,as_,as_,as_];grind) (fun hz=>by
   refine Nat.lt_of_not_le fun hle=>?_;have h1:=(bE_ hz).1.1;rw[dy_,a5_,a5_] at h1;grind)
 intro x;rw[this,a1_,as_,as_]
def trP(N g:List Rat):Rat:=coP (md (mulP g (at_ N)) N) (dg N- 1)
theorem c2_{N:List Rat}(hN:nz N):Lin (trP N) where
 eqv {p q} h:=by
  unfold trP;rw[sj_ (p:=mulP p (at_ N)) (p':=mulP q (at_ N)) (q:=N) (q':=N) (fun x=>by rw[ak_,ak_,h]) fun _=>rfl]
 add p q:=by
  have h:=sh_ (p:=mulP p (at_ N)) (q:=mulP q (at_ N)) (r:=mulP (addP p q) (at_ N)) (u:=1) (v:=1) hN fun x=>by rw[ak_,ak_,ak_,a1_];grind
  have e:Eqv (md (mulP (addP p q) (at_ N)) N) (addP (md (mulP p (at_ N)) N) (md (mulP q (at_ N)) N)):=fun x=>by rw[a1_];grind
  unfold trP;rw[trim_iff.1 (eqv_trim.1 e),dy_]
 scale p k:=by
  have h:=sh_ (p:=mulP p (at_ N)) (q:=[]) (r:=mulP (av_ p k) (at_ N)) (u:=k) (v:=0) hN fun x=>by rw[ak_,ak_,as_];grind
  have e:Eqv (md (mulP (av_ p k) (at_ N)) N) (av_ (md (mulP p (at_ N)) N) k):=fun x=>by rw[as_];grind
  unfold trP;rw[trim_iff.1 (eqv_trim.1 e),a5_]
theorem trP_md{N g h u:List Rat}(hN:nz N)(e:∀x,evalP g x=evalP u x* evalP N x+evalP h x):trP N g=trP N h:=by
 refine trim_iff.1 (eqv_trim.1 (md_add (u:=mulP u (at_ N)) hN fun x=>?_)) _;rw[ak_,ak_,ak_];grind
def eL(N:List Rat):Nat→List Rat
 |0=>at_ N
 |k+1=>subP (mulP (eL N k) [0,1]) (av_ N (coP (eL N k) (dg N- 1)))
def sL(N:List Rat)(k:Nat):Rat:=coP (eL N k) (dg N- 1)
theorem coP_x(p:List Rat)(j:Nat):coP (mulP p [0,1]) j=lag p j:=by rw[coP_line];grind
theorem eL_mod(N:List Rat):∀k,∃u,∀x,evalP (mulP (gK [1] k) (at_ N)) x=evalP u x* evalP N x+evalP (eL N k) x
 |0=>⟨[],fun x=>by rw[ak_,ct_,ax_];show x^ 0* _=_+evalP (at_ N) x;grind⟩
 |k+1=>by
  obtain⟨u,hu⟩:=eL_mod N k;refine⟨addP (mulP u [0,1]) (c3_ (coP (eL N k) (dg N- 1))),fun x=>?_⟩;have h:=hu x;rw[ak_,ct_] at h;rw[ak_,ct_,eL,bf_,ak_,as_,a1_,ak_,c7_,fh_];grind
theorem eL_deg{N:List Rat}(hN:nz N)(hm:leadP N=1)(h1:1≤dg N):∀k i,dg N≤i→coP (eL N k) i=0
 |0,i,hi=>by rw[eL,bm_,(bE_ hN).1.2 (i+1) (by omega)];grind
 |k+1,i,hi=>by
  rw[eL,gF_,coP_x,a5_];cases i with
  |zero=>omega
  |succ i=>
   show coP (eL N k) i- _=0;by_cases hd:dg N=i+1;rw[←hd,(bE_ hN).2,hd];grind;rw[eL_deg hN hm h1 k i (by omega),(bE_ hN).1.2 (i+1) (by omega)];grind
theorem md_eL{N:List Rat}(hN:nz N)(hm:leadP N=1)(h1:1≤dg N)(k:Nat):Eqv (md (mulP (gK [1] k) (at_ N)) N) (eL N k):=by
 obtain⟨u,hu⟩:=eL_mod N k;refine dl_ hN hu fun hz=>Nat.lt_of_not_le fun hle=>(bE_ hz).1.1 (eL_deg hN hm h1 k _ hle)
theorem hr_{N:List Rat}(hN:nz N)(hm:leadP N=1)(h1:1≤dg N)(k:Nat):trP N (gK [1] k)=sL N k:=
 trim_iff.1 (eqv_trim.1 (md_eL hN hm h1 k)) _
theorem mf_{N:List Rat}(hN:nz N)(hm:leadP N=1){k:Nat}(hk:k< dg N){S:List Rat}(hS:∀j,j< k→coP S j=sL N j)(hk0:k≠0):sL N k= -(nwA N (dg N) S k (k- 1)):=by
 have key:∀i,i≤k- 1→coP (eL N k) (dg N- 1)=coP (eL N (k- i)) (dg N- 1- i)- (nwA N (dg N) S k i- coP N (dg N- k) * ((k:Int):Rat)):=fun i=>by
  induction i with
  |zero=>rw[nwA];grind
  |succ i ih=>
   intro hi;rw[ih (by omega),nwA,show k- i=(k- (i+1))+1 by omega,show dg N- 1- i=(dg N- 1- (i+1))+1 by omega,eL,gF_,coP_x,a5_];show coP (eL N (k- (i+1))) (dg N- 1- (i+1))- coP N (dg N- 1- (i+1)+1) * sL N (k- (i+1))- _=_;grind
 have h:=key (k- 1) (Nat.le_refl _);rw[show k- (k- 1)=0+1 by omega,show dg N- 1- (k- 1)=(dg N- 1- k)+1 by omega,eL,gF_,coP_x,a5_] at h;have h2:coP (eL N k) (dg N- 1)=coP (at_ N) (dg N- 1- k)- coP N (dg N- 1- k+1) * coP (at_ N) (dg N- 1)- (nwA N (dg N) S k (k- 1)- coP N (dg N- k) * ((k:Int):Rat)):=h;unfold sL;rw[h2,bm_,bm_,show dg N- 1+1=dg N by omega,(bE_ hN).2,show dg N- 1- k+1=dg N- k by omega]
 have e:((dg N:Int):Rat)=(((dg N- k:Nat):Int):Rat)+((k:Int):Rat):=by
  rw[←Rat.intCast_add];congr 1;omega
 grind
theorem qH_(a b:List Rat)(j:Nat):coP (a++b) j=if j< a.length then coP a j else coP b (j- a.length):=by
 unfold coP;grind
theorem suL_sL{N:List Rat}(hN:nz N)(hm:leadP N=1)(ht:trimQ N=N):∀k,k< dg N→∀j,j≤k→coP (suL N (dg N) k) j=sL N j
 |0,hk,j,hj=>by
  have:j=0:=by omega
  subst this;show((dg N:Int):Rat)=coP (at_ N) (dg N- 1);rw[bm_,show dg N- 1+1=dg N by omega,(bE_ hN).2];grind
 |k+1,hk,j,hj=>by
  have ih:=suL_sL hN hm ht k (by omega);rw[suL,qH_,dq_];by_cases h:j< k+1;rw[if_pos h];exact ih j (by omega);have:j=k+1:=by omega
  subst this;rw[if_neg h,Nat.sub_self,mf_ hN hm hk (S:=suL N (dg N) k) (fun j hj=>ih j (by omega)) (by omega)];rfl
theorem apply_tr{N W f:List Rat}(hN:nz N)(hm:leadP N=1)(ht:trimQ N=N)(h1:1≤dg N):ofQ (apR N W f) (suL N (dg N) (dg N- 1)) (apR N W f).length=trP N (mulP W f):=by
 have hs1:=bY_ f hN;have hs2:=bY_ (mulP W (divP f N).2) hN
 have hlen:(apR N W f).length≤dg N:=by
  have:(trimQ (apR N W f)).length< (trimQ N).length:=(cm_ _ N hN).2;have e:trimQ (apR N W f)=apR N W f:=(ep_ _ N).2;rw[e] at this;unfold dg;omega
 rw[(c2_ hN).ofQ (N:=dg N) (fun i hi=>by rw[hr_ hN hm h1,suL_sL hN hm ht (dg N- 1) (by omega) i (by omega)]) _ _ hlen (Nat.le_refl _)];refine((trP_md (u:=addP (divP (mulP W (divP f N).2) N).1 (mulP W (divP f N).1)) hN fun x=>?_):trP N (mulP W f)=_).symm;have e1:=hs1.1 x;have e2:=hs2.1 x;unfold md at e1 e2;rw[ak_] at e2;rw[ak_,a1_,ak_];unfold apR;grind
theorem ng_(p:List Rat)(u v:Rat)(n:Nat):coP (mulP p [u,v]) n=coP p n* u+lag p n* v:=by
 have e:trimQ (mulP p [u,v])=trimQ (mulP [u,v] p):=dm_ fun x=>by rw[ak_,ak_];grind
 rw[trim_iff.1 e n,gG_];show coP (addL (eL_ p u) (0::addL (eL_ p v) (0::[]))) n=_;rw[c8_,cD_];cases n with
 |zero=>rw[ce_];show _=_+0* v;grind
 |succ m=>
  rw[bI_,c8_,cD_];have:coP [(0:Rat)] m=0:=by cases m <;> rfl
  rw[this];show _+(coP p m* v+0)=_+coP p m* v;grind
theorem nz_line(r:Rat):nz [-r,1]∧dg [-r,1]=1:=by
 have h:=f4_ (p:=[-r,1]) (n:=1) ⟨by show(1:Rat)≠0;grind,fun i hi=>co_ (by grind)⟩;grind
theorem cancel{X Y:List Rat}{r:Rat}(h:∀x,evalP X x* (x- r)=evalP Y x* (x- r)):Eqv X Y:=by
 have hz:¬nz (subP X Y):=fun hz=>by
  have h2:=(tt_ hz (nz_line r).1).1;refine h2 (trim_nil_iff.2 (h3_ fun x=>?_));rw[ak_,bf_,c7_];grind
 intro x;have:=dJ_ hz x;rw[bf_] at this;grind
def gJ(m:List Rat):Nat→List Rat
 |0=>[]
 |j+1=>coP m j::gJ m j
theorem coP_gJ(m:List Rat):∀j i,coP (gJ m j) i=if i< j then coP m (j- 1- i) else 0
 |0,i=>by rfl
 |j+1,0=>by rfl
 |j+1,i+1=>by
  show coP (gJ m j) i=_;rw[coP_gJ m j i];grind
def tL(p m:List Rat):Nat→List Rat
 |0=>[]
 |j+1=>addL (tL p m j) (eL_ (gJ m j) (coP p j))
theorem coP_tL(p m:List Rat)(i:Nat):∀j,coP (tL p m j) i=tpV p m i j
 |0=>rfl
 |j+1=>by
  rw[tL,c8_,cD_,coP_tL p m i j,coP_gJ,tpV];grind
theorem q0_(p m:List Rat)(i:Nat):∀j,j≤i+1→tpV p m i j=0
 |0,_=>rfl
 |j+1,h=>by rw[tpV,if_neg (by omega),q0_ p m i j (by omega)]
theorem tf_(p m:List Rat)(x:Rat):evalP (tpQ p m) x=evalP (tL p m p.length) x:=cl_ (fun i=>by
 unfold tpQ;rw[dO_,coP_tL];by_cases h:i< p.length- 1;rw[if_pos h];rw[if_neg h,q0_ _ _ _ _ (by omega)]) x
def GL(x:Rat):Nat→List Rat
 |0=>[]
 |j+1=>addP (av_ (GL x j) x) (gK [1] j)
theorem t0_(x t:Rat):∀j,evalP (GL x j) t* (t- x)=t^ j- x^ j
 |0=>by show(0:Rat) * _=_;grind
 |j+1=>by
  have:=t0_ x t j;rw[GL,a1_,as_,ct_];grind
theorem nx_{φ:List Rat→Rat}(H:Lin φ){m:List Rat}{N:Nat}(hm:∀i,i< N→coP m i=φ (gK [1] i))(p:List Rat)(hp:p.length≤N+1)(x:Rat):evalP (tpQ p m) x=φ (synD p x):=by
 have hG:∀j,j≤N→φ (GL x j)=evalP (gJ m j) x:=fun j=>by
  induction j with
  |zero=>intro _;exact H.zero
  |succ j ih=>intro hj;rw[GL,H.add,H.scale,ih (by omega),←hm j (by omega),gJ,ay_]
 have key:∀j,j≤p.length→φ (synD (p.take j) x)=evalP (tL p m j) x:=fun j=>by
  induction j with
  |zero=>intro _;exact H.zero
  |succ j ih=>
   intro hj
   rw[H.eqv (p:=synD (p.take (j+1)) x) (q:=addP (synD (p.take j) x) (av_ (GL x j) (coP p j))) (cancel (r:=x) fun t=>by
    have a1:=d7_ (p.take (j+1)) x t;have a2:=d7_ (p.take j) x t;have a3:=t0_ x t j;rw[cU_ _ _ _ (by omega),cU_ _ _ _ (by omega)] at a1;rw[a1_,as_];grind),H.add,H.scale,ih (by omega),hG j (by omega),tL,eQ_,dK_]
 rw[tf_,←key p.length (Nat.le_refl _),List.take_length]
theorem Mv.top{m m0:List Rat}{c r:Rat}{N:Nat}(H:Mv m m0 c r N){p p0:List Rat}{κ:Rat}(hp:p.length≤N+1)(hp0:p0.length≤N+1)(e:∀y,evalP p (c+r* y)=κ* evalP p0 y)(y:Rat):evalP (tpQ p m) (c+r* y)=κ* evalP (tpQ p0 m0) y:=by
 rw[nx_ (lin_it _ _) H.h p hp,nx_ (lin_it _ _) H.h0 p0 hp0,su_,i9_ (p:=compP [c,r] (synD p (c+r* y))) (q:=av_ (synD p0 y) (κ/ r)) (cancel (r:=y) fun t=>by
  have a1:=d7_ p (c+r* y) (c+r* t);have a2:=d7_ p0 y t;have h0:=H.r0;rw[dx_,c7_,as_];grind),fa_]
 have h0:=H.r0;grind
theorem wt_uniq {N T W V A B:List Rat} (hN:nz N) (hco:∀x,evalP A x* evalP N x+evalP B x* dvE N x=1) (hW:∃z,∀x,evalP W x* dvE N x=evalP T x+evalP z x* evalP N x) (hV:∃z,∀x,evalP V x* dvE N x=evalP T x+evalP z x* evalP N x)
    (dW:nz W→dg W< dg N) (dV:nz V→dg V< dg N):Eqv W V:=by
 obtain⟨z,hz⟩:=hW;obtain⟨z',hz'⟩:=hV
 have h1:=dl_ (p:=W) (u:=addP (mulP A (subP W V)) (mulP B (subP z z'))) hN (fun x=>by
  rw[a1_,ak_,ak_,bf_,bf_];grind) dV
 have h2:=si_ hN dW;intro x;rw[←h2,h1]
theorem wt_spec{N T iv:List Rat}(hN:nz N){w:List Rat}(h:∀x,evalP iv x* dvE N x=1+evalP w x* evalP N x):(∃z,∀x,evalP (divP (mulP T iv) N).2 x* dvE N x=evalP T x+evalP z x* evalP N x)∧(nz (divP (mulP T iv) N).2→dg (divP (mulP T iv) N).2< dg N):=by
 obtain⟨m1,m2⟩:=bY_ (mulP T iv) hN;refine⟨⟨subP (mulP T w) (mulP (divP (mulP T iv) N).1 (at_ N)),fun x=>?_⟩,m2⟩;have a:=m1 x;unfold md at a;rw[ak_] at a;rw[bf_,ak_,ak_,a4_];grind
def bN:Nat→List Rat
 |1=>[0,1]
 |2=>[mkRat (-1) 3,0,1]
 |3=>[0,mkRat (-3) 5,0,1]
 |4=>[mkRat 3 35,0,mkRat (-6) 7,0,1]
 |_=>[1]
def bWt:Nat→List Rat
 |1=>[2]
 |2=>[1]
 |3=>[mkRat 8 9,0,mkRat (-5) 9]
 |4=>[mkRat 17 24,0,mkRat (-35) 72]
 |_=>[]
def bA:Nat→List Rat
 |2=>[-3]
 |3=>[0,mkRat (-25) 2]
 |4=>[mkRat 35 3,0,mkRat (-1225) 24]
 |_=>[]
def bB:Nat→List Rat
 |1=>[1]
 |2=>[0,mkRat 3 2]
 |3=>[mkRat (-5) 3,0,mkRat 25 6]
 |4=>[0,mkRat (-805) 96,0,mkRat 1225 96]
 |_=>[]
def bX(k i:Nat):Rat:=
 if i=0 then -1 else if i=k then 1 else if k=2 then 0 else if i=1 then mkRat (-1) 2 else if k=4∧i=2 then 0 else mkRat 1 2
def m0K(k:Nat):List Rat:=sqL (moQ [1] (-1,1)) (2* k)
def baseC(k:Nat):Prop:=
 (∀j,j< k+1→(ldr (m0K k) j).1=bN j)∧(∀j,j< k→0< ldN (m0K k) (ldr (m0K k) j).1)∧(bN k).length=k+1∧coP (bN k) k=1∧addP (mulP (bA k) (bN k)) (mulP (bB k) (at_ (bN k)))=[1]∧
 (divP (subP (mulP (bWt k) (at_ (bN k))) (tpQ (bN k) (m0K k))) (bN k)).2=[]∧(bWt k).length≤k∧(∀i,i< k→bX k i< bX k (i+1))∧(∀i,i< k→evalP (bN k) (bX k i) * evalP (bN k) (bX k (i+1))< 0)∧
 (∀j,j< k+1→bdL (bN j) 8∧(bN j).length≤5)∧bdL (bWt k) 8
instance (k:Nat):Decidable (baseC k):=by unfold baseC;infer_instance
section
variable {a b:Rat}(h:a< b){k:Nat}(hk:1≤k∧k≤4)
include h hk
end
def cOK(N s X Y T:Nat):Bool:=
 decide (N≤7) &&
 decide (1≤s) && decide (1≤X) && decide (X≤137438953472) && decide (s+1+N* s+N* (X+1)≤Y) && decide (2^ 7* (s+2* X+1)≤137438953472) && decide (11* Y≤34359738368) && decide (Y≤T) && decide (7* (T+10000000+1)+T+10000000+2≤137438953472) &&
 ((List.range (N+1)).all fun m=>(List.range m).all fun n=>hG 9 m n (s+1+N* s) (s+1+N* s+4) X) &&
 ((List.range (N+1)).all fun m=>(List.range m).all fun n=>cB 9 m n Y (Y+4) (Y+4) T)
theorem sqfM_gen{N s X Y T:Nat}(hc:cOK N s X Y T=true){p:List Rat}(np:nz p)(hl:(trimQ p).length≤N)(hp:p.length≤1000)(hb:bdL p s):∃q,sqfM 9 p=some q∧nz q∧q.length≤N∧Ht q Y∧bdL q Y:=by
 unfold cOK at hc;simp only[Bool.and_eq_true,decide_eq_true_eq,List.all_eq_true,List.mem_range] at hc;obtain⟨⟨⟨⟨⟨⟨⟨⟨⟨⟨c0',c1⟩,c2⟩,c3⟩,c4⟩,c5⟩,c6⟩,c7⟩,c8⟩,hg⟩,hC⟩:=hc;have hH:Ht p (s+1+N* s):=(Ht.of (s:=s) (p:=trimQ p) fun q hq=>hb q (be_ hq)).untrim.mono (by have:=Nat.mul_le_mul_right s hl;omega);have hlp:=List.length_pos_iff.2 np;have hdl:=fQ_ np;have hdt:trimQ (at_ p)=at_ p:=aO_ _;have hd0:=eS_ (by omega) hb c1 hH;generalize hE:s+1+N* s=E at *
 have hd:bdL (at_ p) (E+4)∧Ht (at_ p) (E+4):=⟨fun x hx=>Nat.le_trans (hd0.1 x hx) (by omega),hd0.2⟩;obtain⟨g,g1,g2,g3,g4⟩:=ld_ 9 _ _ E (E+4) X p (at_ p) (hg _ (by omega) _ (by grind)) rfl rfl (fun x hx=>Nat.le_trans (hb x hx) (by omega)) hd.1 hH hd.2 (by omega) (by omega) hp (by omega) c3;obtain⟨z0,z1,z2,a,b,z3⟩:=dX_ 9 _ _ _ g1 (.inl np);obtain⟨u,hu⟩:=z1;obtain⟨m1,m2⟩:=bY_ p z0;have hm:=dl_ (u:=u) (v:=[]) z0 (fun x=>by rw[hu x,ax_];grind) (fun e=>absurd rfl e)
 have hs:∀x,evalP p x=evalP (divP p g).1 x* evalP g x:=fun x=>by
  have:=m1 x;rw[hm x,ax_] at this;grind
 obtain⟨n1,n2⟩:=ck_ hs np;have e1:=(dg_mul' n1 n2 hs).2.1;have e2:=(db_ n1).2.2;have e3:=(db_ n1).2.1;have hlg:=List.length_pos_iff.2 z0;have hls:=List.length_pos_iff.2 e3;have h1:=bN_ hb c1;have h2:=bN_ g4 c2;have hpow:2^ ((trimQ p).length+1- (trimQ g).length)≤2^ 7:=Nat.pow_le_pow_right (by decide) (by omega);generalize hNX:N* (X+1)=NX at *
 have hmul:=Nat.mul_le_mul hpow (show mxL p+2* mxL g+1≤s+2* X+1 by omega);have hq:=(ju_ hH g3 z0).1;have hrw:((trimQ p).length+1- (trimQ g).length) * (X+1)≤NX:=by rw[←hNX];exact Nat.mul_le_mul_right _ (by omega)
 obtain⟨q1,q2⟩:=(hq.mono (show _≤Y by omega)).monic (by omega);refine⟨aG_ (divP p g).1,?_,e3,?_,q2,q1⟩;unfold sqfM;rw[if_pos ⟨ft_ hb (by omega),by omega⟩,g1,Option.bind_some,if_pos ⟨z0,by omega,by omega,by omega⟩];have:=di_ (divP p g).1;rw[←this];unfold dg at e1 e2;omega
theorem or_{N s X Y T:Nat}(hc:cOK N s X Y T=true){p:List Rat}(np:nz p)(hl:(trimQ p).length≤N)(hp:p.length≤1000)(hb:bdL p s):
    ∃c,cn_ 9 p=some c∧(∀x,qs x≤10000000→okUp c x∧okBe c x):=by
 obtain⟨q,s1,s2,s3,s4,s5⟩:=sqfM_gen hc np hl hp hb;unfold cOK at hc;simp only[Bool.and_eq_true,decide_eq_true_eq,List.all_eq_true,List.mem_range] at hc;obtain⟨⟨⟨⟨⟨⟨⟨⟨⟨⟨c0',c1⟩,c2⟩,c3⟩,c4⟩,c5⟩,c6⟩,c7⟩,c8⟩,hg⟩,hC⟩:=hc;have hst:=aB_ q;have hsp:=List.length_pos_iff.2 s2;have hY:1≤Y:=by omega
 obtain⟨p1,p2⟩:=s4.prim s2 hY;obtain⟨c,c0,hc⟩:=fD_ s2;obtain⟨d1,d2,_⟩:=cu_ s2 (show c≠0 by grind) hc
 have hpn:(trimQ (primP q)).length=(trimQ q).length:=by
  have a1:=List.length_pos_iff.2 d1;unfold dg at d2;omega
 have hpl:(primP q).length=(trimQ (primP q)).length:=by unfold primP;rw[cT_]
 have hdl:=fQ_ s2;have hdt:trimQ (at_ q)=at_ q:=aO_ _;have hd:=eS_ (by omega) s5 hY s4;obtain⟨out,o1,o2,o3⟩:=jG_ 9 9 _ _ Y (Y+4) (Y+4) T (primP q) (at_ q) [primP q] (hC (trimQ q).length (by omega) (at_ q).length hdl) hpn (by rw[hdt]) rfl p1 p2 hd.2 hd.1 hY (by omega) (by omega) (by omega) (by omega);have hmx:=bN_ s5 hY;have hmul:=Nat.mul_le_mul (show q.length+4≤11 by omega) hmx
 have hst':er_ 9 q=some out:=by
  unfold er_;rw[if_pos ⟨ft_ s5 (by omega),⟨by omega,by omega⟩,s2⟩];exact o1
 have hall:∀r∈out,nz r∧r.length≤7∧bdL r T:=fun r hr=>by
  rcases o3 r hr with h|⟨a,b,d⟩
  rw[List.mem_singleton.1 h];exact⟨d1,by omega,fun x hx=>Nat.le_trans (p1 x hx) c7⟩;exact⟨a,by omega,d⟩
 rw[List.length_singleton] at o2;have hok:okCnt ⟨q,out,chL (out.map sgI) 0 0⟩:=⟨fun r hr=>⟨(hall r hr).1,by have:=(hall r hr).2.1;omega⟩,by show out.length≤_;omega,rfl⟩
 have hup:∀x,qs x≤10000000→okUp ⟨q,out,chL (out.map sgI) 0 0⟩ x:=fun x hx=>⟨hok,fun r hr=>by
  obtain⟨_,a,b⟩:=hall r hr;have:=bN_ b (by omega);have h2:=Nat.mul_le_mul a (show mxL r+qs x+1≤T+10000000+1 by omega);exact⟨by omega,by omega⟩⟩
 refine⟨⟨q,out,chL (out.map sgI) 0 0⟩,?_,fun x hx=>⟨hup x hx,hup x hx,?_⟩⟩;unfold cn_;rw[s1,Option.bind_some,hst',Option.bind_some,if_pos hok];have h2:=Nat.mul_le_mul (show q.length≤7 by omega) (show mxL q+qs x+1≤T+10000000+1 by omega);exact⟨by show q.length* (mxL q+qs x+1)+mxL q+qs x+2≤_;omega,by show q.length≤_;omega⟩
theorem bdL_mono'{l:List Rat}{a b:Nat}(h:bdL l a)(hab:a≤b):bdL l b:=fun q hq=>Nat.le_trans (h q hq) hab
section
variable {a b:Rat}(h:a< b){k:Nat}(hk:1≤k∧k≤4)(ha:qs a≤20)(hb:qs b≤20)
include ha hb
end
def suB(s:Nat):Nat→Nat
 |0=>13
 |k+1=>(k+1) * (s+suB s k+14)
theorem qs_k{k:Nat}(h:k≤1000):qs ((k:Int):Rat)≤13:=qs_nQ (n:=k) (k:=13) (bl_le (by omega)) (by decide)
theorem r6_{T out:List Rat}{s S n k:Nat}(hT:bdL T s)(hs:1≤s)(ho:bdL out S)(hS:1≤S)(hk:k≤1000):∀i,qs (nwA T n out k i)≤s+13+i* (s+S+1)
 |0=>by
  have h1:=bJ_ (coP T (n- k)) ((k:Int):Rat);have h2:=bj_ hT hs (n- k);have h3:=qs_k hk;rw[nwA];omega
 |i+1=>by
  have h1:=r6_ (n:=n) hT hs ho hS hk i;have h2:=bJ_ (coP T (n- (i+1))) (coP out (k- (i+1)));have h3:=bj_ hT hs (n- (i+1));have h4:=bj_ ho hS (k- (i+1));have h5:=fC_ (nwA T n out k i) (coP T (n- (i+1)) * coP out (k- (i+1)));rw[nwA,Nat.succ_mul];omega
theorem q6_{T:List Rat}{n s:Nat}(hT:bdL T s)(hs:1≤s)(hn:n≤1000):∀k,k≤999→bdL (suL T n k) (suB s k)∧13≤suB s k
 |0,_=>⟨fun q hq=>by
    rw[List.mem_singleton.1 hq];exact qs_k hn,Nat.le_refl _⟩
 |k+1,hk=>by
  obtain⟨h1,h2⟩:=q6_ hT hs hn k (by omega)
  have h3:s+suB s k+14≤suB s (k+1):=by
   rw[suB];exact Nat.le_mul_of_pos_left _ (Nat.succ_pos k)
  refine⟨fun q hq=>?_,by omega⟩;rcases List.mem_append.1 hq with hq|hq
  have:=h1 q hq;omega;rw[List.mem_singleton.1 hq,dG_];have h4:=r6_ (n:=n) (k:=k+1) hT hs h1 (by omega) (by omega) k;have h5:k* (s+suB s k+1)≤k* (s+suB s k+14):=Nat.mul_le_mul_left _ (by omega);rw[suB,Nat.succ_mul];omega
theorem okSu_of{T:List Rat}{n s k:Nat}(hT:bdL T s)(hs:1≤s)(hn:n≤1000)(hk:k≤900)(hB:suB s (k+1)≤137438953472):okSu T n k:=by
 obtain⟨h1,h2⟩:=q6_ hT hs hn k (by omega)
 have h3:s+suB s k+14≤suB s (k+1):=by
  rw[suB];exact Nat.le_mul_of_pos_left _ (Nat.succ_pos k)
 have e1:=bj_ hT hs (n- (k+1));have e2:=qs_k (k:=k+1) (by omega);refine⟨by omega,fun i hi=>?_⟩;have e3:=bj_ hT hs (n- (i+1));have e4:=bj_ h1 (by omega) (k+1- (i+1));have e5:=r6_ (n:=n) (k:=k+1) hT hs h1 (by omega) (by omega) i;have e6:=bJ_ (coP T (n- (i+1))) (coP (suL T n k) (k+1- (i+1)));have e7:i* (s+suB s k+1)≤k* (s+suB s k+14):=Nat.mul_le_mul (by omega) (by omega);have e8:suB s (k+1)=k* (s+suB s k+14)+(s+suB s k+14):=by rw[suB,Nat.succ_mul]
 omega
section
variable {a b:Rat}(h:a< b){k:Nat}(hk:1≤k∧k≤4)
include h hk
variable (ha:qs a≤20)(hb:qs b≤20)
include ha hb
end
section
variable {a b:Rat}(h:a< b){k:Nat}(hk:1≤k∧k≤4)(ha:qs a≤20)(hb:qs b≤20)
include h hk ha hb
end
section
variable {a b a' b':Rat}(h:a< b)(h':a'< b'){k:Nat}(hk:1≤k∧k≤4)
include h h'
end
section
variable {a b a' b':Rat}(ha:qs a≤20)(hb:qs b≤20)(ha':qs a'≤20)(hb':qs b'≤20)
include ha hb ha' hb'
end
end Go.Abs
