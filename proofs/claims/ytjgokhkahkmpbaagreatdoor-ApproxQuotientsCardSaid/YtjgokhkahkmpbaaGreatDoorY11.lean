/- Part Y11 of the proof. -/
import Derived.Test.YtjgokhkahkmpbaaGreatDoorY10
import Derived.Below
set_option linter.all false
namespace Go.Abs
open Go.RowKit
section
variable {fr:Fr}{hp hp':Hp}{nx nx':Nat}
def FinX0(hp':Hp)(nx' n:Nat)(x:Exit)(st:AState):Prop:=(x= .normal\/x= .ret)/\SEnt st ⟨[],hp',nx',n⟩
theorem FinX0.of{n:Nat}(h:SEnt ⟨fr,hp,nx,n⟩ ⟨[],hp',nx',n⟩):FinX0 hp' nx' n .ret ⟨fr,hp,nx,n⟩:=⟨.inr rfl,h⟩
theorem FinX0.norm{n:Nat}(h:SEnt ⟨fr,hp,nx,n⟩ ⟨[],hp',nx',n⟩):FinX0 hp' nx' n .normal ⟨fr,hp,nx,n⟩:=⟨.inl rfl,h⟩
theorem XSpec.enter0 {P:Program} {f:Nat} {fn:Func} {c:Code} {args:La} (hf:P.funcs[f]?=some fn) (hb:fn.body=some c) (hname:(fn.name== "runtime.NumGoroutine")=false) (hrs:fn.results.toList=[]) {m:Nat} (hm:fn.ntmps=m) (hn:Nat.ble args.length m=true)
 (hfr:dx 0 args=fr) (h:AWp none P c (FinX0 hp' nx' m) ⟨fr,hp,nx,m⟩):XSpec P f args hp nx (.tup []) hp' nx':=by
  subst hm hfr;have hn:=Nat.le_of_ble_eq_true hn;refine⟨λxs w=>?_,λM w0 β vals hgh mem hfree hargs=>?_⟩;have hname':¬fn.name= "runtime.NumGoroutine" :=by simpa using hname
  simp[callFunc,hf,hname',hb];refine(callsIn_wide (n:=0)).1 ?_;refine callsIn_of_wp_marks (F:=Fence.wide) hf hb trivial ?_;have hlen:=hargs.length
  have hrel:ARel M w0 ⟨dx 0 args,hp,nx,fn.ntmps⟩ {tmps:=vals.toArray++Array.replicate (fn.ntmps- vals.toArray.size) undef,defers:=[]} w0.w:=by
   refine⟨β,mem,χ,λt x hx=>?_,hfree,⟨[],rfl,List.nodup_nil,ψ⟩⟩;rw[cY hgh]
   have key:∀{as:La} {vs:List Value} {i t:Nat} {x:AV},RVs (MM M β (au hp)) β w0.w as vs->look (dx i as) t=some x->i<=t/\∃y,vs[t- i]?=some y/\RV (MM M β (au hp)) β w0.w x y:=by
    intro as
    induction as with
    |nil=>intro vs i t x _ h;cases h
    |cons a as ih=>
     rintro vs i t x ⟨y,ys,e,h1,h2⟩ h;subst e;simp only[dx] at h;rw[cJ] at h;unfold upd at h;split at h
     ·rename_i e;subst e;cases h;exact⟨Nat.le_refl _,y,ψ,h1⟩
     obtain⟨h3,z,h4,h5⟩:=ih h2 h;exact⟨ω,z,by rw[show t- i=(t- (i+1))+1 by omega,List.getElem?_cons_succ];exact h4,h5⟩
   obtain⟨_,y,h1,h2⟩:=key hargs hx
   have hy:(vals.toArray++Array.replicate (fn.ntmps- vals.toArray.size) undef).getD t undef=y:=by
    have hlt:t< vals.length:=by simpa using(List.getElem?_eq_some_iff.1 h1).1
    rw[Array.getD_eq_getD_getElem?,Array.getElem?_append_left (by simpa using hlt)];simp at h1⊢;rw[h1];rfl
   rw[hy];exact h2
  refine wpIn_mono (h M w0 _ w0.w hrel) λx a' w' ⟨st',hst,he,hent⟩=>?_;obtain⟨β',mem',hsz,hfr,hfree',Ds,hds,hnd,hD⟩:=hent M w0 a' w' hst
  have hres:kW P fn.results.toList ⟨[],hp',nx',fn.ntmps⟩ .any:=by
   rw[hrs];exact⟨[],rfl,λ_ _ _ _ _ _ _=>trivial⟩
  have hL:LeavesInM (FR none) 0 P fn a'.tmps (λx w'=> ∃y β',x= .returned y/\Mem M w0 β' (au hp') w'/\RV (MM M β' (au hp')) β' w' (.tup []) y/\∀i,nx'<=i->β' i=none/\i≠0) a'.defers .returning w':=by
   rw[hds];refine iz (st:=⟨[],hp',nx',fn.ntmps⟩) hres (λy w'' _ h2 h3 h4=>?_) Ds w' hnd hD mem' (λt x hx=>by cases hx)
   have hy:y= .tuple #[]:=by
    have hm:(fn.results.mapM (fL a'.tmps)).run P w''= .ok #[] w'':=by
     rw[Array.mapM_eq_mapM_toList,hrs];rfl
    have he:results fn a'.tmps=(do let vs<-fn.results.mapM (fL a'.tmps);pure (if h:vs.size=1 then vs[0] else .tuple vs)):=rfl;rw[he,Sem.run_bind,hm] at h4;have h5:(Result.ok (.tuple #[]) w'':Result Value)= .ok y w'':=h4;cases h5;rfl
   refine⟨y,β',rfl,h2,?_,hfree'⟩;rw[hy];exact⟨#[],rfl,rfl⟩
  rcases he with rfl|rfl
  exact hL;exact hL
end
section
variable {st:AState}{w:World}{P:Program}{H:Nat->Prop}{e:Nat}
def SEntP(st st':AState):Prop:=∀M0 (w0:Base) a w,ARel M0 w0 st a w->∃p,TRel M0 {w0 with pin:=p} st' a w
theorem SEntP.intro{st':AState}(r:Ren)(hr:r.n=st'.nx)(hk:0< st'.nx)(hinj:lA r (st'.hp.map (·.1))=true)(hn:st'.n=st.n)(hF:CvF r (au st.hp) (au st'.hp) st.fr st'.fr)(hH:CvH r (au st.hp) (au st'.hp) st'.hp):SEntP st st':=by
 rintro M0 w0 a w ⟨β,mem,h1,h2,h3,h4⟩;refine⟨r.app (au st'.hp) β 0,r.app (au st'.hp) β,⟨⟨mem.below.os,mem.below.tape,mem.below.output,mem.below.size,mem.below.block,mem.below.sizes⟩,mem.m0,λi b s hi=>mem.rng _ b s (Ren.app_some hi).2,λhz=>rfl,λi B hi=>?_,λi j B B' b s s' h1 h2 h3 h4=>?_⟩,h1.trans hn.symm,λt x hx=>?_,λi hi=>?_,h4,λi x hi=>Ren.app_live hi⟩;obtain⟨hik,B0,e1,e2,e3,e4⟩:=hH.look hi;obtain⟨b,r1,r2⟩:=mem.blk _ B0 e1;refine⟨b,by rw[Ren.app_of hik (by rw[hi];rfl),<-e3];exact r1,?_⟩;rcases r2 with⟨hz,cs,r2,r3,r4⟩|⟨hz,ens,ck,r2,r3⟩
 refine .inl ⟨by rw[<-e3];exact hz,cs,by rw[<-e2];exact r2,?_,by rw[e4.length,<-e3];exact r4⟩;rw[<-e3];exact e4.rvess mem r3;exact .inr ⟨by rw[<-e3];exact hz,ens,ck,r2,e4.kv mem r3⟩;obtain⟨_,B0,e1,_⟩:=hH.look h1;obtain⟨_,B0',e1',_⟩:=hH.look h2;have:=mem.inj _ _ B0 B0' b s s' e1 e1' (Ren.app_some h3).2 (Ren.app_some h4).2;exact qQ hinj i j (List.mem_map_of_mem (da h1)) (List.mem_map_of_mem (da h2)) this;obtain⟨x0,e1,e2⟩:=hF.look hx;exact e2 M0 w0 β w _ mem (h2 t x0 e1);have hle:st'.nx<=i:=hi;refine⟨?_,ω⟩;simp only[Ren.app];rw[if_neg (λhh=>by have:=hh.1;omega)]
theorem SEntP.to {fr fr':Fr} {hp hp':Hp} {nx nx' n:Nat} (l:List (Nat×Nat)) (hk:Nat.blt 0 nx'=true) (hinj:lA (rnm fr l nx') (hp'.map (·.1))=true) (hS:ShrL (rnm fr l nx') (au hp) hp')
    (hF:Shr (rnm fr l nx') (au hp) (au hp')->CvF (rnm fr l nx') (au hp) (au hp') fr fr')
    (hH:Shr (rnm fr l nx') (au hp) (au hp')->CvH (rnm fr l nx') (au hp) (au hp') hp'):SEntP ⟨fr,hp,nx,n⟩ ⟨fr',hp',nx',n⟩:=
 SEntP.intro (st:=⟨fr,hp,nx,n⟩) (st':=⟨fr',hp',nx',n⟩) (rnm fr l nx') rfl (Nat.le_of_ble_eq_true hk) hinj rfl (hF hS.shr) (hH hS.shr)
theorem ARel.unpin{M0:Nat->Prop}{w0:Base}{p:Option (Nat×Nat)}{a:Act}(h:ARel M0 {w0 with pin:=p} st a w)(h0:au st.hp 0=none):ARel M0 w0 st a w:=by
 obtain⟨β,mem,h1,h2,h3,h4⟩:=h;exact⟨β,⟨⟨mem.below.os,mem.below.tape,mem.below.output,mem.below.size,mem.below.block,mem.below.sizes⟩,mem.m0,mem.rng,(λhz=>by rw[h0] at hz;cases hz),mem.blk,mem.inj⟩,h1,h2,h3,h4⟩
theorem AWp.pinned{ρ:Option Nat}{Q:Exit->AState->Prop}{st':AState}{c:Code}(h:SEntP st st')(hc:AWp ρ P c (λe s=>au s.hp 0=none/\Q e s) st'):AWp ρ P c Q st:=λM0 w0 a w hr=>by
 obtain⟨p,ht⟩:=h M0 w0 a w hr;exact wpIn_mono (hc M0 _ a w ht.arel) λe a' w' ⟨s,h1,h2,h3⟩=>⟨s,h1.unpin h2,h3⟩
def Top(H:Nat->Prop)(x:AV):Prop:=Closed x\/(∃j e o,x= .lptr j e o/\H j)\/(∃j e m cap sz,x= .lsl j e m cap sz/\H j)\/∃f j e o,x= .clos f [] [.lptr j e o]/\H j
theorem Top.clo{x:AV}(h:Closed x):Top H x:= .inl h
theorem Top.ptr{j o:Nat}(h:H j):Top H (.lptr j e o):= .inr (.inl ⟨j,e,o,rfl,h⟩)
theorem Top.sl{j m sz:Nat}{cap:Option Nat}(h:H j):Top H (.lsl j e m cap sz):= .inr (.inr (.inl ⟨j,e,m,cap,sz,rfl,h⟩))
theorem Top.cl{f j o:Nat}(h:H j):Top H (.clos f [] [.lptr j e o]):= .inr (.inr (.inr ⟨f,j,e,o,rfl,h⟩))
theorem sr{M M':Nat->Prop}{β β':Bq}{w':World}{x:AV}{y:Value}(hx:Top H x)(h:RV M β w x y)(hb:∀j,H j->∀p,β j=some p->β' j=some p)(h1:∀b N,aL w b=some N->¬M b->w'.heap[b]?=w.heap[b]?)(h2:∀b N,aL w b=some N->M' b->M b)(h3:∀b n,aL w b=some n->aL w' b=some n):RV M' β' w' x y:=by
 rcases hx with hx|⟨j,e,o,rfl,hj⟩|⟨j,e,m,cap,sz,rfl,hj⟩|⟨f,j,e,o,rfl,hj⟩
 exact Bk hx h h1 h2 h3;obtain⟨b,s,q1,q2⟩:=h;exact⟨b,s,hb j hj _ q1,q2⟩;obtain⟨b,c,q1,q2,q3,q4,q5,N,q6,q7⟩:=h;exact⟨b,c,hb j hj _ q1,q2,q3,q4,q5,N,h3 b N q6,q7⟩;obtain⟨xs,ys,q1,q2,z,zs,q3,⟨b,s,q4,q5⟩,q6⟩:=h;exact⟨xs,ys,q1,q2,z,zs,q3,⟨b,s,hb j hj _ q4,q5⟩,q6⟩
theorem FA{H:Nat->Prop}{M M':Nat->Prop}{β β':Bq}{w w':World}{b:Nat}(hb:∀j,H j->∀p,β j=some p->β' j=some p)(h1:∀b N,aL w b=some N->¬M b->w'.heap[b]?=w.heap[b]?)(h2:∀b N,aL w b=some N->M' b->M b)(h3:∀b n,aL w b=some n->aL w' b=some n)(hh:w'.heap[b]?=w.heap[b]?):∀{cs:La} {off:Nat},(∀c∈cs,Top H c)->RVcs M β w b cs off->RVcs M' β' w' b cs off
 |[],_,_,h=>h
 |c::cs,off,ht,⟨⟨x,q1,q2⟩,q3⟩=>⟨⟨x,by rw[cell?_congr hh];exact q1,sr (ht c (List.mem_cons_self ..)) q2 hb h1 h2 h3⟩,FA hb h1 h2 h3 hh (λd hd=>ht d (List.mem_cons_of_mem _ hd)) q3⟩
theorem wP{H:Nat->Prop}{M M':Nat->Prop}{β β':Bq}{w w':World}{b s:Nat}(hb:∀j,H j->∀p,β j=some p->β' j=some p)(h1:∀b N,aL w b=some N->¬M b->w'.heap[b]?=w.heap[b]?)(h2:∀b N,aL w b=some N->M' b->M b)(h3:∀b n,aL w b=some n->aL w' b=some n)(hh:w'.heap[b]?=w.heap[b]?):∀{es:Lc} {off:Nat},(∀e∈es,∀c∈e,Top H c)->RVess M β w b s es off->RVess M' β' w' b s es off
 |[],_,_,h=>h
 |e::es,off,ht,⟨q1,q2,q3⟩=>⟨q1,FA hb h1 h2 h3 hh (ht e (List.mem_cons_self ..)) q2,wP hb h1 h2 h3 hh (λd hd=>ht d (List.mem_cons_of_mem _ hd)) q3⟩
theorem Fz{H:Nat->Prop}{M M':Nat->Prop}{β β':Bq}{w w':World}(hb:∀j,H j->∀p,β j=some p->β' j=some p)(h1:∀b N,aL w b=some N->¬M b->w'.heap[b]?=w.heap[b]?)(h2:∀b N,aL w b=some N->M' b->M b)(h3:∀b n,aL w b=some n->aL w' b=some n):∀{cs:La} {ys:List Value},(∀c∈cs,Top H c)->RVs M β w cs ys->RVs M' β' w' cs ys
 |[],_,_,h=>h
 |c::cs,_,ht,⟨x,xs,q1,q2,q3⟩=>⟨x,xs,q1,sr (ht c (List.mem_cons_self ..)) q2 hb h1 h2 h3,Fz hb h1 h2 h3 (λd hd=>ht d (List.mem_cons_of_mem _ hd)) q3⟩
theorem A7{ρ:Operand->Value}{o:Oper}{c:Call}{callee:Operand}{f:Nat}{args:List Value}{ys:Array Value}(ho:o.op= .call c)(h1:c.callee= .value callee)(hx:ρ callee= .func (.func f) #[] ys)(ha:c.args.toList.map ρ=args)(he:∀(xs:Array Value) (w:World),(callFunc f xs).run P w= .ok (.enter f xs) w):
    (execOp ρ o).run P w= .ok (.enter f (args++ys.toList).toArray) w:=by
 subst ha;simp only[execOp,ho];simp only[resolve,h1,hx,Deferred.ofValue,Sem.run_bind,Sem.run_pure,Result.andThen_ok,invoke];rw[Array.empty_append,he];have:(c.args.toList.map ρ++ys.toList).toArray=c.args.map ρ++ys:=by apply Array.ext';simp
 rw[this]
theorem AWp.regF {ρ:Option Nat} {Q:Exit->AState->Prop} {ops:Array Oper} {id n nx n1 nx2 k nxc g:Nat} {fr fr2 fr3:Fr} {hp hp2 hp3 hpc hpd:Hp} {v:AV} (jj:Nat) {o:Oper} (ho:ops.toList[jj]?=some o) {cc:Call} {f:Operand} {as cap:La} (hop:o.op= .call cc) (hg:o.guard=none) (hf:cc.callee= .value f) (hsz:ops.size=n1)
    (h:AR P ops nx n 0 (ops.toList.take jj) fr hp λ_ f1 h1=>SEntT ⟨f1,h1,nx+jj,n⟩ ⟨fr2,hp2,nx2,n⟩) (hdn:∀d,o.dst=some d->Nat.blt d n=true)
    (hev:evF (look fr2) f=some (.clos g [] cap)) (has:evs (evF (look fr2)) cc.args.toList=some as) (hX:XSpec P g ((as++cap).map coe) hpc k v hpd nxc) (hkn:k<=nx2) (hkc:nxc<=k)
    (hA:∀x∈as++cap,Top (λj=>j< k/\(au hpc j).isSome=true) x) (hE:∀i,i< k->au hpc i=au hp2 i) (hc0:∀i,k<=i->au hpc i=none) (hCB:∀i B,au hpc i=some B->B.sz≠0/\∀e∈B.es,∀c∈e,Top (λj=>j< k/\(au hpc j).isSome=true) c)
    (hS:∀i B,k<=i->au hp2 i=some B->B.sz≠0/\∀e∈B.es,∀c∈e,Top (λj=>j=0\/k<=j) c)
    (hD:∀i,au hp3 i=if i< k then au hpd i else au hp2 i) (hd:∀i,k<=i->au hpd i=none) (h0:(au hpc 0).isSome=true) (h0':(au hpd 0).isSome=true)
    (h30:∀t x,look fr3 t=some x->look fr2 t=some x/\Top (λj=>j=0\/k<=j) x)
    (h3:AR P ops nx2 n (jj+1) (ops.toList.drop (jj+1)) (zf fr3 o.dst v) hp3 λ_ f' h'=>Q .normal ⟨f',h',nx2+n1,n⟩):AWp ρ P (.region id ops false) Q ⟨fr,hp,nx,n⟩:=by
 have hjl:jj< ops.toList.length:=(List.getElem?_eq_some_iff.1 ho).1
 have hops:ops.toList=ops.toList.take jj++o::ops.toList.drop (jj+1):=by
  rw[<-(List.getElem?_eq_some_iff.1 ho).2,<-List.drop_eq_getElem_cons hjl,List.take_append_drop]
 rintro M w0 a w hr;refine wpIn_region_list ?_;rw[hops];obtain⟨us,st1,hrun,hent⟩:=h
 have hn1:=(eG (ops.toList.take jj) 0 _ st1 us [] (look fr) (au hp) hrun rfl (λi o h=>by
  rw[List.getElem?_take] at h;split at h;simpa using h;cases h) rfl rfl).2.2.2
 simp only at hn1;refine jF (M0:=M) (w0:=w0) (ρ:=ρ) _ _ 0 ⟨fr,hp,nx,n⟩ st1 us a w hrun (FRel.free hr λi hi=>by show nx<=i;simpa using hi) λa1 w1 hr1=>?_;have hl:(ops.toList.take jj).length=jj:=by rw[List.length_take];omega
 rw[hl,Nat.zero_add,hn1] at hr1;obtain⟨β,mem,s1,s2,s3,⟨Ds,s4,s5,s6⟩,s7⟩:=hent M w0 a1 w1 hr1;refine wpListIn_step λK hK=>?_;rw[if_pos (by simp[Region.wanted,hg])]
 have hC:∀i B,au hpc i=some B->i< k/\au hp2 i=some B:=λi B hB=>by
  by_cases hi:i< k;exact⟨hi,by rw[<-hE i hi];exact hB⟩;rw[hc0 i ω] at hB;cases hB
 obtain⟨βc,hβ⟩:∃βc:Nat->Option (Nat×Nat),βc=λi=>if i< k/\(au hpc i).isSome=true then β i else none:=⟨_,rfl⟩
 have bc1:∀i p,βc i=some p->i< k/\(au hpc i).isSome=true/\β i=some p:=λi p hi=>by
  rw[hβ] at hi;simp only at hi;split at hi
  ·rename_i hh;exact⟨hh.1,hh.2,hi⟩
  cases hi
 have bc2:∀i,i< k/\(au hpc i).isSome=true->∀p,β i=some p->βc i=some p:=λi hi p hp=>by
  rw[hβ];simp only;rw[if_pos hi];exact hp
 obtain⟨Mc,hMc⟩:∃Mc:Nat->Prop,Mc=λb=>M b\/∃i B s,k<=i/\au hp2 i=some B/\β i=some (b,s):=⟨_,rfl⟩;have hjn:∀b,(∃i s,βc i=some (b,s))->¬w0.K b:=λb ⟨i,s,hi⟩=>(mem.rng i b s (bc1 i _ hi).2.2).1;have hgt:¬(∃i s,βc i=some (GT,s)):=fun⟨i,s,hi⟩=>mem.gtn i s (bc1 i _ hi).2.2
 let wc:Base:=⟨w1,λb=>b< w1.heap.size/\¬ ∃i s,βc i=some (b,s),λ_ h=>h.1,w0.pin,λ_=>undef,⟨mem.tab.lt,hgt⟩,mem.tab⟩
 have hsep:∀i B b s,k<=i->au hp2 i=some B->β i=some (b,s)->¬ ∃j s,βc j=some (b,s):=λi B b s hi hB hb ⟨j,s',hj⟩=>by
  obtain⟨j1,j2,j3⟩:=bc1 j _ hj;obtain⟨B',hB'⟩:=Option.isSome_iff_exists.1 j2;have:=mem.inj i j B B' b s s' hB (hC j B' hB').2 hb j3;omega
 have hMM:∀b,MM Mc βc (au hpc) b↔MM M β (au hp2) b:=λb=>by
  constructor;rintro(h|⟨i,B,s,e1,e2⟩);rw[hMc] at h;rcases h with h|⟨i,B,s,_,e1,e2⟩
  exact .inl h;exact .inr ⟨i,B,s,e1,e2⟩;exact .inr ⟨i,B,s,(hC i B e1).2,(bc1 i _ e2).2.2⟩;rintro(h|⟨i,B,s,e1,e2⟩);exact .inl (by rw[hMc];exact .inl h);by_cases hi:k<=i;exact .inl (by rw[hMc];exact .inr ⟨i,B,s,hi,e1,e2⟩);have e3:au hpc i=some B:=by rw[hE i ω];exact e1
  exact .inr ⟨i,B,s,e3,bc2 i ⟨ω,by rw[e3];rfl⟩ _ e2⟩
 have memc:Mem Mc wc βc (au hpc) wc.w:=by
  refine⟨⟨rfl,rfl,rfl,Nat.le_refl _,λ_ _=>rfl,λ_ _ h=>h⟩,λb hb=>?_,λi b s hi=>⟨λhk=>hk.2 ⟨i,s,hi⟩,(mem.rng i b s (bc1 i _ hi).2.2).2⟩,λhz=>?_,λi B hi=>?_,λi j B B' b s s' h1 h2 h3 h4=>?_⟩;rw[hMc] at hb;rcases hb with hb|⟨i,B,s,hi,e1,e2⟩
  exact⟨⟨mem.lt (.inl hb),λhe=>hjn b he (mem.m0 b hb).1⟩,(mem.m0 b hb).2⟩;exact⟨⟨(mem.rng i b s e2).2,hsep i B b s hi e1 e2⟩,λe=>mem.gtn i s (e▸e2)⟩
  have h02:(au hp2 0).isSome=true:=by
   obtain⟨B,hB⟩:=Option.isSome_iff_exists.1 hz;rw[(hC 0 B hB).2];rfl
  have e:=mem.pin h02;show βc 0=w0.pin;rw[hβ];simp only;rw[if_pos ⟨by obtain⟨B,hB⟩:=Option.isSome_iff_exists.1 hz;exact(hC 0 B hB).1,hz⟩];exact e;obtain⟨q1,q2⟩:=hC i B hi;obtain⟨b,r1,r2⟩:=mem.blk i B q2;refine⟨b,bc2 i ⟨q1,by rw[hi];rfl⟩ _ r1,?_⟩;obtain⟨hz,ht⟩:=hCB i B hi;rcases r2 with⟨_,cs,r2,r3,r4⟩|⟨hz',_⟩
  exact .inl ⟨hz,cs,r2,wP (λj hj p hp=>bc2 j hj p hp) (λ_ _ _ _=>rfl) (λb _ _ hb=>(hMM b).1 hb) (λ_ _ h=>h) rfl ht r3,r4⟩;exact absurd hz' hz;exact mem.inj i j B B' b s s' (hC i B h1).2 (hC j B' h2).2 (bc1 i _ h3).2.2 (bc1 j _ h4).2.2
 obtain⟨xs,ys,hx,hx1,hx2⟩:=iW s2 f _ hev;have hxs:xs= #[]:=Array.ext' hx1;subst hxs;have hv:RVs (MM M β (au hp2)) β w1 (as++cap) (cc.args.toList.map a1.eval++ys.toList):=(iV (iW s2) has).append hx2;have hv1:RVs (MM Mc βc (au hpc)) βc w1 (as++cap) (cc.args.toList.map a1.eval++ys.toList):=Fz (λj hj p hp=>bc2 j hj p hp) (λ_ _ _ _=>rfl) (λb _ _ hb=>(hMM b).1 hb) (λ_ _ h=>h) hA hv;have hv2:=iy hv1;refine⟨λ_ _=>trivial,?_⟩;rw[Oper.semAt_eq _ _ _ (by rw[hop];intro c e;cases e)];have hrunc:(execOp a1.eval o).run P w1= .ok (.enter g (cc.args.toList.map a1.eval++ys.toList).toArray) w1:=A7 hop hf hx rfl hX.enters;rw[hrunc]
 refine⟨λhh=>by simp[FR] at hh,yq ((hX.calls Mc wc βc _ rfl memc (λi hi=>⟨?_,by
  have:0< k:=by
   obtain⟨B,hB⟩:=Option.isSome_iff_exists.1 h0;exact(hC 0 B hB).1
  omega⟩) hv2).mono ?_)⟩
 rw[hβ];simp only;rw[if_neg (λhh=>by have:=hh.1;omega)];rintro e w' ⟨y,βd,rfl,mem',hy,hfree'⟩;have hold:∀b,b< w1.heap.size->(¬ ∃i s,βc i=some (b,s))->w'.heap[b]?=w1.heap[b]?:=λb h1 h2=>mem'.below.block b ⟨h1,h2⟩
 have hlive:∀b,(∃i s,βc i=some (b,s))->MM M β (au hp2) b:=λb ⟨i,s,hi⟩=>by
  obtain⟨j1,j2,j3⟩:=bc1 i _ hi;obtain⟨B,hB⟩:=Option.isSome_iff_exists.1 j2;exact .inr ⟨i,B,s,(hC i B hB).2,j3⟩
 obtain⟨βn,hβn⟩:∃βn:Nat->Option (Nat×Nat),βn=λi=>if i< k then βd i else β i:=⟨_,rfl⟩
 have bn1:∀i,i< k->βn i=βd i:=λi hi=>by rw[hβn];simp only;rw[if_pos hi]
 have bn2:∀i,k<=i->βn i=β i:=λi hi=>by rw[hβn];simp only;rw[if_neg ω]
 have k0:0< k:=by
  obtain⟨B,hB⟩:=Option.isSome_iff_exists.1 h0;exact(hC 0 B hB).1
 have hpin:βd 0=β 0:=by
  have e1:βd 0=w0.pin:=mem'.pin h0'
  have h02:(au hp2 0).isSome=true:=by
   obtain⟨B,hB⟩:=Option.isSome_iff_exists.1 h0;rw[(hC 0 B hB).2];rfl
  rw[e1,mem.pin h02]
 have hkeep:∀j,(j=0\/k<=j)->∀p,β j=some p->βn j=some p:=λj hj p hp=>by
  rcases hj with rfl|hj
  rw[bn1 0 k0,hpin];exact hp;rw[bn2 j hj];exact hp
 have c1:∀b N,aL w1 b=some N->¬MM M β (au hp2) b->w'.heap[b]?=w1.heap[b]?:=λb N hs hm=>hold b (ci hs) λhe=>hm (hlive b he)
 have hMn:∀b,MM M βn (au hp3) b↔MM Mc βd (au hpd) b:=λb=>by
  constructor;rintro(h|⟨i,B,s,e1,e2⟩);exact .inl (by rw[hMc];exact .inl h);rw[hD] at e1;by_cases hi:i< k;rw[if_pos hi] at e1;rw[bn1 i hi] at e2;exact .inr ⟨i,B,s,e1,e2⟩;rw[if_neg hi] at e1;rw[bn2 i ω] at e2;exact .inl (by rw[hMc];exact .inr ⟨i,B,s,ω,e1,e2⟩);rintro(h|⟨i,B,s,e1,e2⟩);rw[hMc] at h;rcases h with h|⟨i,B,s,hi,e1,e2⟩
  exact .inl h;exact .inr ⟨i,B,s,by rw[hD,if_neg ω];exact e1,by rw[bn2 i hi];exact e2⟩
  have hi:i< k:=by
   by_cases hi:i< k;exact hi;rw[hd i ω] at e1;cases e1
  exact .inr ⟨i,B,s,by rw[hD,if_pos hi];exact e1,by rw[bn1 i hi];exact e2⟩
 have c2:∀b N,aL w1 b=some N->MM M βn (au hp3) b->MM M β (au hp2) b:=λb N hs hm=>by
  rcases(hMn b).1 hm with hm|⟨i,B,s,_,hi⟩
  exact(hMM b).1 (.inl hm);by_cases he:∃i s,βc i=some (b,s);exact hlive b he;exact absurd ⟨ci hs,he⟩ (mem'.rng i b s hi).1
 have hDs:∀D∈Ds,w'.heap[D]?=some (.deferred (some []))/\¬w0.K D:=λD hD=>by
  obtain⟨d1,d2⟩:=s6 D hD;refine⟨?_,d2⟩;rw[hold D (Array.getElem?_eq_some_iff.1 d1).1 fun⟨i,s,hi⟩=>?_];exact d1;obtain⟨j1,j2,j3⟩:=bc1 i _ hi;obtain⟨B,hB⟩:=Option.isSome_iff_exists.1 (s7 i _ j3);obtain⟨b,r1,r2⟩:=mem.blk i B hB;rw[j3] at r1;cases r1;obtain⟨N,hN⟩:=r2.size;simp[aL,d1] at hN
 have stn:StabC (MM Mc βd (au hpd)) (MM M βn (au hp3)) βd βn w' w':=⟨λ_ _ _ _=>rfl,λb _ _ hb=>(hMn b).1 hb,(λi p hi=>by
  by_cases hk:i< k;rw[bn1 i hk];exact hi;rw[(hfree' i ω).1] at hi;cases hi),λ_ _ h=>h⟩
 have memn:Mem M w0 βn (au hp3) w':=by
  have hb:=mem'.below;refine⟨⟨hb.os.trans mem.below.os,hb.tape.trans mem.below.tape,hb.output.trans mem.below.output,Nat.le_trans mem.below.size hb.size,λb hk=>?_,λb n hs=>hb.sizes b n (mem.below.sizes b n hs)⟩,mem.m0,λi b s hi=>?_,λhz=>?_,λi B hi=>?_,λi j B B' b s s' h1 h2 h3 h4=>?_⟩;rw[hold b (Nat.lt_of_lt_of_le (w0.lt b hk) mem.below.size) λhe=>hjn b he hk];exact mem.below.block b hk;by_cases hk:i< k;rw[bn1 i hk] at hi;exact⟨λhk=>(mem'.rng i b s hi).1 ⟨Nat.lt_of_lt_of_le (w0.lt b hk) mem.below.size,λhe=>hjn b he hk⟩,(mem'.rng i b s hi).2⟩;rw[bn2 i ω] at hi;exact⟨(mem.rng i b s hi).1,Nat.lt_of_lt_of_le (mem.rng i b s hi).2 hb.size⟩;rw[bn1 0 k0];exact mem'.pin h0';rw[hD] at hi;by_cases hk:i< k;rw[if_pos hk] at hi;obtain⟨b,r1,r2⟩:=mem'.blk i B hi;exact⟨b,by rw[bn1 i hk];exact r1,r2.stab stn rfl⟩;rw[if_neg hk] at hi;obtain⟨b,r1,r2⟩:=mem.blk i B hi;refine⟨b,by rw[bn2 i ω];exact r1,?_⟩;obtain⟨hz,ht⟩:=hS i B ω hi;have hh:w'.heap[b]?=w1.heap[b]?:=hold b (mem.rng i b _ r1).2 (hsep i B b _ ω hi r1);rcases r2 with⟨_,cs,r2,r3,r4⟩|⟨hz',_⟩
  exact .inl ⟨hz,cs,by rw[hh];exact r2,wP hkeep c1 c2 hb.sizes hh ht r3,r4⟩;exact absurd hz' hz;rw[hD] at h1 h2;have hmix:∀{i j:Nat} {B B':ABlk} {b s s':Nat},i< k->k<=j->au hpd i=some B->au hp2 j=some B'->βd i=some (b,s)->β j=some (b,s')->False:=fun{i j B B' b s s'} hi hj e1 e2 e3 e4=>(mem'.rng i b s e3).1 ⟨(mem.rng j b s' e4).2,hsep j B' b s' hj e2 e4⟩;by_cases hi:i< k;rw[if_pos hi] at h1;rw[bn1 i hi] at h3;by_cases hj:j< k;rw[if_pos hj] at h2;rw[bn1 j hj] at h4;exact mem'.inj i j B B' b s s' h1 h2 h3 h4;rw[if_neg hj] at h2;rw[bn2 j ω] at h4;exact(hmix hi ω h1 h2 h3 h4).elim;rw[if_neg hi] at h1;rw[bn2 i ω] at h3;by_cases hj:j< k;rw[if_pos hj] at h2;rw[bn1 j hj] at h4;exact(hmix hj ω h2 h1 h4 h3).elim;rw[if_neg hj] at h2;rw[bn2 j ω] at h4;exact mem.inj i j B B' b s s' h1 h2 h3 h4
 refine hK _ w' ?_;obtain⟨us',st3,hrun3,hq⟩:=h3;have hn3:=(iB _ (jj+1) _ _ _ hrun3);simp only at hn3;have hfreen:∀i,nx2<=i->βn i=none/\i≠0:=λi hi=>⟨by rw[bn2 i ω];exact(s3 i hi).1,(s3 i hi).2⟩
 have hrel:ARel M w0 ⟨zf fr3 o.dst v,hp3,nx2,n⟩ (a1.put o.dst y) w':=by
  cases hdst:o.dst with
  |none=>
   refine⟨βn,memn,s1,λt x hx=>?_,hfreen,⟨Ds,s4,s5,hDs⟩⟩;obtain⟨e1,e2⟩:=h30 t x hx;exact sr e2 (s2 t x e1) hkeep c1 c2 mem'.below.sizes
  |some d=>
   refine⟨βn,memn,by simp[Act.put,s1],λt x hx=>?_,hfreen,⟨Ds,by rw[<-s4];rfl,s5,hDs⟩⟩;rw[pM (by rw[s1];exact Nat.le_of_ble_eq_true (hdn d hdst))];have hx':look ((d,v)::fr3) t=some x:=hx;rw[cJ] at hx';unfold upd at hx';split at hx'
   ·rename_i htd;rw[if_pos htd];cases hx';exact stn.all hy
   ·rename_i htd;rw[if_neg htd]
    obtain⟨e1,e2⟩:=h30 t x hx';exact sr e2 (s2 t x e1) hkeep c1 c2 mem'.below.sizes
 have happ:=jF (P:=P) (ops:=ops) (ρ:=ρ) (M0:=M) (w0:=w0) (nx:=nx2) (Q:=λe a' w'=> ∃st',ARel M w0 st' a' w'/\Q e st') [] (ops.toList.drop (jj+1)) (jj+1) ⟨zf fr3 o.dst v,hp3,nx2,n⟩ st3 us' (a1.put o.dst y) w' hrun3 (hrel.free λi hi=>by show nx2<=i;omega) λa5 w5 hr5=>?_;rw[List.append_nil] at happ;exact happ;refine⟨⟨st3.fr,st3.hp,nx2+n1,n⟩,?_,hq⟩;rw[hn3] at hr5;refine hr5.free λi (hi:nx2+n1<=i)=>?_;rw[List.length_drop,Array.length_toList];have:jj< ops.size:=by simpa using hjl
 omega
end
section
variable {P:Program}{T:Nat}{x y:Operand}{a b:Int}
theorem Fg(h:0<=a/\a<=18446744073709551615):∀w,(do eqGuard .shr T x y (.int .u64 a) (.int .u64 1);binOp .shr T (.int .u64 a) (.int .u64 1):Sem Value).run P w= .ok (.int .u64 (a/ 2)) w:=λw=>by
 simp[eqGuard,binOp,Op.shift];show a.fdiv (2^ 1)=a/ 2;rw[Int.fdiv_eq_ediv_of_nonneg _ δ];rfl
end
theorem D0{M:Nat->Prop}{β:Bq}{w:World}{b:Nat}:∀{cs:La} {off:Nat},RVcs M β w b cs off->∃V:La,V.length=cs.length/\(cs.all AV.one=true->V.all AV.one=true)/\(∀c∈V,∃y,c= .v y)/\(∀M' β',RVcs M' β' w b V off)/\
    ∀(M2 M3:Nat->Prop) (β2 β3:Bq) (w2:World) (b2 off2:Nat),(∀c∈cs,∀y,RV M β w c y->RV M2 β2 w2 c y)->RVcs M3 β3 w2 b2 V off2->RVcs M2 β2 w2 b2 cs off2
 |[],off,h=>⟨[],rfl,λ_=>rfl,(λc hc=>by cases hc),λ_ _=>trivial,λ_ _ _ _ _ _ _ _ _=>trivial⟩
 |c::cs,off,⟨⟨x,q1,q2⟩,q3⟩=>by
  obtain⟨V,v1,v0,v2,v3,v4⟩:=D0 q3;refine⟨.v x::V,by simp[v1],λh1=>?_,λc hc=>?_,λM' β'=>⟨⟨x,q1,rfl⟩,v3 M' β'⟩,λM2 M3 β2 β3 w2 b2 off2 ht h=>?_⟩;rw[List.all_cons,Bool.and_eq_true] at h1⊢;exact⟨F1 q2 h1.1,v0 h1.2⟩;rcases List.mem_cons.1 hc with rfl|hc
  exact⟨x,rfl⟩;exact v2 c hc;obtain⟨⟨z,r1,r2⟩,r3⟩:=h;cases (r2:z=x);exact⟨⟨x,r1,ht c (List.mem_cons_self ..) x q2⟩,v4 M2 M3 β2 β3 w2 b2 _ (λc hc=>ht c (List.mem_cons_of_mem _ hc)) r3⟩
theorem Au{M:Nat->Prop}{β:Bq}{w:World}{b s:Nat}:∀{es:Lc} {off:Nat},RVess M β w b s es off->∃V:Lc,V.length=es.length/\(es.all (·.all AV.one)=true->V.all (·.all AV.one)=true)/\(∀e∈V,e.length=s/\∀c∈e,∃y,c= .v y)/\(∀M' β',RVess M' β' w b s V off)/\
    ∀(M2 M3:Nat->Prop) (β2 β3:Bq) (w2:World) (b2 off2:Nat),(∀e∈es,∀c∈e,∀y,RV M β w c y->RV M2 β2 w2 c y)->RVess M3 β3 w2 b2 s V off2->RVess M2 β2 w2 b2 s es off2
 |[],off,h=>⟨[],rfl,λ_=>rfl,(λc hc=>by cases hc),λ_ _=>trivial,λ_ _ _ _ _ _ _ _ _=>trivial⟩
 |e::es,off,⟨q1,q2,q3⟩=>by
  obtain⟨V,v1,v0,v2,v3,v4⟩:=Au q3;obtain⟨U,u1,u0,u2,u3,u4⟩:=D0 q2;refine⟨U::V,by simp[v1],λh1=>?_,λc hc=>?_,λM' β'=>⟨u1.trans q1,u3 M' β',v3 M' β'⟩,λM2 M3 β2 β3 w2 b2 off2 ht h=>?_⟩;rw[List.all_cons,Bool.and_eq_true] at h1⊢;exact⟨u0 h1.1,v0 h1.2⟩;rcases List.mem_cons.1 hc with rfl|hc
  exact⟨u1.trans q1,u2⟩;exact v2 c hc;obtain⟨r1,r2,r3⟩:=h;exact⟨q1,u4 M2 M3 β2 β3 w2 b2 _ (ht e (List.mem_cons_self ..)) r2,v4 M2 M3 β2 β3 w2 b2 _ (λc hc=>ht c (List.mem_cons_of_mem _ hc)) r3⟩
theorem E9{e:La}(h:∀c∈e,∃y,c= .v y):∀c∈e,Closed c:=λc hc=>by
 obtain⟨y,rfl⟩:=h c hc;exact ag y
theorem AEval.callOL {P:Program} {id:Nat} {ev:Operand->Option AV} {hp:Hq} {c:Call} {callee x0:Operand} {f i n sz ty ty':Nat} {cap:Option Nat} {es:Lc} (h1:c.callee= .value callee) (h2:ev callee=some (.clos f [] [])) (h3:c.args.toList=[x0]) (h4:ev x0=some (.lsl i 0 n cap sz)) (h5:hp i=some ⟨ty',sz,es⟩) (hn:es.length=n) (hz:sz≠0) (hce:∀e∈es,∀c∈e,Closed c) (hon:es.all (·.all AV.one)=true)
    (h6:∀V:Lc,V.length=n->V.all (·.all AV.one)=true->(∀e∈V,e.length=sz/\∀c∈e,∃y,c= .v y)->OSpec P f [.arr V] ty sz V):AEval P id ev hp (.call c) ⟨.lsl id 0 n none sz,[(id,some ⟨ty,sz,es⟩)]⟩ [i]:=by
 refine .sem λM0 w0 β hp' w ρ o ho mem hev hcst hid0 hid hidh hrd=>?_
 have hopn:∀x,x∈(Op.call c).operands↔x=callee\/x∈c.args.toList:=by
  intro x;simp[Op.operands,Call.operands,h1,<-Array.mem_toList_iff]
 obtain⟨xs,ys,hx,hr1,hr2⟩:=hev callee ((hopn _).2 (.inl rfl)) _ h2;have hxs:xs= #[]:=Array.ext' hr1;have hys:ys= #[]:=Array.ext' hr2;subst hxs hys;have h5':hp' i=some ⟨ty',sz,es⟩:=by rw[hrd i (List.mem_singleton.2 rfl)];exact h5
 obtain⟨b,r1,r2⟩:=mem.blk i _ h5'
 obtain⟨_,cs,e1,e2,e3⟩:sz≠0/\∃cs,w.heap[b]?=some (.cells cs ty' (0,0))/\RVess (MM M0 β hp') β w b sz es 0/\es.length* sz<=cs.size:=by
  rcases r2 with h|⟨h,_⟩
  exact h;exact absurd h hz
 obtain⟨V,v1,v0,v2,v3,v4⟩:=Au e2;have hO:=h6 V (v1.trans hn) (v0 hon) v2;obtain⟨b',c',g1,g2,g3,g4,g5,N,g6,g7⟩:=hev x0 ((hopn _).2 (.inr (by rw[h3];exact List.mem_singleton.2 rfl))) _ h4;rw[r1] at g1;cases g1;have hnm:¬M0 b:=λhm=>(mem.rng i b sz r1).1 (mem.m0 b hm).1
 have harg:RVs M0 (λ_=>none) w [.arr V] (c.args.toList.map ρ):=by
  rw[h3];refine⟨ρ x0,[],rfl,⟨_,c',?_,by rw[v1,hn];exact g3,g4,.inr ⟨b,0,sz,rfl,⟨N,g6⟩,hnm,v3 _ _⟩⟩,rfl⟩;rw[g2,v1,hn,Nat.zero_mul]
 refine .inr ⟨f,(c.args.toList.map ρ).toArray,ii ho h1 hx (by rw[List.toList_toArray]) hO.enters,?_⟩;refine(hO.calls M0 w _ ⟨λb hb=>Nat.lt_of_lt_of_le (w0.lt b (mem.m0 b hb).1) mem.below.size,λhb=>(mem.m0 GT hb).2 rfl,mem.tab⟩ harg).mono ?_;rintro z w' ⟨b2,cc,rfl,hb1,hb2,hc1,hc2,⟨cs2,hh,hr,hl⟩,hbel⟩;rw[v1] at hc1;have hold:∀b N,aL w b=some N->w'.heap[b]?=w.heap[b]?:=λb N hs=>hbel.block b (ci hs)
 have hr':RVess (λx=>MM M0 β hp' x\/x=b2) (λ_=>none) w' b2 sz es 0:=by
  refine v4 _ _ _ _ w' b2 0 (λe he c hc y hy=>Bk (hce e he c hc) hy (λb N hs _=>hold b N hs) (λb N hs hb=>?_) λb N hs=>?_) hr;rcases hb with hb|rfl
  exact hb;have:=ci hs;omega;unfold aL at hs⊢;rw[hold b N hs];exact hs
 have hm:=mem.own hz hbel hid0 hid hidh hb1 hb2 hh hr' (Nat.le_trans (Nat.mul_le_mul_right _ hc1) hl);exact⟨_,rfl,_,hm.1,⟨b2,cc,bn _ _ _,by rw[v1,hn,Nat.zero_mul],by rw[<-hn];exact hc1,hc2,(λ_ h=>by cases h),cs2.size,by simp[aL,hh],by simpa using hl⟩,hm.2,λj hj=>br _ _ hj⟩
theorem tI{M0:Nat->Prop}{w0:Base}{β:Bq}{hp hp':Hq}{w:World}{i b e c:Nat}{B:ABlk}(mem:Mem M0 w0 β hp w)(hi:hp i=some B)(hz:B.sz≠0)(hb:β i=some (b,B.sz))(hs:∀j B',hp' j=some B'->hp j=some B'/\j≠i)(hc:B.es.length- e<=c)(hcm:c<=maxLen):
    RV (MM M0 β hp') β w (.arr (B.es.drop e)) (.slice (some ⟨b,e* B.sz,none⟩) (B.es.length- e) c):=by
 obtain⟨b',cs,q1,q2,q3,q4⟩:=mem.cells hi hz;rw[hb] at q1;cases q1;have st:=(mem.forget λj B' h=>(hs j B' h).1).2;refine⟨some ⟨b,e* B.sz,none⟩,c,by rw[List.length_drop],by rw[List.length_drop];exact hc,hcm,.inr ⟨b,e* B.sz,B.sz,rfl,⟨cs.size,by simp[aL,q2]⟩,?_,?_⟩⟩;rintro(h|⟨j,B',s,g1,g2⟩);exact(mem.rng i b _ hb).1 (mem.m0 b h).1;obtain⟨g3,g4⟩:=hs j B' g1;exact g4 (mem.inj j i B' B b s B.sz g3 hi g2 hb);have:=RVess.drop e (st.toStabC.ess rfl q3);rwa[Nat.zero_add] at this
theorem AEval.append_oS {P:Program} {id:Nat} {ev:Operand->Option AV} {hp:Hq} {c:Call} {x y:Operand} {T T' E sz i e n:Nat} {a:AV} {rd:Ln} {es:Lc} {zs:List Value} {bs:Nat} {cap:Option Nat} {B:ABlk} (h1:c.callee= .builtin .append) (h2:c.args= #[x,y]) (h3:c.argTypes= #[T,T']) (h4:eg P T=some (E,sz)) (h5:(eg P T').isSome=true) (h6:ev x=some (.lsl i e n cap sz)) (h7:dw hp i=some B) (h8:B.ty=E) (h9:B.sz=sz) (h10:e+n=B.es.length) (h12:es.all (·.all AV.one)=true) (h13:ev y=some a) (h14:SrcOf hp sz a es rd)
    (h15:fm P E=some zs) (h16:zs.length=sz) (h17:rv P E=some bs) (h18:(n+es.length) * bs<=140737488355328) (h19:n+es.length<=maxLen- 1):
    AEval P id ev hp (.call c) ⟨.arr (B.es.drop e++es),[(i,none)]⟩ (i::rd):=by
 subst h8 h9;refine .sem λM0 w0 β hp' w ρ o ho mem hev hcst hid0 hid hidh hrd=>?_
 have hopn:∀z,z∈(Op.call c).operands↔z∈[x,y]:=by
  intro z;simp[Op.operands,Call.operands,h1,h2]
 have hxv:=hev x ((hopn _).2 ψ) _ h6;have hyv:=hev y ((hopn _).2 ψ) _ h13;have h7s:=du h7;have hi:hp' i=some B:=(hrd i ψ).trans h7s.1;have h14':SrcOf hp' B.sz a es rd:=h14.congr λj hj=>hrd j (List.mem_cons_of_mem _ hj);have hdl:(B.es.drop e).length=n:=by rw[List.length_drop];omega
 have hsrcx:SrcOf hp' B.sz (.lsl i e n cap B.sz) (B.es.drop e) [i]:=by
  have:=SrcOf.lsl (s:=B.sz) (hp:=hp') (i:=i) (e:=e) (n:=n) (cap:=cap) (B:=B) (dY hi h7s.2) ω;rwa[List.take_of_length_le ω] at this
 obtain⟨xs0,cc,hflat0,⟨a0,hx⟩,_,hrun0⟩:=hsrcx.run (P:=P) mem hxv;obtain⟨b,c2,hb,hx2,hnc,hcm,hcap,N,hN,hcN⟩:=hxv;rw[hx,hdl] at hx2;simp only[Value.slice.injEq,true_and] at hx2;obtain⟨rfl,rfl⟩:=hx2;rw[hdl] at hx;obtain⟨xs,c',hflat,⟨a',hy⟩,_,hrun⟩:=h14'.run (P:=P) mem hyv;obtain⟨⟨E',sz'⟩,h5⟩:=Option.isSome_iff_exists.1 h5;have hn:=hrun es.length (Nat.le_refl _);rw[hy,<-hflat.1,List.take_length] at hn;have hne:i≠id:=λe=>by subst e;rw[hidh] at hi;cases hi
 have happ:B.es.drop e++es=(B.es++es).drop e:=by rw[List.drop_append_of_le_length ω]
 by_cases hroom:n+es.length<=cc;have hle:(B.es.length+es.length) * B.sz<=N:=Nat.le_trans (Nat.mul_le_mul_right _ ω) hcN
 obtain⟨w',r1,r2,r3,r4⟩:=mem.storeEls (P:=P) (e:=B.es.length) (es':=B.es++es) h7s.2 hi hb hflat (hflat.one h12) hN hle (λq el hq=>by
  by_cases hql:q< B.es.length;rw[List.getElem?_append_left hql] at hq;exact .inr ⟨.inl hql,hq⟩;rw[List.getElem?_append_right ω] at hq;have:=(List.getElem?_eq_some_iff.1 hq).1;exact .inl ⟨ω,ω,hq⟩) (by simpa using hle)
 have hsub:∀j B',upd hp' i none j=some B'->upd hp' i (some ⟨B.ty,B.sz,B.es++es⟩) j=some B'/\j≠i:=λj B' hj=>by
  by_cases hji:j=i;subst hji;rw[bn] at hj;cases hj;rw[br _ _ hji] at hj;exact⟨by rw[br _ _ hji];exact hj,hji⟩
 have hfg:=r2.forget (hp':=upd hp' i none) λj B' hj=>(hsub j B' hj).1;have hrv:=tI (e:=e) (c:=cc) (B:=⟨B.ty,B.sz,B.es++es⟩) r2 (bn _ _ _) h7s.2 hb hsub χ hcm;have hr:=lU (P:=P) (w:=w) (w':=w') (b:=b) (off:=e* B.sz) (n:=n) (m:=es.length) (c:=cc) (c':=c') (a':=a') (new:=xs.toArray) h4 h5 hroom o.type (hn w rfl) (by rw[<-Nat.add_mul,h10];simpa using r1);refine .inl ⟨.slice (some ⟨b,e* B.sz,none⟩) (n+es.length) cc,w',β,.inl ?_,hfg.1,?_,r3.trans hfg.2 ω,λj hj=>rfl⟩;simp only[execOp,ho,resolve,h1,h2,Sem.run_bind,Sem.run_pure,Result.andThen_ok,invoke,builtin,List.map_toArray,List.map_cons,List.map_nil,hx,hy,h3,hr];rw[happ];have el:(B.es++es).length- e=n+es.length:=χ
 rw[<-el];exact hrv;have hold:=hrun0 n ω;rw[hx,show n* B.sz=xs0.length by rw[hflat0.1,hdl],List.take_length] at hold;obtain⟨nc,z,g1,g2,g3,hr⟩:=iR (w:=w) (n:=n) (m:=es.length) (c:=cc) (c':=c') (a':=a') (base:=some ⟨b,e* B.sz,none⟩) h4 h5 h15 h17 ω h18 h19 o.type hold hn;have hzs:z.size=B.sz:=by rw[<-Array.length_toList,g3];exact h16
 have hdr:=mem.ext ((Below.refl w.heap.size w).drew);have hboth:=(hflat.append hflat0).stab hdr.2.toStabC
 have hal:=hdr.1.alloc (i:=id) (ty:=B.ty) (s:=B.sz) (es:=B.es.drop e++es) (cs:=xs0.toArray++xs.toArray++Builtin.zeroCells z (nc- (n+es.length))) h7s.2 hid0 hid hidh (λk e he=>by
  obtain⟨ys,q1,q2,q3⟩:=hboth.2 k e he;refine⟨ys,q1,q2,λj v hj=>?_⟩;have h4:=q3 j v hj;have hlt:=(List.getElem?_eq_some_iff.1 h4).1;rw[Array.getElem?_append_left (by simpa using hlt)];simpa using h4) (by have:=hboth.1;simp at this⊢;omega)
 have hsub:∀j B',upd hp' i none j=some B'->upd hp' id (some ⟨B.ty,B.sz,B.es.drop e++es⟩) j=some B'/\j≠id:=λj B' hj=>by
  by_cases hji:j=i;subst hji;rw[bn] at hj;cases hj;rw[br _ _ hji] at hj;have hjd:j≠id:=λe=>by subst e;rw[hidh] at hj;cases hj
  exact⟨by rw[br _ _ hjd];exact hj,hjd⟩
 have hfg:=hal.1.forget (hp':=upd hp' i none) λj B' hj=>(hsub j B' hj).1;have hrv:=tI (e:=0) (c:=nc) (B:=⟨B.ty,B.sz,B.es.drop e++es⟩) hal.1 (bn _ _ _) h7s.2 (bn _ _ _) hsub χ (by unfold maxLen;omega);refine .inl ⟨.slice (some ⟨w.heap.size,0,none⟩) (n+es.length) nc,_,_,.inl ?_,hfg.1,?_,(hdr.2.trans hal.2 (Nat.le_refl _)).trans hfg.2 ψ,λj hj=>br _ _ hj⟩;simp only[execOp,ho,resolve,h1,h2,Sem.run_bind,Sem.run_pure,Result.andThen_ok,invoke,builtin,List.map_toArray,List.map_cons,List.map_nil,hx,hy,h3,hr];have el:(B.es.drop e++es).length- 0=n+es.length:=χ
 rw[el,List.drop_zero,Nat.zero_mul] at hrv;exact hrv
theorem FSpec.xs{P:Program}{f:Nat}{args:La}{r:AV}(h:FSpec P f args r)(hr:Closed r):XSpec P f args [] 1 r [] 1:=by
 have e0:∀(M:Nat->Prop) (b:Bq),MM M b (au [])=M:=λM b=>by funext c;simp[MM,au,look]
 refine⟨h.enters,λM w0 β vals hgh mem hfree hargs=>?_⟩;rw[e0] at hargs;refine(h.calls M w0.w vals ⟨λb hb=>w0.lt b (mem.m0 b hb).1,λhb=>(mem.m0 GT hb).2 rfl,mem.tab⟩ (dW h.cl hargs)).mono ?_;rintro e w' ⟨y,rfl,hy,hb⟩;have hmx:=mem.ext hb;refine⟨y,β,rfl,hmx.1,?_,hfree⟩;rw[e0];exact Bk hr hy (λ_ _ _ _=>rfl) (λb _ _ hm=>hm) λ_ _ h=>h
theorem look_mem':∀{fr:Fr} {t:Nat} {x:AV},look fr t=some x->(t,x)∈fr
 |[],_,_,h=>by cases h
 |(s,y)::fr,t,x,h=>by
  rw[cJ] at h;unfold upd at h;split at h
  ·rename_i e;cases h;subst e;exact List.mem_cons_self ..
  exact List.mem_cons_of_mem _ (look_mem' h)
theorem SEnt.keep{fr fr':Fr}{hp:Hp}{nx nx' n:Nat}(hk:∀p∈fr',look fr p.1=some p.2)(hn:nx<=nx'):SEnt ⟨fr,hp,nx,n⟩ ⟨fr',hp,nx',n⟩:=λM w0 a w ⟨β,mem,h1,hfr,hfree,hd⟩=>
 ⟨β,mem,h1,λt x h=>hfr t x (hk (t,x) (look_mem' h)),λi hi=>hfree i (Nat.le_trans hn hi),hd⟩
end Go.Abs
namespace Go.Abs

theorem SEnt.cut{fr:Fr}{hp hp':Hp}{nx n:Nat}(i m:Nat){B:ABlk}(h1:au hp i=some B)(hz:B.sz≠0)(h2:∀j,au hp' j=if j=i then some ⟨B.ty,B.sz,B.es.take m⟩ else au hp j):SEnt ⟨fr,hp,nx,n⟩ ⟨fr,hp',nx,n⟩:=by
 rintro M0 w0 a w ⟨β,hm,hn,hf,hb,hd⟩
 have back:∀j B',au hp' j=some B'->∃B0,au hp j=some B0/\B0.sz=B'.sz/\B0.ty=B'.ty/\(B'=B0\/j=i/\B'=⟨B.ty,B.sz,B.es.take m⟩):=λj B' h=>by
  rw[h2] at h;by_cases e:j=i;rw[if_pos e] at h;cases h;exact⟨B,by rw[e];exact h1,rfl,rfl,.inr ⟨e,rfl⟩⟩;rw[if_neg e] at h;exact⟨B',h,rfl,rfl,.inl rfl⟩
 have st:Stab (MM M0 β (au hp)) (MM M0 β (au hp')) β β w w:=⟨⟨λ_ _ _ _=>rfl,λb _ _ hb=>hb.imp id fun⟨j,B',s,g1,g2⟩=>by
  obtain⟨B0,g3,g4,_⟩:=back j B' g1;exact⟨j,B0,s,g3,g2⟩,λ_ _ h=>h,λ_ _ h=>h⟩,λ_ _ _=>rfl⟩
 refine⟨β,⟨hm.below,hm.m0,hm.rng,λh0=>hm.pin ?_,λj B' hj=>?_,λj k B' B'' b s s' g1 g2=>?_⟩,hn,λt x ht=>st.toStabC.all (hf t x ht),hb,hd⟩;obtain⟨B',hB'⟩:=Option.isSome_iff_exists.1 h0;obtain⟨B0,g3,_⟩:=back 0 B' hB';show(au hp 0).isSome=true;rw[g3];rfl;obtain⟨B0,g3,g4,g5,g6⟩:=back j B' hj;obtain⟨b,k1,k2⟩:=hm.blk j B0 g3;refine⟨b,by rw[<-g4];exact k1,?_⟩;have k3:=k2.stab st.toStabC rfl;rcases g6 with e|⟨e,e2⟩
 rw[e];exact k3;subst e;rw[h1] at g3;cases g3;rw[e2];rcases k3 with⟨q1,cs,q2,q3,q4⟩|⟨q1,_⟩
 exact .inl ⟨hz,cs,q2,RVess.take m q3,Nat.le_trans (Nat.mul_le_mul_right _ (by rw[List.length_take];exact Nat.min_le_right _ _)) q4⟩;exact absurd q1 hz;obtain⟨B0,g3,_⟩:=back j B' g1;obtain⟨B1,g4,_⟩:=back k B'' g2;exact hm.inj j k B0 B1 b s s' g3 g4
end Go.Abs
namespace Go.Abs
open Go.RowKit
theorem FinE.none{P:Program}{fr:Fr}{hp:Hp}{nx n ty sz:Nat}{E' es:Lc}{x:Exit}(hx:x= .normal\/x= .ret)(hb:au hp 0=some ⟨ty,sz,es⟩)(he:es=E'):FinE P [] ty sz E' (.tuple #[]) x ⟨fr,hp,nx,n⟩:=by
 refine⟨hx,⟨[],rfl,λM0 w0 β w y _ h=>?_⟩,by rw[<-he];exact hb⟩;obtain⟨ys,e,h2⟩:=h;subst e;have:ys= #[]:=Array.ext' h2;subst this;rfl
end Go.Abs
namespace Go.Abs
section
variable {b n k:Nat}{l:Ln}
def az(b n:Nat):Ln:=
 if _h:b<=1\/n=0 then [] else n % b::az b (n/ b)
termination_by n
decreasing_by exact Nat.div_lt_self ω ω
def ofD(b:Nat):Ln->Nat
 |[]=>0
 |d::l=>d+b* ofD b l
theorem cz(b:Nat):az b 0=[]:=by rw[az];simp
theorem ez(hb:1< b)(hn:0< n):az b n=n % b::az b (n/ b):=by rw[az,dif_neg ω]
theorem bC(hb:1< b)(n:Nat):ofD b (az b n)=n:=by
 induction n using Nat.strongRecOn with
 |_ n ih=>
  rcases Nat.eq_zero_or_pos n with rfl|hn
  rw[cz];rfl;rw[ez hb hn,ofD,ih _ (Nat.div_lt_self hn hb)];exact Nat.mod_add_div n b
theorem dD(hb:1< b)(n:Nat):∀d∈az b n,d< b:=by
 induction n using Nat.strongRecOn with
 |_ n ih=>
  rcases Nat.eq_zero_or_pos n with rfl|hn
  rw[cz];simp;rw[ez hb hn];intro d hd;rcases List.mem_cons.1 hd with rfl|hd
  exact Nat.mod_lt _ ω;exact ih _ (Nat.div_lt_self hn hb) d hd
def IsD(b:Nat)(l:Ln):Prop:=(∀d∈l,d< b)/\l.getLast?≠some 0
theorem rl(hb:1< b)(n:Nat):(az b n).getLast?≠some 0:=by
 induction n using Nat.strongRecOn with
 |_ n ih=>
  rcases Nat.eq_zero_or_pos n with rfl|hn
  rw[cz];simp;rw[ez hb hn];have h1:=ih _ (Nat.div_lt_self hn hb);rw[List.getLast?_cons];intro h;by_cases h0:az b (n/ b)=[];rw[h0] at h;simp only[List.getLast?_nil,Option.getD_none,Option.some.injEq] at h
  have hz:n/ b=0:=by
   have:=bC hb (n/ b);rw[h0] at this;exact this.symm
  have:=Nat.mod_add_div n b;rw[hz] at this;omega;cases hl:(az b (n/ b)).getLast? with
  |none=>simp_all
  |some x=>
   grind
theorem ofD_pos(h:IsD b l)(hl:l≠[]):0< ofD b l:=by
 induction l with
 |nil=>grind
 |cons d l ih=>
  rw[ofD];by_cases h0:l=[];subst h0;have h2:=h.2;simp at h2;omega;have hb:0< b:=by have:=h.1 d (List.mem_cons_self ..);omega
  have:0< ofD b l:=ih ⟨λx hx=>h.1 x (List.mem_cons_of_mem _ hx),by
   have h2:=h.2;grind⟩ h0
  have:=Nat.mul_pos hb this;omega
theorem uK{b:Nat}(hb:1< b):∀{l:Ln},IsD b l->az b (ofD b l)=l
 |[],_=>cz b
 |d::l,h=>by
  have hp:=ofD_pos h ψ;have hd:=h.1 d (List.mem_cons_self ..)
  have hl:IsD b l:=⟨λx hx=>h.1 x (List.mem_cons_of_mem _ hx),by
   have h2:=h.2;grind⟩
  rw[ez hb hp];have e1:ofD b (d::l) % b=d:=by rw[ofD,Nat.add_mul_mod_self_left];exact Nat.mod_eq_of_lt hd
  have e2:ofD b (d::l) / b=ofD b l:=by rw[ofD,Nat.add_mul_div_left _ _ ω,Nat.div_eq_of_lt hd];omega
  rw[e1,e2,uK hb hl]
theorem fV(b:Nat)(l m:Ln):ofD b (l++m)=ofD b l+b^ l.length* ofD b m:=by
 induction l with
 |nil=>simp[ofD]
 |cons d l ih=>simp only[List.cons_append,ofD];grind
theorem fw(h:∀d∈l,d< b):ofD b l< b^ l.length:=by
 induction l with
 |nil=>simp[ofD]
 |cons d l ih=>
  have h1:=ih λx hx=>h x (List.mem_cons_of_mem _ hx);have h2:=h d (List.mem_cons_self ..);rw[ofD,List.length_cons,Nat.pow_succ];have:b* (ofD b l+1)<=b* b^ l.length:=Nat.mul_le_mul_left _ h1;grind
theorem qI(b k:Nat):ofD b (List.replicate k 0)=0:=by
 induction k with
 |zero=>rfl
 |succ k ih=>rw[List.replicate_succ,ofD,ih];simp
theorem ed(b k:Nat)(l:Ln)(h:k<=l.length):ofD b l=ofD b (l.take k)+b^ k* ofD b (l.drop k):=by
 conv=>lhs;rw[<-List.take_append_drop k l]
 rw[fV,List.length_take,Nat.min_eq_left h]
def ff:Ln->Ln
 |[]=>[]
 |d::l=>match ff l with
  |[]=>if d=0 then [] else [d]
  |e::m=>d::e::m
theorem vL(b:Nat):∀l,ofD b (ff l)=ofD b l
 |[]=>rfl
 |d::l=>by
  have ih:=vL b l;unfold ff;split
  ·rename_i h
   rw[h] at ih;split
   ·rename_i h0;subst h0;show 0=0+b* ofD b l;rw[<-ih];simp[ofD]
   show d+b* ofD b []=d+b* ofD b l;grind
  ·rename_i e m h
   rw[h] at ih;show d+b* ofD b (e::m)=d+b* ofD b l;rw[ih]
theorem th:∀l,(ff l).getLast?≠some 0
 |[]=>by simp[ff]
 |d::l=>by
  have ih:=th l;unfold ff;grind
theorem vK:∀l,∀d∈ff l,d∈l
 |[],d,h=>by simp[ff] at h
 |a::l,d,h=>by
  have ih:=vK l;unfold ff at h;grind
theorem jv(hb:1< b)(h:∀d∈l,d< b):ff l=az b (ofD b l):=by
 rw[<-vL b l];exact(uK hb ⟨λd hd=>h d (vK l d hd),th l⟩).symm
theorem kZ:∀(l:Ln) (k:Nat),k<=l.length->(∀i,k<=i->i< l.length->l[i]?=some 0)->(k=0\/l[k- 1]?≠some 0)->ff l=l.take k
 |[],k,hk,_,_=>by simp[ff]
 |d::l,k,hk,hz,hl=>by
  cases k with
  |zero=>
   have h1:=kZ l 0 (Nat.zero_le _) (λi _ hi=>by have:=hz (i+1) ω φ;grind) (.inl rfl);have h2:=hz 0 (Nat.le_refl _) ψ;simp only[List.getElem?_cons_zero,Option.some.injEq] at h2;simp[ff,h1,h2]
  |succ k=>
   have hz':∀i,k<=i->i< l.length->l[i]?=some 0:=λi h1 hi=>by have:=hz (i+1) ω φ;grind
   simp only[Nat.add_sub_cancel] at hl;cases k with
   |zero=>
    have h1:=kZ l 0 (Nat.zero_le _) hz' (.inl rfl);simp at hl;simp[ff,h1,hl]
   |succ k=>
    have hlen:k+1<=l.length:=φ
    have h1:=kZ l (k+1) hlen hz' (.inr (hl.elim (λh=>absurd h ω) λh=>φ));cases l with
    |nil=>grind
    |cons e m=>
     simp only[List.take_succ_cons] at h1⊢;rw[ff,h1]
def bl(n:Nat):Nat:=if n=0 then 0 else n.log2+1
theorem ud(n:Nat):n< 2^ bl n:=by
 unfold bl;split
 ·grind
 exact Nat.lt_log2_self
theorem jc(h:n< 2^ k):bl n<=k:=by
 unfold bl;split;omega
 ·rename_i hn;exact(Nat.log2_lt hn).2 h
theorem bl_lt(h:bl n<=k):n< 2^ k:=Nat.lt_of_lt_of_le (ud n) (Nat.pow_le_pow_right ω h)
theorem dL{m:Nat}(h:m<=n):bl m<=bl n:=jc (Nat.lt_of_le_of_lt h (ud n))
theorem gV(m n:Nat):bl (m* n)<=bl m+bl n:=by
 refine jc ?_;rw[Nat.pow_add];exact Nat.mul_lt_mul'' (ud m) (ud n)
theorem yy(m n:Nat):bl (m+n)<=max (bl m) (bl n)+1:=by
 refine jc ?_;have h1:m< 2^ max (bl m) (bl n):=bl_lt (Nat.le_max_left _ _);have h2:n< 2^ max (bl m) (bl n):=bl_lt (Nat.le_max_right _ _);grind
theorem bl_zero:bl 0=0:=rfl
theorem ko:bl 1=1:=δ
theorem H1(h:0< n):0< bl n:=by unfold bl;grind
theorem bR(hb:1< b)(n:Nat):(az b n).length<=bl n:=by
 induction n using Nat.strongRecOn with
 |_ n ih=>
  rcases Nat.eq_zero_or_pos n with rfl|hn
  rw[cz];simp;rw[ez hb hn,List.length_cons];have h1:=ih _ (Nat.div_lt_self hn hb)
  have h2:bl (n/ b)+1<=bl n:=by
   have hle:n/ b<=n/ 2:=Nat.div_le_div_left hb ω
   have h3:bl (n/ 2)+1<=bl n:=by
    have hlt:=ud n;have hp:=H1 hn
    have:n/ 2< 2^ (bl n- 1):=by
     rw[Nat.div_lt_iff_lt_mul ω];simp_all
    have:=jc this;omega
   have:=dL hle;omega
  omega
theorem eJ(hb:1< b)(h:n< b^ k):(az b n).length<=k:=by
 induction k generalizing n with
 |zero=>have:n=0:=φ
        subst this;rw[cz];simp
 |succ k ih=>
  rcases Nat.eq_zero_or_pos n with rfl|hn
  rw[cz];simp;rw[ez hb hn];have:n/ b< b^ k:=by rw[Nat.div_lt_iff_lt_mul ω];exact h
  grind
theorem fC(hb:1< b):az b n=[]↔n=0:=by
 constructor;intro h;have:=bC hb n;rw[h] at this;exact this.symm;rintro rfl;exact cz b
end
abbrev MB:Nat:=1000000000
def u32(d:Nat):AV:= .v (.int .u32 d)
def i64(z:Int):AV:= .v (.int .i64 z)
def u64(z:Int):AV:= .v (.int .u64 z)
def bln(b:Bool):AV:= .v (.bool b)
def dE(l:Ln):Lc:=l.map λd=>[u32 d]
def mag(n:Nat):AV:= .arr (dE (az MB n))
@[simp] theorem nC (l:Ln):(dE l).length=l.length:=by simp[dE]
theorem dN{l:Ln}{i d:Nat}(h:l[i]?=some d):(dE l)[i]?=some [u32 d]:=by simp[dE,h]
theorem DY(l:Ln)(k:Nat):(dE l).take k=dE (l.take k):=by simp[dE]
theorem kP(l m:Ln):dE (l++m)=dE l++dE m:=by simp[dE]
theorem gR(l:Ln)(i d:Nat):(dE l).set i [u32 d]=dE (l.set i d):=by simp[dE,List.map_set]
theorem gS(k:Nat):List.replicate k [u32 0]=dE (List.replicate k 0):=by simp[dE]
theorem cV(l:Ln):(dE l).all (·.all AV.one)=true:=by simp[dE,u32,AV.one];intros;rfl
theorem yg(l:Ln):∀e∈dE l,e.length=1:=by intro e he;simp[dE] at he;obtain⟨d,_,rfl⟩:=he;rfl
theorem bY(l:Ln):∀e∈dE l,∀c∈e,Closed c:=by
 intro e he c hc;simp[dE] at he;obtain⟨d,_,rfl⟩:=he;simp at hc;subst hc;exact ag _
theorem c6(l:Ln):Closed (.arr (dE l)):=aU (bY l)
theorem cg(n:Nat):Closed (mag n):=c6 _
theorem ai:∀a∈([]:La),Closed a:=λ_ h=>by cases h
theorem ae{a:AV}{l:La}(h:Closed a)(h':∀a∈l,Closed a):∀b∈a::l,Closed b:=by
 intro b hb;rcases List.mem_cons.1 hb with rfl|hb
 exact h;exact h' b hb
theorem AEval.lenD{P:Program}{id:Nat}{ev:Operand->Option AV}{hp:Hq}{c:Call}{x:Operand}{T:Nat}{d:Nat×Nat}{l:Ln}(hc:c.callee= .builtin .len)(ha:c.args= #[x])(ht:c.argTypes= #[T])(hx:ev x=some (.arr (dE l)))(he:eg P T=some d):
    AEval P id ev hp (.call c) ⟨.v (.int .i64 (l.length:Nat)),[]⟩ []:= .len hc ha ht hx (by simp[qN]) he
end Go.Abs
