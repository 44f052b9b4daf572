/- Part W10 of the proof. -/
import Derived.Test.YtjkddcfoolilbaaGreatDoorW09
set_option linter.all false
namespace Go.Abs
open Go.RowKit
structure XSpec (P:Program)(f:Nat)(args:List AV)(hp:Hp)(nx:Nat)(v:AV)(hp':Hp)(nx':Nat):Prop where
 enters:∀(xs:Array Value) (w:World),(callFunc f xs).run P w= .ok (.enter f xs) w
 calls:∀(M:Nat→Prop) (w0:Base) (β:Nat→Option (Nat×Nat)) (vals:List Value),w0.gh=(fun _=>undef)→Mem M w0 β (lookB hp) w0.w→(∀i,nx≤i→β i=none∧i≠0)→RVs (MM M β (lookB hp)) β w0.w args vals→
  Calls P f vals.toArray w0.w fun x w'=> ∃y β',x= .returned y∧Mem M w0 β' (lookB hp') w'∧RV (MM M β' (lookB hp')) β' w' v y∧∀i,nx'≤i→β' i=none∧i≠0
def FinX(t:Nat)(v:AV)(hp':Hp)(nx' n:Nat)(x:Exit)(st:AState):Prop:=(x= .normal∨x= .ret)∧SEnt st ⟨[(t,v)],hp',nx',n⟩
theorem FinX.of{fr:Fr}{hp hp':Hp}{nx nx' n t:Nat}{v:AV}(h:SEnt ⟨fr,hp,nx,n⟩ ⟨[(t,v)],hp',nx',n⟩):FinX t v hp' nx' n .ret ⟨fr,hp,nx,n⟩:=⟨.inr rfl,h⟩
theorem XSpec.enter {P:Program} {f:Nat} {fn:Func} {c:Code} {t nx nx':Nat} {v:AV} {hp hp':Hp} {args:List AV} (hf:P.funcs[f]?=some fn) (hb:fn.body=some c) (hname:(fn.name== "runtime.NumGoroutine")=false) (hrs:fn.results.toList=[.tmp t]) {m:Nat} (hm:fn.ntmps=m) (hn:Nat.ble args.length m=true)
    (ht:Nat.ble t 999=true) {fr:Fr} (hfr:argFr 0 args=fr) (h:AWp none P c (FinX t v hp' nx' m) ⟨fr,hp,nx,m⟩):XSpec P f args hp nx v hp' nx':=by
 subst hm hfr;have hn:=Nat.le_of_ble_eq_true hn;refine⟨fun xs w=>?_,fun M w0 β vals hgh mem hfree hargs=>?_⟩;have hname':¬fn.name= "runtime.NumGoroutine" :=by simpa using hname
 simp[callFunc,hf,hname',hb];refine(callsIn_wide (n:=0)).1 ?_;refine callsIn_of_wp_marks (F:=Fence.wide) hf hb trivial ?_;have hlen:=hargs.length
 have hrel:ARel M w0 ⟨argFr 0 args,hp,nx,fn.ntmps⟩ {tmps:=vals.toArray++Array.replicate (fn.ntmps- vals.toArray.size) undef,defers:=[]} w0.w:=by
  refine⟨β,mem,by simp;omega,fun t x hx=>?_,hfree,⟨[],rfl,List.nodup_nil,by simp⟩⟩;rw[bj_ hgh]
  have key:∀{as:List AV} {vs:List Value} {i t:Nat} {x:AV},RVs (MM M β (lookB hp)) β w0.w as vs→look (argFr i as) t=some x→i≤t∧∃y,vs[t- i]?=some y∧RV (MM M β (lookB hp)) β w0.w x y:=by
   intro as
   induction as with
   |nil=>intro vs i t x _ h;cases h
   |cons a as ih=>
    rintro vs i t x ⟨y,ys,e,h1,h2⟩ h;subst e;simp only[argFr] at h;rw[aZ_] at h;unfold upd at h;split at h
    ·rename_i e;subst e;cases h;exact⟨Nat.le_refl _,y,by simp,h1⟩
    obtain⟨h3,z,h4,h5⟩:=ih h2 h;exact⟨by omega,z,by rw[show t- i=(t- (i+1))+1 by omega,List.getElem?_cons_succ];exact h4,h5⟩
  obtain⟨_,y,h1,h2⟩:=key hargs hx
  have hy:(vals.toArray++Array.replicate (fn.ntmps- vals.toArray.size) undef).getD t undef=y:=by
   have hlt:t< vals.length:=by simpa using(List.getElem?_eq_some_iff.1 h1).1
   rw[Array.getD_eq_getD_getElem?,Array.getElem?_append_left (by simpa using hlt)];simp at h1⊢;rw[h1];rfl
  rw[hy];exact h2
 refine wpIn_mono (h M w0 _ w0.w hrel) fun x a' w' ⟨st',hst,he,hent⟩=>?_;obtain⟨β',mem',hsz,hfr,hfree',Ds,hds,hnd,hD⟩:=hent M w0 a' w' hst;have hv:look ([(t,v)]:Fr) t=some v:=by rw[aZ_];exact aL_ _ _ _
 have hres:ResOK P fn.results.toList ⟨[(t,v)],hp',nx',fn.ntmps⟩ .any:=by
  rw[hrs];exact⟨[_],⟨_,[],rfl,hv,rfl⟩,fun _ _ _ _ _ _ _=>trivial⟩
 have hL:LeavesInM (FR none) 0 P fn a'.tmps (fun x w'=> ∃y β',x= .returned y∧Mem M w0 β' (lookB hp') w'∧RV (MM M β' (lookB hp')) β' w' v y∧∀i,nx'≤i→β' i=none∧i≠0) a'.defers .returning w':=by
  rw[hds];refine ea_ (st:=⟨[(t,v)],hp',nx',fn.ntmps⟩) hres (fun y w'' _ h2 h3 h4=>?_) Ds w' hnd hD mem' (fun t x hx=>by have:=hfr t x hx;rwa[bj_ hgh] at this)
  have hy:y=a'.tmps.getD t undef:=by
   have hm:(fn.results.mapM (d3_ a'.tmps)).run P w''= .ok #[a'.tmps.getD t undef] w'':=by
    rw[Array.mapM_eq_mapM_toList,hrs];rfl
   have he:results fn a'.tmps=(do let vs←fn.results.mapM (d3_ a'.tmps);pure (if h:vs.size=1 then vs[0] else .tuple vs)):=rfl;rw[he,Sem.run_bind,hm] at h4;have h5:(Result.ok (a'.tmps.getD t undef) w'':Result Value)= .ok y w'':=h4;cases h5;rfl
  exact⟨y,β',rfl,h2,by rw[hy];exact h3 t v hv,hfree'⟩
 rcases he with rfl|rfl
 exact hL;exact hL
theorem il_{M M':Nat→Prop}{β β':Nat→Option (Nat×Nat)}{w w':World}{x:AV}{y:Value}(hc:Closed x)(h:RV M β w x y)(h1:∀b N,aI_ w b=some N→¬M b→w'.heap[b]?=w.heap[b]?)(h2:∀b N,aI_ w b=some N→M' b→M b)(h3:∀b n,aI_ w b=some n→aI_ w' b=some n):RV M' β' w' x y:=by
 have g1:RVs M (fun _=>none) w [x] [y]:=bS_ (fun a ha=>by rw[List.mem_singleton.1 ha];exact hc) ⟨_,_,rfl,h,rfl⟩;have g2:RVs M' β' w' [x] [y]:=StabC.vs ⟨h1,h2,(fun _ _ h=>by cases h),h3⟩ g1;obtain⟨z,zs,e,r,_⟩:=g2;cases e;exact r
theorem AWp.regX {P:Program} {ρ:Option Nat} {Q:Exit→AState→Prop} {ops:Array Oper} {id n nx n1 nx2 nx3 d g:Nat} {fr fr2 fr3:Fr} {hp hp2 hp3:Hp} {v:AV} (jj:Nat) {o:Oper} (ho:ops.toList[jj]?=some o) {cc:Call} {f:Operand} {as:List AV} (hop:o.op= .call cc) (hg:o.guard=none) (hd:o.dst=some d) (hf:cc.callee= .value f) (hsz:ops.size=n1)
    (h:AR P ops nx n 0 (ops.toList.take jj) fr hp fun _ f1 h1=>SEntT ⟨f1,h1,nx+jj,n⟩ ⟨fr2,hp2,nx2,n⟩) (hdn:Nat.blt d n=true)
    (hev:evF (look fr2) f=some (.clos g [] [])) (has:evs (evF (look fr2)) cc.args.toList=some as) (hX:XSpec P g (as.map coe) hp2 nx2 v hp3 nx3) (h30:∀t x,look fr3 t=some x→look fr2 t=some x∧Closed x) (hlo:∀t x,look fr3 t=some x→t< 1000)
    (h3:AR P ops nx3 n (jj+1) (ops.toList.drop (jj+1)) ((d,v)::fr3) hp3 fun _ f' h'=>Q .normal ⟨f',h',nx3+n1,n⟩):AWp ρ P (.region id ops false) Q ⟨fr,hp,nx,n⟩:=by
 have hjl:jj< ops.toList.length:=(List.getElem?_eq_some_iff.1 ho).1
 have hops:ops.toList=ops.toList.take jj++o::ops.toList.drop (jj+1):=by
  rw[←(List.getElem?_eq_some_iff.1 ho).2,←List.drop_eq_getElem_cons hjl,List.take_append_drop]
 rintro M w0 a w hr;refine wpIn_region_list ?_;rw[hops];obtain⟨us,st1,hrun,hent⟩:=h
 have hn1:=(ck_ (ops.toList.take jj) 0 _ st1 us [] (look fr) (lookB hp) hrun rfl (fun i o h=>by
  rw[List.getElem?_take] at h;split at h;simpa using h;cases h) rfl rfl).2.2.2
 simp only at hn1;refine ez_ (M0:=M) (w0:=w0) (ρ:=ρ) _ _ 0 ⟨fr,hp,nx,n⟩ st1 us a w hrun (FRel.free hr fun i hi=>by show nx≤i;simpa using hi) fun a1 w1 hr1=>?_;have hl:(ops.toList.take jj).length=jj:=by rw[List.length_take];omega
 rw[hl,Nat.zero_add,hn1] at hr1;obtain⟨β,mem,s1,s2,s3,⟨Ds,s4,s5,s6⟩,s7⟩:=hent M w0 a1 w1 hr1;refine wpListIn_step fun K hK=>?_;rw[if_pos (by simp[Region.wanted,hg])]
 -- the call,seen from here
 have hjn:∀b,(∃i s,β i=some (b,s))→¬w0.K b:=fun b ⟨i,s,hi⟩=>(mem.rng i b s hi).1;have hgt:¬(∃i s,β i=some (GT,s)):=fun⟨i,s,hi⟩=>mem.gtn i s hi
 let wc:Base:=⟨w1,fun b=>b< w1.heap.size∧¬ ∃i s,β i=some (b,s),fun _ h=>h.1,w0.pin,fun _=>undef,⟨mem.tab.lt,hgt⟩,mem.tab⟩
 have memc:Mem M wc β (lookB hp2) wc.w:=⟨⟨rfl,rfl,rfl,Nat.le_refl _,fun _ _=>rfl,fun _ _ h=>h⟩,fun b hb=>⟨⟨mem.lt (.inl hb),fun he=>hjn b he (mem.m0 b hb).1⟩,(mem.m0 b hb).2⟩,fun i b s hi=>⟨fun hk=>hk.2 ⟨i,s,hi⟩,(mem.rng i b s hi).2⟩,mem.pin,mem.blk,mem.inj⟩;have hv:RVs (MM M β (lookB hp2)) β w1 as (cc.args.toList.map a1.eval):=ek_ (c7_ s2) has;have hv2:=dw_ hv;obtain⟨xs,ys,hx,hx1,hx2⟩:=c7_ s2 f _ hev;have hxs:xs= #[]:=Array.ext' hx1;have hys:ys= #[]:=Array.ext' hx2;subst hxs hys;refine⟨fun _ _=>trivial,?_⟩;rw[Oper.semAt_eq _ _ _ (by rw[hop];intro c e;cases e)];have hrunc:(execOp a1.eval o).run P w1= .ok (.enter g (cc.args.toList.map a1.eval).toArray) w1:=cN_ hop hf hx rfl hX.enters;rw[hrunc];refine⟨fun hh=>by simp[FR] at hh,k5_ ((hX.calls M wc β _ rfl memc s3 hv2).mono ?_)⟩;rintro e w' ⟨y,β',rfl,mem',hy,hfree'⟩;have hold:∀b,b< w1.heap.size→(¬ ∃i s,β i=some (b,s))→w'.heap[b]?=w1.heap[b]?:=fun b h1 h2=>mem'.below.block b ⟨h1,h2⟩
 have hlive:∀b,(∃i s,β i=some (b,s))→MM M β (lookB hp2) b:=fun b ⟨i,s,hi⟩=>by
  obtain⟨B,hB⟩:=Option.isSome_iff_exists.1 (s7 i _ hi);exact .inr ⟨i,B,s,hB,hi⟩
 have c1:∀b N,aI_ w1 b=some N→¬MM M β (lookB hp2) b→w'.heap[b]?=w1.heap[b]?:=fun b N hs hm=>hold b (bb_ hs) fun he=>hm (hlive b he)
 have c2:∀b N,aI_ w1 b=some N→MM M β' (lookB hp3) b→MM M β (lookB hp2) b:=fun b N hs hm=>by
  rcases hm with hm|⟨i,B,s,_,hi⟩
  exact .inl hm;by_cases he:∃i s,β i=some (b,s);exact hlive b he;exact absurd ⟨bb_ hs,he⟩ (mem'.rng i b s hi).1
 have hDs:∀D∈Ds,w'.heap[D]?=some (.deferred (some []))∧¬w0.K D:=fun D hD=>by
  obtain⟨d1,d2⟩:=s6 D hD;refine⟨?_,d2⟩;rw[hold D (Array.getElem?_eq_some_iff.1 d1).1 fun⟨i,s,hi⟩=>?_];exact d1;obtain⟨B,hB⟩:=Option.isSome_iff_exists.1 (s7 i _ hi);obtain⟨b,r1,r2⟩:=mem.blk i B hB;rw[hi] at r1;cases r1;obtain⟨N,hN⟩:=r2.size;simp[aI_,d1] at hN
 have memn:Mem M w0 β' (lookB hp3) w':=by
  have hb:=mem'.below;refine⟨⟨hb.os.trans mem.below.os,hb.tape.trans mem.below.tape,hb.output.trans mem.below.output,Nat.le_trans mem.below.size hb.size,fun b hk=>?_,fun b n hs=>hb.sizes b n (mem.below.sizes b n hs)⟩,mem.m0,fun i b s hi=>⟨fun hk=>?_,(mem'.rng i b s hi).2⟩,mem'.pin,mem'.blk,mem'.inj⟩;rw[hold b (Nat.lt_of_lt_of_le (w0.lt b hk) mem.below.size) fun he=>hjn b he hk];exact mem.below.block b hk;exact(mem'.rng i b s hi).1 ⟨Nat.lt_of_lt_of_le (w0.lt b hk) mem.below.size,fun he=>hjn b he hk⟩
 refine hK _ w' ?_;obtain⟨us',st3,hrun3,hq⟩:=h3;have hn3:=(dQ_ _ (jj+1) _ _ _ hrun3);simp only at hn3
 have hrel:ARel M w0 ⟨(d,v)::fr3,hp3,nx3,n⟩ (a1.put o.dst y) w':=by
  refine⟨β',memn,by rw[hd];simp[Act.put,s1],fun t x hx=>?_,hfree',⟨Ds,by rw[←s4,hd];rfl,s5,hDs⟩⟩;rw[hd,hY_ (by rw[s1];exact Nat.le_of_ble_eq_true hdn)];have hx':look ((d,v)::fr3) t=some x:=hx;rw[aZ_] at hx';unfold upd at hx';split at hx'
  ·rename_i htd;rw[if_pos htd];cases hx';exact hy
  ·rename_i htd;rw[if_neg htd]
   obtain⟨e1,e2⟩:=h30 t x hx';exact il_ e2 (s2 t x e1) c1 c2 mem'.below.sizes
 have happ:=ez_ (P:=P) (ops:=ops) (ρ:=ρ) (M0:=M) (w0:=w0) (nx:=nx3) (Q:=fun e a' w'=> ∃st',ARel M w0 st' a' w'∧Q e st') [] (ops.toList.drop (jj+1)) (jj+1) ⟨(d,v)::fr3,hp3,nx3,n⟩ st3 us' (a1.put o.dst y) w' hrun3 (hrel.free fun i hi=>by show nx3≤i;omega) fun a5 w5 hr5=>?_;rw[List.append_nil] at happ;exact happ;refine⟨⟨st3.fr,st3.hp,nx3+n1,n⟩,?_,hq⟩;rw[hn3] at hr5;refine hr5.free fun i (hi:nx3+n1≤i)=>?_;rw[List.length_drop,Array.length_toList];have:jj< ops.size:=by simpa using hjl
 omega
end Go.Abs
