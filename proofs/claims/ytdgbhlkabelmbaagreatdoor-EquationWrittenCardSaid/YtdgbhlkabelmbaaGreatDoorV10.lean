/- Part V10 of the proof. -/
import Derived.Test.YtdgbhlkabelmbaaGreatDoorV09
set_option linter.all false
namespace Go.Abs
open Go.RowKit
structure XSpec (P:Program)(f:Nat)(args:List AV)(hp:Hp)(nx:Nat)(v:AV)(hp':Hp)(nx':Nat):Prop where
 enters:∀(xs:Array Value) (w:World),(callFunc f xs).run P w= .ok (.enter f xs) w
 calls:∀(M:Nat→Prop) (w0:Base) (β:Nat→Option (Nat×Nat)) (vals:List Value),w0.gh=(fun _=>undef)→Mem M w0 β (an hp) w0.w→(∀i,nx≤i→β i=none∧i≠0)→RVs (MM M β (an hp)) β w0.w args vals→
  Calls P f vals.toArray w0.w fun x w'=> ∃y β',x= .returned y∧Mem M w0 β' (an hp') w'∧RV (MM M β' (an hp')) β' w' v y∧∀i,nx'≤i→β' i=none∧i≠0
def FinX(t:Nat)(v:AV)(hp':Hp)(nx' n:Nat)(x:Exit)(st:AState):Prop:=(x= .normal∨x= .ret)∧SEnt st ⟨[(t,v)],hp',nx',n⟩
theorem FinX.of{fr:Fr}{hp hp':Hp}{nx nx' n t:Nat}{v:AV}(h:SEnt ⟨fr,hp,nx,n⟩ ⟨[(t,v)],hp',nx',n⟩):FinX t v hp' nx' n .ret ⟨fr,hp,nx,n⟩:=⟨.inr rfl,h⟩
theorem XSpec.enter {P:Program} {f:Nat} {fn:Func} {c:Code} {t nx nx':Nat} {v:AV} {hp hp':Hp} {args:List AV} (hf:P.funcs[f]?=some fn) (hb:fn.body=some c) (hname:(fn.name== "runtime.NumGoroutine")=false) (hrs:fn.results.toList=[.tmp t]) {m:Nat} (hm:fn.ntmps=m) (hn:Nat.ble args.length m=true)
    (ht:Nat.ble t 999=true) {fr:Fr} (hfr:da 0 args=fr) (h:AWp none P c (FinX t v hp' nx' m) ⟨fr,hp,nx,m⟩):XSpec P f args hp nx v hp' nx':=by
 subst hm hfr;have hn:=Nat.le_of_ble_eq_true hn;refine⟨fun xs w=>?_,fun M w0 β vals hgh mem hfree hargs=>?_⟩;have hname':¬fn.name= "runtime.NumGoroutine" :=by grind
 simp[callFunc,hf,hname',hb];refine(callsIn_wide (n:=0)).1 (callsIn_of_wp_marks (F:=Fence.wide) hf hb trivial ?_);have hlen:=hargs.length
 have hrel:iS M w0 ⟨da 0 args,hp,nx,fn.ntmps⟩ {tmps:=vals.toArray++Array.replicate (fn.ntmps- vals.toArray.size) undef,defers:=[]} w0.w:=by
  refine⟨β,mem,by grind,fun t x hx=>?_,hfree,⟨[],rfl,List.nodup_nil,by simp⟩⟩;rw[cg hgh]
  have key:∀{as:List AV} {vs:List Value} {i t:Nat} {x:AV},RVs (MM M β (an hp)) β w0.w as vs→look (da i as) t=some x→i≤t∧∃y,vs[t- i]?=some y∧RV (MM M β (an hp)) β w0.w x y:=by
   intro as
   induction as with
   |nil=>intro vs i t x _ h;cases h
   |cons a as ih=>
    rintro vs i t x ⟨y,ys,e,h1,h2⟩ h;subst e;simp only[da] at h;rw[cn] at h;unfold upd at h;grind
  obtain⟨_,y,h1,h2⟩:=key hargs hx
  have hy:(vals.toArray++Array.replicate (fn.ntmps- vals.toArray.size) undef).getD t undef=y:=by
   have hlt:t< vals.length:=by grind
   rw[Array.getD_eq_getD_getElem?,Array.getElem?_append_left (by grind)];grind
  grind
 refine wpIn_mono (h M w0 _ w0.w hrel) fun x a' w' ⟨st',hst,he,hent⟩=>?_;obtain⟨β',mem',hsz,hfr,hfree',Ds,hds,hnd,hD⟩:=hent M w0 a' w' hst;have hv:look ([(t,v)]:Fr) t=some v:=by rw[cn];exact a7 _ _ _
 have hres:lJ P fn.results.toList ⟨[(t,v)],hp',nx',fn.ntmps⟩ .any:=by
  rw[hrs];exact⟨[_],⟨_,[],rfl,hv,rfl⟩,fun _ _ _ _ _ _ _=>trivial⟩
 have hL:LeavesInM (FR none) 0 P fn a'.tmps (fun x w'=> ∃y β',x= .returned y∧Mem M w0 β' (an hp') w'∧RV (MM M β' (an hp')) β' w' v y∧∀i,nx'≤i→β' i=none∧i≠0) a'.defers .returning w':=by
  rw[hds];refine gS (st:=⟨[(t,v)],hp',nx',fn.ntmps⟩) hres (fun y w'' _ h2 h3 h4=>?_) Ds w' hnd hD mem' (fun t x hx=>by have:=hfr t x hx;rwa[cg hgh] at this)
  have hy:y=a'.tmps.getD t undef:=by
   have hm:(fn.results.mapM (gM a'.tmps)).run P w''= .ok #[a'.tmps.getD t undef] w'':=by
    rw[Array.mapM_eq_mapM_toList,hrs];rfl
   have he:results fn a'.tmps=(do let vs←fn.results.mapM (gM a'.tmps);pure (if h:vs.size=1 then vs[0] else .tuple vs)):=rfl;rw[he,Sem.run_bind,hm] at h4;have h5:(Result.ok (a'.tmps.getD t undef) w'':Result Value)= .ok y w'':=h4;cases h5;rfl
  exact⟨y,β',rfl,h2,by rw[hy];exact h3 t v hv,hfree'⟩
 rcases he with rfl|rfl
 exact hL;exact hL
theorem xf{M M':Nat→Prop}{β β':Nat→Option (Nat×Nat)}{w w':World}{x:AV}{y:Value}(hc:Closed x)(h:RV M β w x y)(h1:∀b N,aR w b=some N→¬M b→w'.heap[b]?=w.heap[b]?)(h2:∀b N,aR w b=some N→M' b→M b)(h3:∀b n,aR w b=some n→aR w' b=some n):RV M' β' w' x y:=by
 have c:RVs M (fun _=>none) w [x] [y]:=df (fun a ha=>by grind) ⟨_,_,rfl,h,rfl⟩;have d:RVs M' β' w' [x] [y]:=StabC.vs ⟨h1,h2,(fun _ _ h=>by cases h),h3⟩ c;obtain⟨z,f,e,r,_⟩:=d;grind
theorem AWp.regX {P:Program} {ρ:Option Nat} {Q:Exit→AState→Prop} {ops:Array Oper} {id n nx n1 nx2 nx3 d g:Nat} {fr fr2 fr3:Fr} {hp hp2 hp3:Hp} {v:AV} (jj:Nat) {o:Oper} (ho:ops.toList[jj]?=some o) {cc:Call} {f:Operand} {as:List AV} (hop:o.op= .call cc) (hg:o.guard=none) (hd:o.dst=some d) (hf:cc.callee= .value f) (hsz:ops.size=n1)
    (h:AR P ops nx n 0 (ops.toList.take jj) fr hp fun _ f1 h1=>SEntT ⟨f1,h1,nx+jj,n⟩ ⟨fr2,hp2,nx2,n⟩) (hdn:Nat.blt d n=true)
    (hev:evF (look fr2) f=some (.clos g [] [])) (has:evs (evF (look fr2)) cc.args.toList=some as) (hX:XSpec P g (as.map coe) hp2 nx2 v hp3 nx3) (h30:∀t x,look fr3 t=some x→look fr2 t=some x∧Closed x) (hlo:∀t x,look fr3 t=some x→t< 1000)
    (h3:AR P ops nx3 n (jj+1) (ops.toList.drop (jj+1)) ((d,v)::fr3) hp3 fun _ f' h'=>Q .normal ⟨f',h',nx3+n1,n⟩):AWp ρ P (.region id ops false) Q ⟨fr,hp,nx,n⟩:=by
 have hjl:jj< ops.toList.length:=(List.getElem?_eq_some_iff.1 ho).1
 have Z:ops.toList=ops.toList.take jj++o::ops.toList.drop (jj+1):=by
  rw[←(List.getElem?_eq_some_iff.1 ho).2,←List.drop_eq_getElem_cons hjl,List.take_append_drop]
 rintro M w0 a w hr;refine wpIn_region_list ?_;rw[Z];obtain⟨us,st1,G,X⟩:=h
 have V:=(eC (ops.toList.take jj) 0 _ st1 us [] (look fr) (an hp) G rfl (fun i o h=>by
  rw[List.getElem?_take] at h;split at h;simpa using h;cases h) rfl rfl).2.2.2
 simp only at V;refine jI (M0:=M) (w0:=w0) (ρ:=ρ) _ _ 0 ⟨fr,hp,nx,n⟩ st1 us a w G (FRel.free hr fun i l=>by show nx≤i;simpa using l) fun R p S=>?_;have hl:(ops.toList.take jj).length=jj:=by rw[List.length_take];omega
 rw[hl,Nat.zero_add,V] at S;obtain⟨β,j,s1,s2,s3,⟨Ds,s4,s5,s6⟩,s7⟩:=X M w0 R p S;refine wpListIn_step fun K hK=>?_;rw[if_pos (by simp[Region.wanted,hg])]
 -- the call,seen from here
 have J:∀b,(∃i s,β i=some (b,s))→¬w0.K b:=fun b ⟨i,s,l⟩=>(j.rng i b s l).1;have hgt:¬(∃i s,β i=some (GT,s)):=fun⟨i,s,l⟩=>j.gtn i s l
 let wc:Base:=⟨p,fun b=>b< p.heap.size∧¬ ∃i s,β i=some (b,s),fun _ h=>h.1,w0.pin,fun _=>undef,⟨j.tab.lt,hgt⟩,j.tab⟩
 have memc:Mem M wc β (an hp2) wc.w:=⟨⟨rfl,rfl,rfl,Nat.le_refl _,fun _ _=>rfl,fun _ _ h=>h⟩,fun b hb=>⟨⟨j.lt (.inl hb),fun z=>J b z (j.m0 b hb).1⟩,(j.m0 b hb).2⟩,fun i b s l=>⟨fun F=>F.2 ⟨i,s,l⟩,(j.rng i b s l).2⟩,j.pin,j.blk,j.inj⟩;have hv:RVs (MM M β (an hp2)) β p as (cc.args.toList.map R.eval):=iz (fv s2) has;have hv2:=gq hv;obtain⟨xs,ys,hx,hx1,hx2⟩:=fv s2 f _ hev;have hxs:xs= #[]:=Array.ext' hx1;have hys:ys= #[]:=Array.ext' hx2;subst hxs hys;refine⟨fun _ _=>trivial,?_⟩;rw[Oper.semAt_eq _ _ _ (by rw[hop];intro c e;cases e)];have O:(execOp R.eval o).run P p= .ok (.enter g (cc.args.toList.map R.eval).toArray) p:=fG hop hf hx rfl hX.enters;rw[O];refine⟨fun hh=>by simp[FR] at hh,sT ((hX.calls M wc β _ rfl memc s3 hv2).mono ?_)⟩;rintro e C ⟨y,β',rfl,k,hy,A⟩;have r:∀b,b< p.heap.size→(¬ ∃i s,β i=some (b,s))→C.heap[b]?=p.heap[b]?:=fun b h1 h2=>k.below.block b ⟨h1,h2⟩
 have m:∀b,(∃i s,β i=some (b,s))→MM M β (an hp2) b:=fun b ⟨i,s,l⟩=>by
  obtain⟨B,hB⟩:=Option.isSome_iff_exists.1 (s7 i _ l);exact .inr ⟨i,B,s,hB,l⟩
 have c1:∀b N,aR p b=some N→¬MM M β (an hp2) b→C.heap[b]?=p.heap[b]?:=fun b N hs T=>r b (b7 hs) fun z=>T (m b z)
 have c2:∀b N,aR p b=some N→MM M β' (an hp3) b→MM M β (an hp2) b:=fun b N hs T=>by
  rcases T with T|⟨i,B,s,_,l⟩
  exact .inl T;by_cases z:∃i s,β i=some (b,s);exact m b z;exact absurd ⟨b7 hs,z⟩ (k.rng i b s l).1
 have hDs:∀D∈Ds,C.heap[D]?=some (.deferred (some []))∧¬w0.K D:=fun D hD=>by
  obtain⟨d1,d2⟩:=s6 D hD;refine⟨?_,d2⟩;rw[r D (Array.getElem?_eq_some_iff.1 d1).1 fun⟨i,s,l⟩=>?_];exact d1;obtain⟨B,hB⟩:=Option.isSome_iff_exists.1 (s7 i _ l);obtain⟨b,r1,r2⟩:=j.blk i B hB;rw[l] at r1;cases r1;obtain⟨N,hN⟩:=r2.size;simp[aR,d1] at hN
 have U:Mem M w0 β' (an hp3) C:=by
  have hb:=k.below;refine⟨⟨hb.os.trans j.below.os,hb.tape.trans j.below.tape,hb.output.trans j.below.output,Nat.le_trans j.below.size hb.size,fun b F=>?_,fun b n hs=>hb.sizes b n (j.below.sizes b n hs)⟩,j.m0,fun i b s l=>⟨fun F=>?_,(k.rng i b s l).2⟩,k.pin,k.blk,k.inj⟩;rw[r b (Nat.lt_of_lt_of_le (w0.lt b F) j.below.size) fun z=>J b z F];exact j.below.block b F;exact(k.rng i b s l).1 ⟨Nat.lt_of_lt_of_le (w0.lt b F) j.below.size,fun z=>J b z F⟩
 refine hK _ C ?_;obtain⟨us',L,q,hq⟩:=h3;have hn3:=(iM _ (jj+1) _ _ _ q);simp only at hn3
 have W:iS M w0 ⟨(d,v)::fr3,hp3,nx3,n⟩ (R.put o.dst y) C:=by
  refine⟨β',U,by rw[hd];simp[Act.put,s1],fun t x hx=>?_,A,⟨Ds,by rw[←s4,hd];rfl,s5,hDs⟩⟩;rw[hd,px (by rw[s1];exact Nat.le_of_ble_eq_true hdn)];have u:look ((d,v)::fr3) t=some x:=hx;rw[cn] at u;unfold upd at u;split at u
  ·rename_i H;rw[if_pos H];cases u;exact hy
  ·rename_i H;rw[if_neg H]
   obtain⟨e1,e2⟩:=h30 t x u;exact xf e2 (s2 t x e1) c1 c2 k.below.sizes
 have E:=jI (P:=P) (ops:=ops) (ρ:=ρ) (M0:=M) (w0:=w0) (nx:=nx3) (Q:=fun e a' C=> ∃st',iS M w0 st' a' C∧Q e st') [] (ops.toList.drop (jj+1)) (jj+1) ⟨(d,v)::fr3,hp3,nx3,n⟩ L us' (R.put o.dst y) C q (W.free fun i l=>by show nx3≤i;omega) fun a5 w5 Y=>?_;rw[List.append_nil] at E;exact E;refine⟨⟨L.fr,L.hp,nx3+n1,n⟩,?_,hq⟩;rw[hn3] at Y;refine Y.free fun i (l:nx3+n1≤i)=>?_;rw[List.length_drop,Array.length_toList];have:jj< ops.size:=by simpa using hjl
 omega
end Go.Abs
