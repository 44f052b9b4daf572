/- Part X11 of the proof. -/
import Derived.Test.YtjgokhkahkmpbaaGreatDoorX10
import Derived.Below
set_option linter.all false
namespace Go.Abs
open Go.RowKit
section
variable {hp hp':Hp}{nx nx' t0:Nat}{v:AV}{ev:Operand→Option AV}{as asA:La}
structure XSpecT (P:Program)(f:Nat)(args:La)(hp:Hp)(nx:Nat)(v:AV)(hp':Hp)(nx':Nat):Prop where
 enters:∀(xs:Array Value) (w:World),(callFunc f xs).run P w= .ok (.enter f xs) w
 calls:∀(M:Nat→Prop) (w0:Base) (β:Bq) (vals:List Value),w0.gh=(fun _=>undef)→Mem M w0 β (au hp) w0.w→(∀i,nx≤i→β i=none∧i≠0)→RVs (MM M β (au hp)) β w0.w args vals→
  Calls P f vals.toArray w0.w fun x w'=> ∃y β',x= .returned y∧Mem M w0 β' (au hp') w'∧RV (MM M β' (au hp')) β' w' v y∧(∀i,nx'≤i→β' i=none∧i≠0)∧∀i x,β' i=some x→(au hp' i).isSome=true
def FinXT(t:Nat)(v:AV)(hp':Hp)(nx' n:Nat)(x:Exit)(st:AState):Prop:=(x= .normal∨x= .ret)∧SEntT st ⟨[(t,v)],hp',nx',n⟩
theorem FinXT.of{fr:Fr}{n t:Nat}(h:SEntT ⟨fr,hp,nx,n⟩ ⟨[(t,v)],hp',nx',n⟩):FinXT t v hp' nx' n .ret ⟨fr,hp,nx,n⟩:=⟨.inr rfl,h⟩
theorem XSpecT.enter {P:Program} {f:Nat} {fn:Func} {c:Code} {t:Nat} {args:La} (hf:P.funcs[f]?=some fn) (hb:fn.body=some c) (hname:(fn.name== "runtime.NumGoroutine")=false) (hrs:fn.results.toList=[.tmp t]) {m:Nat} (hm:fn.ntmps=m) (hn:Nat.ble args.length m=true)
    (ht:Nat.ble t 999=true) {fr:Fr} (hfr:dh 0 args=fr) (h:AWp none P c (FinXT t v hp' nx' m) ⟨fr,hp,nx,m⟩):XSpecT P f args hp nx v hp' nx':=by
 subst hm hfr;have hn:=Nat.le_of_ble_eq_true hn;refine⟨fun xs w=>?_,fun M w0 β vals hgh mem hfree hargs=>?_⟩;have hname':¬fn.name= "runtime.NumGoroutine" :=by grind
 simp[callFunc,hf,hname',hb];refine(callsIn_wide (n:=0)).1 (callsIn_of_wp_marks (F:=Fence.wide) hf hb trivial ?_);have hlen:=hargs.length
 have hrel:ARel M w0 ⟨dh 0 args,hp,nx,fn.ntmps⟩ {tmps:=vals.toArray++Array.replicate (fn.ntmps- vals.toArray.size) undef,defers:=[]} w0.w:=by
  refine⟨β,mem,by grind,fun t x hx=>?_,hfree,⟨[],rfl,List.nodup_nil,by simp⟩⟩;rw[cO hgh]
  have key:∀{as:La} {vs:List Value} {i t:Nat} {x:AV},RVs (MM M β (au hp)) β w0.w as vs→look (dh i as) t=some x→i≤t∧∃y,vs[t- i]?=some y∧RV (MM M β (au hp)) β w0.w x y:=by
   intro as
   induction as with
   |nil=>intro vs i t x _ h;cases h
   |cons a as ih=>
    rintro vs i t x ⟨y,ys,e,h1,h2⟩ h;subst e;simp only[dh] at h;rw[cy] at h;unfold upd at h;grind
  obtain⟨_,y,h1,h2⟩:=key hargs hx
  have hy:(vals.toArray++Array.replicate (fn.ntmps- vals.toArray.size) undef).getD t undef=y:=by
   have hlt:t< vals.length:=by grind
   rw[Array.getD_eq_getD_getElem?,Array.getElem?_append_left (by grind)];grind
  grind
 refine wpIn_mono (h M w0 _ w0.w hrel) fun x a' w' ⟨st',hst,he,hent⟩=>?_;obtain⟨β',mem',hsz,hfr,hfree',⟨Ds,hds,hnd,hD⟩,hlive⟩:=hent M w0 a' w' hst;have hv:look ([(t,v)]:Fr) t=some v:=by rw[cy];exact aX _ _ _
 have hres:kS P fn.results.toList ⟨[(t,v)],hp',nx',fn.ntmps⟩ .any:=by
  rw[hrs];exact⟨[_],⟨_,[],rfl,hv,rfl⟩,fun _ _ _ _ _ _ _=>trivial⟩
 have hL:LeavesInM (FR none) 0 P fn a'.tmps (fun x w'=> ∃y β',x= .returned y∧Mem M w0 β' (au hp') w'∧RV (MM M β' (au hp')) β' w' v y∧(∀i,nx'≤i→β' i=none∧i≠0)∧∀i x,β' i=some x→(au hp' i).isSome=true) a'.defers .returning w':=by
  rw[hds];refine io (st:=⟨[(t,v)],hp',nx',fn.ntmps⟩) hres (fun y w'' _ h2 h3 h4=>?_) Ds w' hnd hD mem' (fun t x hx=>by have:=hfr t x hx;rwa[cO hgh] at this)
  have hy:y=a'.tmps.getD t undef:=by
   have hm:(fn.results.mapM (fO a'.tmps)).run P w''= .ok #[a'.tmps.getD t undef] w'':=by
    rw[Array.mapM_eq_mapM_toList,hrs];rfl
   have he:results fn a'.tmps=(do let vs←fn.results.mapM (fO a'.tmps);pure (if h:vs.size=1 then vs[0] else .tuple vs)):=rfl;rw[he,Sem.run_bind,hm] at h4;have h5:(Result.ok (a'.tmps.getD t undef) w'':Result Value)= .ok y w'':=h4;cases h5;rfl
  exact⟨y,β',rfl,h2,by rw[hy];exact h3 t v hv,hfree',hlive⟩
 rcases he with rfl|rfl
 exact hL;exact hL
section
variable {P:Program}{ops:Array Oper}{us:List (Upd×Ln)}{anc:Nat→Nat→Bool}{nx n:Nat}{fr0:Nat→Option AV}{hp0:Hq}{ρ:Option Nat}{Q:Exit→Act→World→Prop}{rid:Nat}
variable {X:Ln→(Nat→Prop)→Base→(Nat→Option (Nat×Nat))→Act→World→Prop}{gh:Nat→Value}
end
def RunY(P:Program)(ops:Array Oper)(sp:Nat→Option AV)(C:Nat→(Nat→Option AV)→Prop)(nx:Nat):Nat→List Oper→AState→List (Upd×Ln)→AState→Prop
 |_,[],st,us,st'=>us=[]∧st'=st
 |j,o::rest,st,us,st'=> ∃u rd us',us=(u,rd)::us'∧(∀x,sp j=some x→u=⟨x,[]⟩∧rd=[]∧C j (look st.fr))∧(sp j=none→AStep P ops (nx+j) (look st.fr) (au st.hp) o u rd)∧(∀d,o.dst=some d→d< st.n)∧RunY P ops sp C nx (j+1) rest (st.step o.dst u) us' st'
def AY(P:Program)(ops:Array Oper)(sp:Nat→Option AV)(C:Nat→(Nat→Option AV)→Prop)(nx n j:Nat)(rest:List Oper)(fr:Fr)(hp:Hp)(K:Fps→Fr→Hp→Prop):Prop:=
 ∃us st',RunY P ops sp C nx j rest ⟨fr,hp,nx,n⟩ us st'∧K (us.map fp) st'.fr st'.hp
section
variable {P:Program}{ops:Array Oper}{spf:Nat→Option AV}{C:Nat→(Nat→Option AV)→Prop}{nx n j:Nat}{rest:List Oper}{fr:Fr}{hp:Hp}{K:Fps→Fr→Hp→Prop}
variable {d:Nat}{op:Op}{ty:Nat}{pos:String}{after:Array Edge}{a:AV}{p q:Nat×Option ABlk}{rd:Ln}
theorem AY.nil(h:K [] fr hp):AY P ops spf C nx n j [] fr hp K:=⟨[],_,⟨rfl,rfl⟩,h⟩
theorem AY.cons {dst:Option Nat} {guard:Option (Nat×Bool)} {u:Upd} {rd:Ln}
    (hs1:∀x,spf j=some x→u=⟨x,[]⟩∧rd=[]∧C j (look fr)) (hs2:spf j=none→AStep P ops (nx+j) (look fr) (au hp) ⟨dst,op,ty,pos,after,guard⟩ u rd) (hd:(match dst with|some d=>Nat.blt d n|none=>true)=true)
    (h:AY P ops spf C nx n (j+1) rest (xY fr dst u.val) (u.blk.reverse++hp) fun fps f h=>K ((u.blk.map (·.1),rd)::fps) f h):AY P ops spf C nx n j (⟨dst,op,ty,pos,after,guard⟩::rest) fr hp K:=by
 obtain⟨us,st',h1,h2⟩:=h;refine⟨(u,rd)::us,st',⟨u,rd,us,rfl,hs1,hs2,fun d hd'=>?_,h1⟩,h2⟩;subst hd';simp_all
theorem AY.op0 (hs:AEval P (nx+j) (evF (look fr)) (au hp) op ⟨a,[]⟩ rd) (hnd:bK op=true) (hd:Nat.blt d n=true)
    (h:AY P ops spf C nx n (j+1) rest ((d,a)::fr) hp fun fps f h=>K (([],rd)::fps) f h) (hsp:spf j=none:=by rfl):AY P ops spf C nx n j (⟨some d,op,ty,pos,after,none⟩::rest) fr hp K:=
 AY.cons (fun x e=>by grind) (fun _=>⟨br hnd,hs⟩) hd h
theorem AY.op1 (hs:AEval P (nx+j) (evF (look fr)) (au hp) op ⟨a,[p]⟩ rd) (hnd:bK op=true) (hd:Nat.blt d n=true)
    (h:AY P ops spf C nx n (j+1) rest ((d,a)::fr) (p::hp) fun fps f h=>K (([p.1],rd)::fps) f h) (hsp:spf j=none:=by rfl):AY P ops spf C nx n j (⟨some d,op,ty,pos,after,none⟩::rest) fr hp K:=
 AY.cons (fun x e=>by grind) (fun _=>⟨br hnd,hs⟩) hd h
theorem AY.sp{x:AV}(hd:Nat.blt d n=true)(hsp:spf j=some x)(hC:C j (look fr))(h:AY P ops spf C nx n (j+1) rest ((d,x)::fr) hp fun fps f h=>K (([],[])::fps) f h):AY P ops spf C nx n j (⟨some d,op,ty,pos,after,none⟩::rest) fr hp K:=
 AY.cons (u:=⟨x,[]⟩) (rd:=[]) (fun z hz=>by grind) (fun e=>by grind) hd h
end
theorem XSpecT.x{P:Program}{f:Nat}{args:La}(h:XSpecT P f args hp nx v hp' nx'):XSpec P f args hp nx v hp' nx':=
 ⟨h.enters,fun M w0 β vals h1 h2 h3 h4=>(h.calls M w0 β vals h1 h2 h3 h4).mono fun _ _ ⟨y,β',a,b,c,d,_⟩=>⟨y,β',a,b,c,d⟩⟩
def ArgsB(ev:Operand→Option AV)(t0:Nat)(v:AV):List Operand→La→Prop
 |[],as=>as=[]
 |x::xs,as=> ∃a as',as=a::as'∧((x= .tmp t0∧a=v)∨(ev x=some a∧Closed a))∧ArgsB ev t0 v xs as'
theorem ArgsB.nil:ArgsB ev t0 v [] []:=rfl
theorem ArgsB.own{xs:List Operand}(h:ArgsB ev t0 v xs as):ArgsB ev t0 v (.tmp t0::xs) (v::as):=⟨_,_,rfl,.inl ⟨rfl,rfl⟩,h⟩
theorem ArgsB.clo{a:AV}{x:Operand}{xs:List Operand}(h1:ev x=some a)(h2:Closed a)(h:ArgsB ev t0 v xs as):ArgsB ev t0 v (x::xs) (a::as):=⟨_,_,rfl,.inr ⟨h1,h2⟩,h⟩
theorem ArgsB.congr{ev':Operand→Option AV}:∀{xs:List Operand} {as:La},(∀x∈xs,ev' x=ev x)→ArgsB ev t0 v xs as→ArgsB ev' t0 v xs as
 |[],_,_,h=>h
 |x::xs,_,he,⟨a,as',e,h1,h2⟩=>⟨a,as',e,h1.imp id fun⟨h3,h4⟩=>⟨(he x (List.mem_cons_self ..)).trans h3,h4⟩,ArgsB.congr (fun z hz=>he z (List.mem_cons_of_mem _ hz)) h2⟩
structure PkgS (M00:Nat→Prop)(w00:Base)(hpA:Hp)(nxA:Nat)(v:AV)(t0:Nat)(βS:Bq)(M0:Nat→Prop)(w0:Base)(M:Nat→Prop)(a:Act)(w:World):Prop where
 m:∀b,M0 b↔M00 b∨∃i s,βS i=some (b,s)
 k:∀b,w0.K b↔w00.K b∨∃i s,βS i=some (b,s)
 rng:∀i b s,βS i=some (b,s)→w00.w.heap.size≤b∧b< w.heap.size
 live:∀i x,βS i=some x→(au hpA i).isSome=true
 blk:∀i B,au hpA i=some B→∃b,βS i=some (b,B.sz)∧BlkAt M βS w b B
 inj:∀i j B B' b s s',au hpA i=some B→au hpA j=some B'→βS i=some (b,s)→βS j=some (b,s')→i=j
 free:∀i,nxA≤i→βS i=none∧i≠0
 zero:(au hpA 0).isSome=true→False
 val:RV M βS w v (a.tmps.getD t0 undef)
structure XP (jA jB t0:Nat)(v:AV)(hpA:Hp)(nxA:Nat)(M00:Nat→Prop)(w00:Base)(H:Ln→Nat→Option ABlk)(σ:Ln)(M0:Nat→Prop)(w0:Base)(β:Bq)(a:Act)(w:World):Prop where
 kept:w00.Kept w
 m00:∀b,M00 b→w00.K b∧b≠GT
 pin:w0.pin=w00.pin
 dep:jB∈σ→jA∈σ
 no:jA∉σ∨jB∈σ→(∀b,M0 b↔M00 b)∧(∀b,w0.K b↔w00.K b)
 yes:jA∈σ→jB∉σ→∃βS,PkgS M00 w00 hpA nxA v t0 βS M0 w0 (MM M0 β (H σ)) a w
theorem Stab.size{M M':Nat→Prop}{β β':Bq}{w w':World}(st:Stab M M' β β' w w'):w.heap.size≤w'.heap.size:=by
 by_cases hw:w.heap.size=0;omega;obtain⟨k,hk⟩:∃k,w.heap.size=k+1:=⟨w.heap.size- 1,by omega⟩;by_cases hs:∃N,aK w k=some N;obtain⟨N,hN⟩:=hs;have:=bZ (st.sz k N hN);omega
 have hsn:aK w k=none:=by
  cases hz:aK w k with
  |none=>rfl
  |some N=>grind
 have h4:=st.oth k (by omega) hsn;grind
section
variable {P:Program}{jA jB t0 j id nxA:Nat}{v:AV}{hpA:Hp}{M00 M0:Nat→Prop}{w00 w0:Base}{H:Ln→Nat→Option ABlk}{σ:Ln}{β β':Bq}{a:Act}{w w':World}{u:Upd}{y:Value}
theorem XP.sub(hX:XP jA jB t0 v hpA nxA M00 w00 H σ M0 w0 β a w):(∀b,w00.K b→w0.K b)∧∀b,M00 b→M0 b:=by
 by_cases h:jA∈σ;by_cases h2:jB∈σ;obtain⟨n1,n2⟩:=hX.no (.inr h2);exact⟨fun b hb=>(n2 b).2 hb,fun b hb=>(n1 b).2 hb⟩;obtain⟨βS,p⟩:=hX.yes h h2;exact⟨fun b hb=>(p.k b).2 (.inl hb),fun b hb=>(p.m b).2 (.inl hb)⟩;obtain⟨n1,n2⟩:=hX.no (.inl h);grind
theorem XP.make {g nx0:Nat} {vals:List Value} (hX:XP jA jB t0 v hpA nxA M00 w00 H σ M0 w0 β a w) (mem:Mem M0 w0 β (H σ) w) (hj:jA∉σ) (hAB:jA≠jB) (hn:t0< a.tmps.size) (hH:H (σ++[jA])=H σ) (h0:1≤nx0)
    (X1:XSpecT P g asA [] nx0 v hpA nxA) (hargs:RVs (MM M0 β (H σ)) β w as vals) (hcl:∀x∈as,Closed x) (hco:as.map coe=asA):
    Calls P g vals.toArray w fun e w'=> ∃y M0' w0' β',e= .returned y∧Mem M0' w0' β' (H σ) w'∧w0'.gh=w0.gh∧RV (MM M0' β' (H σ)) β' w' .any y∧StabC (MM M0 β (H σ)) (MM M0' β' (H σ)) β β' w w'∧(∀i,i≠id→β' i=β i)∧(∀ds,DefOK ds w0 w→DefOK ds w0' w')∧
     XP jA jB t0 v hpA nxA M00 w00 H (σ++[jA]) M0' w0' β' (a.put (some t0) y) w':=by
 have e0:∀(M:Nat→Prop) (b:Bq),MM M b (au [])=M:=fun M b=>by funext c;simp[MM,au,look]
 let wc:Base:=⟨w,fun b=>b< w.heap.size,fun _ h=>h,none,fun _=>undef,mem.tab.lt,mem.tab⟩
 have memc:Mem (MM M0 β (H σ)) wc (fun _=>none) (au []) w:=⟨⟨rfl,rfl,rfl,Nat.le_refl _,fun _ _=>rfl,fun _ _ h=>h⟩,fun b hb=>⟨mem.lt hb,fun e=>by
  rcases hb with hb|⟨i,B,s,_,hi⟩
  exact(mem.m0 b hb).2 e;rw[e] at hi;exact mem.gtn i s hi⟩,(fun _ _ _ h=>by cases h),(fun h=>by cases h),(fun _ _ h=>by cases h),fun _ _ _ _ _ _ _ h=>by simp⟩
 refine(X1.calls (MM M0 β (H σ)) wc (fun _=>none) vals rfl memc (fun i hi=>⟨rfl,by omega⟩) (by rw[e0];exact hco▸iY (dV hcl hargs))).mono ?_;rintro e w' ⟨y,βA,rfl,mA,hy,hfree,hlive⟩;have hold:∀b,b< w.heap.size→w'.heap[b]?=w.heap[b]?:=fun b hb=>mA.below.block b hb;have hsz:w.heap.size≤w'.heap.size:=mA.below.size;have hnew:∀i b s,βA i=some (b,s)→w.heap.size≤b∧b< w'.heap.size:=fun i b s hi=>⟨Nat.le_of_not_lt (mA.rng i b s hi).1,(mA.rng i b s hi).2⟩;obtain⟨n1,n2⟩:=hX.no (.inl hj);have hK:∀b,w0.K b→b< w.heap.size:=fun b hb=>Nat.lt_of_lt_of_le (w0.lt b hb) mem.below.size;have hgt:=mem.tab.lt
 let M0':Nat→Prop:=fun b=>M0 b∨∃i s,βA i=some (b,s)
 let w0':Base:=⟨w',fun b=>w0.K b∨∃i s,βA i=some (b,s),fun b hb=>by
  grind,w0.pin,w0.gh,.inl w0.kt,mem.tab.congr (hold GT mem.tab.lt)⟩
 have st:StabC (MM M0 β (H σ)) (MM M0' β (H σ)) β β w w':=by
  refine⟨fun b N hb _=>hold b (bZ hb),fun b N hb hm=>?_,fun _ _ h=>h,fun b N hb=>(dO (hold b (bZ hb))).trans hb⟩;rcases hm with(hm|⟨i,s,hi⟩)|hm
  exact .inl hm;have:=bZ hb;have:=(hnew i b s hi).1;omega;exact .inr hm
 have sA:StabC (MM (MM M0 β (H σ)) βA (au hpA)) (MM M0' β (H (σ++[jA]))) βA βA w' w':=by
  refine⟨fun _ _ _ _=>rfl,fun b N _ hm=>?_,fun _ _ h=>h,fun _ _ h=>h⟩;rw[hH] at hm;rcases hm with(hm|⟨i,s,hi⟩)|hm
  exact .inl (.inl hm);obtain⟨B,hB⟩:=Option.isSome_iff_exists.1 (hlive i _ hi);exact .inr ⟨i,B,s,hB,hi⟩;exact .inl (.inr hm)
 have hK0:∀b,w00.K b→b< w.heap.size:=fun b hb=>hK b ((n2 b).2 hb);refine⟨y,M0',w0',β,rfl,⟨⟨rfl,rfl,rfl,Nat.le_refl _,fun _ _=>rfl,fun _ _ h=>h⟩,fun b hb=>⟨hb.imp (fun h=>(mem.m0 b h).1) fun h=>h,fun e=>?_⟩,fun i b s hi=>⟨fun hk=>?_,Nat.lt_of_lt_of_le (mem.rng i b s hi).2 hsz⟩,mem.pin,fun i B hi=>?_,mem.inj⟩,rfl,trivial,st,fun _ _=>rfl,fun ds hds=>?_,?_⟩;rcases hb with hb|⟨i,s,hi⟩
 exact(mem.m0 b hb).2 e;have:=(hnew i b s hi).1;omega;rcases hk with hk|⟨i',s',hi'⟩
 exact(mem.rng i b s hi).1 hk;have:=(hnew i' b s' hi').1;have:=(mem.rng i b s hi).2;omega;obtain⟨b,e1,e2⟩:=mem.blk i B hi;exact⟨b,e1,e2.stab st (hold b (mem.rng i b _ e1).2)⟩;obtain⟨Ds,d1,d2,d3⟩:=hds;refine⟨Ds,d1,d2,fun D hD=>?_⟩;obtain⟨e1,e2⟩:=d3 D hD;have hlt:=(Array.getElem?_eq_some_iff.1 e1).1;refine⟨by rw[hold D hlt];exact e1,fun hk=>?_⟩;rcases hk with hk|⟨i,s,hi⟩
 exact e2 hk;have:=(hnew i D s hi).1;omega;have hjB:jB∉σ++[jA]:=fun h=>hj (hX.dep (fh h (Ne.symm hAB)));refine⟨⟨mA.below.os.trans hX.kept.os,mA.below.tape.trans hX.kept.tape,mA.below.output.trans hX.kept.output,Nat.le_trans hX.kept.size hsz,fun b hb=>(hold b (hK0 b hb)).trans (hX.kept.block b hb),fun b k hb=>st.sz b k (hX.kept.sizes b k hb)⟩,hX.m00,hX.pin,fun _=>by simp,fun h=>?_,fun _ _=>?_⟩;rcases h with h|h
 exact absurd (by simp) h;exact absurd h hjB;refine⟨βA,fun b=>or_congr (n1 b) Iff.rfl,fun b=>or_congr (n2 b) Iff.rfl,fun i b s hi=>⟨Nat.le_trans hX.kept.size (hnew i b s hi).1,(hnew i b s hi).2⟩,hlive,fun i B hi=>?_,mA.inj,hfree,fun hz=>?_,?_⟩;obtain⟨b,e1,e2⟩:=mA.blk i B hi;exact⟨b,e1,e2.stab sA rfl⟩;obtain⟨B,hB⟩:=Option.isSome_iff_exists.1 hz;obtain⟨b,e1,_⟩:=mA.blk 0 B hB;have:=mA.pin hz;rw[e1] at this;cases this;rw[sY hn];exact sA.all hy
end
def kAB(jA jB t0:Nat)(v:AV)(gA gB:Nat)(asA asB:La)(fA fB:Operand)(xA xB:List Operand)(j:Nat)(fr:Nat→Option AV):Prop:=
 (j=jA→evF fr fA=some (.clos gA [] [])∧∃as,evs (evF fr) xA=some as∧(∀a∈as,Closed a)∧as.map coe=asA)∧(j=jB→evF fr fB=some (.clos gB [] [])∧∃as,ArgsB (evF fr) t0 v xB as∧as.map coe=asB)
theorem kAB.a{jA jB:Nat}{gA gB:Nat}{asB:La}{fA fB:Operand}{xA xB:List Operand}{fr:Nat→Option AV}(hne:Nat.beq jA jB=false)(h1:evF fr fA=some (.clos gA [] []))(h2:evs (evF fr) xA=some as)(h3:∀a∈as,Closed a)(h4:as.map coe=asA):kAB jA jB t0 v gA gB asA asB fA fB xA xB jA fr:=
 ⟨fun _=>⟨h1,as,h2,h3,h4⟩,fun e=>by simp_all⟩
theorem kAB.b{jA jB:Nat}{gA gB:Nat}{asB:La}{fA fB:Operand}{xA xB:List Operand}{fr:Nat→Option AV}(hne:Nat.beq jA jB=false)(h1:evF fr fB=some (.clos gB [] []))(h2:ArgsB (evF fr) t0 v xB as)(h4:as.map coe=asB):kAB jA jB t0 v gA gB asA asB fA fB xA xB jB fr:=
 ⟨(fun e=>by simp_all),fun _=>⟨h1,as,h2,h4⟩⟩
end
def mzO(sz:Nat)(w:Nat→Nat)(s:Nat→Nat)(n:Nat):Lc:=(List.range n).map fun i=>[.lsl (s (i+2)) 0 (w i) none sz]
@[simp] theorem mzO_length (sz:Nat)(w:Nat→Nat)(s:Nat→Nat)(n:Nat):(mzO sz w s n).length=n:=by simp[mzO]
theorem XSpecT.shut{P:Program}{f nx nx':Nat}{args:La}{v r:AV}{hp':Hp}(h:XSpecT P f args [] nx v hp' nx')(h0:Nat.ble 1 nx=true)(hcl:∀a∈args,Closed a){rr:Ren}(hc:Cv rr (au hp') (fun _=>none) v r)(hr:Closed r):FSpec P f args r:=by
 have e0:∀(M:Nat→Prop) (b:Bq),MM M b (au [])=M:=fun M b=>by funext c;simp[MM,au,look]
 have e1:∀(M:Nat→Prop) (b:Bq),MM M b (fun _=>none)=M:=fun M b=>by funext c;simp[MM]
 refine⟨hcl,h.enters,fun M w vals hfit hargs=>((h.calls M (Base.of w hfit.tab) (fun _=>none) vals rfl ⟨⟨rfl,rfl,rfl,Nat.le_refl _,fun _ _=>rfl,fun _ _ h=>h⟩,(fun b hb=>⟨hfit.lt b hb,fun e=>hfit.nt (e▸hb)⟩),(fun _ _ _ h=>by cases h),(fun _=>rfl),(fun _ _ h=>by cases h),fun _ _ _ _ _ _ _ h=>by simp⟩ (fun i hi=>⟨rfl,by have:=Nat.le_of_ble_eq_true h0;omega⟩) (by rw[e0];exact hargs)).mono ?_)⟩;rintro e w' ⟨y,β',rfl,mem',hy,_,_⟩;have h5:=hc M _ β' w' y mem' hy;rw[e1] at h5;exact⟨y,rfl,hr _ _ _ _ h5,mem'.below.os,mem'.below.tape,mem'.below.output,mem'.below.size,mem'.below.block⟩
theorem AEval.callV {P:Program} {id:Nat} {ev:Operand→Option AV} {hp:Hq} {c:Call} {callee:Operand} {f:Nat} {as as':La} {r:Value} {rd:Ln} {rr:Ren} (h1:c.callee= .value callee) (h2:ev callee=some (.clos f [] [])) (h3:evs ev c.args.toList=some as)
    (h4:∀hp':Nat→Option ABlk,(∀i∈rd,hp' i=hp i)→CvL rr hp' (fun _=>none) as as') (h5:FSpec P f as' (.v r)):AEval P id ev hp (.call c) ⟨.v r,[]⟩ rd:=by
 refine .sem fun M0 w0 β hp' w ρ o ho mem hev hcst hid0 hid hidh hrd=>?_
 have hopn:∀x,x∈(Op.call c).operands↔x=callee∨x∈c.args.toList:=by
  simp[Op.operands,Call.operands,h1]
 obtain⟨xs,ys,hx,hr1,hr2⟩:=hev callee ((hopn _).2 (.inl rfl)) _ h2;have hxs:xs= #[]:=Array.ext' hr1;have hys:ys= #[]:=Array.ext' hr2;subst hxs hys;have has:RVs (MM M0 β hp') β w as (c.args.toList.map ρ):=wT (fun x hx=>hev x ((hopn _).2 (.inr hx))) h3;have h6:=CvL.rvs mem (h4 hp' hrd) has;have e1:∀b:Nat→Option (Nat×Nat),MM M0 b (fun _=>none)=M0:=fun b=>by funext c;simp[MM]
 rw[e1] at h6;refine .inr ⟨f,_,jh ho h1 hx rfl h5.enters,(h5.calls M0 w _ ⟨fun b hb=>Nat.lt_of_lt_of_le (w0.lt b (mem.m0 b hb).1) mem.below.size,fun hb=>(mem.m0 GT hb).2 rfl,mem.tab⟩ (dV h5.cl h6)).mono ?_⟩;rintro e w' ⟨y,rfl,hy,hb⟩;have hmx:=mem.ext hb;exact⟨y,rfl,β,hmx.1,hy,hmx.2,fun _ _=>rfl⟩
section
variable {P:Program}{T:Nat}{x y:Operand}{a b:Int}
theorem D2(h:0≤a∧a≤18446744073709551615):∀w,(do eqGuard .shr T x y (.int .u64 a) (.int .u64 1);binOp .shr T (.int .u64 a) (.int .u64 1):Sem Value).run P w= .ok (.int .u64 (a/ 2)) w:=fun w=>by
 simp[eqGuard,binOp,Op.shift];show a.fdiv (2^ 1)=a/ 2;rw[Int.fdiv_eq_ediv_of_nonneg _ (by decide)];rfl
end
theorem CZ{M:Nat→Prop}{β:Bq}{w:World}{b:Nat}:∀{cs:La} {off:Nat},RVcs M β w b cs off→∃V:La,V.length=cs.length∧(cs.all AV.one=true→V.all AV.one=true)∧(∀c∈V,∃y,c= .v y)∧(∀M' β',RVcs M' β' w b V off)∧
    ∀(M2 M3:Nat→Prop) (β2 β3:Bq) (w2:World) (b2 off2:Nat),(∀c∈cs,∀y,RV M β w c y→RV M2 β2 w2 c y)→RVcs M3 β3 w2 b2 V off2→RVcs M2 β2 w2 b2 cs off2
 |[],off,h=>⟨[],rfl,fun _=>rfl,(fun c hc=>by cases hc),fun _ _=>trivial,fun _ _ _ _ _ _ _ _ _=>trivial⟩
 |c::cs,off,⟨⟨x,q1,q2⟩,q3⟩=>by
  obtain⟨V,v1,v0,v2,v3,v4⟩:=CZ q3;refine⟨.v x::V,by simp[v1],fun h1=>?_,fun c hc=>?_,fun M' β'=>⟨⟨x,q1,rfl⟩,v3 M' β'⟩,fun M2 M3 β2 β3 w2 b2 off2 ht h=>?_⟩;rw[List.all_cons,Bool.and_eq_true] at h1⊢;exact⟨Eu q2 h1.1,v0 h1.2⟩;rcases List.mem_cons.1 hc with rfl|hc
  exact⟨x,rfl⟩;exact v2 c hc;obtain⟨⟨z,r1,r2⟩,r3⟩:=h;cases (r2:z=x);exact⟨⟨x,r1,ht c (List.mem_cons_self ..) x q2⟩,v4 M2 M3 β2 β3 w2 b2 _ (fun c hc=>ht c (List.mem_cons_of_mem _ hc)) r3⟩
theorem za{M:Nat→Prop}{β:Bq}{w:World}{b s:Nat}:∀{es:Lc} {off:Nat},RVess M β w b s es off→∃V:Lc,V.length=es.length∧(es.all (·.all AV.one)=true→V.all (·.all AV.one)=true)∧(∀e∈V,e.length=s∧∀c∈e,∃y,c= .v y)∧(∀M' β',RVess M' β' w b s V off)∧
    ∀(M2 M3:Nat→Prop) (β2 β3:Bq) (w2:World) (b2 off2:Nat),(∀e∈es,∀c∈e,∀y,RV M β w c y→RV M2 β2 w2 c y)→RVess M3 β3 w2 b2 s V off2→RVess M2 β2 w2 b2 s es off2
 |[],off,h=>⟨[],rfl,fun _=>rfl,(fun c hc=>by cases hc),fun _ _=>trivial,fun _ _ _ _ _ _ _ _ _=>trivial⟩
 |e::es,off,⟨q1,q2,q3⟩=>by
  obtain⟨V,v1,v0,v2,v3,v4⟩:=za q3;obtain⟨U,u1,u0,u2,u3,u4⟩:=CZ q2;refine⟨U::V,by simp[v1],fun h1=>?_,fun c hc=>?_,fun M' β'=>⟨u1.trans q1,u3 M' β',v3 M' β'⟩,fun M2 M3 β2 β3 w2 b2 off2 ht h=>?_⟩;rw[List.all_cons,Bool.and_eq_true] at h1⊢;exact⟨u0 h1.1,v0 h1.2⟩;rcases List.mem_cons.1 hc with rfl|hc
  exact⟨u1.trans q1,u2⟩;exact v2 c hc;obtain⟨r1,r2,r3⟩:=h;exact⟨q1,u4 M2 M3 β2 β3 w2 b2 _ (ht e (List.mem_cons_self ..)) r2,v4 M2 M3 β2 β3 w2 b2 _ (fun c hc=>ht c (List.mem_cons_of_mem _ hc)) r3⟩
theorem DX{e:La}(h:∀c∈e,∃y,c= .v y):∀c∈e,Closed c:=fun c hc=>by
 obtain⟨y,rfl⟩:=h c hc;exact ag y
theorem AEval.callOL {P:Program} {id:Nat} {ev:Operand→Option AV} {hp:Hq} {c:Call} {callee x0:Operand} {f i n sz ty ty':Nat} {cap:Option Nat} {es:Lc} (h1:c.callee= .value callee) (h2:ev callee=some (.clos f [] [])) (h3:c.args.toList=[x0]) (h4:ev x0=some (.lsl i 0 n cap sz)) (h5:hp i=some ⟨ty',sz,es⟩) (hn:es.length=n) (hz:sz≠0) (hce:∀e∈es,∀c∈e,Closed c) (hon:es.all (·.all AV.one)=true)
    (h6:∀V:Lc,V.length=n→V.all (·.all AV.one)=true→(∀e∈V,e.length=sz∧∀c∈e,∃y,c= .v y)→OSpec P f [.arr V] ty sz V):AEval P id ev hp (.call c) ⟨.lsl id 0 n none sz,[(id,some ⟨ty,sz,es⟩)]⟩ [i]:=by
 refine .sem fun M0 w0 β hp' w ρ o ho mem hev hcst hid0 hid hidh hrd=>?_
 have hopn:∀x,x∈(Op.call c).operands↔x=callee∨x∈c.args.toList:=by
  intro x;simp[Op.operands,Call.operands,h1,←Array.mem_toList_iff]
 obtain⟨xs,ys,hx,hr1,hr2⟩:=hev callee ((hopn _).2 (.inl rfl)) _ h2;have hxs:xs= #[]:=Array.ext' hr1;have hys:ys= #[]:=Array.ext' hr2;subst hxs hys;have h5':hp' i=some ⟨ty',sz,es⟩:=by rw[hrd i (List.mem_singleton.2 rfl)];exact h5
 obtain⟨b,r1,r2⟩:=mem.blk i _ h5'
 obtain⟨_,cs,e1,e2,e3⟩:sz≠0∧∃cs,w.heap[b]?=some (.cells cs ty' (0,0))∧RVess (MM M0 β hp') β w b sz es 0∧es.length* sz≤cs.size:=by
  rcases r2 with h|⟨h,_⟩
  exact h;exact absurd h hz
 obtain⟨V,v1,v0,v2,v3,v4⟩:=za e2;have hO:=h6 V (v1.trans hn) (v0 hon) v2;obtain⟨b',c',g1,g2,g3,g4,g5,N,g6,g7⟩:=hev x0 ((hopn _).2 (.inr (by rw[h3];exact List.mem_singleton.2 rfl))) _ h4;rw[r1] at g1;cases g1;have hnm:¬M0 b:=fun hm=>(mem.rng i b sz r1).1 (mem.m0 b hm).1
 have harg:RVs M0 (fun _=>none) w [.arr V] (c.args.toList.map ρ):=by
  rw[h3];refine⟨ρ x0,[],rfl,⟨_,c',?_,by rw[v1,hn];exact g3,g4,.inr ⟨b,0,sz,rfl,⟨N,g6⟩,hnm,v3 _ _⟩⟩,rfl⟩;rw[g2,v1,hn,Nat.zero_mul]
 refine .inr ⟨f,(c.args.toList.map ρ).toArray,jh ho h1 hx (by rw[List.toList_toArray]) hO.enters,?_⟩;refine(hO.calls M0 w _ ⟨fun b hb=>Nat.lt_of_lt_of_le (w0.lt b (mem.m0 b hb).1) mem.below.size,fun hb=>(mem.m0 GT hb).2 rfl,mem.tab⟩ harg).mono ?_;rintro z w' ⟨b2,cc,rfl,hb1,hb2,hc1,hc2,⟨cs2,hh,hr,hl⟩,hbel⟩;rw[v1] at hc1;have hold:∀b N,aK w b=some N→w'.heap[b]?=w.heap[b]?:=fun b N hs=>hbel.block b (bZ hs)
 have hr':RVess (fun x=>MM M0 β hp' x∨x=b2) (fun _=>none) w' b2 sz es 0:=by
  refine v4 _ _ _ _ w' b2 0 (fun e he c hc y hy=>Af (hce e he c hc) hy (fun b N hs _=>hold b N hs) (fun b N hs hb=>?_) fun b N hs=>?_) hr;rcases hb with hb|rfl
  exact hb;have:=bZ hs;omega;unfold aK at hs⊢;rw[hold b N hs];exact hs
 have hm:=mem.own hz hbel hid0 hid hidh hb1 hb2 hh hr' (Nat.le_trans (Nat.mul_le_mul_right _ hc1) hl);exact⟨_,rfl,_,hm.1,⟨b2,cc,aX _ _ _,by rw[v1,hn,Nat.zero_mul],by rw[←hn];exact hc1,hc2,(fun _ h=>by cases h),cs2.size,by simp[aK,hh],by simpa using hl⟩,hm.2,fun j hj=>bh _ _ hj⟩
theorem sR{M0:Nat→Prop}{w0:Base}{β:Bq}{hp hp':Hq}{w:World}{i b e c:Nat}{B:ABlk}(mem:Mem M0 w0 β hp w)(hi:hp i=some B)(hz:B.sz≠0)(hb:β i=some (b,B.sz))(hs:∀j B',hp' j=some B'→hp j=some B'∧j≠i)(hc:B.es.length- e≤c)(hcm:c≤maxLen):
    RV (MM M0 β hp') β w (.arr (B.es.drop e)) (.slice (some ⟨b,e* B.sz,none⟩) (B.es.length- e) c):=by
 obtain⟨b',cs,q1,q2,q3,q4⟩:=mem.cells hi hz;rw[hb] at q1;cases q1;have st:=(mem.forget fun j B' h=>(hs j B' h).1).2;refine⟨some ⟨b,e* B.sz,none⟩,c,by rw[List.length_drop],by rw[List.length_drop];exact hc,hcm,.inr ⟨b,e* B.sz,B.sz,rfl,⟨cs.size,by simp[aK,q2]⟩,?_,?_⟩⟩;rintro(h|⟨j,B',s,g1,g2⟩);exact(mem.rng i b _ hb).1 (mem.m0 b h).1;obtain⟨g3,g4⟩:=hs j B' g1;exact g4 (mem.inj j i B' B b s B.sz g3 hi g2 hb);have:=RVess.drop e (st.toStabC.ess rfl q3);rwa[Nat.zero_add] at this
theorem AEval.append_oS {P:Program} {id:Nat} {ev:Operand→Option AV} {hp:Hq} {c:Call} {x y:Operand} {T T' E sz i e n:Nat} {a:AV} {rd:Ln} {es:Lc} {zs:List Value} {bs:Nat} {cap:Option Nat} {B:ABlk} (h1:c.callee= .builtin .append) (h2:c.args= #[x,y]) (h3:c.argTypes= #[T,T']) (h4:dT P T=some (E,sz)) (h5:(dT P T').isSome=true) (h6:ev x=some (.lsl i e n cap sz)) (h7:dz hp i=some B) (h8:B.ty=E) (h9:B.sz=sz) (h10:e+n=B.es.length) (h12:es.all (·.all AV.one)=true) (h13:ev y=some a) (h14:SrcOf hp sz a es rd)
    (h15:fo P E=some zs) (h16:zs.length=sz) (h17:qL P E=some bs) (h18:(n+es.length) * bs≤140737488355328) (h19:n+es.length≤maxLen- 1):
    AEval P id ev hp (.call c) ⟨.arr (B.es.drop e++es),[(i,none)]⟩ (i::rd):=by
 subst h8 h9;refine .sem fun M0 w0 β hp' w ρ o ho mem hev hcst hid0 hid hidh hrd=>?_
 have hopn:∀z,z∈(Op.call c).operands↔z∈[x,y]:=by
  intro z;simp[Op.operands,Call.operands,h1,h2]
 have hxv:=hev x ((hopn _).2 (by simp)) _ h6;have hyv:=hev y ((hopn _).2 (by simp)) _ h13;have h7s:=df h7;have hi:hp' i=some B:=(hrd i (by simp)).trans h7s.1;have h14':SrcOf hp' B.sz a es rd:=h14.congr fun j hj=>hrd j (List.mem_cons_of_mem _ hj);have hdl:(B.es.drop e).length=n:=by rw[List.length_drop];omega
 have hsrcx:SrcOf hp' B.sz (.lsl i e n cap B.sz) (B.es.drop e) [i]:=by
  have:=SrcOf.lsl (s:=B.sz) (hp:=hp') (i:=i) (e:=e) (n:=n) (cap:=cap) (B:=B) (zv hi h7s.2) (by omega);rwa[List.take_of_length_le (by omega)] at this
 obtain⟨xs0,cc,hflat0,⟨a0,hx⟩,_,hrun0⟩:=hsrcx.run (P:=P) mem hxv;obtain⟨b,c2,hb,hx2,hnc,hcm,hcap,N,hN,hcN⟩:=hxv;rw[hx,hdl] at hx2;simp only[Value.slice.injEq,true_and] at hx2;obtain⟨rfl,rfl⟩:=hx2;rw[hdl] at hx;obtain⟨xs,c',hflat,⟨a',hy⟩,_,hrun⟩:=h14'.run (P:=P) mem hyv;obtain⟨⟨E',sz'⟩,h5⟩:=Option.isSome_iff_exists.1 h5;have hn:=hrun es.length (Nat.le_refl _);rw[hy,←hflat.1,List.take_length] at hn;have hne:i≠id:=fun e=>by subst e;rw[hidh] at hi;cases hi
 have happ:B.es.drop e++es=(B.es++es).drop e:=by rw[List.drop_append_of_le_length (by omega)]
 by_cases hroom:n+es.length≤cc;have hle:(B.es.length+es.length) * B.sz≤N:=Nat.le_trans (Nat.mul_le_mul_right _ (by omega)) hcN
 obtain⟨w',r1,r2,r3,r4⟩:=mem.storeEls (P:=P) (e:=B.es.length) (es':=B.es++es) h7s.2 hi hb hflat (hflat.one h12) hN hle (fun q el hq=>by
  by_cases hql:q< B.es.length;rw[List.getElem?_append_left hql] at hq;exact .inr ⟨.inl hql,hq⟩;rw[List.getElem?_append_right (by omega)] at hq;have:=(List.getElem?_eq_some_iff.1 hq).1;exact .inl ⟨by omega,by omega,hq⟩) (by simpa using hle)
 have hsub:∀j B',upd hp' i none j=some B'→upd hp' i (some ⟨B.ty,B.sz,B.es++es⟩) j=some B'∧j≠i:=fun j B' hj=>by
  by_cases hji:j=i;subst hji;rw[aX] at hj;cases hj;rw[bh _ _ hji] at hj;exact⟨by rw[bh _ _ hji];exact hj,hji⟩
 have hfg:=r2.forget (hp':=upd hp' i none) fun j B' hj=>(hsub j B' hj).1;have hrv:=sR (e:=e) (c:=cc) (B:=⟨B.ty,B.sz,B.es++es⟩) r2 (aX _ _ _) h7s.2 hb hsub (by simp;omega) hcm;have hr:=lO (P:=P) (w:=w) (w':=w') (b:=b) (off:=e* B.sz) (n:=n) (m:=es.length) (c:=cc) (c':=c') (a':=a') (new:=xs.toArray) h4 h5 hroom o.type (hn w rfl) (by rw[←Nat.add_mul,h10];simpa using r1);refine .inl ⟨.slice (some ⟨b,e* B.sz,none⟩) (n+es.length) cc,w',β,.inl ?_,hfg.1,?_,r3.trans hfg.2 (by omega),fun j hj=>rfl⟩;simp only[execOp,ho,resolve,h1,h2,Sem.run_bind,Sem.run_pure,Result.andThen_ok,invoke,builtin,List.map_toArray,List.map_cons,List.map_nil,hx,hy,h3,hr];rw[happ];have el:(B.es++es).length- e=n+es.length:=by simp;omega
 rw[←el];exact hrv;have hold:=hrun0 n (by omega);rw[hx,show n* B.sz=xs0.length by rw[hflat0.1,hdl],List.take_length] at hold;obtain⟨nc,z,g1,g2,g3,hr⟩:=iL (w:=w) (n:=n) (m:=es.length) (c:=cc) (c':=c') (a':=a') (base:=some ⟨b,e* B.sz,none⟩) h4 h5 h15 h17 (by omega) h18 h19 o.type hold hn;have hzs:z.size=B.sz:=by rw[←Array.length_toList,g3];exact h16
 have hdr:=mem.ext ((Below.refl w.heap.size w).drew);have hboth:=(hflat.append hflat0).stab hdr.2.toStabC
 have hal:=hdr.1.alloc (i:=id) (ty:=B.ty) (s:=B.sz) (es:=B.es.drop e++es) (cs:=xs0.toArray++xs.toArray++Builtin.zeroCells z (nc- (n+es.length))) h7s.2 hid0 hid hidh (fun k e he=>by
  obtain⟨ys,q1,q2,q3⟩:=hboth.2 k e he;refine⟨ys,q1,q2,fun j v hj=>?_⟩;have h4:=q3 j v hj;have hlt:=(List.getElem?_eq_some_iff.1 h4).1;rw[Array.getElem?_append_left (by simpa using hlt)];simpa using h4) (by have:=hboth.1;simp at this⊢;omega)
 have hsub:∀j B',upd hp' i none j=some B'→upd hp' id (some ⟨B.ty,B.sz,B.es.drop e++es⟩) j=some B'∧j≠id:=fun j B' hj=>by
  by_cases hji:j=i;subst hji;rw[aX] at hj;cases hj;rw[bh _ _ hji] at hj;have hjd:j≠id:=fun e=>by subst e;rw[hidh] at hj;cases hj
  exact⟨by rw[bh _ _ hjd];exact hj,hjd⟩
 have hfg:=hal.1.forget (hp':=upd hp' i none) fun j B' hj=>(hsub j B' hj).1;have hrv:=sR (e:=0) (c:=nc) (B:=⟨B.ty,B.sz,B.es.drop e++es⟩) hal.1 (aX _ _ _) h7s.2 (aX _ _ _) hsub (by simp;omega) (by unfold maxLen;omega);refine .inl ⟨.slice (some ⟨w.heap.size,0,none⟩) (n+es.length) nc,_,_,.inl ?_,hfg.1,?_,(hdr.2.trans hal.2 (Nat.le_refl _)).trans hfg.2 (by simp),fun j hj=>bh _ _ hj⟩;simp only[execOp,ho,resolve,h1,h2,Sem.run_bind,Sem.run_pure,Result.andThen_ok,invoke,builtin,List.map_toArray,List.map_cons,List.map_nil,hx,hy,h3,hr];have el:(B.es.drop e++es).length- 0=n+es.length:=by simp;omega
 rw[el,List.drop_zero,Nat.zero_mul] at hrv;exact hrv
section
variable {sz:Nat}{fr fr':Fr}{hp ex:Hp}{nx N TS TQ:Nat}{o o':Lc}{L:List Lc}{e:Lc}{k:Nat}
end
theorem FSpec.xs{P:Program}{f:Nat}{args:La}{r:AV}(h:FSpec P f args r)(hr:Closed r):XSpec P f args [] 1 r [] 1:=by
 have e0:∀(M:Nat→Prop) (b:Bq),MM M b (au [])=M:=fun M b=>by funext c;simp[MM,au,look]
 refine⟨h.enters,fun M w0 β vals hgh mem hfree hargs=>?_⟩;rw[e0] at hargs;refine(h.calls M w0.w vals ⟨fun b hb=>w0.lt b (mem.m0 b hb).1,fun hb=>(mem.m0 GT hb).2 rfl,mem.tab⟩ (dV h.cl hargs)).mono ?_;rintro e w' ⟨y,rfl,hy,hb⟩;have hmx:=mem.ext hb;refine⟨y,β,rfl,hmx.1,?_,hfree⟩;rw[e0];exact Af hr hy (fun _ _ _ _=>rfl) (fun b _ _ hm=>hm) fun _ _ h=>h
theorem look_mem':∀{fr:Fr} {t:Nat} {x:AV},look fr t=some x→(t,x)∈fr
 |[],_,_,h=>by cases h
 |(s,y)::fr,t,x,h=>by
  rw[cy] at h;unfold upd at h;split at h
  ·rename_i e;cases h;subst e;exact List.mem_cons_self ..
  exact List.mem_cons_of_mem _ (look_mem' h)
theorem SEnt.keep{fr fr':Fr}{hp:Hp}{nx nx' n:Nat}(hk:∀p∈fr',look fr p.1=some p.2)(hn:nx≤nx'):SEnt ⟨fr,hp,nx,n⟩ ⟨fr',hp,nx',n⟩:=fun M w0 a w ⟨β,mem,h1,hfr,hfree,hd⟩=>
 ⟨β,mem,h1,fun t x h=>hfr t x (hk (t,x) (look_mem' h)),fun i hi=>hfree i (Nat.le_trans hn hi),hd⟩
end Go.Abs
namespace Go.Abs
theorem SEnt.cut{fr:Fr}{hp hp':Hp}{nx n:Nat}(i m:Nat){B:ABlk}(h1:au hp i=some B)(hz:B.sz≠0)(h2:∀j,au hp' j=if j=i then some ⟨B.ty,B.sz,B.es.take m⟩ else au hp j):SEnt ⟨fr,hp,nx,n⟩ ⟨fr,hp',nx,n⟩:=by
 rintro M0 w0 a w ⟨β,hm,hn,hf,hb,hd⟩
 have back:∀j B',au hp' j=some B'→∃B0,au hp j=some B0∧B0.sz=B'.sz∧B0.ty=B'.ty∧(B'=B0∨j=i∧B'=⟨B.ty,B.sz,B.es.take m⟩):=fun j B' h=>by
  rw[h2] at h;by_cases e:j=i;rw[if_pos e] at h;cases h;exact⟨B,by rw[e];exact h1,rfl,rfl,.inr ⟨e,rfl⟩⟩;rw[if_neg e] at h;exact⟨B',h,rfl,rfl,.inl rfl⟩
 have st:Stab (MM M0 β (au hp)) (MM M0 β (au hp')) β β w w:=⟨⟨fun _ _ _ _=>rfl,fun b _ _ hb=>hb.imp id fun⟨j,B',s,g1,g2⟩=>by
  obtain⟨B0,g3,g4,_⟩:=back j B' g1;exact⟨j,B0,s,g3,g2⟩,fun _ _ h=>h,fun _ _ h=>h⟩,fun _ _ _=>rfl⟩
 refine⟨β,⟨hm.below,hm.m0,hm.rng,fun h0=>hm.pin ?_,fun j B' hj=>?_,fun j k B' B'' b s s' g1 g2=>?_⟩,hn,fun t x ht=>st.toStabC.all (hf t x ht),hb,hd⟩;obtain⟨B',hB'⟩:=Option.isSome_iff_exists.1 h0;obtain⟨B0,g3,_⟩:=back 0 B' hB';show(au hp 0).isSome=true;rw[g3];rfl;obtain⟨B0,g3,g4,g5,g6⟩:=back j B' hj;obtain⟨b,k1,k2⟩:=hm.blk j B0 g3;refine⟨b,by rw[←g4];exact k1,?_⟩;have k3:=k2.stab st.toStabC rfl;rcases g6 with e|⟨e,e2⟩
 rw[e];exact k3;subst e;rw[h1] at g3;cases g3;rw[e2];rcases k3 with⟨q1,cs,q2,q3,q4⟩|⟨q1,_⟩
 exact .inl ⟨hz,cs,q2,RVess.take m q3,Nat.le_trans (Nat.mul_le_mul_right _ (by rw[List.length_take];exact Nat.min_le_right _ _)) q4⟩;exact absurd q1 hz;obtain⟨B0,g3,_⟩:=back j B' g1;obtain⟨B1,g4,_⟩:=back k B'' g2;exact hm.inj j k B0 B1 b s s' g3 g4
end Go.Abs
namespace Go.Abs
open Go.RowKit
theorem FinE.none{P:Program}{fr:Fr}{hp:Hp}{nx n ty sz:Nat}{E' es:Lc}{x:Exit}(hx:x= .normal∨x= .ret)(hb:au hp 0=some ⟨ty,sz,es⟩)(he:es=E'):FinE P [] ty sz E' (.tuple #[]) x ⟨fr,hp,nx,n⟩:=by
 refine⟨hx,⟨[],rfl,fun M0 w0 β w y _ h=>?_⟩,by rw[←he];exact hb⟩;obtain⟨ys,e,h2⟩:=h;subst e;have:ys= #[]:=Array.ext' h2;subst this;rfl
end Go.Abs
namespace Go.Abs
section
variable {b n k:Nat}{l:Ln}
def az(b n:Nat):Ln:=
 if _h:b≤1∨n=0 then [] else n % b::az b (n/ b)
termination_by n
decreasing_by exact Nat.div_lt_self (by omega) (by omega)
def ofD(b:Nat):Ln→Nat
 |[]=>0
 |d::l=>d+b* ofD b l
theorem ct(b:Nat):az b 0=[]:=by rw[az];simp
theorem eg(hb:1< b)(hn:0< n):az b n=n % b::az b (n/ b):=by rw[az,dif_neg (by omega)]
theorem bt(hb:1< b)(n:Nat):ofD b (az b n)=n:=by
 induction n using Nat.strongRecOn with
 |_ n ih=>
  rcases Nat.eq_zero_or_pos n with rfl|hn
  rw[ct];rfl;rw[eg hb hn,ofD,ih _ (Nat.div_lt_self hn hb)];exact Nat.mod_add_div n b
theorem dn(hb:1< b)(n:Nat):∀d∈az b n,d< b:=by
 induction n using Nat.strongRecOn with
 |_ n ih=>
  rcases Nat.eq_zero_or_pos n with rfl|hn
  rw[ct];simp;rw[eg hb hn];intro d hd;rcases List.mem_cons.1 hd with rfl|hd
  exact Nat.mod_lt _ (by omega);exact ih _ (Nat.div_lt_self hn hb) d hd
def IsD(b:Nat)(l:Ln):Prop:=(∀d∈l,d< b)∧l.getLast?≠some 0
theorem qF(hb:1< b)(n:Nat):(az b n).getLast?≠some 0:=by
 induction n using Nat.strongRecOn with
 |_ n ih=>
  rcases Nat.eq_zero_or_pos n with rfl|hn
  rw[ct];simp;rw[eg hb hn];have h1:=ih _ (Nat.div_lt_self hn hb);rw[List.getLast?_cons];intro h;by_cases h0:az b (n/ b)=[];rw[h0] at h;simp only[List.getLast?_nil,Option.getD_none,Option.some.injEq] at h
  have hz:n/ b=0:=by
   have:=bt hb (n/ b);rw[h0] at this;exact this.symm
  have:=Nat.mod_add_div n b;rw[hz] at this;omega;cases hl:(az b (n/ b)).getLast? with
  |none=>simp_all
  |some x=>
   grind
theorem ofD_pos(h:IsD b l)(hl:l≠[]):0< ofD b l:=by
 induction l with
 |nil=>grind
 |cons d l ih=>
  rw[ofD];by_cases h0:l=[];subst h0;have h2:=h.2;simp at h2;omega;have hb:0< b:=by have:=h.1 d (List.mem_cons_self ..);omega
  have:0< ofD b l:=ih ⟨fun x hx=>h.1 x (List.mem_cons_of_mem _ hx),by
   have h2:=h.2;grind⟩ h0
  have:=Nat.mul_pos hb this;omega
theorem tX{b:Nat}(hb:1< b):∀{l:Ln},IsD b l→az b (ofD b l)=l
 |[],_=>ct b
 |d::l,h=>by
  have hp:=ofD_pos h (by simp);have hd:=h.1 d (List.mem_cons_self ..)
  have hl:IsD b l:=⟨fun x hx=>h.1 x (List.mem_cons_of_mem _ hx),by
   have h2:=h.2;grind⟩
  rw[eg hb hp];have e1:ofD b (d::l) % b=d:=by rw[ofD,Nat.add_mul_mod_self_left];exact Nat.mod_eq_of_lt hd
  have e2:ofD b (d::l) / b=ofD b l:=by rw[ofD,Nat.add_mul_div_left _ _ (by omega),Nat.div_eq_of_lt hd];omega
  rw[e1,e2,tX hb hl]
theorem fY(b:Nat)(l m:Ln):ofD b (l++m)=ofD b l+b^ l.length* ofD b m:=by
 induction l with
 |nil=>simp[ofD]
 |cons d l ih=>simp only[List.cons_append,ofD];grind
theorem fv(h:∀d∈l,d< b):ofD b l< b^ l.length:=by
 induction l with
 |nil=>simp[ofD]
 |cons d l ih=>
  have h1:=ih fun x hx=>h x (List.mem_cons_of_mem _ hx);have h2:=h d (List.mem_cons_self ..);rw[ofD,List.length_cons,Nat.pow_succ];have:b* (ofD b l+1)≤b* b^ l.length:=Nat.mul_le_mul_left _ h1;grind
theorem pX(b k:Nat):ofD b (List.replicate k 0)=0:=by
 induction k with
 |zero=>rfl
 |succ k ih=>rw[List.replicate_succ,ofD,ih];simp
theorem dQ(b k:Nat)(l:Ln)(h:k≤l.length):ofD b l=ofD b (l.take k)+b^ k* ofD b (l.drop k):=by
 conv=>lhs;rw[←List.take_append_drop k l]
 rw[fY,List.length_take,Nat.min_eq_left h]
def fg:Ln→Ln
 |[]=>[]
 |d::l=>match fg l with
  |[]=>if d=0 then [] else [d]
  |e::m=>d::e::m
theorem uP(b:Nat):∀l,ofD b (fg l)=ofD b l
 |[]=>rfl
 |d::l=>by
  have ih:=uP b l;unfold fg;split
  ·rename_i h
   rw[h] at ih;split
   ·rename_i h0;subst h0;show 0=0+b* ofD b l;rw[←ih];simp[ofD]
   show d+b* ofD b []=d+b* ofD b l;grind
  ·rename_i e m h
   rw[h] at ih;show d+b* ofD b (e::m)=d+b* ofD b l;rw[ih]
theorem se:∀l,(fg l).getLast?≠some 0
 |[]=>by simp[fg]
 |d::l=>by
  have ih:=se l;unfold fg;grind
theorem uO:∀l,∀d∈fg l,d∈l
 |[],d,h=>by simp[fg] at h
 |a::l,d,h=>by
  have ih:=uO l;unfold fg at h;grind
theorem jr(hb:1< b)(h:∀d∈l,d< b):fg l=az b (ofD b l):=by
 rw[←uP b l];exact(tX hb ⟨fun d hd=>h d (uO l d hd),se l⟩).symm
theorem kV:∀(l:Ln) (k:Nat),k≤l.length→(∀i,k≤i→i< l.length→l[i]?=some 0)→(k=0∨l[k- 1]?≠some 0)→fg l=l.take k
 |[],k,hk,_,_=>by simp[fg]
 |d::l,k,hk,hz,hl=>by
  cases k with
  |zero=>
   have h1:=kV l 0 (Nat.zero_le _) (fun i _ hi=>by have:=hz (i+1) (by omega) (by grind);grind) (.inl rfl);have h2:=hz 0 (Nat.le_refl _) (by simp);simp only[List.getElem?_cons_zero,Option.some.injEq] at h2;simp[fg,h1,h2]
  |succ k=>
   have hz':∀i,k≤i→i< l.length→l[i]?=some 0:=fun i h1 hi=>by have:=hz (i+1) (by omega) (by grind);grind
   simp only[Nat.add_sub_cancel] at hl;cases k with
   |zero=>
    have h1:=kV l 0 (Nat.zero_le _) hz' (.inl rfl);simp at hl;simp[fg,h1,hl]
   |succ k=>
    have hlen:k+1≤l.length:=by grind
    have h1:=kV l (k+1) hlen hz' (.inr (hl.elim (fun h=>absurd h (by omega)) fun h=>by grind));cases l with
    |nil=>grind
    |cons e m=>
     simp only[List.take_succ_cons] at h1⊢;rw[fg,h1]
def bl(n:Nat):Nat:=if n=0 then 0 else n.log2+1
theorem th(n:Nat):n< 2^ bl n:=by
 unfold bl;split
 ·grind
 exact Nat.lt_log2_self
theorem iW(h:n< 2^ k):bl n≤k:=by
 unfold bl;split;omega
 ·rename_i hn;exact(Nat.log2_lt hn).2 h
theorem bl_lt(h:bl n≤k):n< 2^ k:=Nat.lt_of_lt_of_le (th n) (Nat.pow_le_pow_right (by omega) h)
theorem dw{m:Nat}(h:m≤n):bl m≤bl n:=iW (Nat.lt_of_le_of_lt h (th n))
theorem gT(m n:Nat):bl (m* n)≤bl m+bl n:=by
 refine iW ?_;rw[Nat.pow_add];exact Nat.mul_lt_mul'' (th m) (th n)
theorem xq(m n:Nat):bl (m+n)≤max (bl m) (bl n)+1:=by
 refine iW ?_;have h1:m< 2^ max (bl m) (bl n):=bl_lt (Nat.le_max_left _ _);have h2:n< 2^ max (bl m) (bl n):=bl_lt (Nat.le_max_right _ _);grind
theorem bl_zero:bl 0=0:=rfl
theorem j9:bl 1=1:=by decide
theorem F5(h:0< n):0< bl n:=by unfold bl;grind
theorem bu(hb:1< b)(n:Nat):(az b n).length≤bl n:=by
 induction n using Nat.strongRecOn with
 |_ n ih=>
  rcases Nat.eq_zero_or_pos n with rfl|hn
  rw[ct];simp;rw[eg hb hn,List.length_cons];have h1:=ih _ (Nat.div_lt_self hn hb)
  have h2:bl (n/ b)+1≤bl n:=by
   have hle:n/ b≤n/ 2:=Nat.div_le_div_left hb (by omega)
   have h3:bl (n/ 2)+1≤bl n:=by
    have hlt:=th n;have hp:=F5 hn
    have:n/ 2< 2^ (bl n- 1):=by
     rw[Nat.div_lt_iff_lt_mul (by omega)];simp_all
    have:=iW this;omega
   have:=dw hle;omega
  omega
theorem eH(hb:1< b)(h:n< b^ k):(az b n).length≤k:=by
 induction k generalizing n with
 |zero=>have:n=0:=by grind
        subst this;rw[ct];simp
 |succ k ih=>
  rcases Nat.eq_zero_or_pos n with rfl|hn
  rw[ct];simp;rw[eg hb hn];have:n/ b< b^ k:=by rw[Nat.div_lt_iff_lt_mul (by omega)];exact h
  grind
theorem fC(hb:1< b):az b n=[]↔n=0:=by
 constructor;intro h;have:=bt hb n;rw[h] at this;exact this.symm;rintro rfl;exact ct b
end
abbrev MB:Nat:=1000000000
def u32(d:Nat):AV:= .v (.int .u32 d)
def i64(z:Int):AV:= .v (.int .i64 z)
def u64(z:Int):AV:= .v (.int .u64 z)
def bln(b:Bool):AV:= .v (.bool b)
def dE(l:Ln):Lc:=l.map fun d=>[u32 d]
def mag(n:Nat):AV:= .arr (dE (az MB n))
@[simp] theorem mX (l:Ln):(dE l).length=l.length:=by simp[dE]
theorem dy{l:Ln}{i d:Nat}(h:l[i]?=some d):(dE l)[i]?=some [u32 d]:=by simp[dE,h]
theorem CX(l:Ln)(k:Nat):(dE l).take k=dE (l.take k):=by simp[dE]
theorem kI(l m:Ln):dE (l++m)=dE l++dE m:=by simp[dE]
theorem gO(l:Ln)(i d:Nat):(dE l).set i [u32 d]=dE (l.set i d):=by simp[dE,List.map_set]
theorem gP(k:Nat):List.replicate k [u32 0]=dE (List.replicate k 0):=by simp[dE]
theorem eI(l:Ln):(dE l).all (·.all AV.one)=true:=by simp[dE,u32,AV.one];intros;rfl
theorem xa(l:Ln):∀e∈dE l,e.length=1:=by intro e he;simp[dE] at he;obtain⟨d,_,rfl⟩:=he;rfl
theorem bz(l:Ln):∀e∈dE l,∀c∈e,Closed c:=by
 intro e he c hc;simp[dE] at he;obtain⟨d,_,rfl⟩:=he;simp at hc;subst hc;exact ag _
theorem cQ(l:Ln):Closed (.arr (dE l)):=aR (bz l)
theorem bU(n:Nat):Closed (mag n):=cQ _
theorem ai:∀a∈([]:La),Closed a:=fun _ h=>by cases h
theorem ae{a:AV}{l:La}(h:Closed a)(h':∀a∈l,Closed a):∀b∈a::l,Closed b:=by
 intro b hb;rcases List.mem_cons.1 hb with rfl|hb
 exact h;exact h' b hb
theorem AEval.lenD{P:Program}{id:Nat}{ev:Operand→Option AV}{hp:Hq}{c:Call}{x:Operand}{T:Nat}{d:Nat×Nat}{l:Ln}(hc:c.callee= .builtin .len)(ha:c.args= #[x])(ht:c.argTypes= #[T])(hx:ev x=some (.arr (dE l)))(he:dT P T=some d):
    AEval P id ev hp (.call c) ⟨.v (.int .i64 (l.length:Nat)),[]⟩ []:= .len hc ha ht hx (by simp[rn]) he
section
variable {α:Type}{k d b n:Nat}{l:Ln}
theorem gI(b:Nat)(s:Ln)(v:Nat):ofD b (s++[v])=ofD b s+b^ s.length* v:=by rw[fY];simp[ofD]
theorem dA{l:List α}{x:α}(h:l[k]?=some x):l.take (k+1)=l.take k++[x]:=by
 rw[List.take_add_one,h];rfl
theorem cV(b:Nat)(h:l[k]?=some d):ofD b (l.take (k+1))=ofD b (l.take k)+b^ k* d:=by
 have hk:k< l.length:=(List.getElem?_eq_some_iff.1 h).1;rw[dA h,gI,List.length_take,Nat.min_eq_left (by omega)]
theorem eE(b:Nat)(l:Ln)(k:Nat):ofD b (l.take (k+1))=ofD b (l.take k)+b^ k* (l[k]?.getD 0):=by
 cases h:l[k]? with
 |some d=>exact cV b h
 |none=>rw[List.getElem?_eq_none_iff] at h;rw[List.take_of_length_le (by omega),List.take_of_length_le (by omega)];simp
theorem gH(b:Nat)(h:l.length≤k):ofD b (l.take k)=ofD b l:=by rw[List.take_of_length_le h]
theorem kp(b:Nat)(h:l[k]?=some d):ofD b (l.drop k)=d+b* ofD b (l.drop (k+1)):=by
 rw[List.drop_eq_getElem_cons (List.getElem?_eq_some_iff.1 h).1,ofD];grind
theorem oR(b:Nat):∀{l:Ln} {j d:Nat} (v:Nat),l[j]?=some d→ofD b (l.set j v)+b^ j* d=ofD b l+b^ j* v
 |[],_,_,_,h=>by grind
 |x::l,0,d,v,h=>by simp at h;simp[ofD];omega
 |x::l,j+1,d,v,h=>by
  simp only[List.getElem?_cons_succ] at h;have:=oR b v h;rw[List.set_cons_succ,ofD,ofD];grind
theorem rI{j v:Nat}{p:Nat→Prop}(h:∀d∈l,p d)(hv:p v):∀d∈l.set j v,p d:=by grind
theorem Dd{cs vs:List α}(h:vs.length=cs.length):eR cs 0 vs=vs:=by
 apply List.ext_getElem?;intro j;rw[eA];grind
theorem xP{cs vs:List α}(h:vs.length≤cs.length):eR cs 0 vs=vs++cs.drop vs.length:=by
 apply List.ext_getElem?;intro j;rw[eA];grind
theorem xM(s:Ln)(m v i:Nat)(hi:i=s.length):(s++List.replicate (m+1) 0).set i v=(s++[v])++List.replicate m 0:=by
 subst hi;grind
theorem yu(s:Ln)(m i:Nat)(hi:i=s.length):(s++List.replicate (m+1) 0)[i]?=some 0:=by grind
theorem cJ{i:Nat}(hb:1< b)(h:(az b n)[i]?=some d):d< b:=dn hb n d (List.mem_of_getElem? h)
theorem Bs(h0:0< n)(h:n< MB):az MB n=[n]:=by
 rw[eg (by decide) h0,Nat.div_eq_of_lt h,ct,Nat.mod_eq_of_lt h]
theorem DW(hb:1< b)(n k:Nat):(az b n).drop k=az b (ofD b ((az b n).drop k)):=by
 symm;refine tX hb ⟨fun d hd=>dn hb n d (List.mem_of_mem_drop hd),?_⟩;by_cases hk:k< (az b n).length;rw[List.getLast?_drop,if_neg (by omega)];exact qF hb n;grind
theorem rf(hb:1< b):b^ ((az b n).length- 1)≤n∨n=0:=by
 rcases Nat.eq_zero_or_pos n with h|h
 exact .inr h;have hne:az b n≠[]:=fun e=>by have:=(fC hb).1 e;omega
 have hl:=qF hb n;obtain⟨s,x,e⟩:∃s x,az b n=s++[x]:=⟨_,_,(List.dropLast_concat_getLast hne).symm⟩;have h1:=bt hb n;rw[e,gI] at h1;rw[e] at hl;simp at hl;rw[e];simp;have:b^ s.length* 1≤b^ s.length* x:=Nat.mul_le_mul_left _ (by omega);omega
theorem jm{m:Nat}(hb:1< b)(h:(az b m).length< (az b n).length):m< n:=by
 have h1:=fv (b:=b) (dn hb m);rw[bt hb] at h1;rcases rf (n:=n) hb with h2|h2
 have:b^ (az b m).length≤b^ ((az b n).length- 1):=Nat.pow_le_pow_right (by omega) (by omega);omega;subst h2;rw[ct] at h;grind
theorem ym{m:Nat}(hb:1< b)(h:m≤n):(az b m).length≤(az b n).length:=by
 rcases Nat.lt_or_ge (az b n).length (az b m).length with h1|h1
 have:=jm hb h1;omega;grind
def jJ(n k:Nat):Nat:=ofD MB ((az MB n).drop k)
def uB(n k:Nat):Ln:=(az MB n).take k
theorem sV(n:Nat):jJ n 0=n:=bt (by decide) n
theorem hY(n:Nat):uB n 0=[]:=rfl
theorem EK(n:Nat):uB n (az MB n).length=az MB n:=List.take_length
theorem l5(h:k≤(az MB n).length):(uB n k).length=k:=by simp[uB,Nat.min_eq_left h]
theorem sX(h:k< (az MB n).length):jJ n (k+1)=jJ n k/ MB∧uB n (k+1)=uB n k++[jJ n k % MB]:=by
 have hd:(az MB n)[k]?=some (az MB n)[k]:=List.getElem?_eq_getElem h;have h1:=kp MB hd;have h2:(az MB n)[k]< MB:=cJ (by decide) hd;constructor;unfold jJ;rw[h1,Nat.add_mul_div_left _ _ (by decide),Nat.div_eq_of_lt h2];omega;unfold uB jJ;rw[dA hd,h1,Nat.add_mul_mod_self_left,Nat.mod_eq_of_lt h2]
theorem EC(hk:k≤(az MB n).length):jJ n k≤n:=by
 have:=dQ MB k _ hk;rw[bt (by decide)] at this;have h2:=Nat.le_mul_of_pos_left (ofD MB ((az MB n).drop k)) (Nat.pow_pos (n:=k) (show 0< MB by decide));unfold jJ;omega
theorem ED(hk:k≤(az MB n).length):jJ n k=0↔k=(az MB n).length:=by
 constructor;intro e;have:=DW (b:=MB) (by decide) n k;rw[show ofD MB ((az MB n).drop k)=0 from e,ct,List.drop_eq_nil_iff] at this;omega;intro e;unfold jJ;rw[e,List.drop_length];rfl
end
def ew(a b:Int):Int:=if a< b then -1 else if b< a then 1 else 0
theorem lI{a b:Int}(h:a< b):ew a b= -1:=by simp[ew,h]
theorem mZ{a b:Int}(h:b< a):ew a b=1:=by simp[ew];omega
theorem C2{a b:Int}(h:a=b):ew a b=0:=by simp[ew];omega
theorem rW{a b:Int}:ew a b≠0↔a≠b:=by unfold ew;split <;>(try split)<;> omega
theorem mM{b i x y:Nat}{l m:Ln}(hl:∀d∈l,d< b)(hx:l[i]?=some x)(hy:m[i]?=some y)(hd:l.drop (i+1)=m.drop (i+1))(hlt:x< y):ofD b l< ofD b m:=by
 have hi:i< l.length:=(List.getElem?_eq_some_iff.1 hx).1;have hj:i< m.length:=(List.getElem?_eq_some_iff.1 hy).1;rw[dQ b i l (by omega),dQ b i m (by omega),kp b hx,kp b hy,hd]
 have h1:ofD b (l.take i)< b^ i:=by
  have:=fv (b:=b) (l:=l.take i) fun d hd=>hl d (List.mem_of_mem_take hd);rwa[List.length_take,Nat.min_eq_left (by omega)] at this
 have h2:b^ i* (x+b* ofD b (m.drop (i+1))+1)≤b^ i* (y+b* ofD b (m.drop (i+1))):=Nat.mul_le_mul_left _ (by omega);rw[Nat.mul_add _ _ 1] at h2;omega
theorem pc(s t:Ln)(x:Nat)(i:Nat)(hi:i=s.length):(s++x::t)[i]?=some x:=by subst hi;simp
theorem oz(s t:Ln)(x v:Nat)(i:Nat)(hi:i=s.length):(s++x::t).set i v=(s++[v])++t:=by
 subst hi;rw[List.set_append_right _ _ (Nat.le_refl _)];simp
theorem fH{l:Ln}{i x:Nat}(h:l[i]?=some x):l.drop i=x::l.drop (i+1):=by
 rw[List.drop_eq_getElem_cons (List.getElem?_eq_some_iff.1 h).1,(List.getElem?_eq_some_iff.1 h).2]
end Go.Abs
