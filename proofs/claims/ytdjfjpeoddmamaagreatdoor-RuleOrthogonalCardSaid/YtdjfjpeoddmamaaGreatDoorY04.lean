/- Part Y04 of the proof. -/
import Derived.Test.YtdjfjpeoddmamaaGreatDoorY03
set_option linter.all false
namespace Go.Abs
open Go.RowKit
section
variable {ρ:Option Nat}{P:Program}{Q:Exit→AState→Prop}{st:AState}
theorem ax_ {α:Type} {c:Code} (S:α→AState) (m:α→Nat) (Inv:α→Prop) (a0:α) (hi:Inv a0) (h0:SEnt st (S a0))
    (round:∀a,Inv a→AWp ρ P c (thenA (fun s'=> ∃a',m a'< m a∧Inv a'∧SEnt s' (S a')) Q) (S a)):AWp ρ P (.loop c) Q st:=by
 refine AWp.loop (fun n s=> ∃a,m a=n∧Inv a∧SEnt s (S a)) (m:=m a0) ⟨a0,rfl,hi,h0⟩ ?_
 rintro n s ⟨a,rfl,ha,hs⟩
 refine AWp.mono (AWp.ent hs (round a ha)) fun e s' h=>?_
 cases e with
 |normal=>obtain⟨a',h1,h2,h3⟩:=h;exact⟨m a',h1,a',rfl,h2,h3⟩
 |_=>exact h
end
section
variable {r:Ren}{hp hp':Nat→Option ABlk}{fr:Fr}
theorem au_{t:Nat}{x x0:AV}{l:Fr}(h:Abs.look fr t=some x0)(hc:Cv r hp hp' x0 x)(hl:CvF r hp hp' fr l):CvF r hp hp' fr ((t,x)::l):=⟨⟨x0,h,hc⟩,hl⟩
theorem aA_:CvF r hp hp' fr []:=trivial
theorem ap_:CvH r hp hp' []:=trivial
theorem al_{i:Nat}{B B0:ABlk}{l:Hp}(hi:Nat.blt i r.n=true)(h:hp (r.s i)=some B0)(ht:B0.ty=B.ty)(hz:B0.sz=B.sz)(hc:CvLL r hp hp' B0.es B.es)(hl:CvH r hp hp' l):CvH r hp hp' ((i,some B)::l):=
 ⟨⟨Nat.le_of_ble_eq_true hi,B0,h,ht,hz,hc⟩,hl⟩
theorem ShrL.nil:ShrL r hp []:=trivial
theorem ShrL.cons{i:Nat}{B B0:ABlk}{l:Hp}(hi:Nat.blt i r.n=true)(h:hp (r.s i)=some B0)(ht:B0.ty=B.ty)(hz:B0.sz=B.sz)(hc:B0.es.length=B.es.length)(hl:ShrL r hp l):ShrL r hp ((i,some B)::l):=
 ⟨⟨Nat.le_of_ble_eq_true hi,B0,h,ht,hz,hc⟩,hl⟩
theorem ao_:CvL r hp hp' [] []:=rfl
theorem af_{x y:AV}{xs ys:List AV}(h:Cv r hp hp' x y)(h':CvL r hp hp' xs ys):CvL r hp hp' (x::xs) (y::ys):=⟨y,ys,rfl,h,h'⟩
theorem CvLL.nil:CvLL r hp hp' [] []:=rfl
theorem CvLL.cons{x y:List AV}{xs ys:List (List AV)}(h:CvL r hp hp' x y)(h':CvLL r hp hp' xs ys):CvLL r hp hp' (x::xs) (y::ys):=⟨y,ys,rfl,h,h'⟩
theorem ae_{x y:List AV}(h:CvL r hp hp' x y):CvLL r hp hp' [x] [y]:=CvLL.cons h CvLL.nil
end
theorem Cv.slE{r:Ren}{hp hp':Nat→Option ABlk}{id id' i i' n n' sz:Nat}{cap cap':Option Nat}(hi:Nat.blt id' r.n=true)(hs:r.s id'=id)(hl:(hp' id').isSome=true)(e0:i=i')(e:n=n')(e':cap=cap'):Cv r hp hp' (.lsl id i n cap sz) (.lsl id' i' n' cap' sz):=by
 subst e0 e e';exact Cv.sl hi hs hl
theorem Cv.sealE{r:Ren}{hp hp':Nat→Option ABlk}{id n sz:Nat}{cap:Option Nat}{B:ABlk}{es:List (List AV)}(h:Shr r hp hp')(hi:cellF hp id=some B)(hd:Dead r hp' id)(e:B.es=es)(hn:n=es.length)(hc:∀e∈es,∀c∈e,Closed c):Cv r hp hp' (.lsl id 0 n cap sz) (.arr es):=by
 subst e hn
 refine Cv.shut h hi hd (by simp) ?_
 rw[List.drop_zero,List.take_length]
 exact aH_ h hc
def idAt(fr:Fr)(t:Nat):Nat:=match look fr t with
 |some (.lsl i ..)=>i
 |some (.lptr i ..)=>i
 |_=>0
def rnm(fr:Fr)(l:List (Nat×Nat))(n:Nat):Ren:=⟨n,fun i=>match look l i with|some t=>idAt fr t|none=>i⟩
theorem ar_ {fr fr':Fr} {hp hp':Hp} {nx nx' n:Nat} (l:List (Nat×Nat)) (hk:Nat.blt 0 nx'=true) (h0:(rnm fr l nx').s 0=0) (hinj:injL (rnm fr l nx') (hp'.map (·.1))=true) (hS:ShrL (rnm fr l nx') (lookB hp) hp')
    (hF:Shr (rnm fr l nx') (lookB hp) (lookB hp')→CvF (rnm fr l nx') (lookB hp) (lookB hp') fr fr')
    (hH:Shr (rnm fr l nx') (lookB hp) (lookB hp')→CvH (rnm fr l nx') (lookB hp) (lookB hp') hp'):SEnt ⟨fr,hp,nx,n⟩ ⟨fr',hp',nx',n⟩:=
 SEnt.intro (st:=⟨fr,hp,nx,n⟩) (st':=⟨fr',hp',nx',n⟩) (rnm fr l nx') rfl (Nat.le_of_ble_eq_true hk) h0 hinj rfl (hF hS.shr) (hH hS.shr)
theorem SEntT.to {fr fr':Fr} {hp hp':Hp} {nx nx' n:Nat} (l:List (Nat×Nat)) (hk:Nat.blt 0 nx'=true) (h0:(rnm fr l nx').s 0=0) (hinj:injL (rnm fr l nx') (hp'.map (·.1))=true) (hS:ShrL (rnm fr l nx') (lookB hp) hp')
    (hF:Shr (rnm fr l nx') (lookB hp) (lookB hp')→CvF (rnm fr l nx') (lookB hp) (lookB hp') fr fr')
    (hH:Shr (rnm fr l nx') (lookB hp) (lookB hp')→CvH (rnm fr l nx') (lookB hp) (lookB hp') hp'):SEntT ⟨fr,hp,nx,n⟩ ⟨fr',hp',nx',n⟩:=
 SEntT.intro (st:=⟨fr,hp,nx,n⟩) (st':=⟨fr',hp',nx',n⟩) (rnm fr l nx') rfl (Nat.le_of_ble_eq_true hk) h0 hinj rfl (hF hS.shr) (hH hS.shr)
section
variable {P:Program}{id:Nat}{ev:Operand→Option AV}{hp:Nat→Option ABlk}{c a b:Operand}{t:Bool}{v:AV}
theorem AEval.pickT(h:ev c=some (.v (.bool t)))(ht:t=true)(ha:ev a=some v):AEval P id ev hp (.pick c a b) ⟨v,[]⟩ []:= .pick h (fun _=>ha) (fun e=>absurd (ht.symm.trans e) (by decide))
theorem AEval.pickF(h:ev c=some (.v (.bool t)))(ht:t=false)(hb:ev b=some v):AEval P id ev hp (.pick c a b) ⟨v,[]⟩ []:= .pick h (fun e=>absurd (ht.symm.trans e) (by decide)) (fun _=>hb)
end
def cutA{α:Type}(S:α→AState)(Post:α→Prop)(Q:Exit→AState→Prop):Exit→AState→Prop
 | .normal,s=> ∃a,Post a∧SEnt s (S a)
 |e,s=>Q e s
theorem aB_{ρ:Option Nat}{P:Program}{Q:Exit→AState→Prop}{st:AState}{x y:Code}{α:Type}(S:α→AState)(Post:α→Prop)(h:AWp ρ P x (cutA S Post Q) st)(h2:∀a,Post a→AWp ρ P y Q (S a)):AWp ρ P x (thenA (AWp ρ P y Q) Q) st:=
 AWp.mono h fun e s hs=>by
  cases e with
  |normal=>obtain⟨a,h3,h4⟩:=hs;exact AWp.ent h4 (h2 a h3)
  |_=>exact hs
theorem aU_{ρ:Option Nat}{P:Program}{Q:Exit→AState→Prop}{st:AState}{x y:Code}{α:Type}(S:α→AState)(Post:α→Prop)(h:AWp ρ P x (cutA S Post Q) st)(h2:∀a,Post a→AWp ρ P y Q (S a)):AWp ρ P (.seq x y) Q st:=
 ac_ (AWp.mono h fun e s hs=>by
  cases e with
  |normal=>obtain⟨a,h3,h4⟩:=hs;exact AWp.ent h4 (h2 a h3)
  |_=>exact hs)
section
variable {P:Program}{id:Nat}{ev:Operand→Option AV}{hp:Nat→Option ABlk}{T:Nat}{x lo hi mx:Operand}{es:List (List AV)}{kl kh km:IntKind}{zl zh zm:Int}{l h m:Nat}{d:Nat×Nat}
theorem AEval.sa_h(hx:ev x=some (.arr es))(h2:ev hi=some (.v (.int kh zh)))(e2:zh=(h:Int))(hl:h≤es.length)(he:elOf P T=some d)(hel:∀e∈es,e.length=d.2):
    AEval P id ev hp (.slice T x none (some hi) none) ⟨.arr (es.take h),[]⟩ []:=by
 subst e2
 have:=AEval.slice_a (P:=P) (id:=id) (hp:=hp) (T:=T) (lo:=none) (hi:=some hi) (mx:=none) (l:=0) (h:=h) hx ⟨⟨none,rfl,.inl ⟨rfl,rfl⟩⟩,⟨some (.int kh h),by simp only[evO,h2],.inr ⟨kh,_,rfl,rfl⟩⟩,⟨none,rfl,.inl ⟨rfl,rfl⟩⟩⟩ (Nat.zero_le _) hl he (fun _=>hel)
 simpa using this
theorem AEval.sa_hm(hx:ev x=some (.arr es))(h2:ev hi=some (.v (.int kh zh)))(e2:zh=(h:Int))(h3:ev mx=some (.v (.int km zm)))(e3:zm=(m:Int))(hm:h≤m∧m≤es.length)(he:elOf P T=some d)(hel:∀e∈es,e.length=d.2):
    AEval P id ev hp (.slice T x none (some hi) (some mx)) ⟨.arr (es.take h),[]⟩ []:=by
 subst e2 e3
 have:=AEval.slice_a (P:=P) (id:=id) (hp:=hp) (T:=T) (lo:=none) (hi:=some hi) (mx:=some mx) (l:=0) (h:=h) hx ⟨⟨none,rfl,.inl ⟨rfl,rfl⟩⟩,⟨some (.int kh h),by simp only[evO,h2],.inr ⟨kh,_,rfl,rfl⟩⟩,⟨some (.int km m),by simp only[evO,h3],.inr ⟨km,_,m,rfl,rfl,hm.1,hm.2,.inr rfl⟩⟩⟩ (Nat.zero_le _) (Nat.le_trans hm.1 hm.2) he (fun _=>hel)
 simpa using this
theorem AEval.sa_l(hx:ev x=some (.arr es))(h1:ev lo=some (.v (.int kl zl)))(e1:zl=(l:Int))(hl:l≤es.length)(he:elOf P T=some d)(hel:∀e∈es,e.length=d.2):
    AEval P id ev hp (.slice T x (some lo) none none) ⟨.arr (es.drop l),[]⟩ []:=by
 subst e1
 have:=AEval.slice_a (P:=P) (id:=id) (hp:=hp) (T:=T) (lo:=some lo) (hi:=none) (mx:=none) (l:=l) (h:=es.length) hx ⟨⟨some (.int kl l),by simp only[evO,h1],.inr ⟨kl,_,rfl,rfl⟩⟩,⟨none,rfl,.inl ⟨rfl,rfl,rfl⟩⟩,⟨none,rfl,.inl ⟨rfl,rfl⟩⟩⟩ hl (Nat.le_refl _) he (fun _=>hel)
 rwa[List.take_of_length_le (by simp)] at this
end
theorem gy{t want:Bool}(h:t=want):bh_ (.bool t)=some want:=by rw[h];rfl
theorem gn{t want:Bool}(h:t=!want):bh_ (.bool t)≠some want:=by rw[h];cases want <;> simp[bh_]
theorem bmin{P:Program}{k:IntKind}{a b:Int}{tys:Array Nat}:∀w ty cs,(builtin .min tys ty cs [Value.int k a,Value.int k b].toArray).run P w= .ok (.value (.int k (if b< a then b else a))) w:=fun _ _ _=>rfl
theorem bmax{P:Program}{k:IntKind}{a b:Int}{tys:Array Nat}:∀w ty cs,(builtin .max tys ty cs [Value.int k a,Value.int k b].toArray).run P w= .ok (.value (.int k (if b> a then b else a))) w:=fun _ _ _=>rfl
section
variable {P:Program}{id:Nat}{ev:Operand→Option AV}{hp:Nat→Option ABlk}{T:Nat}{x lo hi mx:Operand}{i e n sz E:Nat}{cap:Option Nat}{kl kh km:IntKind}{zl zh zm:Int}{l h m:Nat}
theorem AEval.sl_lhm(hx:ev x=some (.lsl i e n cap sz))(h1:ev lo=some (.v (.int kl zl)))(e1:zl=(l:Int))(h2:ev hi=some (.v (.int kh zh)))(e2:zh=(h:Int))(h3:ev mx=some (.v (.int km zm)))(e3:zm=(m:Int))(hl:l< h∧h≤m∧m≤n)(he:elOf P T=some (E,sz)):
    AEval P id ev hp (.slice T x (some lo) (some hi) (some mx)) ⟨.lsl i (e+l) (h- l) (some (m- l)) sz,[]⟩ []:=by
 subst e1 e2 e3
 exact AEval.slice_l (P:=P) (id:=id) (hp:=hp) (T:=T) (lo:=some lo) (hi:=some hi) (mx:=some mx) (l:=l) (h:=h) (m:=some m) hx ⟨⟨some (.int kl l),by simp only[evO,h1],.inr ⟨kl,_,rfl,rfl⟩⟩,⟨some (.int kh h),by simp only[evO,h2],.inr ⟨kh,_,rfl,rfl⟩⟩,⟨some (.int km m),by simp only[evO,h3],.inr ⟨km,_,m,rfl,rfl,hl.2.1,hl.2.2,.inl rfl⟩⟩⟩ (by omega) (by omega) (.inr hl.1) he
end
theorem AEval.callE2 {P:Program} {id:Nat} {ev:Operand→Option AV} {hp:Nat→Option ABlk} {c:Call} {callee x0:Operand} {f i e n ty sz:Nat} {cap:Option Nat} {rest:List Operand} {as:List AV} {E E':List (List AV)} {r:Value} (h1:c.callee= .value callee) (h2:ev callee=some (.clos f [] [])) (h3:c.args.toList=x0::rest) (h4:ev x0=some (.lsl i e n cap sz)) (h5:evs ev rest=some as) (h6:cellF hp i=some ⟨ty,sz,E⟩)
    (h7:ESpec P f ty sz E E' e n cap (as.map coe) r):AEval P id ev hp (.call c) ⟨.v r,[(i,some ⟨ty,sz,E'⟩)]⟩ [i]:= .callE (B:=⟨ty,sz,E⟩) h1 h2 h3 h4 h5 h6 h7
section
variable {P:Program}{T:Nat}{x y:Operand}{a b:Bool}
theorem fO_(h:P.underlying T=some .bool)(w:World):(Op.equal T (.bool a) (.bool b)).run P w= .ok (a==b) w:=by
 unfold Op.equal
 rw[show Op.maxDepth=(Op.maxDepth- 1)+1 from rfl]
 simp[Op.equalIn,run_underlying h]
theorem binB_eql(h:P.underlying T=some .bool):∀w,(do eqGuard .eql T x y (.bool a) (.bool b);binOp .eql T (.bool a) (.bool b):Sem Value).run P w= .ok (.bool (a==b)) w:=fun w=>by
 simp[eqGuard,binOp,fO_ h]
theorem o5_(h:P.underlying T=some .bool):∀w,(do eqGuard .neq T x y (.bool a) (.bool b);binOp .neq T (.bool a) (.bool b):Sem Value).run P w= .ok (.bool (a !=b)) w:=fun w=>by
 simp[eqGuard,binOp,fO_ h];cases a <;> cases b <;> rfl
theorem o3_{s t:ByteArray}:∀w,(do eqGuard .eql T x y (.string s) (.string t);binOp .eql T (.string s) (.string t):Sem Value).run P w= .ok (.bool (s.toList==t.toList)) w:=fun w=>by
 simp[eqGuard,binOp,Op.stringOp]
theorem o1_{s t:ByteArray}:∀w,(do eqGuard .neq T x y (.string s) (.string t);binOp .neq T (.string s) (.string t):Sem Value).run P w= .ok (.bool !(s.toList==t.toList)) w:=fun w=>by
 simp[eqGuard,binOp,Op.stringOp]
end
theorem ld_{n:Int}(h: -18446744073709551616≤n∧n< 0):IntKind.u64.wrap n=n+18446744073709551616:=by
 rw[←IntWalk.u64_in (n+18446744073709551616) (by omega)]
 simp only[IntKind.wrap,IntKind.signed,IntKind.bits]
 simp
theorem cU64n{P:Program}{S D:Nat}{k:IntKind}{n:Int}(h: -18446744073709551616≤n∧n< 0){d:TypeDesc}(hs:P.underlying S=some d)(hd:P.underlying D=some (.int .u64)):∀w,(convert S D (.int k n)).run P w= .ok (.int .u64 (n+18446744073709551616)) w:=fun w=>by
 simp only[convert,Sem.run_bind,run_underlying hs w,run_underlying hd w,Result.andThen_ok]
 cases d <;> simp[Conv.intToInt,ld_ h]
theorem uU64_neg{P:Program}{a:Int}(h:0< a∧a≤18446744073709551616):∀w,(Op.unary .neg (.int .u64 a)).run P w= .ok (.int .u64 (18446744073709551616- a)) w:=fun w=>by
 rw[un_neg,ld_ (by omega)]
 rw[show 0- a+18446744073709551616=18446744073709551616- a by omega]
structure GStep (G G':Nat→Prop)(w w':World):Prop where
 os:w'.os=w.os
 tape:w'.tape=w.tape
 output:w'.output=w.output
 size:w.heap.size≤w'.heap.size
 block:∀b,b< w.heap.size→¬G b→w'.heap[b]?=w.heap[b]?
 sizes:∀b n,aN_ w b=some n→aN_ w' b=some n
 own:∀b,G' b→(G b∨w.heap.size≤b)∧b< w'.heap.size
structure GEnv (P:Program) (l:Nat) (T:Nat→Option (List AV)) (N:Nat) where
 J:Nat→Bool→(Nat→Prop)→(Nat→Prop)→World→Prop
 ok:∀k go M G G' w w',J k go M G w→GStep G G' w w'→J k go M G' w'
 bound:∀k M G w,J k true M G w→k≤N
 disj:∀k go M G w,J k go M G w→∀b,M b→b< w.heap.size∧¬G b
 tabs:∀k go M G w,J k go M G w→TabW w∧¬M GT∧¬G GT
 yok:∀k M G w as vals,J k true M G w→T k=some as→RVs (fun b=>M b∨G b) (fun _=>none) w as vals→(∀b,G b→b< w.heap.size)→
  YieldAt (FR none) 0 P l vals.toArray w fun e w'=> ∃go M',e= .returned (.bool go)∧J (k+1) go M' G w'∧GStep M M' w w'
structure GSpecB (P:Program)(g:Nat)(cap:List AV)(T:Nat→Option (List AV))(K:Nat):Prop where
 cl:∀a∈cap,Closed a
 clT:∀k as,T k=some as→∀a∈as,Closed a
 enters:∀(xs:Array Value) (w:World),(callFunc g xs).run P w= .ok (.enter g xs) w
 calls:∀(l N:Nat) (_:N≤K) (E:GEnv P l T N) (M:Nat→Prop) (w:World) (vals:List Value),E.J 0 true M (fun _=>False) w→RVs M (fun _=>none) w cap vals→
  CallsIn (FR none) 0 P g (#[.func (.yield l) #[] #[]]++vals.toArray) w fun e w'=>(∃v,e= .returned v)∧∃k go M' G',E.J k go M' G' w'∧(go=true→T k=none)
def GSpec(P:Program)(g:Nat)(cap:List AV)(T:Nat→Option (List AV)):Prop:=∀K,GSpecB P g cap T K
def gbase(w:World)(G:Nat→Prop)(h:TabW w∧¬G GT):Base:=⟨w,fun b=>b< w.heap.size∧¬G b,fun _ h=>h.1,none,fun _=>undef,⟨h.1.lt,h.2⟩,h.1⟩
section
variable {P:Program}{l N:Nat}{T:Nat→Option (List AV)}{E:GEnv P l T N}
theorem GEnv.gk(E:GEnv P l T N){k:Nat}{go:Bool}{M G:Nat→Prop}{w:World}(hj:E.J k go M G w):TabW w∧¬G GT:=⟨(E.tabs _ _ _ _ _ hj).1,(E.tabs _ _ _ _ _ hj).2.2⟩
def GRel(E:GEnv P l T N)(k:Nat)(go:Bool)(st:AState)(a:Act)(w:World):Prop:=∃M G,∃hj:E.J k go M G w,ARel M (gbase w G (E.gk hj)) st a w
def GWp(E:GEnv P l T N)(c:Code)(Q:Exit→Nat→Bool→AState→Prop)(k:Nat)(go:Bool)(st:AState):Prop:=
 ∀a w,GRel E k go st a w→c.wpIn (FR none) 0 P (fun e a' w'=> ∃k' go' st',GRel E k' go' st' a' w'∧Q e k' go' st') a w
theorem Mem.rebase{M0:Nat→Prop}{w0:Base}{β:Nat→Option (Nat×Nat)}{hp:Nat→Option ABlk}{w:World}(h:Mem M0 w0 β hp w)(w1:Base)(hw:w1.w=w)(hm:∀b,M0 b→w1.K b)(hr:∀i b s,β i=some (b,s)→¬w1.K b)(hp0:(hp 0).isSome=true→β 0=w1.pin):Mem M0 w1 β hp w:=by
 subst hw
 exact⟨⟨rfl,rfl,rfl,Nat.le_refl _,fun _ _=>rfl,fun _ _ h=>h⟩,(fun b hb=>⟨hm b hb,(h.m0 b hb).2⟩),fun i b s hi=>⟨hr i b s hi,(h.rng i b s hi).2⟩,hp0,h.blk,h.inj⟩
theorem GRel.go_on{k:Nat}{go:Bool}{st:AState}{a:Act}{w w':World}{M G:Nat→Prop}(hj:E.J k go M G w)(h:ARel M (gbase w G (E.gk hj)) st a w'):GRel E k go st a w':=by
 obtain⟨β,mem,h1,h2,h3,Ds,h4,h5,h6⟩:=h
 have hb:=mem.below
 have hst:GStep G (fun b=>(G b∨w.heap.size≤b)∧b< w'.heap.size) w w':=⟨hb.os,hb.tape,hb.output,hb.size,fun b h1 h2=>hb.block b ⟨h1,h2⟩,hb.sizes,fun b h=>h⟩
 have hj':=E.ok _ _ _ _ _ _ _ hj hst
 have hK:∀b,b< w'.heap.size→¬(gbase w G (E.gk hj)).K b→¬(gbase w' (fun b=>(G b∨w.heap.size≤b)∧b< w'.heap.size) (E.gk hj')).K b:=by
  rintro b hlt hk ⟨_,hn⟩
  refine hn ⟨?_,hlt⟩
  by_cases hG:G b
  exact .inl hG
  exact .inr (Nat.le_of_not_lt fun hl=>hk ⟨hl,hG⟩)
 refine⟨M,_,hj',β,mem.rebase (gbase w' _ (E.gk hj')) rfl (fun b hb=>?_) (fun i b s hi=>hK b (mem.rng i b s hi).2 (mem.rng i b s hi).1) mem.pin,h1,fun t x hx=>h2 t x hx,h3,Ds,h4,h5,fun D hD=>?_⟩
 have:=(mem.m0 b hb).1
 exact⟨Nat.lt_of_lt_of_le this.1 mem.below.size,fun hG=>hG.1.elim this.2 fun h=>by have:=this.1;omega⟩
 obtain⟨h7,h8⟩:=h6 D hD
 exact⟨h7,hK D (Array.getElem?_eq_some_iff.1 h7).1 h8⟩
variable {c x y:Code}{Q Q':Exit→Nat→Bool→AState→Prop}{k:Nat}{go:Bool}{st:AState}
theorem GWp.ent{st':AState}(h:SEnt st st')(hc:GWp E c Q k go st'):GWp E c Q k go st:=fun a w ⟨M,G,hj,hr⟩=>hc a w ⟨M,G,hj,h M _ a w hr⟩
theorem GWp.mono(h:GWp E c Q k go st)(hq:∀e k' go' s,Q e k' go' s→Q' e k' go' s):GWp E c Q' k go st:=fun a w hr=>
 wpIn_mono (h a w hr) fun e _ _ ⟨k',go',s,h1,h2⟩=>⟨k',go',s,h1,hq e k' go' s h2⟩
theorem GWp.bound(h:k≤N→GWp E c Q k true st):GWp E c Q k true st:=fun a w hr=>h (let ⟨M,G,hj,_⟩:=hr;E.bound k M G w hj) a w hr
theorem GWp.skip(h:Q .normal k go st):GWp E .skip Q k go st:=fun _ _ hr=>wpIn_skip ⟨k,go,st,hr,h⟩
theorem GWp.ret(h:Q .ret k go st):GWp E .ret Q k go st:=fun _ _ hr=>wpIn_ret ⟨k,go,st,hr,h⟩
theorem GWp.exit{id:Nat}(h:Q (.exit id) k go st):GWp E (.exit id) Q k go st:=fun _ _ hr=>wpIn_exit ⟨k,go,st,hr,h⟩
theorem GWp.lift(h:AWp none P c (fun e s=>Q e k go s) st):GWp E c Q k go st:=by
 rintro a w ⟨M,G,hj,hr⟩
 refine wpIn_mono (h M _ a w hr) ?_
 rintro e a' w' ⟨st',h1,h2⟩
 exact⟨k,go,st',GRel.go_on hj h1,h2⟩
def thenG(next:Nat→Bool→AState→Prop)(Q:Exit→Nat→Bool→AState→Prop):Exit→Nat→Bool→AState→Prop
 | .normal,k,go,s=>next k go s
 |e,k,go,s=>Q e k go s
theorem GWp.seq(h:GWp E x (thenG (GWp E y Q) Q) k go st):GWp E (.seq x y) Q k go st:=fun a w hr=>
 wpIn_seq (wpIn_mono (h a w hr) fun e a' w' ⟨k',go',s,h1,h2⟩=>by
  cases e with
  |normal=>exact h2 a' w' h1
  |_=>exact⟨k',go',s,h1,h2⟩)
theorem GWp.cond{c:Operand}{t:Bool}(hc:st.ev c=some (.v (.bool t)))(h1:t=true→GWp E x Q k go st)(h2:t=false→GWp E y Q k go st):GWp E (.cond c x y) Q k go st:=by
 rintro a w hr
 have hv:a.eval c= .bool t:=by
  obtain⟨_,_,_,β,mem,_,hf,_⟩:=hr
  exact hK_ hf c _ hc
 exact wpIn_cond_split hv (fun e=>h1 e a w hr) (fun e=>h2 e a w hr)
def blockG(id:Nat)(Q:Exit→Nat→Bool→AState→Prop):Exit→Nat→Bool→AState→Prop
 | .exit id',k,go,s=>if Nat.beq id' id then Q .normal k go s else Q (.exit id') k go s
 |e,k,go,s=>Q e k go s
theorem GWp.block{id:Nat}(h:GWp E c (blockG id Q) k go st):GWp E (.block id c) Q k go st:=fun a w hr=>
 wpIn_block (wpIn_mono (h a w hr) fun e a' w' ⟨k',go',s,h1,h2⟩=>by
  cases e with
  |exit id'=>
   simp only[Exit.inBlock]
   simp only[blockG] at h2
   by_cases hi:id'=id
   subst hi;simp only[if_true];rw[Nat.beq_refl,if_pos rfl] at h2;exact⟨k',go',s,h1,h2⟩
   rw[if_neg hi]
   rw[if_neg (fun hb=>hi (Nat.eq_of_beq_eq_true hb))] at h2
   exact⟨k',go',s,h1,h2⟩
  |_=>exact⟨k',go',s,h1,h2⟩)
theorem GWp.loopS {α:Type} (S:α→AState) (kk:α→Nat) (m:α→Nat) (Inv:α→Prop) (a0:α) (hi:Inv a0) (hk:kk a0=k) (h0:SEnt st (S a0))
    (round:∀a,Inv a→GWp E c (thenG (fun k' go' s'=>go'=true∧∃a',m a'< m a∧Inv a'∧kk a'=k'∧SEnt s' (S a')) Q) (kk a) true (S a)):GWp E (.loop c) Q k true st:=by
 rintro a w hr
 let R:Nat→Act→World→Prop:=fun n a w=> ∃x,Inv x∧m x=n∧GRel E (kk x) true (S x) a w
 have hR:∃f:Act→World→Nat,∀a w,(∃n,R n a w)→R (f a w) a w∧∀n,R n a w→f a w≤n:=by
  have hx:∀p:Act×World,∃n,(∃n,R n p.1 p.2)→R n p.1 p.2∧∀m,R m p.1 p.2→n≤m:=by
   intro p
   by_cases h:∃n,R n p.1 p.2
   obtain⟨n,h1,h2⟩:=least h;exact⟨n,fun _=>⟨h1,h2⟩⟩
   exact⟨0,fun h'=>absurd h' h⟩
  exact⟨fun a w=>Classical.choose (hx (a,w)),fun a w=>Classical.choose_spec (hx (a,w))⟩
 obtain⟨f,hf⟩:=hR
 have hst:R (m a0) a w:=by
  obtain⟨M,G,hj,hr⟩:=hr
  exact⟨a0,hi,rfl,M,G,by rw[hk];exact hj,h0 M _ a w hr⟩
 refine wpIn_loop (fun a w=> ∃n,R n a w) f ⟨_,hst⟩ fun a w hn=>?_
 obtain⟨⟨x,hx,hm,hs⟩,_⟩:=hf a w hn
 refine wpIn_mono (round x hx a w hs) fun e a' w' ⟨k',go',s',h1,h2⟩=>?_
 cases e with
 |normal=>
  obtain⟨rfl,x',h3,h4,rfl,h5⟩:=h2
  have hR':R (m x') a' w':=by
   obtain⟨M,G,hj,hr⟩:=h1
   exact⟨x',h4,rfl,M,G,hj,h5 M _ a' w' hr⟩
  exact⟨⟨_,hR'⟩,Nat.lt_of_le_of_lt ((hf a' w' ⟨_,hR'⟩).2 _ hR') (by omega)⟩
 |_=>exact⟨k',go',s',h1,h2⟩
theorem lr_{M M':Nat→Prop}{w:World}{as:List AV}{vals:List Value}(hm:∀b n,aN_ w b=some n→M' b→M b)(h:RVs M (fun _=>none) w as vals):RVs M' (fun _=>none) w as vals:=
 StabC.vs ⟨fun _ _ _ _=>rfl,hm,(fun _ _ h=>by cases h),fun _ _ h=>h⟩ h
theorem nL_ {o:Oper} {cc:Call} {f:Operand} {as:List AV} {d:Nat} {a:Act} {w:World} {K:Act→World→Prop} {Q:Exit→Act→World→Prop} {M G:Nat→Prop} (ho:o.op= .call cc) (hd:o.dst=some d) (hdn:d< st.n) (hf:cc.callee= .value f) (hev:st.ev f=some (.v (.func (.yield l) #[] #[])))
    (has:evs st.ev cc.args.toList=some as) (hT:T k=some (as.map coe)) (hcl:∀a∈as.map coe,Closed a) (hj:E.J k true M G w) (hr:TRel M (gbase w G (E.gk hj)) st a w)
    (hK:∀go a' w',GRel E (k+1) go {st with fr:=(d,.v (.bool go))::st.fr} a' w'→K a' w'):o.wpIn (FR none) 0 P a w K Q:=by
 obtain⟨β,mem,h1,h2,h3,⟨Ds,h4,h5,h6⟩,ht⟩:=hr
 let G2:Nat→Prop:=fun b=>(∃i s,β i=some (b,s))∨b∈Ds
 have hlt2:∀b,G2 b→b< w.heap.size:=by
  rintro b (⟨i,s,hi⟩|hb)
  exact(mem.rng i b s hi).2
  exact(Array.getElem?_eq_some_iff.1 (h6 b hb).1).1
 have hG2:∀b,G2 b→G b:=by
  rintro b hb
  have hnk:¬(gbase w G (E.gk hj)).K b:=hb.elim (fun⟨i,s,hi⟩=>(mem.rng i b s hi).1) fun hb=>(h6 b hb).2
  by_cases hG:G b
  exact hG
  exact absurd ⟨hlt2 b hb,hG⟩ hnk
 have hj2:E.J k true M G2 w:=E.ok _ _ _ _ _ _ _ hj ⟨rfl,rfl,rfl,Nat.le_refl _,fun _ _ _=>rfl,fun _ _ h=>h,fun b hb=>⟨.inl (hG2 b hb),hlt2 b hb⟩⟩
 have hmm:∀b n,aN_ w b=some n→(M b∨G2 b)→MM M β (lookB st.hp) b:=by
  rintro b n hs (hb|⟨i,s,hi⟩|hb)
  exact .inl hb
  obtain⟨B,hB⟩:=Option.isSome_iff_exists.1 (ht i _ hi)
  exact .inr ⟨i,B,s,hB,hi⟩
  simp[aN_,(h6 b hb).1] at hs
 have hv:RVs (MM M β (lookB st.hp)) β w as (cc.args.toList.map a.eval):=fi_ (hK_ h2) has
 have hv2:RVs (fun b=>M b∨G2 b) (fun _=>none) w (as.map coe) (cc.args.toList.map a.eval):=lr_ hmm (c0_ hcl (eZ_ hv))
 obtain⟨fn,tmps,assign,body,hy,hR⟩:=E.yok k M G2 w _ _ hj2 hT hv2 hlt2
 have hfe:a.eval f= .func (.yield l) #[] #[]:=hK_ h2 f _ hev
 refine⟨fun _ _=>trivial,?_⟩
 rw[Oper.semAt_eq _ _ _ (by rw[ho];intro c e;cases e)]
 have hrun:(execOp a.eval o).run P w= .ok (.round l fn tmps assign body) w:=by
  have hargs:cc.args.map a.eval=(cc.args.toList.map a.eval).toArray:=by apply Array.ext';simp
  simp only[execOp,ho,resolve,hf,hfe,Deferred.ofValue,Sem.run_bind,Sem.run_pure,Result.andThen_ok,invoke]
  rw[←hy,hargs];simp
 rw[hrun]
 refine⟨fun hh=>by simp[FR] at hh,hR.mono ?_⟩
 rintro e w' ⟨go,M',rfl,hj',hs⟩
 have hMK:∀b,M b→(gbase w G (E.gk hj)).K b:=fun b hb=>(mem.m0 b hb).1
 have hdis:=E.disj _ _ _ _ _ hj'
 have hnum:∀i b s,β i=some (b,s)→¬M b:=fun i b s hi hm=>(mem.rng i b s hi).1 (hMK b hm)
 have st1:StabC (MM M β (lookB st.hp)) (MM M' β (lookB st.hp)) β β w w':=by
  refine⟨fun b n hb hm=>hs.block b (bz_ hb) fun h=>hm (.inl h),fun b n hb hm=>?_,fun _ _ h=>h,hs.sizes⟩
  rcases hm with hm|hm
  rcases(hs.own b hm).1 with h|h
  exact .inl h
  have:=bz_ hb;omega
  exact .inr hm
 refine hK go _ w' ⟨M',G2,hj',β,⟨⟨rfl,rfl,rfl,Nat.le_refl _,fun _ _=>rfl,fun _ _ h=>h⟩,fun b hb=>⟨⟨(hdis b hb).1,(hdis b hb).2⟩,fun e=>(E.tabs _ _ _ _ _ hj').2.1 (e▸hb)⟩,fun i b s hi=>⟨fun hk=>hk.2 (.inl ⟨i,s,hi⟩),Nat.lt_of_lt_of_le (mem.rng i b s hi).2 hs.size⟩,mem.pin,fun i B hi=>?_,mem.inj⟩,?_,fun t x hx=>?_,h3,Ds,?_,h5,fun D hD=>?_⟩
 obtain⟨b,r1,r2⟩:=mem.blk i B hi
 exact⟨b,r1,r2.stab st1 (hs.block b (mem.rng i b _ r1).2 (hnum i b _ r1))⟩
 rw[hd];simp[Act.put,h1]
 rw[hd,on_ (by rw[h1];exact hdn)]
 have hx':look ((d,AV.v (.bool go))::st.fr) t=some x:=hx
 rw[b8_] at hx'
 unfold upd at hx'
 split at hx'
 ·rename_i htd;rw[if_pos htd];cases hx';rfl
 ·rename_i htd;rw[if_neg htd];exact st1.all (h2 t x hx')
 rw[←h4];rw[hd];rfl
 obtain⟨h7,h8⟩:=h6 D hD
 refine⟨?_,fun hk=>hk.2 (.inr hD)⟩
 rw[hs.block D (Array.getElem?_eq_some_iff.1 h7).1 fun hm=>h8 (hMK D hm)];exact h7
theorem eB_{ops:Array Oper}{nx:Nat}:∀(rest:List Oper) (j:Nat) (s s':AState) (us:List (Upd×List Nat)),gc_ P ops nx j rest s us s'→s'.n=s.n
 |[],_,_,_,_,⟨_,rfl⟩=>rfl
 |o::rest,j,s,s',_,⟨u,rd,us',_,_,_,hrun⟩=>eB_ rest (j+1) (s.step o.dst u) s' us' hrun
theorem gu_{ops:Array Oper}{ρ:Option Nat}{M0:Nat→Prop}{w0:Base}{nx:Nat}{Q:Exit→Act→World→Prop}(tail:List Oper):∀(rest:List Oper) (j:Nat) (s s':AState) (us:List (Upd×List Nat)) (a:Act) (w:World),
    gc_ P ops nx j rest s us s'→FRel M0 w0 (look s.fr) (lookB s.hp) (fun i=>nx+j≤i) s.n a w→
    (∀a' w',FRel M0 w0 (look s'.fr) (lookB s'.hp) (fun i=>nx+(j+rest.length)≤i) s'.n a' w'→wpListIn (FR ρ) 0 P ops Q tail a' w')→wpListIn (FR ρ) 0 P ops Q (rest++tail) a w
 |[],j,s,s',us,a,w,h,hr,hk=>by
  obtain⟨_,rfl⟩:=h
  exact hk a w (by simpa using hr)
 |o::rest,j,s,s',us,a,w,h,hr,hk=>by
  obtain⟨u,rd,us',rfl,hstep,hdst,hrun⟩:=h
  refine wpListIn_step fun K hK=>?_
  refine hstep.sim hr (Nat.le_refl _) hdst fun a' w' hr'=>hK a' w' ?_
  refine gu_ (M0:=M0) (w0:=w0) tail rest (j+1) (s.step o.dst u) s' us' a' w' hrun ?_ fun a'' w'' hr''=>hk a'' w'' ?_
  rw[←iF_,←gs_] at hr'
  exact hr'.free fun i hi=>⟨by omega,by omega⟩
  rw[List.length_cons,show j+(rest.length+1)=j+1+rest.length by omega];exact hr''
theorem GWp.regY {ops:Array Oper} {id n nx n1 nx2 d:Nat} {fr fr2:Fr} {hp hp2:Hp} (jj:Nat) {o:Oper} (ho:ops.toList[jj]?=some o) {cc:Call} {f:Operand} {as:List AV} (hop:o.op= .call cc) (hg:o.guard=none) (hd:o.dst=some d) (hf:cc.callee= .value f) (hsz:ops.size=n1)
    (h:AR P ops nx n 0 (ops.toList.take jj) fr hp fun _ f1 h1=>SEntT ⟨f1,h1,nx+jj,n⟩ ⟨fr2,hp2,nx2,n⟩) (hdn:Nat.blt d n=true)
    (hev:evF (look fr2) f=some (.v (.func (.yield l) #[] #[]))) (has:evs (evF (look fr2)) cc.args.toList=some as) (hT:T k=some (as.map coe)) (hcl:∀a∈as.map coe,Closed a)
    (h3:∀go,AR P ops nx2 n (jj+1) (ops.toList.drop (jj+1)) ((d,.v (.bool go))::fr2) hp2 fun _ f' h'=>Q .normal (k+1) go ⟨f',h',nx2+n1,n⟩):GWp E (.region id ops false) Q k true ⟨fr,hp,nx,n⟩:=by
 have hjl:jj< ops.toList.length:=(List.getElem?_eq_some_iff.1 ho).1
 have hops:ops.toList=ops.toList.take jj++o::ops.toList.drop (jj+1):=by
  rw[←(List.getElem?_eq_some_iff.1 ho).2,←List.drop_eq_getElem_cons hjl,List.take_append_drop]
 rintro a w ⟨M,G,hj,hr⟩
 refine wpIn_region_list ?_
 rw[hops]
 obtain⟨us,st1,hrun,hent⟩:=h
 have hn1:=(cR_ (ops.toList.take jj) 0 _ st1 us [] (look fr) (lookB hp) hrun rfl (fun i o h=>by
  rw[List.getElem?_take] at h
  split at h
  simpa using h
  cases h) rfl rfl).2.2.2
 simp only at hn1
 refine gu_ (M0:=M) (w0:=gbase w G (E.gk hj)) (ρ:=none) _ _ 0 ⟨fr,hp,nx,n⟩ st1 us a w hrun (FRel.free hr fun i hi=>by show nx≤i;simpa using hi) fun a1 w1 hr1=>?_
 have hl:(ops.toList.take jj).length=jj:=by rw[List.length_take];omega
 rw[hl,Nat.zero_add,hn1] at hr1
 have hr2:TRel M (gbase w G (E.gk hj)) ⟨fr2,hp2,nx2,n⟩ a1 w1:=hent M _ a1 w1 hr1
 -- the generator's blocks,seen from here
 have hb:=hr1.choose_spec.1.below
 have hst:GStep G (fun b=>(G b∨w.heap.size≤b)∧b< w1.heap.size) w w1:=⟨hb.os,hb.tape,hb.output,hb.size,fun b h1 h2=>hb.block b ⟨h1,h2⟩,hb.sizes,fun b h=>h⟩
 have hj1:=E.ok _ _ _ _ _ _ _ hj hst
 have hr3:TRel M (gbase w1 (fun b=>(G b∨w.heap.size≤b)∧b< w1.heap.size) (E.gk hj1)) ⟨fr2,hp2,nx2,n⟩ a1 w1:=by
  obtain⟨β,mem,h1,h2,h3,⟨Ds,h4,h5,h6⟩,h7⟩:=hr2
  have hK:∀b,b< w1.heap.size→¬(gbase w G (E.gk hj)).K b→¬(gbase w1 (fun b=>(G b∨w.heap.size≤b)∧b< w1.heap.size) (E.gk hj1)).K b:=by
   rintro b hlt hk ⟨_,hn⟩
   refine hn ⟨?_,hlt⟩
   by_cases hG:G b
   exact .inl hG
   exact .inr (Nat.le_of_not_lt fun hl=>hk ⟨hl,hG⟩)
  refine⟨β,mem.rebase (gbase w1 _ (E.gk hj1)) rfl (fun b hb=>?_) (fun i b s hi=>hK b (mem.rng i b s hi).2 (mem.rng i b s hi).1) mem.pin,h1,fun t x hx=>h2 t x hx,h3,⟨Ds,h4,h5,fun D hD=>?_⟩,h7⟩
  have:=(mem.m0 b hb).1
  exact⟨Nat.lt_of_lt_of_le this.1 mem.below.size,fun hG=>hG.1.elim this.2 fun h=>by have:=this.1;omega⟩
  obtain⟨h8,h9⟩:=h6 D hD
  exact⟨h8,hK D (Array.getElem?_eq_some_iff.1 h8).1 h9⟩
 refine wpListIn_step fun K hK=>?_
 rw[if_pos (by simp[Region.wanted,hg])]
 refine nL_ (E:=E) (st:=⟨fr2,hp2,nx2,n⟩) hop hd (Nat.le_of_ble_eq_true hdn) hf hev has hT hcl hj1 hr3 fun go a2 w2 hr4=>hK a2 w2 ?_
 obtain⟨M4,G4,hj4,hr4⟩:=hr4
 obtain⟨us',st3,hrun3,hq⟩:=h3 go
 have hn3:=(eB_ _ (jj+1) _ _ _ hrun3)
 simp only at hn3
 have happ:=gu_ (P:=P) (ops:=ops) (ρ:=none) (M0:=M4) (w0:=gbase w2 G4 (E.gk hj4)) (nx:=nx2) (Q:=fun e a' w'=> ∃k' go' st',GRel E k' go' st' a' w'∧Q e k' go' st') [] (ops.toList.drop (jj+1)) (jj+1) ⟨(d,.v (.bool go))::fr2,hp2,nx2,n⟩ st3 us' a2 w2 hrun3 (hr4.free fun i hi=>by show nx2≤i;omega) fun a5 w5 hr5=>?_
 rw[List.append_nil] at happ;exact happ
 refine⟨k+1,go,⟨st3.fr,st3.hp,nx2+n1,n⟩,GRel.go_on hj4 ?_,hq⟩
 rw[hn3] at hr5
 refine hr5.free fun i (hi:nx2+n1≤i)=>?_
 rw[List.length_drop,Array.length_toList]
 have:jj< ops.size:=by simpa using hjl
 omega
theorem GSpecB.intro {P:Program} {f:Nat} {fn:Func} {c:Code} {cap:List AV} {T:Nat→Option (List AV)} {K:Nat} (hf:P.funcs[f]?=some fn) (hb:fn.body=some c) (hname:(fn.name== "runtime.NumGoroutine")=false) (hrs:fn.results.toList=[]) {m:Nat} (hm:fn.ntmps=m) (hn:Nat.ble (cap.length+1) m=true)
    (hcl:∀a∈cap,Closed a) (hclT:∀k as,T k=some as→∀a∈as,Closed a)
    (h:∀l N (_:N≤K) (E:GEnv P l T N),GWp E c (fun e k go _=>(e= .normal∨e= .ret)∧(go=true→T k=none)) 0 true ⟨(0,.v (.func (.yield l) #[] #[]))::argFr 1 cap,[],1,m⟩):GSpecB P f cap T K:=by
 subst hm
 refine⟨hcl,hclT,fun xs w=>?_,fun l N hNK E M w vals hj hargs=>?_⟩
 have hname':¬fn.name= "runtime.NumGoroutine" :=by simpa using hname
 simp[callFunc,hf,hname',hb]
 refine callsIn_of_wp_marks (F:=FR none) hf hb trivial ?_
 have hlen:=hargs.length
 have hn':=Nat.le_of_ble_eq_true hn
 have hargs':RVs M (fun _=>none) w (AV.v (.func (.yield l) #[] #[])::cap) (Value.func (.yield l) #[] #[]::vals):=⟨_,_,rfl,rfl,hargs⟩
 have hd:=E.disj _ _ _ _ _ hj
 have hrel:GRel E 0 true ⟨(0,.v (.func (.yield l) #[] #[]))::argFr 1 cap,[],1,fn.ntmps⟩ {tmps:=(#[Value.func (.yield l) #[] #[]]++vals.toArray)++Array.replicate (fn.ntmps- (#[Value.func (.yield l) #[] #[]]++vals.toArray).size) undef,defers:=[]} w:=by
  refine⟨M,fun _=>False,hj,fun _=>none,⟨⟨rfl,rfl,rfl,Nat.le_refl _,fun _ _=>rfl,fun _ _ h=>h⟩,fun b hb=>⟨⟨(hd b hb).1,(hd b hb).2⟩,fun e=>(E.tabs _ _ _ _ _ hj).2.1 (e▸hb)⟩,(fun _ _ _ h=>by cases h),(fun _=>rfl),(fun _ _ h=>by cases h),(fun _ _ _ _ _ _ _ h=>by cases h)⟩,by simp;omega,fun t x hx=>?_,fun i (hi:1≤i)=>⟨rfl,by omega⟩,⟨[],rfl,List.nodup_nil,by simp⟩⟩
  have hmm:MM M (fun _=>none) (lookB [])=M:=by funext b;simp[MM,lookB,look]
  show RV (MM M (fun _=>none) (lookB [])) _ _ _ _
  rw[hmm,b2_ rfl]
  obtain⟨_,y,h1,h2⟩:=dm_ (i:=0) hargs' hx
  have hy:((#[Value.func (.yield l) #[] #[]]++vals.toArray)++Array.replicate (fn.ntmps- (#[Value.func (.yield l) #[] #[]]++vals.toArray).size) undef).getD t undef=y:=by
   have hlt:t< (Value.func (.yield l) #[] #[]::vals).length:=by simpa using(List.getElem?_eq_some_iff.1 h1).1
   rw[Array.getD_eq_getD_getElem?,Array.getElem?_append_left (by simpa using hlt)]
   have e: #[Value.func (.yield l) #[] #[]]++vals.toArray=(Value.func (.yield l) #[] #[]::vals).toArray:=by simp
   rw[e]
   simp only[Nat.sub_zero] at h1
   rw[List.getElem?_toArray,h1];rfl
  rw[hy];exact h2
 refine wpIn_mono (h l N hNK E _ w hrel) ?_
 rintro e a' w' ⟨k,go,st',⟨M',G',hj',β,mem,hsz,hfr,hfree,Ds,hds,hnd,hD⟩,he,hT⟩
 have hres:ResOK P fn.results.toList st' (.tup []):=by
  rw[hrs];exact⟨[],rfl,Cv.tup rfl⟩
 have hL:LeavesInM (FR none) 0 P fn a'.tmps (fun e w'=>(∃v,e= .returned v)∧∃k go M' G',E.J k go M' G' w'∧(go=true→T k=none)) a'.defers .returning w':=by
  rw[hds]
  refine f2_ hres (fun y w'' h1 h2 _ _=>⟨⟨y,rfl⟩,k,go,M',fun b=>(G' b∨w'.heap.size≤b)∧b< w''.heap.size,E.ok _ _ _ _ _ _ _ hj' ?_,hT⟩) Ds w' hnd hD mem (fun t x hx=>by have:=hfr t x hx;rwa[b2_ rfl] at this)
  have hb:=h2.below
  exact⟨hb.os,hb.tape,hb.output,hb.size,fun b h1 h2=>hb.block b ⟨h1,h2⟩,hb.sizes,fun b h=>h⟩
 rcases he with rfl|rfl
 exact hL
 exact hL
end
def cf_(fr:Fr):Fr:=fr.map fun p=>(p.1+GH,p.2)
def loFr(fr:Fr):Bool:=fr.all fun p=>Nat.ble p.1 999
def setPs:Fr→List Nat→List AV→Fr
 |fr,p::ps,a::as=>setPs ((p,a)::fr) ps as
 |fr,_,_=>fr
theorem ho_:∀(fr:Fr) (t:Nat),look (cf_ fr) (t+GH)=look fr t
 |[],_=>rfl
 |(k,x)::fr,t=>by
  show look ((k+GH,x)::cf_ fr) _=_
  rw[b8_,b8_]
  unfold upd
  by_cases h:t=k
  rw[if_pos h,if_pos (by omega)]
  rw[if_neg h,if_neg (by omega)];exact ho_ fr t
theorem gr_:∀(fr:Fr) (t:Nat) (x:AV),look (cf_ fr) t=some x→GH≤t
 |[],_,_,h=>by cases h
 |(k,y)::fr,t,x,h=>by
  have h':look ((k+GH,y)::cf_ fr) t=some x:=h
  rw[b8_] at h'
  unfold upd at h'
  split at h'
  omega
  exact gr_ fr t x h'
theorem iG_{α:Type}:∀(l m:List (Nat×α)) (t:Nat),look (l++m) t=(look l t).or (look m t)
 |[],_,_=>rfl
 |(k,x)::l,m,t=>by
  rw[List.cons_append,b8_,b8_]
  unfold upd
  split
  rfl
  exact iG_ l m t
theorem gt_:∀{fr:Fr} {t:Nat} {x:AV},loFr fr=true→look fr t=some x→Nat.ble t 999=true
 |[],_,_,_,h=>by cases h
 |(k,y)::fr,t,x,hl,h=>by
  simp only[loFr,List.all_cons,Bool.and_eq_true] at hl
  rw[b8_] at h
  unfold upd at h
  split at h
  ·rename_i e;rw[e];exact hl.1
  exact gt_ (fr:=fr) hl.2 h
theorem nT_{M:Nat→Prop}{β:Nat→Option (Nat×Nat)}{w:World}{n:Nat}:∀{ps:List Nat} {as:List AV} {vals:List Value} {fr:Fr} {tmps:Array Value},tmps.size=n→(∀p∈ps,p< n)→RVs M β w as vals→(∀t x,look fr t=some x→RV M β w x (tmps.getD t undef))→
    ((ps.zip vals).foldl (fun t (p,v)=>t.setIfInBounds p v) tmps).size=n∧∀t x,look (setPs fr ps as) t=some x→RV M β w x (((ps.zip vals).foldl (fun t (p,v)=>t.setIfInBounds p v) tmps).getD t undef)
 |[],as,vals,fr,tmps,hn,_,_,h=>by cases as <;> simpa[setPs,hn] using h
 |p::ps,[],vals,fr,tmps,hn,_,hv,h=>by cases (hv:vals=[]);simpa[setPs,hn] using h
 |p::ps,a::as,_,fr,tmps,hn,hp,⟨y,ys,e,h1,h2⟩,h=>by
  subst e
  simp only[setPs,List.zip_cons_cons,List.foldl_cons]
  refine nT_ (by simpa using hn) (fun q hq=>hp q (List.mem_cons_of_mem _ hq)) h2 fun t x hx=>?_
  rw[b8_] at hx
  unfold upd at hx
  have hpn:=hp p (List.mem_cons_self ..)
  rw[Array.getD_eq_getD_getElem?,Array.getElem?_setIfInBounds]
  split at hx
  ·rename_i e;subst e;cases hx;rw[if_pos rfl,if_pos (by omega)];exact h1
  ·rename_i e;rw[if_neg (fun h=>e h.symm),←Array.getD_eq_getD_getElem?];exact h t x hx
theorem nU_:∀{ps:List Nat} {as:List AV} {fr:Fr} {t:Nat} {x:AV},loFr fr=true→(∀p∈ps,p< GH)→look (setPs fr ps as) t=some x→t< GH
 |[],as,fr,t,x,hl,_,h=>by
  have h':look fr t=some x:=by cases as <;> exact h
  have:=Nat.le_of_ble_eq_true (gt_ hl h')
  exact Nat.lt_of_le_of_lt this (by decide)
 |p::ps,[],fr,t,x,hl,_,h=>by
  have:=Nat.le_of_ble_eq_true (gt_ hl (show look fr t=some x from h))
  exact Nat.lt_of_le_of_lt this (by decide)
 |p::ps,a::as,fr,t,x,hl,hp,h=>by
  refine nU_ (fr:=(p,a)::fr) (ps:=ps) (as:=as) ?_ (fun q hq=>hp q (List.mem_cons_of_mem _ hq)) h
  simp only[loFr,List.all_cons,Bool.and_eq_true]
  refine⟨Nat.ble_eq_true_of_le ?_,hl⟩
  exact Nat.le_of_lt_succ (hp p (List.mem_cons_self ..))
def eS_:Exit→Option Code
 | .ret=>some .ret
 | .exit id=>some (.exit id)
 | .goto t=>some (.goto t)
 |_=>none
section
variable {P:Program}
def jbase(w0:Base)(l D:Nat)(G:Nat→Prop)(W:World)(h:TabW W):Base:=⟨W,fun b=>b< W.heap.size∧(w0.K b∨G b∨b=l∨b=D),fun _ h=>h.1,w0.pin,w0.gh,⟨h.lt,.inl w0.kt⟩,h⟩
structure Wait (M0:Nat→Prop)(w0:Base)(a:Act)(w:World)(M G:Nat→Prop)(st:AState)(W:World):Prop where
 kept:w0.Kept W
 two:w.heap.size+2≤W.heap.size
 mark:W.heap[w.heap.size]?=some (.deferred (some []))
 glt:∀b,G b→w.heap.size+2≤b∧b< W.heap.size
 defs:∃Ds:List Nat,a.defers=Ds.map qV_∧Ds.Nodup∧∀D∈Ds,D< w.heap.size∧W.heap[D]?=some (.deferred (some []))∧¬w0.K D
 rel:∃β,Mem (fun b=>M0 b∨G b) (jbase w0 (w.heap.size+1) w.heap.size G W kept.tab) β (lookB st.hp) W∧(∀t x,look st.fr t=some x→RV (MM (fun b=>M0 b∨G b) β (lookB st.hp)) β W x (slot w0 a t))∧
  (∀i,st.nx≤i→β i=none∧i≠0)∧(∀i x,β i=some x→(lookB st.hp i).isSome=true)∧∀b,M b↔(M0 b∨b=w.heap.size+1∨b=w.heap.size∨∃i s,β i=some (b,s))
variable {M0:Nat→Prop}{w0:Base}{a:Act}{w W W':World}{M G G':Nat→Prop}{st:AState}
theorem Wait.step(hm0:∀b,M0 b→b< w.heap.size)(hK:∀b,w0.K b→b< w.heap.size)(h:Wait M0 w0 a w M G st W)(hs:GStep G G' W W'):Wait M0 w0 a w M G' st W':=by
 obtain⟨kept,two,mark,glt,⟨Ds,d1,d2,d3⟩,β,mem,hf,hfree,ht,hM⟩:=h
 have nG:∀b,b< w.heap.size+2→¬G b:=fun b hb hG=>by have:=(glt b hG).1;omega
 have same:∀b,b< w.heap.size+2→W'.heap[b]?=W.heap[b]?:=fun b hb=>hs.block b (by omega) (nG b hb)
 have numG:∀i b s,β i=some (b,s)→¬G b:=fun i b s hi hG=>(mem.rng i b s hi).1 ⟨(glt b hG).2,.inr (.inl hG)⟩
 have hG':∀b,G' b→(G b∨W.heap.size≤b)∧b< W'.heap.size:=hs.own
 have st1:StabC (MM (fun b=>M0 b∨G b) β (lookB st.hp)) (MM (fun b=>M0 b∨G' b) β (lookB st.hp)) β β W W':=by
  refine⟨fun b N hb hn=>hs.block b (bz_ hb) fun hG=>hn (.inl (.inr hG)),fun b N hb hm=>?_,fun _ _ h=>h,hs.sizes⟩
  rcases hm with(hm|hm)|hm
  exact .inl (.inl hm)
  rcases(hG' b hm).1 with h|h
  exact .inl (.inr h)
  have:=bz_ hb;omega
  exact .inr hm
 refine⟨⟨hs.os.trans kept.os,hs.tape.trans kept.tape,hs.output.trans kept.output,Nat.le_trans kept.size hs.size,fun b hb=>(same b (by have:=hK b hb;omega)).trans (kept.block b hb),fun b n hb=>hs.sizes b n (kept.sizes b n hb)⟩,Nat.le_trans two hs.size,(same _ (by omega)).trans mark,
  fun b hb=>⟨by rcases(hG' b hb).1 with h|h;exact(glt b h).1;omega,(hG' b hb).2⟩,⟨Ds,d1,d2,fun D hD=>⟨(d3 D hD).1,(same D (by have:=(d3 D hD).1;omega)).trans (d3 D hD).2.1,(d3 D hD).2.2⟩⟩,β,⟨⟨rfl,rfl,rfl,Nat.le_refl _,fun _ _=>rfl,fun _ _ h=>h⟩,fun b hb=>?_,fun i b s hi=>?_,mem.pin,fun i B hi=>?_,mem.inj⟩,fun t x hx=>st1.all (hf t x hx),hfree,ht,hM⟩
 ·refine⟨?_,fun e=>?_⟩
  rotate_left
  subst e
  have hgk:=hK GT w0.kt
  rcases hb with hb|hb
  exact(mem.m0 GT (.inl hb)).2 rfl
  rcases(hG' GT hb).1 with h|h
  have:=(glt GT h).1;omega
  omega
  rcases hb with hb|hb
  have:=(mem.m0 b (.inl hb)).1
  refine⟨Nat.lt_of_lt_of_le this.1 hs.size,?_⟩
  rcases this.2 with h|h|h|h
  exact .inl h
  exact absurd h (nG b (by have:=hm0 b hb;omega))
  have:=hm0 b hb;omega
  have:=hm0 b hb;omega
  exact⟨(hG' b hb).2,.inr (.inl hb)⟩
 have hr:=mem.rng i b s hi
 refine⟨fun hk=>hr.1 ⟨hr.2,?_⟩,Nat.lt_of_lt_of_le hr.2 hs.size⟩
 rcases hk.2 with h|h|h|h
 exact .inl h
 rcases(hG' b h).1 with h|h
 exact .inr (.inl h)
 have:=hr.2;omega
 exact .inr (.inr (.inl h))
 exact .inr (.inr (.inr h))
 obtain⟨b,r1,r2⟩:=mem.blk i B hi
 exact⟨b,r1,r2.stab st1 (hs.block b (mem.rng i b _ r1).2 (numG i b _ r1))⟩
theorem Wait.tabs(hK:∀b,w0.K b→b< w.heap.size)(h:Wait M0 w0 a w M G st W):TabW W∧¬M GT∧¬G GT:=by
 obtain⟨kept,two,mark,glt,_,β,mem,hf,hfree,ht,hM⟩:=h
 have hgk:=hK GT w0.kt
 refine⟨kept.tab,fun hm=>?_,fun hg=>by have:=(glt GT hg).1;omega⟩
 rcases(hM GT).1 hm with h|h|h|⟨i,s,h⟩
 exact(mem.m0 GT (.inl h)).2 rfl
 omega
 omega
 exact mem.gtn i s h
theorem Wait.disj(hm0:∀b,M0 b→b< w.heap.size)(h:Wait M0 w0 a w M G st W):∀b,M b→b< W.heap.size∧¬G b:=by
 obtain⟨kept,two,mark,glt,_,β,mem,hf,hfree,ht,hM⟩:=h
 intro b hb
 have nG:∀b,b< w.heap.size+2→¬G b:=fun b hb hG=>by have:=(glt b hG).1;omega
 rcases(hM b).1 hb with h|rfl|rfl|⟨i,s,hi⟩
 have:=hm0 b h;exact⟨by omega,nG b (by omega)⟩
 exact⟨by omega,nG _ (by omega)⟩
 exact⟨by omega,nG _ (by omega)⟩
 have hr:=mem.rng i b s hi
 exact⟨hr.2,fun hG=>hr.1 ⟨hr.2,.inr (.inl hG)⟩⟩
theorem qz_{W:World}{l:Nat}{o o':Obj}(h:W.heap[l]?=some o)(ho:aN_ W l=none):
    (W.putObj l o').os=W.os∧(W.putObj l o').tape=W.tape∧(W.putObj l o').output=W.output∧(W.putObj l o').heap.size=W.heap.size∧(W.putObj l o').heap[l]?=some o'∧(∀b,b≠l→(W.putObj l o').heap[b]?=W.heap[b]?)∧∀b n,aN_ W b=some n→aN_ (W.putObj l o') b=some n:=by
 have hlt:l< W.heap.size:=(Array.getElem?_eq_some_iff.1 h).1
 refine⟨rfl,rfl,rfl,by simp[World.putObj],World.putObj_heap_same hlt,fun b hb=>World.putObj_heap_other hb,fun b n hb=>?_⟩
 have hne:b≠l:=fun e=>by subst e;rw[ho] at hb;cases hb
 exact(b5_ (World.putObj_heap_other hne)).trans hb
variable {α γ:Type}{ps:Array Tmp}{assign body:Code}
def nY_(S:α→AState)(Nx:α→Prop)(X:γ→AState)(PX:Exit→γ→Prop)(n:Nat):Exit→AState→Prop
 | .normal,s=> ∃a',Nx a'∧SEntT s ⟨cf_ (S a').fr,(S a').hp,(S a').nx,n⟩
 |e,s=>(eS_ e).isSome=true∧∃c,PX e c∧SEntT s ⟨cf_ (X c).fr,(X c).hp,(X c).nx,n⟩
theorem pk_{S:α→AState}{Nx:α→Prop}{X:γ→AState}{PX:Exit→γ→Prop}{n:Nat}{e:Exit}{s:AState}(h:nY_ S Nx X PX n e s):(e= .normal∧∃a',Nx a'∧SEntT s ⟨cf_ (S a').fr,(S a').hp,(S a').nx,n⟩)∨(∃j,eS_ e=some j)∧∃c,PX e c∧SEntT s ⟨cf_ (X c).fr,(X c).hp,(X c).nx,n⟩:=by
 cases e with
 |normal=>exact .inl ⟨rfl,h⟩
 |ret=>exact .inr ⟨⟨_,rfl⟩,h.2⟩
 |exit id=>exact .inr ⟨⟨_,rfl⟩,h.2⟩
 |goto t=>exact .inr ⟨⟨_,rfl⟩,h.2⟩
 |panic ch=>exact absurd h.1 (by simp[eS_])
 |outgrown=>exact absurd h.1 (by simp[eS_])
def rgh(w0:Base)(a:Act)(t:Nat):Value:=slot w0 a (t- GH)
theorem rgh_add(w0:Base)(a:Act)(t:Nat):rgh w0 a (t+GH)=slot w0 a t:=by unfold rgh;rw[Nat.add_sub_cancel]
theorem jE_{w0 w1:Base}{a a3:Act}{t:Nat}(h:w1.gh=rgh w0 a)(h3:a3.tmps.size≤GH):slot w1 a3 (t+GH)=slot w0 a t:=by
 have h1:GH≤t+GH:=Nat.le_add_left _ _
 rw[slot_hi h1 (Nat.le_trans h3 h1),h,rgh_add]
def rbase(w0:Base)(a:Act)(W0:World)(β:Nat→Option (Nat×Nat))(W:World)(h:W0.heap.size≤W.heap.size)(hk:(GT< W0.heap.size∧∀i s,β i≠some (GT,s))∧TabW W):Base:=⟨W,fun b=>b< W0.heap.size∧∀i s,β i≠some (b,s),fun _ hb=>Nat.lt_of_lt_of_le hb.1 h,w0.pin,rgh w0 a,hk.1,hk.2⟩
theorem hS_(w0:Base)(a:Act)(W0:World)(β:Nat→Option (Nat×Nat))(W:World)(h:W0.heap.size≤W.heap.size)(hk:(GT< W0.heap.size∧∀i s,β i≠some (GT,s))∧TabW W):(rbase w0 a W0 β W h hk).gh=rgh w0 a:=by simp only[rbase]
theorem Mem.turn {Mm:Nat→Prop} {b0 b1:Base} {β:Nat→Option (Nat×Nat)} {hp:Nat→Option ABlk} {W W':World} {l:Nat} {o o':Obj} (h:Mem Mm b0 β hp W) (hl:W.heap[l]?=some o) (ho:aN_ W l=none) (hW':W'=W.putObj l o') (hlm:¬Mm l)
    (hw1:b1.w=W') (hm:∀b,Mm b→b1.K b) (hr:∀i b s,β i=some (b,s)→¬b1.K b) (hp0:b1.pin=b0.pin):Mem Mm b1 β hp W'∧StabC (MM Mm β hp) (MM Mm β hp) β β W W':=by
 let bx:Base:=⟨W,fun b=>b0.K b∧b≠l,fun b hb=>Nat.lt_of_lt_of_le (b0.lt b hb.1) h.below.size,b0.pin,b0.gh,⟨b0.kt,fun e=>h.tab.sz (e▸ho)⟩,h.tab⟩
 have h1:Mem Mm bx β hp W:=h.rebase bx rfl (fun b hb=>⟨(h.m0 b hb).1,fun e=>hlm (e▸hb)⟩) (fun i b s hi hk=>(h.rng i b s hi).1 hk.1) h.pin
 obtain⟨h2,st⟩:=h1.shut (o':=o') hl ho (fun hk=>hk.2 rfl)
 rw[←hW'] at h2 st
 exact⟨h2.rebase b1 hw1 hm hr (fun h0=>(h2.pin h0).trans hp0.symm),st⟩
theorem Wait.back (hm0:∀b,M0 b→b< w.heap.size) (hK:∀b,w0.K b→b< w.heap.size) (h:Wait M0 w0 a w M G st W) {n:Nat} (hng:n≤GH) {l:Nat} (hl:l=w.heap.size+1)
    {β:Nat→Option (Nat×Nat)} (hk:TabW W) (mem:Mem (fun b=>M0 b∨G b) (jbase w0 (w.heap.size+1) w.heap.size G W hk) β (lookB st.hp) W) (ht:∀i x,β i=some x→(lookB st.hp i).isSome=true) (hM:∀b,M b↔(M0 b∨b=w.heap.size+1∨b=w.heap.size∨∃i s,β i=some (b,s)))
    {W2 W3 W4:World} (h02:W.heap.size≤W2.heap.size) (hkeep:∀b,b< W.heap.size→(∀i s,β i≠some (b,s))→b≠l→W2.heap[b]?=W.heap[b]?) (hso:W2.os=W.os∧W2.tape=W.tape∧W2.output=W.output) (hsz:∀b n,aN_ W b=some n→aN_ W2 b=some n)
    {a3:Act} {st':AState} (hk2:(GT< W.heap.size∧∀i s,β i≠some (GT,s))∧TabW W2) (hr:TRel (fun b=>M0 b∨G b) (rbase w0 a W β W2 h02 hk2) ⟨cf_ st'.fr,st'.hp,st'.nx,n⟩ a3 W3) {o o':Obj} (hl3:W3.heap[l]?=some o) (ho:aN_ W3 l=none) (h4:W4=W3.putObj l o'):
    ∃M',Wait M0 w0 a w M' G st' W4∧GStep M M' W W4:=by
 obtain⟨kept,two,mark,glt,⟨Ds,d1,d2,d3⟩,_⟩:=h
 obtain⟨β3,mem3,s1,hf3,hfree3,_,ht3⟩:=hr
 obtain⟨p1,p2,p3,p4,p5,p6,p7⟩:=qz_ (o':=o') hl3 ho
 rw[←h4] at p1 p2 p3 p4 p5 p6 p7
 have hb3:=mem3.below
 have hlW:l< W.heap.size:=by omega
 have numl:∀i s,β i≠some (l,s):=fun i s hi=>(mem.rng i l s hi).1 ⟨hlW,.inr (.inr (.inl hl))⟩
 have numw0:∀b,w0.K b→∀i s,β i≠some (b,s):=fun b hb i s hi=>(mem.rng i b s hi).1 ⟨(mem.rng i b s hi).2,.inl hb⟩
 have numG:∀b,G b→∀i s,β i≠some (b,s):=fun b hb i s hi=>(mem.rng i b s hi).1 ⟨(mem.rng i b s hi).2,.inr (.inl hb)⟩
 have numD:∀i s,β i≠some (w.heap.size,s):=fun i s hi=>(mem.rng i _ s hi).1 ⟨(mem.rng i _ s hi).2,.inr (.inr (.inr rfl))⟩
 -- whatever is not the loop's own lies as it lay
 have same:∀b,b< W.heap.size→(∀i s,β i≠some (b,s))→b≠l→W4.heap[b]?=W.heap[b]?:=fun b hb hn hbl=>
  (p6 b hbl).trans ((hb3.block b ⟨hb,hn⟩).trans (hkeep b hb hn hbl))
 have tab4:TabW W4:=hk.congr (same GT hk2.1.1 hk2.1.2 (fun e=>by have:=hK GT w0.kt;omega))
 have hsize:W.heap.size≤W4.heap.size:=by rw[p4];exact Nat.le_trans h02 hb3.size
 have hsizes:∀b n,aN_ W b=some n→aN_ W4 b=some n:=fun b n hb=>p7 b n (hb3.sizes b n (hsz b n hb))
 have hos:W4.os=W.os:=p1.trans (hb3.os.trans hso.1)
 have htape:W4.tape=W.tape:=p2.trans (hb3.tape.trans hso.2.1)
 have hout:W4.output=W.output:=p3.trans (hb3.output.trans hso.2.2)
 have num3:∀i b s,β3 i=some (b,s)→(W.heap.size≤b∨∃i s,β i=some (b,s))∧b< W3.heap.size:=fun i b s hi=>by
  have hr:=mem3.rng i b s hi
  refine⟨?_,hr.2⟩
  by_cases hb:b< W.heap.size
  right
  by_cases hx:∃i s,β i=some (b,s)
  exact hx
  exact absurd ⟨hb,fun i s hi=>hx ⟨i,s,hi⟩⟩ hr.1
  left;omega
 have num3K:∀i b s,β3 i=some (b,s)→¬(jbase w0 (w.heap.size+1) w.heap.size G W4 tab4).K b:=by
  rintro i b s hi ⟨_,hk⟩
  rcases(num3 i b s hi).1 with h1|⟨i',s',h1⟩
  rcases hk with hk|hk|hk|hk
  have:=hK b hk;omega
  have:=(glt b hk).2;omega
  omega
  omega
  rcases hk with hk|hk|hk|hk
  exact numw0 b hk i' s' h1
  exact numG b hk i' s' h1
  subst hk;exact numl i' s' (by rw[hl];exact h1)
  subst hk;exact numD i' s' h1
 obtain⟨mem4,st4⟩:=mem3.turn (o':=o') (b1:=jbase w0 (w.heap.size+1) w.heap.size G W4 tab4) hl3 ho h4 (fun hm=>by
  rcases hm with hm|hm
  have:=hm0 l hm;omega
  have:=(glt l hm).1;omega) rfl (fun b hb=>by
  rcases hb with hb|hb
  have:=hm0 b hb
  refine⟨by omega,?_⟩
  rcases(mem.m0 b (.inl hb)).1.2 with h|h
  exact .inl h
  exact .inr h
  exact⟨Nat.lt_of_lt_of_le (glt b hb).2 hsize,.inr (.inl hb)⟩) num3K rfl
 refine⟨fun b=>M0 b∨b=w.heap.size+1∨b=w.heap.size∨∃i s,β3 i=some (b,s),⟨⟨hos.trans kept.os,htape.trans kept.tape,hout.trans kept.output,Nat.le_trans kept.size hsize,fun b hb=>?_,fun b n hb=>hsizes b n (kept.sizes b n hb)⟩,Nat.le_trans two hsize,?_,fun b hb=>⟨(glt b hb).1,Nat.lt_of_lt_of_le (glt b hb).2 hsize⟩,
  ⟨Ds,d1,d2,fun D hD=>⟨(d3 D hD).1,?_,(d3 D hD).2.2⟩⟩,β3,mem4,fun t x hx=>?_,hfree3,ht3,fun b=>Iff.rfl⟩,⟨hos,htape,hout,hsize,fun b hb hn=>?_,hsizes,fun b hb=>?_⟩⟩
 have h1:=hK b hb
 exact(same b (by omega) (numw0 b hb) (by omega)).trans (kept.block b hb)
 exact(same _ (by omega) numD (by omega)).trans mark
 have h1:=d3 D hD
 refine(same D (by omega) (fun i s hi=>?_) (by omega)).trans h1.2.1
 obtain⟨B,hB⟩:=Option.isSome_iff_exists.1 (ht i _ hi)
 obtain⟨b',r1,r2⟩:=mem.blk i B hB
 rw[hi] at r1;cases r1
 obtain⟨N,hN⟩:=r2.size
 simp[aN_,h1.2.1] at hN
 have:=hf3 (t+GH) x (by rw[ho_];exact hx)
 have e:=jE_ (w0:=w0) (w1:=rbase w0 a W β W2 h02 hk2) (a:=a) (a3:=a3) (t:=t) (hS_ ..) (Nat.le_trans (Nat.le_of_eq s1) hng)
 rw[e] at this
 exact st4.all this
 refine same b hb (fun i s hi=>hn ((hM b).2 (.inr (.inr (.inr ⟨i,s,hi⟩))))) (fun e=>hn ((hM b).2 (.inr (.inl (by omega)))))
 rcases hb with hb|hb|hb|⟨i,s,hi⟩
 have:=hm0 b hb;exact⟨.inl ((hM b).2 (.inl hb)),by omega⟩
 exact⟨.inl ((hM b).2 (.inr (.inl hb))),by omega⟩
 exact⟨.inl ((hM b).2 (.inr (.inr (.inl hb)))),by omega⟩
 obtain⟨h1,h2⟩:=num3 i b s hi
 refine⟨?_,by rw[p4];exact h2⟩
 rcases h1 with h1|⟨i',s',h1⟩
 exact .inr h1
 exact .inl ((hM b).2 (.inr (.inr (.inr ⟨i',s',h1⟩))))
theorem Wait.round (hm0:∀b,M0 b→b< w.heap.size) (hK:∀b,w0.K b→b< w.heap.size) (h:Wait M0 w0 a w M G st W) {n:Nat} (hn:a.tmps.size=n) (hng:n≤GH) {l:Nat} (hl:l=w.heap.size+1) {rec:Loop} (hrec:W.heap[l]?=some (.loop rec)) (hready:rec.state= .ready)
    (hlo:loFr st.fr=true) {as:List AV} {vals:List Value} (hv:RVs (fun b=>M b∨G b) (fun _=>none) W as vals) (hps:∀p∈ps.toList,p< n) (fn:FuncId)
    {S:α→AState} {Nx:α→Prop} {X:γ→AState} {PX:Exit→γ→Prop}
    (hround:AWp (some l) P assign (thenA (AWp (some l) P body (nY_ S Nx X PX n)) (fun _ _=>False)) ⟨setPs st.fr ps.toList as++cf_ st.fr,st.hp,st.nx,n⟩)
    {R:Ending→World→Prop}
    (hN:∀a' M' W4,Nx a'→Wait M0 w0 a w M' G (S a') W4→GStep M M' W W4→W4.heap[l]?=some (.loop {rec with state:= .ready,pending:=none})→R (.returned (.bool true)) W4)
    (hX:∀e j c M' W4,eS_ e=some j→PX e c→Wait M0 w0 a w M' G (X c) W4→GStep M M' W W4→W4.heap[l]?=some (.loop {rec with state:= .done,pending:=some j})→R (.returned (.bool false)) W4):
    RoundIn (FR none) 0 P l fn ((ps.zip vals.toArray).foldl (fun t (p,v)=>t.setIfInBounds p v) a.tmps) assign body W R:=by
 have hw:=h
 obtain⟨kept,two,mark,glt,defs,β,mem,hf,hfree,ht,hM⟩:=hw
 have hlW:l< W.heap.size:=by omega
 have numl:∀i s,β i≠some (l,s):=fun i s hi=>(mem.rng i l s hi).1 ⟨hlW,.inr (.inr (.inl hl))⟩
 have slo:aN_ W l=none:=by simp[aN_,hrec]
 -- the frame of the round
 have hz:(ps.zip vals.toArray).foldl (fun t (p,v)=>t.setIfInBounds p v) a.tmps=(ps.toList.zip vals).foldl (fun t (p,v)=>t.setIfInBounds p v) a.tmps:=by
  rw[←Array.foldl_toList,Array.toList_zip]
 have hwide:RVs (MM (fun b=>M0 b∨G b) β (lookB st.hp)) β W as vals:=StabC.vs (M:=fun b=>M b∨G b) (β:=fun _=>none) (w:=W) (w':=W) ⟨fun _ _ _ _=>rfl,fun b N hb hm=>by
  rcases hm with(hm|hm)|⟨i,B,s,_,hm⟩
  exact .inl ((hM b).2 (.inl hm))
  exact .inr hm
  exact .inl ((hM b).2 (.inr (.inr (.inr ⟨i,s,hm⟩)))),(fun _ _ h=>by cases h),fun _ _ h=>h⟩ hv
 obtain⟨z1,z2⟩:=nT_ (ps:=ps.toList) (fr:=st.fr) (tmps:=a.tmps) hn hps hwide (fun t x hx=>by
  have:=hf t x hx
  rwa[qk_ (gt_ hlo hx)] at this)
 rw[←hz] at z1 z2
 have hk0:(GT< W.heap.size∧∀i s,β i≠some (GT,s))∧TabW W:=⟨⟨mem.tab.lt,mem.gtn⟩,mem.tab⟩
 have hrel:ARel (fun b=>M0 b∨G b) (rbase w0 a W β W (Nat.le_refl _) hk0) ⟨setPs st.fr ps.toList as++cf_ st.fr,st.hp,st.nx,n⟩ {tmps:=(ps.zip vals.toArray).foldl (fun t (p,v)=>t.setIfInBounds p v) a.tmps,defers:=[]} W:=by
  refine⟨β,mem.rebase (rbase w0 a W β W (Nat.le_refl _) hk0) rfl (fun b hb=>⟨(mem.m0 b hb).1.1,fun i s hi=>(mem.rng i b s hi).1 (mem.m0 b hb).1⟩) (fun i b s hi hk=>hk.2 i s hi) mem.pin,z1,fun t x hx=>?_,hfree,⟨[],rfl,List.nodup_nil,by simp⟩⟩
  rw[iG_] at hx
  by_cases hgt:GH≤t
  have hne:look (setPs st.fr ps.toList as) t=none:=by
   cases hq:look (setPs st.fr ps.toList as) t with
   |none=>rfl
   |some y=>exact absurd (nU_ hlo (fun p hp=>Nat.lt_of_lt_of_le (hps p hp) hng) hq) (by omega)
  rw[hne,Option.none_or] at hx
  obtain⟨t',rfl⟩:∃t',t=t'+GH:=⟨t- GH,by omega⟩
  rw[ho_] at hx
  have e:=jE_ (w0:=w0) (w1:=rbase w0 a W β W (Nat.le_refl _) hk0) (a:=a) (a3:={tmps:=(ps.zip vals.toArray).foldl (fun t (p,v)=>t.setIfInBounds p v) a.tmps,defers:=[]}) (t:=t') (hS_ ..) (Nat.le_trans (Nat.le_of_eq z1) hng)
  rw[e];exact hf t' x hx
  have hlt:t< GH:=by omega
  have hx2:look (setPs st.fr ps.toList as) t=some x:=by
   cases hq:look (setPs st.fr ps.toList as) t with
   |some y=>rw[hq,Option.some_or] at hx;exact hx
   |none=>
    rw[hq,Option.none_or] at hx
    exact absurd (gr_ _ _ _ hx) hgt
  have e:slot (rbase w0 a W β W (Nat.le_refl _) hk0) {tmps:=(ps.zip vals.toArray).foldl (fun t (p,v)=>t.setIfInBounds p v) a.tmps,defers:=[]} t=((ps.zip vals.toArray).foldl (fun t (p,v)=>t.setIfInBounds p v) a.tmps).getD t undef:=if_pos (.inl hlt)
  rw[e];exact z2 t x hx2
 refine roundIn_of_wpIn trivial ?_
 refine wpIn_mono (hround _ _ _ _ hrel) ?_
 rintro e a1 W1 ⟨s1,r1,q1⟩
 cases e with
 |normal=>
  obtain⟨β1,mem1,t1,f1,fr1,de1⟩:=r1
  have hl1:W1.heap[l]?=some (.loop rec):=(mem1.below.block l ⟨hlW,numl⟩).trans hrec
  have slo1:aN_ W1 l=none:=by simp[aN_,hl1]
  refine⟨_,run_beginRound hl1 hready,?_⟩
  have h12:W.heap.size≤(W1.putObj l (.loop {rec with state:= .busy})).heap.size:=by
   have:=mem1.below.size
   have h2:(rbase w0 a W β W (Nat.le_refl _) hk0).w.heap.size=W.heap.size:=rfl
   simp only[World.putObj];simp;omega
  obtain⟨p1,p2,p3,p4,p5,p6,p7⟩:=qz_ (o':= .loop {rec with state:= .busy}) hl1 slo1
  have hk2:(GT< W.heap.size∧∀i s,β i≠some (GT,s))∧TabW (W1.putObj l (.loop {rec with state:= .busy})):=⟨hk0.1,mem1.tab.congr (p6 GT fun e=>mem1.tab.sz (e▸slo1))⟩
  obtain⟨mem2,st2⟩:=mem1.turn (o':= .loop {rec with state:= .busy}) (b1:=rbase w0 a W β _ h12 hk2) hl1 slo1 rfl (fun hm=>by
   rcases hm with hm|hm
   have:=hm0 l hm;omega
   have:=(glt l hm).1;omega) rfl (fun b hb=>(mem1.m0 b hb).1) (fun i b s hi=>(mem1.rng i b s hi).1) rfl
  have hrel2:ARel (fun b=>M0 b∨G b) (rbase w0 a W β _ h12 hk2) s1 a1 (W1.putObj l (.loop {rec with state:= .busy})):=by
   refine⟨β1,mem2,t1,fun t x hx=>?_,fr1,?_⟩
   have e:slot (rbase w0 a W β _ h12 hk2) a1 t=slot (rbase w0 a W β W (Nat.le_refl _) hk0) a1 t:=by
    unfold slot;rw[hS_,hS_]
   rw[e];exact st2.all (f1 t x hx)
   obtain⟨Ds,u1,u2,u3⟩:=de1
   refine⟨Ds,u1,u2,fun D hD=>⟨?_,(u3 D hD).2⟩⟩
   have hne:D≠l:=fun e=>by have:=(u3 D hD).1;rw[e,hl1] at this;cases this
   rw[p6 D hne];exact(u3 D hD).1
  refine wpIn_mono (q1 _ _ _ _ hrel2) ?_
  rintro e a3 W3 ⟨s3,r3,q3⟩
  have b3:(rbase w0 a W β _ h12 hk2).Kept W3:=by obtain⟨_,m3,_⟩:=r3;exact m3.below
  have hl3:W3.heap[l]?=some (.loop {rec with state:= .busy}):=(b3.block l ⟨hlW,numl⟩).trans p5
  have slo3:aN_ W3 l=none:=by simp[aN_,hl3]
  have b1:=mem1.below
  have hkeep:∀b,b< W.heap.size→(∀i s,β i≠some (b,s))→b≠l→(W1.putObj l (.loop {rec with state:= .busy})).heap[b]?=W.heap[b]?:=fun b hb hn hne=>(p6 b hne).trans (b1.block b ⟨hb,hn⟩)
  rcases pk_ q3 with⟨rfl,a',hNx,hent⟩|⟨⟨j,hj⟩,c,hPX,hent⟩
  obtain⟨M',hw4,hg4⟩:=h.back hm0 hK hng hl kept.tab mem ht hM h12 hkeep ⟨p1.trans b1.os,p2.trans b1.tape,p3.trans b1.output⟩ (fun b n hb=>p7 b n (b1.sizes b n hb)) hk2 (hent _ _ _ _ r3) hl3 slo3 (o':= .loop {rec with state:= .ready,pending:=none}) rfl
  exact⟨_,_,run_endRound none hl3,hN a' M' _ hNx hw4 hg4 (World.putObj_heap_same (Array.getElem?_eq_some_iff.1 hl3).1)⟩
  obtain⟨M',hw4,hg4⟩:=h.back hm0 hK hng hl kept.tab mem ht hM h12 hkeep ⟨p1.trans b1.os,p2.trans b1.tape,p3.trans b1.output⟩ (fun b n hb=>p7 b n (b1.sizes b n hb)) hk2 (hent _ _ _ _ r3) hl3 slo3 (o':= .loop {rec with state:= .done,pending:=some j}) rfl
  have hfin:=hX e j c M' _ hj hPX hw4 hg4 (World.putObj_heap_same (Array.getElem?_eq_some_iff.1 hl3).1)
  have hend:(Instr.endRound l (some j)).run P W3= .ok (.bool false) (W3.putObj l (.loop {rec with state:= .done,pending:=some j})):=run_endRound (r:={rec with state:= .busy}) (some j) hl3
  cases e with
  |ret=>simp only[eS_,Option.some.injEq] at hj;subst hj;exact⟨_,_,hend,hfin⟩
  |exit id=>simp only[eS_,Option.some.injEq] at hj;subst hj;exact⟨_,_,hend,hfin⟩
  |goto t=>simp only[eS_,Option.some.injEq] at hj;subst hj;exact⟨_,_,hend,hfin⟩
  |normal=>cases hj
  |panic ch=>cases hj
  |outgrown=>cases hj
 |ret=>exact q1.elim
 |exit id=>exact q1.elim
 |goto t=>exact q1.elim
 |panic ch=>exact q1.elim
 |outgrown=>exact q1.elim
theorem Wait.begin(hlt:∀b,w0.K b→b< w.heap.size)(hm0:∀b,M0 b→w0.K b){β:Nat→Option (Nat×Nat)}(mem:Mem M0 w0 β (lookB st.hp) w)(hf:∀t x,look st.fr t=some x→RV (MM M0 β (lookB st.hp)) β w x (slot w0 a t))(hfree:∀i,st.nx≤i→β i=none∧i≠0)(hdef:DefOK a.defers w0 w)(ht:∀i x,β i=some x→(lookB st.hp i).isSome=true)(rec:Loop):
    Wait M0 w0 a w (fun b=>M0 b∨b=w.heap.size+1∨b=w.heap.size∨∃i s,β i=some (b,s)) (fun _=>False) st ((w.alloc (.deferred (some []))).alloc (.loop rec))∧((w.alloc (.deferred (some []))).alloc (.loop rec)).heap[w.heap.size+1]?=some (.loop rec):=by
 obtain⟨Ds,d1,d2,d3⟩:=hdef
 have hbel:Below w.heap.size w ((w.alloc (.deferred (some []))).alloc (.loop rec)):=((Below.refl _ w).alloc (Nat.le_refl _) _).alloc (by simp) _
 obtain⟨m1,s1⟩:=mem.ext hbel
 have hD:((w.alloc (.deferred (some []))).alloc (.loop rec)).heap[w.heap.size]?=some (.deferred (some [])):=(Below.heap_alloc _ _ _ (by simp)).trans (World.alloc_heap_new w _)
 have hL:((w.alloc (.deferred (some []))).alloc (.loop rec)).heap[w.heap.size+1]?=some (.loop rec):=by
  have:=World.alloc_heap_new (w.alloc (.deferred (some []))) (.loop rec);rwa[World.size_alloc] at this
 refine⟨⟨m1.below,by simp,hD,fun b hb=>hb.elim,⟨Ds,d1,d2,fun D hD=>?_⟩,β,?_,fun t x hx=>?_,hfree,ht,fun b=>Iff.rfl⟩,hL⟩
 have h1:=d3 D hD
 have h2:D< w.heap.size:=(Array.getElem?_eq_some_iff.1 h1.1).1
 exact⟨h2,(hbel.block D h2).trans h1.1,h1.2⟩
 have e:(fun b=>M0 b∨False)=M0:=by funext b;simp
 show Mem (fun b=>M0 b∨False) _ β _ _
 rw[e]
 refine m1.rebase (jbase w0 (w.heap.size+1) w.heap.size (fun _=>False) _ m1.tab) rfl (fun b hb=>⟨by have:=hlt b (hm0 b hb);simp;omega,.inl (hm0 b hb)⟩) (fun i b s hi hk=>?_) m1.pin
 have hr:=mem.rng i b s hi
 rcases hk.2 with h|h|h|h
 exact hr.1 h
 exact h
 have:=hr.2;omega
 have:=hr.2;omega
 have e:(fun b=>M0 b∨False)=M0:=by funext b;simp
 show RV (MM (fun b=>M0 b∨False) _ _) _ _ _ _
 rw[e];exact s1.all (hf t x hx)
theorem Wait.over(hlt:∀b,w0.K b→b< w.heap.size)(hm0:∀b,M0 b→w0.K b)(h:Wait M0 w0 a w M G st W){n:Nat}(hn:a.tmps.size=n)(hsn:st.n=n){rec rec':Loop}(hrec:W.heap[w.heap.size+1]?=some (.loop rec)):
    ARel M0 w0 st {a with defers:={target:= .collected w.heap.size,args:= #[]}::a.defers} (W.putObj (w.heap.size+1) (.loop rec')):=by
 obtain⟨kept,two,mark,glt,⟨Ds,d1,d2,d3⟩,β,mem,hf,hfree,ht,hM⟩:=h
 have slo:aN_ W (w.heap.size+1)=none:=by simp[aN_,hrec]
 obtain⟨p1,p2,p3,p4,p5,p6,p7⟩:=qz_ (o':= .loop rec') hrec slo
 have numK:∀i b s,β i=some (b,s)→¬w0.K b∧b≠w.heap.size+1∧b< W.heap.size:=fun i b s hi=>by
  have hr:=mem.rng i b s hi
  exact⟨fun hk=>hr.1 ⟨hr.2,.inl hk⟩,fun e=>hr.1 ⟨hr.2,.inr (.inr (.inl e))⟩,hr.2⟩
 have st1:StabC (MM (fun b=>M0 b∨G b) β (lookB st.hp)) (MM M0 β (lookB st.hp)) β β W (W.putObj (w.heap.size+1) (.loop rec')):=
  ⟨fun b N hb _=>p6 b (fun e=>by subst e;rw[slo] at hb;cases hb),fun b N _ hm=>hm.imp .inl id,fun _ _ h=>h,p7⟩
 refine⟨β,⟨⟨p1.trans kept.os,p2.trans kept.tape,p3.trans kept.output,Nat.le_trans kept.size (Nat.le_of_eq p4.symm),fun b hb=>(p6 b (by have:=hlt b hb;omega)).trans (kept.block b hb),fun b n hb=>p7 b n (kept.sizes b n hb)⟩,(fun b hb=>⟨hm0 b hb,(mem.m0 b (.inl hb)).2⟩),fun i b s hi=>⟨(numK i b s hi).1,by rw[p4];exact(numK i b s hi).2.2⟩,mem.pin,fun i B hi=>?_,mem.inj⟩,hn.trans hsn.symm,fun t x hx=>?_,hfree,⟨w.heap.size::Ds,?_,List.nodup_cons.2 ⟨fun hD=>by have:=(d3 _ hD).1;omega,d2⟩,fun D hD=>?_⟩⟩
 obtain⟨b,r1,r2⟩:=mem.blk i B hi
 exact⟨b,r1,r2.stab st1 (p6 b (numK i b _ r1).2.1)⟩
 exact st1.all (hf t x hx)
 show _::a.defers=_;rw[d1];rfl
 rcases List.mem_cons.1 hD with rfl|hD
 exact⟨(p6 _ (by omega)).trans mark,fun hk=>by have:=hlt _ hk;omega⟩
 have h1:=d3 D hD
 exact⟨(p6 D (by omega)).trans h1.2.1,h1.2.2⟩
theorem AWp.rangeFuncB {Q:Exit→AState→Prop} {f:Operand} {fr:Fr} {hp:Hp} {nx n g:Nat} {cap:List AV} {T:Nat→Option (List AV)} (N:Nat) (S:α→AState) (kk:α→Nat) (Inv:α→Prop) (X:γ→AState) (PX:Exit→γ→Prop) (a0:α)
    (hf:evF (look (S a0).fr) f=some (.clos g [] cap)) (hs:GSpecB P g (cap.map coe) T N) (hps:ps.toList.all (Nat.blt · n)=true) (hng:Nat.ble n 1000=true) (hT:∀k as,T k=some as→as.length=ps.size)
    (hSn:∀a,(S a).n=n∧loFr (S a).fr=true) (hXn:∀c,(X c).n=n) (hi:Inv a0) (hk0:kk a0=0) (hb:∀a,Inv a→kk a≤N)
    (h0:SEntT ⟨fr,hp,nx,n⟩ (S a0)) (hcap:(∀x∈cap.map coe,Closed x))
    (hround:∀l a as,Inv a→T (kk a)=some as→AWp (some l) P assign (thenA (AWp (some l) P body (nY_ S (fun a'=>Inv a'∧kk a'=kk a+1) X PX n)) (fun _ _=>False)) ⟨setPs (S a).fr ps.toList as++cf_ (S a).fr,(S a).hp,(S a).nx,n⟩)
    (hdone:∀a,Inv a→T (kk a)=none→Q .normal (S a)) (hstop:∀e c,PX e c→Q e (X c)):AWp none P (.rangeFunc f ps assign body) Q ⟨fr,hp,nx,n⟩:=by
 intro M0 w0 a w hr
 have hm0:∀b,M0 b→w0.K b:=by obtain⟨_,m,_⟩:=hr;exact fun b hb=>(m.m0 b hb).1
 have hlt:∀b,w0.K b→b< w.heap.size:=by obtain⟨_,m,_⟩:=hr;exact fun b hb=>Nat.lt_of_lt_of_le (w0.lt b hb) m.below.size
 have hm0':∀b,M0 b→b< w.heap.size:=fun b hb=>hlt b (hm0 b hb)
 have hn:a.tmps.size=n:=by obtain⟨_,_,h1,_⟩:=hr;exact h1
 have hng':n≤GH:=Nat.le_of_ble_eq_true hng
 have hps':∀p∈ps.toList,p< n:=fun p hp=>Nat.le_of_ble_eq_true (List.all_eq_true.1 hps p hp)
 obtain⟨β,mem,_,hfr,hfree,hdef,ht⟩:=h0 M0 w0 a w hr
 obtain⟨xs,ys,hfe,hr1,hr2⟩:=hK_ hfr f _ hf
 have hxs:xs= #[]:=by have:xs.toList=[]:=hr1;simpa using this
 subst hxs
 refine wpIn_rangeFunc ?_
 intro fn _
 obtain⟨rec0,hrec0⟩:∃r:Loop,r={state:= .ready,pending:=none,fn,tmps:=a.tmps,params:=ps,assign,body,defers:=w.heap.size}:=⟨_,rfl⟩
 obtain⟨hw1,hl1⟩:=Wait.begin hlt hm0 mem hfr hfree hdef ht rec0
 obtain⟨W1,hW1⟩:∃W1,W1=(w.alloc (.deferred (some []))).alloc (.loop rec0):=⟨_,rfl⟩
 rw[←hW1] at hw1 hl1
 have hcapv:RVs (fun b=>M0 b∨b=w.heap.size+1∨b=w.heap.size∨∃i s,β i=some (b,s)) (fun _=>none) W1 (cap.map coe) ys.toList:=by
  have hbel:Below w.heap.size w W1:=by rw[hW1];exact((Below.refl _ w).alloc (Nat.le_refl _) _).alloc (by simp) _
  have h1:=(mem.ext hbel).2.vs (eZ_ hr2)
  refine lr_ (fun b N hb hm=>?_) (c0_ hcap h1)
  rcases hm with hm|rfl|rfl|⟨i,s,hm⟩
  exact .inl hm
  simp[aN_,hl1] at hb
  simp[aN_,hw1.mark] at hb
  obtain⟨B,hB⟩:=Option.isSome_iff_exists.1 (ht i _ hm)
  exact .inr ⟨i,B,s,hB,hm⟩
 let E:GEnv P (w.heap.size+1) T N:={
  J:=fun k go M G W=>
   (go=true∧∃x,Inv x∧kk x=k∧W.heap[w.heap.size+1]?=some (.loop rec0)∧Wait M0 w0 a w M G (S x) W)∨
   (go=false∧∃e j c,eS_ e=some j∧PX e c∧W.heap[w.heap.size+1]?=some (.loop {rec0 with state:= .done,pending:=some j})∧Wait M0 w0 a w M G (X c) W)
  ok:=by
   have keep:∀{M G G':Nat→Prop} {W W':World} {st:AState},Wait M0 w0 a w M G st W→GStep G G' W W'→W'.heap[w.heap.size+1]?=W.heap[w.heap.size+1]?:=fun h hs=>hs.block _ (by have:=h.two;omega) (fun hG=>by have:=(h.glt _ hG).1;omega)
   rintro k go M G G' W W' (⟨h1,x,h2,h3,h4,h5⟩|⟨h1,e,j,c,h2,h3,h4,h5⟩) hs
   exact .inl ⟨h1,x,h2,h3,(keep h5 hs).trans h4,h5.step hm0' hlt hs⟩
   exact .inr ⟨h1,e,j,c,h2,h3,(keep h5 hs).trans h4,h5.step hm0' hlt hs⟩
  bound:=by
   rintro k M G W (⟨_,x,h2,rfl,_⟩|⟨h1,_⟩)
   exact hb x h2
   cases h1
  disj:=by
   rintro k go M G W (⟨_,x,_,_,_,h5⟩|⟨_,e,j,c,_,_,_,h5⟩)
   exact h5.disj hm0'
   exact h5.disj hm0'
  tabs:=by
   rintro k go M G W (⟨_,x,_,_,_,h5⟩|⟨_,e,j,c,_,_,_,h5⟩)
   exact h5.tabs hlt
   exact h5.tabs hlt
  yok:=by
   rintro k M G W as vals (⟨_,x,h2,rfl,h4,h5⟩|⟨h1,_⟩) hTk hv hG
   have hlen:vals.length=ps.size:=hv.length.trans (hT _ _ hTk)
   have hy:=run_yield (P:=P) (args:=vals.toArray) h4 (by rw[hrec0];simpa using hlen)
   refine⟨_,_,_,_,hy,?_⟩
   have e1:rec0.tmps=a.tmps:=by rw[hrec0]
   have e2:rec0.params=ps:=by rw[hrec0]
   have e3:rec0.assign=assign:=by rw[hrec0]
   have e4:rec0.body=body:=by rw[hrec0]
   rw[e1,e2,e3,e4]
   refine h5.round hm0' hlt hn hng' rfl h4 (by rw[hrec0]) (hSn x).2 hv hps' _ (hround _ x as h2 hTk) (fun x' M' W4 hx' hw4 hg4 hl4=>?_) (fun e j c M' W4 hj hPX hw4 hg4 hl4=>?_)
   refine⟨true,M',rfl,.inl ⟨rfl,x',hx'.1,hx'.2,?_,hw4⟩,hg4⟩
   rw[hl4,hrec0]
   exact⟨false,M',rfl,.inr ⟨rfl,e,j,c,hj,hPX,by rw[hl4,e1,e2,e3,e4],hw4⟩,hg4⟩
   cases h1}
 refine⟨w.heap.size+1,[{target:= .collected w.heap.size,args:= #[]}],W1,{target:= .fn (.func g) ys,args:= #[.func (.yield (w.heap.size+1)) #[] #[]]},W1,g, #[.func (.yield (w.heap.size+1)) #[] #[]]++ys,W1,by rw[hW1,hrec0];exact run_enterLoop_outer _ _ _ _ _,?_,fun _ _=>trivial,?_,fun h=>by simp[FR] at h,?_⟩
 simp only[resolve,hfe,Deferred.ofValue,Sem.run_pure]
 simp
 rfl
 simp only[invoke,hs.enters]
 have hc:=hs.calls (w.heap.size+1) N (Nat.le_refl N) E _ W1 ys.toList (.inl ⟨rfl,a0,hi,hk0,hl1,hw1⟩) hcapv
 rw[Array.toArray_toList] at hc
 refine hc.mono ?_
 rintro e W2 ⟨⟨v,rfl⟩,k,go,M',G',hJ,hTk⟩
 rcases hJ with⟨rfl,x,h2,rfl,h4,h5⟩|⟨rfl,e,j,c,h2,h3,h4,h5⟩
 refine⟨none,_,by have:=run_endLoop (P:=P) h4 (by rw[hrec0];simp);rw[this];rw[hrec0],S x,h5.over hlt hm0 hn (hSn x).1 h4,hdone x h2 (hTk rfl)⟩
 refine⟨some j,_,run_endLoop (P:=P) h4 (by simp),?_⟩
 have har:=h5.over hlt hm0 hn (hXn c) (rec':={({rec0 with state:= .done,pending:=some j}:Loop) with state:= .exhausted}) h4
 have hq:=hstop e c h3
 cases e with
 |ret=>simp only[eS_,Option.some.injEq] at h2;subst h2;exact wpIn_ret ⟨_,har,hq⟩
 |exit id=>simp only[eS_,Option.some.injEq] at h2;subst h2;exact wpIn_exit ⟨_,har,hq⟩
 |goto t=>simp only[eS_,Option.some.injEq] at h2;subst h2;exact wpIn_goto ⟨_,har,hq⟩
 |normal=>cases h2
 |panic ch=>cases h2
 |outgrown=>cases h2
theorem AWp.rangeFunc {Q:Exit→AState→Prop} {f:Operand} {fr:Fr} {hp:Hp} {nx n g:Nat} {cap:List AV} {T:Nat→Option (List AV)} (N:Nat) (S:α→AState) (kk:α→Nat) (Inv:α→Prop) (X:γ→AState) (PX:Exit→γ→Prop) (a0:α)
    (hf:evF (look (S a0).fr) f=some (.clos g [] cap)) (hs:GSpec P g (cap.map coe) T) (hps:ps.toList.all (Nat.blt · n)=true) (hng:Nat.ble n 1000=true) (hT:∀k as,T k=some as→as.length=ps.size)
    (hSn:∀a,(S a).n=n∧loFr (S a).fr=true) (hXn:∀c,(X c).n=n) (hi:Inv a0) (hk0:kk a0=0) (hb:∀a,Inv a→kk a≤N)
    (h0:SEntT ⟨fr,hp,nx,n⟩ (S a0)) (hcap:(∀x∈cap.map coe,Closed x))
    (hround:∀l a as,Inv a→T (kk a)=some as→AWp (some l) P assign (thenA (AWp (some l) P body (nY_ S (fun a'=>Inv a'∧kk a'=kk a+1) X PX n)) (fun _ _=>False)) ⟨setPs (S a).fr ps.toList as++cf_ (S a).fr,(S a).hp,(S a).nx,n⟩)
    (hdone:∀a,Inv a→T (kk a)=none→Q .normal (S a)) (hstop:∀e c,PX e c→Q e (X c)):AWp none P (.rangeFunc f ps assign body) Q ⟨fr,hp,nx,n⟩:=
 AWp.rangeFuncB N S kk Inv X PX a0 hf (hs N) hps hng hT hSn hXn hi hk0 hb h0 hcap hround hdone hstop
end
theorem GSpecB.enter {P:Program} {f:Nat} {fn:Func} {c:Code} {cap:List AV} {T:Nat→Option (List AV)} {K:Nat} (hf:P.funcs[f]?=some fn) (hb:fn.body=some c) (hname:(fn.name== "runtime.NumGoroutine")=false) (hrs:fn.results.toList=[]) {m:Nat} (hm:fn.ntmps=m) (hn:Nat.ble (cap.length+1) m=true)
    (hcl:∀a∈cap,Closed a) (hclT:∀k as,T k=some as→∀a∈as,Closed a) {fr:Fr} (hfr:argFr 1 cap=fr)
    (h:∀l N (_:N≤K) (E:GEnv P l T N),GWp E c (fun e k go _=>(e= .normal∨e= .ret)∧(go=true→T k=none)) 0 true ⟨(0,.v (.func (.yield l) #[] #[]))::fr,[],1,m⟩):GSpecB P f cap T K:=by
 subst hfr;exact GSpecB.intro hf hb hname hrs hm hn hcl hclT h
theorem GSpec.enter {P:Program} {f:Nat} {fn:Func} {c:Code} {cap:List AV} {T:Nat→Option (List AV)} (hf:P.funcs[f]?=some fn) (hb:fn.body=some c) (hname:(fn.name== "runtime.NumGoroutine")=false) (hrs:fn.results.toList=[]) {m:Nat} (hm:fn.ntmps=m) (hn:Nat.ble (cap.length+1) m=true)
    (hcl:∀a∈cap,Closed a) (hclT:∀k as,T k=some as→∀a∈as,Closed a) {fr:Fr} (hfr:argFr 1 cap=fr)
    (h:∀l N (E:GEnv P l T N),GWp E c (fun e k go _=>(e= .normal∨e= .ret)∧(go=true→T k=none)) 0 true ⟨(0,.v (.func (.yield l) #[] #[]))::fr,[],1,m⟩):GSpec P f cap T:=fun K=>by
 subst hfr;exact GSpecB.intro hf hb hname hrs hm hn hcl hclT (fun l N _ E=>h l N E)
section
variable {P:Program}{T:Nat}{x y:Operand}{a b:Int}
theorem jm_(hb:b≠0)(h: -9223372036854775808≤a.tdiv b∧a.tdiv b≤9223372036854775807):∀w,(do eqGuard .quo T x y (.int .i64 a) (.int .i64 b);binOp .quo T (.int .i64 a) (.int .i64 b):Sem Value).run P w= .ok (.int .i64 (a.tdiv b)) w:=fun w=>by
 rw[h8_ hb,IntWalk.i64_in _ h]
theorem sp_(hb:b≠0):∀w,(do eqGuard .rem T x y (.int .i64 a) (.int .i64 b);binOp .rem T (.int .i64 a) (.int .i64 b):Sem Value).run P w= .ok (.int .i64 (a.tmod b)) w:=fun w=>by
 rw[gM_ hb]
end
theorem AEval.callS2{P:Program}{id:Nat}{ev:Operand→Option AV}{hp:Nat→Option ABlk}{c:Call}{callee:Operand}{f:Nat}{fst cap as as' as2:List AV}{ids:List Nat}{r:AV}(h1:c.callee= .value callee)(h2:ev callee=some (.clos f fst cap))(h3:evs ev c.args.toList=some as)(h4:SealArgs hp (fst++as++cap) as2 ids)(he:as2=as')(h5:FSpec P f as' r):
    AEval P id ev hp (.call c) ⟨r,ids.map fun i=>(i,none)⟩ ids:=by subst he;exact .callS h1 h2 h3 h4 h5
theorem AEval.callS1{P:Program}{id:Nat}{ev:Operand→Option AV}{hp:Nat→Option ABlk}{c:Call}{callee:Operand}{f i:Nat}{fst cap as as' as2:List AV}{r:AV}(h1:c.callee= .value callee)(h2:ev callee=some (.clos f fst cap))(h3:evs ev c.args.toList=some as)(h4:SealArgs hp (fst++as++cap) as2 [i])(he:as2=as')(h5:FSpec P f as' r):
    AEval P id ev hp (.call c) ⟨r,[(i,none)]⟩ [i]:= .callS2 h1 h2 h3 h4 he h5
theorem FSpec.argE{P:Program}{f:Nat}{X Y:List (List AV)}{r:AV}(h:FSpec P f [.arr Y] r)(e:X=Y):FSpec P f [.arr X] r:=e▸h
theorem FSpec.argE2{P:Program}{f:Nat}{X Y:List (List AV)}{a r:AV}(h:FSpec P f [a,.arr Y] r)(e:X=Y):FSpec P f [a,.arr X] r:=e▸h
theorem AWp.cutB{ρ:Option Nat}{P:Program}{Q Q':Exit→AState→Prop}{st:AState}{x y:Code}{id:Nat}{α:Type}(S:α→AState)(Post:α→Prop)(h:AWp ρ P x (cutA S Post (o0_ id (thenA (AWp ρ P y Q) Q'))) st)(h2:∀a,Post a→AWp ρ P y Q (S a)):AWp ρ P x (o0_ id (thenA (AWp ρ P y Q) Q')) st:=
 AWp.mono h fun e s hs=>by
  cases e with
  |normal=>obtain⟨a,h3,h4⟩:=hs;exact AWp.ent h4 (h2 a h3)
  |_=>exact hs
theorem ai_{cs:List AV}{i o:Nat}(h:∀c∈cs,Closed c):Closed (.aptr [cs] i o):=
 cJ_ fun e he c hc=>by rw[List.mem_singleton.1 he] at hc;exact h c hc
theorem Cv.boxp{r:Ren}{hp hp':Nat→Option ABlk}{id o:Nat}{B:ABlk}{cs:List AV}(h:Shr r hp hp')(hi:cellF hp id=some B)(hd:Dead r hp' id)(e:B.es=[cs])(hc:∀c∈cs,Closed c):Cv r hp hp' (.lptr id 0 o) (.aptr [cs] 0 o):=by
 refine Cv.sealp h hi hd (by rw[e];exact Nat.zero_lt_one) ?_
 rw[e]
 exact aH_ h fun e he c hc'=>by rw[List.mem_singleton.1 he] at hc';exact hc c hc'
theorem FSpec.nil1{P:Program}{f:Nat}{r:AV}(h:∀a c,FSpec P f [.v (.slice a 0 c)] r):FSpec P f [.arr []] r:=by
 refine⟨fun a ha=>?_,(h none 0).enters,fun M w vals hM hargs=>?_⟩
 rw[List.mem_singleton.1 ha];exact aX_ fun e he=>by cases he
 obtain⟨x,xs,e,⟨a,c,hx,_⟩,hr⟩:=hargs
 exact(h a c).calls M w vals hM ⟨x,xs,e,hx,hr⟩
section
variable {P:Program}{T:Nat}{d:Nat×Nat}{x y:Operand}
theorem p1_(h:elOf P T=some d):∃e,P.underlying T=some (.slice e):=by
 unfold elOf at h
 split at h
 exact⟨_,by assumption⟩
 cases h
theorem nilE{a:Option Addr}{n c:Nat}(h:elOf P T=some d)(w:World):(do eqGuard .eql T x y (.slice a n c) (.slice none 0 0);binOp .eql T (.slice a n c) (.slice none 0 0):Sem Value).run P w= .ok (.bool a.isNone) w:=by
 obtain⟨e,hu⟩:=p1_ h
 have:(Op.equal T (.slice a n c) (.slice none 0 0)).run P w= .ok a.isNone w:=by
  unfold Op.equal
  rw[show Op.maxDepth=(Op.maxDepth- 1)+1 from rfl]
  cases a <;> simp[Op.equalIn,run_underlying hu]
 simp[eqGuard,binOp,this]
theorem AEval.nilq_arr{id:Nat}{ev:Operand→Option AV}{hp:Nat→Option ABlk}{x y:Operand}{yt:Nat}{es:List (List AV)}(hx:ev x=some (.arr es))(hn:es≠[])(hy:y= .const (.slice none 0 0))(h:elOf P T=some d):
    AEval P id ev hp (.binOp .eql T x y yt) ⟨.v (.bool false),[]⟩ []:=
 .bin_c hx hy fun M β w' xv hr w=>by
  obtain⟨a,c,rfl,_,_,h3⟩:=hr
  obtain⟨b,off,s,rfl,_⟩:=h3.resolve_left hn
  exact nilE h w
theorem AEval.nilq_v{id:Nat}{ev:Operand→Option AV}{hp:Nat→Option ABlk}{x y:Operand}{yt n c:Nat}{a:Option Addr}(hx:ev x=some (.v (.slice a n c)))(hy:y= .const (.slice none 0 0))(h:elOf P T=some d):
    AEval P id ev hp (.binOp .eql T x y yt) ⟨.v (.bool a.isNone),[]⟩ []:=
 .bin_c hx hy fun M β w' xv hr w=>by
  cases (hr:xv=_)
  exact nilE h w
end
section
variable {P:Program}{fr:Fr}{hp:Hp}{nx n:Nat}{r:AV}
theorem Fin.tmpN{t:Nat}(h:look fr t=some .emp):Fin P [.tmp t] (.arr []) .ret ⟨fr,hp,nx,n⟩:=Fin.tmp h (Cv.emp _)
theorem Fin.tmpS{t id k sz:Nat}{cap:Option Nat}{B:ABlk}{es:List (List AV)}(h:look fr t=some (.lsl id 0 k cap sz))(hb:cellF (lookB hp) id=some B)(e:B.es=es)(hn:k=es.length)(hc:∀e∈es,∀c∈e,Closed c):Fin P [.tmp t] (.arr es) .ret ⟨fr,hp,nx,n⟩:=
 Fin.tmp h (Cv.sealE as_ hb (fun _ _ h=>by cases h) e hn hc)
theorem Fin.tmpP{t id o:Nat}{B:ABlk}{cs:List AV}(h:look fr t=some (.lptr id 0 o))(hb:cellF (lookB hp) id=some B)(e:B.es=[cs])(hc:∀c∈cs,Closed c):Fin P [.tmp t] (.aptr [cs] 0 o) .ret ⟨fr,hp,nx,n⟩:=
 Fin.tmp h (Cv.boxp as_ hb (fun _ _ h=>by cases h) e hc)
end
theorem Cv.slN{r:Ren}{hp hp':Nat→Option ABlk}{id id' i n sz:Nat}{cap:Option Nat}(hi:Nat.blt id' r.n=true)(hs:r.s id'=id)(hl:(hp' id').isSome=true):Cv r hp hp' (.lsl id i n cap sz) (.lsl id' i n none sz):=by
 rintro M0 w0 β w y _ ⟨b,c,hb,e,h1,h2,h3,h4⟩
 exact⟨b,c,by rw[Ren.app_of (Nat.le_of_ble_eq_true hi) hl,hs];exact hb,e,h1,h2,(fun _ h=>by cases h),h4⟩
def Le(a a':AV):Prop:=∀(M:Nat→Prop) β w y,RV M β w a y→RV M β w a' y
inductive LeL:List AV→List AV→Prop
 |nil:LeL [] []
 |cons {a a' as as'}:Le a a'→LeL as as'→LeL (a::as) (a'::as')
theorem Le.refl(a:AV):Le a a:=fun _ _ _ _ h=>h
theorem Le.emp:Le .emp (.arr []):=fun _ _ _ _ h=>nX_ h
theorem LeL.refl:∀as,LeL as as
 |[]=> .nil
 |a::as=> .cons (Le.refl a) (LeL.refl as)
theorem LeL.rvs{M:Nat→Prop}{β:Nat→Option (Nat×Nat)}{w:World}{as as':List AV}(h:LeL as as'):∀{ys:List Value},RVs M β w as ys→RVs M β w as' ys:=by
 induction h with
 |nil=>exact fun h=>h
 |cons h1 _ ih=>rintro ys ⟨x,xs,e,r1,r2⟩;exact⟨x,xs,e,h1 M β w x r1,ih r2⟩
theorem Le.agg{cs cs':List AV}(h:LeL cs cs'):Le (.agg cs) (.agg cs'):=fun M β w y=>by
 rintro⟨xs,e,hr⟩;exact⟨xs,e,h.rvs hr⟩
theorem FSpec.weak{P:Program}{f:Nat}{as as':List AV}{r:AV}(h:FSpec P f as' r)(hl:LeL as as')(hc:∀a∈as,Closed a):FSpec P f as r:=
 ⟨hc,h.enters,fun M w vals hM hv=>h.calls M w vals hM (hl.rvs hv)⟩
end Go.Abs
