/- Part Y03 of the proof. -/
import Derived.Test.YtjmkjicckobojaaGreatDoorY02
import Derived.OrdersIn
set_option linter.all false
namespace Go.Abs
open Go.RowKit
section
variable {w0:Base}{a:Act}{t:Nat}
section
variable {P:Program}{id:Nat}{ev ev':Operand->Option AV}{hp hp':Hq}{op:Op}{u:Upd}{rd:Ln}
theorem gH{o:Option Operand}(h:∀x,o=some x->ev' x=ev x):evO ev' o=evO ev o:=by
 cases o with
 |none=>rfl
 |some x=>simp only[evO,h x rfl]
theorem SlB.congr{lo hi mx:Option Operand}{l h len:Nat}{cap m:Option Nat}(hb:SlB ev lo hi mx l h len cap m)(h1:∀x,lo=some x->ev' x=ev x)(h2:∀x,hi=some x->ev' x=ev x)(h3:∀x,mx=some x->ev' x=ev x):SlB ev' lo hi mx l h len cap m:=by
 unfold SlB at *
 rw[gH h1,gH h2,gH h3];grind
theorem η{p:Prop}(h:p:=by simp[Op.operands]):p:=h
theorem AEval.congr(h:AEval P id ev hp op u rd)(h1:∀x∈op.operands,ev' x=ev x)(h2:∀i∈rd,hp' i=hp i):AEval P id ev' hp' op u rd:=by
 have m1:∀{x:Operand} {a:AV},x∈op.operands->ev x=some a->ev' x=some a:=λb ha=>(h1 _ b).trans ha;have l:∀{xs:List Operand} {as:La},(∀x∈xs,x∈op.operands)->evs ev xs=some as->evs ev' xs=some as:=λb ha=>(sV λx z=>h1 x (b x z)).trans ha;cases h with
 |move h=>exact .move (m1 η h)
 |sem h=>exact .sem λT Q β J w ρ o O A F c s v p q=>h T Q β J w ρ o O A (λx b a ha=>F x b a (m1 b ha)) c s v p λi f=>(q i f).trans (h2 i f)
 |assign h=>exact .assign (m1 η h)
 |pick h ha hb=>exact .pick (m1 η h) (λt=>m1 η (ha t)) (λt=>m1 η (hb t))
 |alloc h j=>exact .alloc h j
 |box h c j=>exact .box (m1 η h) c j
 |load_l h hb=>exact .load_l (m1 η h) ((fE (h2 _ ψ)).trans hb) ‹_› ‹_› ‹_› ‹_›
 |load_l1 h hb=>exact .load_l1 (m1 η h) ((fE (h2 _ ψ)).trans hb) ‹_› ‹_› ‹_›
 |load_a h=>exact .load_a (m1 η h) ‹_› ‹_› ‹_› ‹_›
 |load_a1 h=>exact .load_a1 (m1 η h) ‹_› ‹_› ‹_›
 |store h hb d ha=>exact .store (m1 η h) ((fE (h2 _ ψ)).trans hb) d (m1 η ha) ‹_› ‹_› ‹_› ‹_›
 |nilCheck h c=>exact .nilCheck (m1 η h) c
 |bin h hb e=>exact .bin (m1 η h) (m1 η hb) e
 |bin_c h hb e=>exact .bin_c (m1 η h) hb e
 |un h e=>exact .un (m1 η h) e
 |conv h e=>exact .conv (m1 η h) e
 |extract h c=>exact .extract (m1 η h) c
 |build j C h m=>exact .build j C (l (by intro x b;simpa[Op.operands] using b) h) m
 |fieldAddr_l h m hs=>exact .fieldAddr_l (m1 η h) m hs
 |fieldAddr_a h m hs=>exact .fieldAddr_a (m1 η h) m hs
 |field h m ha n=>exact .field (m1 η h) m ha n
 |field1 h m ha n=>exact .field1 (m1 η h) m ha n
 |index_l h f D G d=>exact .index_l (m1 η h) (m1 η f) D G d
 |index_a h f D G n d=>exact .index_a (m1 η h) (m1 η f) D G n d
 |index_s h f e=>exact .index_s (m1 η h) (m1 η f) e
 |makeFunc ha hb=>exact .makeFunc (l (by intro x b;simp[Op.operands];exact .inl (by simpa using b)) ha) (l (by intro x b;simp[Op.operands];exact .inr (by simpa using b)) hb)
 |call c h ha hs=>exact .call c (m1 (by simp[Op.operands,Call.operands,c]) h) (l (by intro x b;simp[Op.operands,Call.operands,c];exact .inr (by simpa using b)) ha) hs
 |callS c h ha H hs=>exact .callS c (m1 (by simp[Op.operands,Call.operands,c]) h) (l (by intro x b;simp[Op.operands,Call.operands,c];exact .inr (by simpa using b)) ha) (H.congr λi f=>h2 i f) hs
 |callE c h ha b e hb hs=>exact .callE c (m1 (by simp[Op.operands,Call.operands,c]) h) ha (m1 (by simp[Op.operands,Call.operands,c,<-Eh,ha]) b) (l (by intro x b;simp[Op.operands,Call.operands,c,<-Eh,ha];exact .inr (.inr b)) e) ((fE (h2 _ ψ)).trans hb) hs
 |callO c h ha hs=>exact .callO c (m1 (by simp[Op.operands,Call.operands,c]) h) (l (by intro x b;simp[Op.operands,Call.operands,c];exact .inr (by simpa using b)) ha) hs
 |len c ha k h S d=>exact .len c ha k (m1 (by simp[Op.operands,Call.operands,c,ha]) h) S d
 |builtinV c ha e=>exact .builtinV c (l (by intro x b;simp[Op.operands,Call.operands,c];simpa using b) ha) e
 |slice_a h hb=>exact .slice_a (m1 η h) (SlB.congr hb (λx b=>h1 x (by rw[b];simp[Op.operands])) (λx b=>h1 x (by rw[b];simp[Op.operands])) (λx b=>h1 x (by rw[b];simp[Op.operands]))) ‹_› ‹_› ‹_› ‹_›
 |slice_l h hb=>exact .slice_l (m1 η h) (SlB.congr hb (λx b=>h1 x (by rw[b];simp[Op.operands])) (λx b=>h1 x (by rw[b];simp[Op.operands])) (λx b=>h1 x (by rw[b];simp[Op.operands]))) ‹_› ‹_› ‹_› ‹_›
 |slice_e h hb n K z d=>exact .slice_e (m1 η h) hb ((gH (λx b=>h1 x (by rw[b];simp[Op.operands]))).trans n) (by rw[gH (λx b=>h1 x (by rw[b];simp[Op.operands]))];exact K) (by rw[gH (λx b=>h1 x (by rw[b];simp[Op.operands]))];exact z) d
 |slice_v h n K z e=>exact .slice_v (m1 η h) ((gH (λx b=>h1 x (by rw[b];simp[Op.operands]))).trans n) ((gH (λx b=>h1 x (by rw[b];simp[Op.operands]))).trans K) ((gH (λx b=>h1 x (by rw[b];simp[Op.operands]))).trans z) e
 |makeSlice h c s v p q y L B j=>exact .makeSlice (m1 η h) (m1 η c) s v p q y L B j
 |buildSlice s v p q y h B M j=>exact .buildSlice s v p q y (l (by intro x b;simpa[Op.operands] using b) h) B M j
 |append0 c ha k d g b r hs=>exact .append0 c ha k d g (m1 (by simp[Op.operands,Call.operands,c,ha]) b) (m1 (by simp[Op.operands,Call.operands,c,ha]) r) (hs.congr h2)
 |append_e c ha k d g b r hs s v p q y L j=>exact .append_e c ha k d g (m1 (by simp[Op.operands,Call.operands,c,ha]) b) (m1 (by simp[Op.operands,Call.operands,c,ha]) r) (hs.congr h2) s v p q y L j
 |append_l c ha k d g b hb b1 b2 E R N r hs=>exact .append_l c ha k d g (m1 (by simp[Op.operands,Call.operands,c,ha]) b) ((fE (h2 _ ψ)).trans hb) b1 b2 E R N (m1 (by simp[Op.operands,Call.operands,c,ha]) r) (hs.congr λi f=>h2 i (lQ _ f)) ‹_› ‹_› ‹_› ‹_› ‹_›
 |copy c ha k d b hb b1 b2 E r hs=>exact .copy c ha k d (m1 (by simp[Op.operands,Call.operands,c,ha]) b) ((fE (h2 _ ψ)).trans hb) b1 b2 E (m1 (by simp[Op.operands,Call.operands,c,ha]) r) (hs.congr λi f=>h2 i (lQ _ f))
end
def look{α:Type}:List (Nat×α)->Nat->Option α
 |[],_=>none
 |(k,x)::l,t=>cond (Nat.beq k t) (some x) (look l t)
def ap(l:List (Nat×Option ABlk))(t:Nat):Option ABlk:=(look l t).join
structure AState where
 fr:List (Nat×AV)
 hp:List (Nat×Option ABlk)
 nx:Nat
 n:Nat
abbrev GH:Nat:=1000
def evF(fr:Nat->Option AV):Operand->Option AV
 | .tmp t=>cond (Nat.ble t 999) (fr t) none
 | .const v=>some (ofV v)
 | .global g=>some (.v (.pointer (some ⟨g,0,none⟩)))
 | .func f=>some (.clos f [] [])
def AState.ev(st:AState):Operand->Option AV:=evF (look st.fr)
def BK(fr:Nat->Option AV)(dst:Option Nat)(v:AV):Nat->Option AV:=match dst with|some d=>upd fr d (some v)|none=>fr
def JV(fr:List (Nat×AV))(dst:Option Nat)(v:AV):List (Nat×AV):=match dst with|some d=>(d,v)::fr|none=>fr
def AState.step(st:AState)(dst:Option Nat)(u:Upd):AState:={st with fr:=JV st.fr dst u.val,hp:=u.blk.reverse++st.hp}
theorem b8{α:Type}(k:Nat)(x:α)(l:List (Nat×α)):look ((k,x)::l)=upd (look l) k (some x):=by
 funext t;simp only[look,upd];by_cases h:t=k;subst h;simp
 have:Nat.beq k t=false:=by
  cases hb:Nat.beq k t with
  |false=>rfl
  |true=>simp_all
 grind
theorem oE(fr:List (Nat×AV))(dst:Option Nat)(v:AV):look (JV fr dst v)=BK (look fr) dst v:=by
 cases dst with
 |none=>rfl
 |some d=>exact b8 d v fr
theorem dw(k:Nat)(x:Option ABlk)(l:List (Nat×Option ABlk)):ap ((k,x)::l)=upd (ap l) k x:=by
 funext t;simp only[ap,b8,upd];grind
theorem lZ:∀(bs:List (Nat×Option ABlk)) (l:List (Nat×Option ABlk)),ap (bs.reverse++l)=iF (ap l) bs
 |[],l=>rfl
 |(k,x)::bs,l=>by
  simp only[Oq,MT,List.singleton_append,iF];rw[lZ bs,dw]
def Et(D:Nat):Deferred:={target:= .collected D,args:= #[]}
def DefOK(ds:List Deferred)(w0:Base)(w:World):Prop:=
 ∃Ds:Ln,ds=Ds.map Et/\Ds.Nodup/\∀D∈Ds,w.heap[D]?=some (.deferred (some []))/\¬w0.K D
def fj(w0:Base)(a:Act)(t:Nat):Value:=if t< GH\/t< a.tmps.size then a.tmps.getD t undef else w0.gh t
theorem F6(h:Nat.ble t 999=true):fj w0 a t=a.tmps.getD t undef:=if_pos (.inl (by have:=r9 h;grind))
theorem cN(h:w0.gh=λ_=>undef)(t:Nat):fj w0 a t=a.tmps.getD t undef:=by
 unfold fj;grind
theorem slot_hi(h:GH<=t)(h2:a.tmps.size<=t):fj w0 a t=w0.gh t:=if_neg ω
def FRel(M0:Nat->Prop)(w0:Base)(fr:Nat->Option AV)(hp:Hq)(free:Nat->Prop)(n:Nat)(a:Act)(w:World):Prop:=
 ∃β,Mem M0 w0 β hp w/\a.tmps.size=n/\(∀t x,fr t=some x->RV (MM M0 β hp) β w x (fj w0 a t))/\(∀i,free i->β i=none/\i≠0)/\DefOK a.defers w0 w
def jT(M0:Nat->Prop)(w0:Base)(st:AState)(a:Act)(w:World):Prop:=FRel M0 w0 (look st.fr) (ap st.hp) (λi=>st.nx<=i) st.n a w
theorem DefOK.stab{ds:List Deferred}{w w':World}{M M':Nat->Prop}{β β':Bq}(h:DefOK ds w0 w)(st:Stab M M' β β' w w'):DefOK ds w0 w':=by
 obtain⟨b,e,c,g⟩:=h;refine⟨b,e,c,λD i=>?_⟩;obtain⟨d,f⟩:=g D i;have a:D< w.heap.size:=φ
 exact⟨by rw[st.oth D a (by simp[aY,d])];grind,f⟩
theorem evF_tmp{fr:Nat->Option AV}{v:AV}(h:evF fr (.tmp t)=some v):Nat.ble t 999=true/\fr t=some v:=by
 simp only[evF] at h;grind
theorem fG{M:Nat->Prop}{β:Bq}{w:World}{fr:Nat->Option AV}(h:∀t x,fr t=some x->RV M β w x (fj w0 a t)):∀x v,evF fr x=some v->RV M β w v (a.eval x)
 | .tmp t,v,hv=>by
  obtain⟨b,d⟩:=evF_tmp hv;have:=h t v d;rw[F6 b] at this;exact this
 | .const c,v,hv=>by simp only[evF,Option.some.injEq] at hv;subst hv;exact JE c
 | .global g,v,hv=>by simp only[evF,Option.some.injEq] at hv;subst hv;rfl
 | .func f,v,hv=>by simp only[evF,Option.some.injEq] at hv;subst hv;exact⟨#[], #[],rfl,rfl,rfl⟩
def gV:Value->Option Bool
 | .bool b=>some b
 |_=>none
def AStep(P:Program)(ops:Array Oper)(id:Nat)(fr:Nat->Option AV)(hp:Hq)(o:Oper)(u:Upd)(rd:Ln):Prop:=
 (∀c,o.op≠ .defer c)/\
 match o.guard with
 |none=>AEval P id (evF fr) hp o.op u rd
 |some (g,want)=> ∃t x,(ops[g]?).bind (·.dst)=some t/\evF fr (.tmp t)=some (.v x)/\
    ((gV x=some want/\AEval P id (evF fr) hp o.op u rd)\/(gV x≠some want/\u=⟨.v undef,[]⟩/\rd=[]))
def FR(ρ:Option Nat):Fence:={fn:=λ_=>True,depth:=none,alive:=false,round:=ρ}
section
variable {P:Program}{M0:Nat->Prop}{w0:Base}{w:World}{ops:Array Oper}{id n:Nat}{fr:Nat->Option AV}{hp:Hq}{free:Nat->Prop}{o:Oper}{u:Upd}{rd:Ln}{a:Act}{ρ:Option Nat}{Q:Exit->Act->World->Prop}
theorem u7{f:FuncId}{args:Array Value}{R:Ending->World->Prop}{k:Nat}(h:Calls P f args w R):CallsIn (FR ρ) k P f args w R:=
 (callsIn_wide (n:=k)).2 h
theorem qT{d:Nat}{v:Value}(hd:d< a.tmps.size):fj w0 (a.put (some d) v) t=if t=d then v else fj w0 a t:=by
 have hs:(a.put (some d) v).tmps.size=a.tmps.size:=by simp[Act.put]
 have b:(a.put (some d) v).tmps.getD t undef=if t=d then v else a.tmps.getD t undef:=by
  simp only[Act.put,oj];grind
 unfold fj;grind
theorem AStep.sim (h:AStep P ops id fr hp o u rd) (hr:FRel M0 w0 fr hp free n a w) (hid:free id) (hd:∀d,o.dst=some d->d< n) {K:Act->World->Prop}
    (hK:∀a' w',FRel M0 w0 (BK fr o.dst u.val) (iF hp u.blk) (λi=>free i/\i≠id) n a' w'->K a' w'):
    if Region.wanted o (yielded ops a.tmps) then o.wpIn (FR ρ) 0 P a w K Q else(∀f,o.about P w a.eval=some f->(FR ρ).fn f)/\K (a.put o.dst undef) w:=by
 obtain⟨β,r,X,l,k,E⟩:=hr;obtain⟨G,C⟩:=k id hid
 have F:hp id=none:=by
  cases D:hp id with
  |none=>rfl
  |some B=>obtain⟨b,hb,_⟩:=r.blk id B D;grind
 -- behind the operation
 have fin:∀y w' z,nj M0 w0 β hp w id u y w' z->K (a.put o.dst y) w':=by
  rintro y w' z ⟨W,Z,st,T⟩;refine hK _ _ ⟨z,W,?_,λt x q=>?_,λi R=>?_,?_⟩;cases o.dst <;> simp[Act.put,X];cases hdst:o.dst with
  |none=>rw[hdst] at q;have e:fj w0 (a.put none y) t=fj w0 a t:=rfl
         rw[e];exact st.all (l t x q)
  |some d=>
   rw[hdst] at q;rw[qT φ];simp only[BK,upd] at q;split at q
   ·grind
   ·rename_i L;rw[if_neg L];exact st.all (l t x q)
  rw[T i R.2];exact k i R.1;have:(a.put o.dst y).defers=a.defers:=by cases o.dst <;> rfl
  rw[this];exact E.stab st
 have run:AEval P id (evF fr) hp o.op u rd->o.wpIn (FR ρ) 0 P a w K Q:=by
  intro M;refine⟨λ_ _=>trivial,?_⟩;rw[Oper.semAt_eq _ _ _ h.1];rcases M.good (ρ:=a.eval) (o:=o) r (fG l) (λ_=>rfl) C G F rfl with⟨y,w',z,c,p⟩|⟨f,N,c,m⟩
  rcases c with c|⟨c,rfl⟩
  rw[c];exact fin y w' z p;rw[c];exact fin undef w' z p;rw[c];refine⟨λD=>by simp[FR] at D,u7 (m.mono ?_)⟩;grind
 have skip:u=⟨.v undef,[]⟩->K (a.put o.dst undef) w:=by
  rintro rfl;exact fin undef w β ⟨r,rfl,.refl,λ_ _=>rfl⟩
 have H:=h.2;cases hg:o.guard with
 |none=>
  rw[hg] at H;rw[if_pos (by simp[Region.wanted,hg])];exact run H
 |some V=>
  obtain⟨g,A⟩:=V;rw[hg] at H;obtain⟨t,x,S,q,Y⟩:=H;have j:a.tmps.getD t undef=x:=fG l (.tmp t) _ q
  have J:yielded ops a.tmps g=gV x:=by
   simp only[yielded,S,zL];cases htt:a.tmps[t]? with
   |none=>
    rw[oj,htt] at j;subst j;rfl
   |some y=>
    rw[oj,htt] at j;simp only[M8] at j;subst j;cases y <;> rfl
  have O:Region.wanted o (yielded ops a.tmps)=true↔gV x=some A:=by
   simp only[Region.wanted,hg,J,beq_iff_eq]
  rcases Y with⟨s,M⟩|⟨s,U,_⟩
  rw[if_pos (O.2 s)];exact run M;rw[if_neg (λD=>s (O.1 D))];exact⟨λ_ _=>trivial,skip U⟩
end
end
section
variable {b i t:Nat}{fr:Nat->Option AV}{hp:Hq}
section lists
theorem xQ:∀{l m:Ln},l.Pairwise (· < ·)->m.Pairwise (· < ·)->(∀x,x∈l↔x∈m)->l=m
 |[],[],_,_,_=>rfl
 |[],b::m,_,_,h=>absurd ((h b).2 (mu ..)) ψ
 |a::l,[],_,_,h=>absurd ((h a).1 (mu ..)) ψ
 |a::l,b::m,hl,hm,h=>by
  rw[List.pairwise_cons] at hl hm
  have f:a=b:=by
   rcases pY.1 ((h a).1 (mu ..)) with e|e
   exact e;rcases pY.1 ((h b).2 (mu ..)) with d|d
   exact d.symm;grind
  congr 1;refine xQ hl.2 hm.2 λx=>⟨λc=>?_,λc=>?_⟩;rcases pY.1 ((h x).1 (lQ _ c)) with e|e
  have:=hl.1 x c;omega;exact e;grind
theorem yr{S α:Type}(step:S->Nat->S)(get:S->α)(p:Nat->Bool)(val:Nat->α)(h1:∀s j,p j=true->get (step s j)=val j)(h2:∀s j,p j=false->get (step s j)=get s):
    ∀(σ τ:Ln) (s t:S),get s=get t->σ.filter p=τ.filter p->get (σ.foldl step s)=get (τ.foldl step t):=by
 have a:∀(σ:Ln) (s:S),get (σ.foldl step s)=((σ.filter p).foldl (λ_ j=>val j) (get s)):=by
  intro σ
  induction σ with
  |nil=>grind
  |cons j σ b=>
   grind
 grind
end lists
structure Topo (anc:Nat->Nat->Bool)(N:Nat)(σ:Ln):Prop where
 lt:∀a∈σ,a< N
 pw:σ.Pairwise λa b=>anc b a=false
 closed:∀a∈σ,∀b,anc b a=true->b∈σ
theorem Topo.filter {anc:Nat->Nat->Bool} {N:Nat} {σ:Ln} (h:Topo anc N σ) (nd:σ.Nodup) {p:Nat->Bool} {j:Nat} (ha:∀i,i< j->p i=true->i∈σ) (hb:∀i,j<=i->p i=true->i∉σ)
    (hc:∀i k,i< k->k< N->p i=true->p k=true->anc i k=true):σ.filter p=(List.range j).filter p:=by
 refine xQ ?_ (List.Pairwise.filter _ List.pairwise_lt_range) λx=>?_;have c:σ.Pairwise λa b=>anc b a=false/\a≠b:=h.pw.and nd
 have:(σ.filter p).Pairwise λa b=>(anc b a=false/\a≠b)/\(a∈σ.filter p/\b∈σ.filter p):=by
  have f:=List.Pairwise.filter p c;exact Ow (φ) f
 refine this.imp ?_;rintro a b ⟨⟨f,m⟩,g,l⟩;rw[Pd] at g l;rcases Nat.lt_trichotomy a b with d|heq|e
 exact d;exact absurd heq m;have:=hc b a e (h.lt a g.1) l.2 g.2;rw[f] at this;cases this;grind
def DP(xs:List Operand):Ln:=xs.filterMap fun| .tmp t=>some t|_=>none
def nI(ops:Array Oper)(o:Oper):Ln:=
 DP o.op.operands.toList++(match o.guard with|some (g,_)=>((ops[g]?).bind (·.dst)).toList|none=>[])
def pc(d1 d2:Option Nat)(l1 l2:Ln)(w1 r1 w2 r2:Ln):Bool:=
 (match d1,d2 with|some a,some b=>!Nat.beq a b|_,_=>true) &&
 (match d1 with|some a=>l2.all λt=>!Nat.beq a t|none=>true) &&
 (match d2 with|some b=>l1.all λt=>!Nat.beq b t|none=>true) &&
 (w1.all λk=>(r2.all λt=>!Nat.beq k t) && (w2.all λt=>!Nat.beq k t)) &&
 (w2.all λk=>r1.all λt=>!Nat.beq k t)
theorem HY{a:Nat}(h:(!Nat.beq a b)=true):a≠b:=by
 intro e;simp_all
section
variable (ops:Array Oper)(us:List (Upd×Ln))(fr0:Nat->Option AV)(hp0:Hq)
def dst?(j:Nat):Option Nat:=(ops[j]?).bind (·.dst)
def val?(j:Nat):AV:=((us[j]?).map (·.1.val)).getD .any
def blk?(j:Nat):List (Nat×Option ABlk):=((us[j]?).map (·.1.blk)).getD []
def rd?(j:Nat):Ln:=((us[j]?).map (·.2)).getD []
def wk?(j:Nat):Ln:=(blk? us j).map (·.1)
def lk?(j:Nat):Ln:=((ops[j]?).map (nI ops)).getD []
def stF(σ:Ln):Nat->Option AV:=σ.foldl (λfr j=>BK fr (dst? ops j) (val? us j)) fr0
def stH(σ:Ln):Nat->Option ABlk:=σ.foldl (λhp j=>iF hp (blk? us j)) hp0
def qv(anc:Nat->Nat->Bool):Bool:=(List.range ops.size).all λj=>(List.range j).all λi=>anc i j||
 pc (dst? ops i) (dst? ops j) (lk? ops i) (lk? ops j) (wk? us i) (rd? us i) (wk? us j) (rd? us j)
end
theorem mX:∀(bs:List (Nat×Option ABlk)) (hp:Hq) (k:Nat),k∉bs.map (·.1)->iF hp bs k=hp k
 |[],_,_,_=>rfl
 |(i,x)::bs,hp,k,h=>by
  simp only[zo,pY,not_or] at h;rw[iF,mX bs _ k h.2,bw _ _ h.1]
theorem yP:∀(bs:List (Nat×Option ABlk)) (hp hp':Hq) (k:Nat),k∈bs.map (·.1)->iF hp bs k=iF hp' bs k
 |(i,x)::bs,hp,hp',k,h=>by
  simp only[iF];by_cases hk:k∈bs.map (·.1);exact yP bs _ _ k hk;rw[mX bs _ k hk,mX bs _ k hk];simp_all
section
variable {ops:Array Oper}{us:List (Upd×Ln)}{fr0:Nat->Option AV}{hp0:Hq}
theorem y7(σ τ:Ln)(t:Nat)(h:σ.filter (λj=>dst? ops j==some t)=τ.filter (λj=>dst? ops j==some t)):stF ops us fr0 σ t=stF ops us fr0 τ t:=by
 refine yr (S:=Nat->Option AV) _ (λfr=>fr t) (λj=>dst? ops j==some t) (λj=>some (val? us j)) ?_ ?_ σ τ _ _ rfl h;intro s j a;rw[beq_iff_eq] at a;simp[BK,a];intro s j a;cases hd:dst? ops j with
 |none=>rfl
 |some d=>simp only[BK];rw[bw];grind
theorem y6(σ τ:Ln)(k:Nat)(h:σ.filter (λj=>(wk? us j).contains k)=τ.filter (λj=>(wk? us j).contains k)):stH us hp0 σ k=stH us hp0 τ k:=by
 refine yr (S:=Nat->Option ABlk) _ (λhp=>hp k) (λj=>(wk? us j).contains k) (λj=>iF (λ_=>none) (blk? us j) k) ?_ ?_ σ τ _ _ rfl h;intro s j a;exact yP _ _ _ k (by simpa[wk?] using a);intro s j a;exact mX _ _ k (by simpa[wk?] using a)
theorem jh{anc:Nat->Nat->Bool}(h:qv ops us anc=true){j:Nat}(hij:i< j)(hj:j< ops.size)(hn:anc i j=false):
    pc (dst? ops i) (dst? ops j) (lk? ops i) (lk? ops j) (wk? us i) (rd? us i) (wk? us j) (rd? us j)=true:=by
 have a:=pZ.1 h j (xd.2 hj);grind
theorem pg{xs:List Operand}(h:Operand.tmp t∈xs):t∈DP xs:=by
 unfold DP;grind
variable {anc:Nat->Nat->Bool}{σ:Ln}{j:Nat}
theorem FK (hok:qv ops us anc=true) (ht:Topo anc ops.size σ) (nd:σ.Nodup) (hj:j< ops.size) (hjσ:j∉σ) (hr:∀i,anc i j=true->i∈σ)
    (hww:∀i k t,i< k->k< ops.size->dst? ops i=some t->dst? ops k=some t->anc i k=true) (hl:t∈lk? ops j):
    stF ops us fr0 σ t=stF ops us fr0 (List.range j) t:=by
 refine y7 σ _ t (ht.filter nd (λi d hp=>?_) (λi d hp=>?_) λi k c f l h=>hww i k t c f φ φ);rw[beq_iff_eq] at hp;cases ha:anc i j with
 |true=>grind
 |false=>
  have b:=jh hok d hj ha;simp only[pc,hp,sj,pZ] at b;exact absurd rfl (HY (b.1.1.1.2 t hl))
 intro a;rw[beq_iff_eq] at hp;have g:i≠j:=λe=>hjσ (e▸a);cases ha:anc j i with
 |true=>exact hjσ (ht.closed i a j ha)
 |false=>
  have b:=jh hok (show j< i by omega) (ht.lt i a) ha;simp only[pc,hp,sj,pZ] at b;exact absurd rfl (HY (b.1.1.2 t hl))
theorem MK (hok:qv ops us anc=true) (ht:Topo anc ops.size σ) (nd:σ.Nodup) (hj:j< ops.size) (hjσ:j∉σ) (hr:∀i,anc i j=true->i∈σ)
    (hww:∀i k b,i< k->k< ops.size->b∈wk? us i->b∈wk? us k->anc i k=true) (hl:b∈rd? us j):
    stH us hp0 σ b=stH us hp0 (List.range j) b:=by
 refine y6 σ _ b (ht.filter nd (λi g hp=>?_) (λi g hp=>?_) λi k f h n m=>hww i k b f h φ φ);have a:b∈wk? us i:=φ
 cases ha:anc i j with
 |true=>grind
 |false=>
  have d:=jh hok g hj ha;simp only[pc,sj,pZ] at d;exact absurd rfl (HY ((d.1.2 b a).1 b hl))
 intro c;have a:b∈wk? us i:=φ
 have l:i≠j:=λe=>hjσ (e▸c);cases ha:anc j i with
 |true=>exact hjσ (ht.closed i c j ha)
 |false=>
  have d:=jh hok (show j< i by omega) (ht.lt i c) ha;simp only[pc,sj,pZ] at d;exact absurd rfl (HY (d.2 b a b hl))
theorem nC(hok:qv ops us anc=true){k:Nat}(hik:i< k)(hk:k< ops.size)(h1:dst? ops i=some t)(h2:dst? ops k=some t):anc i k=true:=by
 cases ha:anc i k with
 |true=>rfl
 |false=>
  have a:=jh hok hik hk ha;simp only[pc] at a;simp_all
theorem qu(hok:qv ops us anc=true){k:Nat}(hik:i< k)(hk:k< ops.size)(h1:b∈wk? us i)(h2:b∈wk? us k):anc i k=true:=by
 cases ha:anc i k with
 |true=>rfl
 |false=>
  have a:=jh hok hik hk ha;simp only[pc,sj,pZ] at a;exact absurd rfl (HY ((a.1.2 b h1).2 b h2))
theorem s8{fr':Nat->Option AV}{x:Operand}(h:∀t,x= .tmp t->fr' t=fr t):evF fr' x=evF fr x:=by
 cases x with
 |tmp t=>simp only[evF,h t rfl]
 |_=>rfl
theorem AStep.congr {P:Program} {id:Nat} {fr':Nat->Option AV} {hp':Hq} {o:Oper} {u:Upd} {rd:Ln} (h:AStep P ops id fr hp o u rd)
    (h1:∀t∈nI ops o,fr' t=fr t) (h2:∀i∈rd,hp' i=hp i):AStep P ops id fr' hp' o u rd:=by
 have c:AEval P id (evF fr) hp o.op u rd->AEval P id (evF fr') hp' o.op u rd:=λc=>c.congr (λx d=>s8 λt e=>h1 t (by
  subst e;exact tE _ (pg (Eh.2 d)))) h2
 refine⟨h.1,?_⟩;have f:=h.2;cases hg:o.guard with
 |none=>grind
 |some k=>
  rw[hg] at f;obtain⟨t,x,g,d,j⟩:=f;refine⟨t,x,g,?_,j.imp (fun⟨a,b⟩=>⟨a,c b⟩) (λz=>z)⟩;simp only[evF,h1 t (List.mem_append_right _ φ)];exact d
theorem mH(σ:Ln)(j:Nat):stF ops us fr0 (σ++[j])=BK (stF ops us fr0 σ) (dst? ops j) (val? us j):=by simp[stF]
theorem ij(σ:Ln)(j:Nat):stH us hp0 (σ++[j])=iF (stH us hp0 σ) (blk? us j):=by simp[stH]
theorem sT{p q:Nat->Bool}:∀{l:Ln} {j:Nat},j∈l->p j=true->q j=false->(∀x,q x=true->p x=true)->(l.filter q).length< (l.filter p).length
 |a::l,j,c,hp,hq,h=>by
  have e:(l.filter q).length<=(l.filter p).length:=by
   clear c
   induction l with
   |nil=>simp
   |cons b l d=>
    grind
  rcases pY.1 c with rfl|c
  rw[List.filter_cons_of_neg φ,List.filter_cons_of_pos hp];simp;omega;have d:=sT c hp hq h;grind
structure AncOK (ops:Array Oper)(anc:Nat->Nat->Bool):Prop where
 back:∀j o,ops[j]?=some o->∀e∈o.after,Region.binds .any e=true->e.on< j
 ready:∀(σ:Ln) j o,(∀a∈σ,∀b,anc b a=true->b∈σ)->ops[j]?=some o->(∀e∈o.after,Region.binds .any e=true->e.on∈σ)->∀b,anc b j=true->b∈σ
variable {P:Program}{M0:Nat->Prop}{w0:Base}{w:World}{nx n:Nat}{a:Act}{ρ:Option Nat}{Q:Exit->Act->World->Prop}{rid:Nat}
theorem FRel.free{f f':Nat->Prop}(h:FRel M0 w0 fr hp f n a w)(hf:∀i,f' i->f i):FRel M0 w0 fr hp f' n a w:=by
 obtain⟨β,d,b,g,c,e⟩:=h;exact⟨β,d,b,g,λi j=>c i (hf i j),e⟩
theorem FRel.drew{f:Nat->Prop}(h:FRel M0 w0 fr hp f n a w):FRel M0 w0 fr hp f n a w.drew:=by
 obtain⟨β,e,c,i,d,g⟩:=h;have b:=e.ext ((Below.refl w.heap.size w).drew);exact⟨β,b.1,c,λt x j=>b.2.all (i t x j),d,g.stab b.2⟩
theorem D9 (hm:P.follows .mixedOrders=true) (hanc:AncOK ops anc) (hok:qv ops us anc=true)
    (hsteps:∀j o,ops[j]?=some o->∃u rd,us[j]?=some (u,rd)/\AStep P ops (nx+j) (stF ops us fr0 (List.range j)) (stH us hp0 (List.range j)) o u rd/\∀d,o.dst=some d->d< n)
    (hrel:FRel M0 w0 fr0 hp0 (λi=>nx<=i) n a w)
    (hQ:∀a' w',FRel M0 w0 (stF ops us fr0 (List.range ops.size)) (stH us hp0 (List.range ops.size)) (λi=>nx+ops.size<=i) n a' w'->Q .normal a' w'):
    (Code.region rid ops true).wpIn (FR ρ) 0 P Q a w:=by
 refine wpIn_region_any hm ?_
 have main:∀(fuel:Nat) (σ:Ln) (listed:Array Bool) (a:Act) (w:World),Topo anc ops.size σ->σ.Nodup->listed.size=ops.size->(∀j,j< ops.size->(listed.getD j true=true↔j∈σ)/\(listed.getD j false=true↔j∈σ))->
     ((List.range ops.size).filter λj=>!σ.contains j).length<=fuel->FRel M0 w0 (stF ops us fr0 σ) (stH us hp0 σ) (λi=>nx<=i/\∀j∈σ,i≠nx+j) n a w->
     wpAnyIn (FR ρ) 0 P .any ops Q fuel listed a w:=by
  have fin:∀(σ:Ln) (a:Act) (w:World),Topo anc ops.size σ->σ.Nodup->(∀j,j< ops.size->j∈σ)->FRel M0 w0 (stF ops us fr0 σ) (stH us hp0 σ) (λi=>nx<=i/\∀j∈σ,i≠nx+j) n a w->Q .normal a w:=by
   intro σ a w ht nd hall hr;refine hQ a w ?_
   have e1:stF ops us fr0 σ=stF ops us fr0 (List.range ops.size):=by
    funext t;refine y7 σ _ t (ht.filter nd (λi hi _=>hall i hi) (λi hi _ hiσ=>by have:=ht.lt i hiσ;omega) λi k hik hk h1 h2=>nC hok hik hk (by simpa using h1) φ)
   have e2:stH us hp0 σ=stH us hp0 (List.range ops.size):=by
    funext t;refine y6 σ _ t (ht.filter nd (λi hi _=>hall i hi) (λi hi _ hiσ=>by have:=ht.lt i hiσ;omega) λi k hik hk h1 h2=>qu hok hik hk (by simpa using h1) φ)
   rw[<-e1,<-e2];exact hr.free λi hi=>⟨ω,λj hj=>by have:=ht.lt j hj;omega⟩
  have allIn:∀(σ:Ln) (listed:Array Bool),(∀j,j< ops.size->(listed.getD j true=true↔j∈σ)/\(listed.getD j false=true↔j∈σ))->Region.ready .any ops listed=[]->∀j,j< ops.size->j∈σ:=by
   intro σ listed hl hr j
   induction j using Nat.strongRecOn with
   |_ j ih=>
    intro hj;by_cases hjσ:j∈σ;exact hjσ;exfalso
    have hmem:j∈Region.ready .any ops listed:=by
     refine mem_ready.2 ⟨?_,ops[j],NJ hj,λe he hb=>?_⟩;cases hh:listed.getD j true with
     |false=>rfl
     |true=>exact absurd ((hl j hj).1.1 hh) hjσ
     have hlt:=hanc.back j _ (NJ hj) e he hb;exact(hl e.on ω).2.2 (ih e.on hlt ω)
    rw[hr] at hmem;cases hmem
  intro fuel
  induction fuel with
  |zero=>
   intro σ listed a w ht nd hsz hl hf hr
   have hall:∀j,j< ops.size->j∈σ:=by
    intro j hj;by_cases hjσ:j∈σ;exact hjσ;exfalso;have:j∈(List.range ops.size).filter λj=>!σ.contains j:=Pd.2 ⟨xd.2 hj,by simpa using hjσ⟩;rw[xi (Nat.le_zero.1 hf)] at this;cases this
   refine⟨?_,fin σ a w ht nd hall hr⟩;rw[List.eq_nil_iff_forall_not_mem];intro j hj;obtain⟨h0,o,ho,_⟩:=mem_ready.1 hj;have hlt:j< ops.size:=(sk.1 ho).1;rw[(hl j hlt).1.2 (hall j hlt)] at h0;cases h0
  |succ fuel ih=>
   intro σ listed a w ht nd hsz hl hf hr;refine⟨λh0=>fin σ a w ht nd (allIn σ listed hl h0) hr,λj hj=>?_⟩;obtain⟨h0,o,ho,hedges⟩:=mem_ready.1 hj;have hlt:j< ops.size:=(sk.1 ho).1;have hjσ:j∉σ:=λh=>by rw[(hl j hlt).1.2 h] at h0;cases h0
   have hready:∀i,anc i j=true->i∈σ:=hanc.ready σ j o ht.closed ho λe he hb=>(hl e.on (by have:=hanc.back j o ho e he hb;omega)).2.1 (hedges e he hb);obtain⟨u,rd,hu,hstep,hdst⟩:=hsteps j o ho;have hlk:lk? ops j=nI ops o:=by simp[lk?,ho]
   have hrd:rd? us j=rd:=by simp[rd?,hu]
   have hstep':AStep P ops (nx+j) (stF ops us fr0 σ) (stH us hp0 σ) o u rd:=hstep.congr
    (λt htl=>FK hok ht nd hlt hjσ hready (λi k t h1 h2 h3 h4=>nC hok h1 h2 h3 h4) (by rw[hlk];exact htl))
    (λb hb=>MK hok ht nd hlt hjσ hready (λi k b h1 h2 h3 h4=>qu hok h1 h2 h3 h4) (by rw[hrd];exact hb))
   have hd1:dst? ops j=o.dst:=by simp[dst?,ho]
   have hv1:val? us j=u.val:=by simp[val?,hu]
   have hb1:blk? us j=u.blk:=by simp[blk?,hu]
   have ht':Topo anc ops.size (σ++[j]):=by
    refine⟨λx hx=>?_,LM.2 ⟨ht.pw,List.pairwise_singleton _ _,λx hx y hy=>?_⟩,λx hx b hb=>?_⟩;rcases n7.1 hx with h|h
    exact ht.lt x h;rw[kI.1 h];exact hlt;rw[kI.1 hy];cases hh:anc j x with
    |false=>rfl
    |true=>exact absurd (ht.closed x hx j hh) hjσ
    rcases n7.1 hx with h|h
    exact tE _ (ht.closed x h b hb);rw[kI.1 h] at hb;exact tE _ (hready b hb)
   have nd':(σ++[j]).Nodup:=List.nodup_append.2 ⟨nd,ψ,λx hx y hy e=>by rw[kI.1 hy] at e;exact hjσ (e▸hx)⟩
   have hl':∀i,i< ops.size->((listed.setIfInBounds j true).getD i true=true↔i∈σ++[j])/\((listed.setIfInBounds j true).getD i false=true↔i∈σ++[j]):=by
    intro i hi;by_cases hij:j=i;subst hij;simp[oj,hsz,hlt];rw[getD_set_ne _ hij,getD_set_ne _ hij,n7,kI];have:=hl i hi;exact⟨this.1.trans ⟨.inl,λh=>h.resolve_right λe=>hij e.symm⟩,this.2.trans ⟨.inl,λh=>h.resolve_right λe=>hij e.symm⟩⟩
   have hf':((List.range ops.size).filter λi=>!(σ++[j]).contains i).length<=fuel:=by
    have:=sT (p:=λi=>!σ.contains i) (q:=λi=>!(σ++[j]).contains i) (xd.2 hlt) (by simpa using hjσ) ψ (λx hx=>by simp at hx⊢;exact hx.1);omega
   unfold wpOpIn;simp only[ho]
   refine hstep'.sim hr ⟨ω,λi hi e=>by have:j=i:=ω
                                       exact hjσ (this▸hi)⟩ hdst ?_
   intro a' w' hr';refine ih (σ++[j]) _ a' w' ht' nd' (by simpa using hsz) hl' hf' ?_;rw[mH,ij,hd1,hv1,hb1];exact hr'.free λi ⟨h1,h2⟩=>⟨⟨h1,λk hk=>h2 k (tE _ hk)⟩,h2 j ψ⟩
 refine main ops.size [] _ a _ ⟨ψ,List.Pairwise.nil,ψ⟩ E9 ψ ?_ ?_ ?_;intro j hj;simp[oj,hj];exact fo (List.length_filter_le _ _) ψ;exact(hrel.drew).free λi hi=>hi.1
end
end
section
variable {k i o b:Nat}{es:Lc}{hp':Hq}{β:Bq}{x:AV}{xs ys:La}{B:ABlk}{st st':AState}
def xY(k:Nat)(β:Bq):Nat->Option (Nat×Nat):=λi=>if i< k then β i else none
theorem D8(β:Bq):xY 0 β=λ_=>none:=by funext i;simp[xY]
def Lo(k:Nat)(a:AV):Prop:=∀(M:Nat->Prop) β w y,RV M β w a y->RV M (xY k β) w a y
theorem Closed.lo{a:AV}(h:Closed a)(k:Nat):Lo k a:=λM β w y b=>
 StabC.all (β:=λ_=>none) (w:=w) (M:=M) (M':=M) ⟨λ_ _ _ _=>rfl,λ_ _ _ h=>h,(λ_ _ h=>by cases h),λ_ _ h=>h⟩ (h M β w y b)
theorem Lo.closed{a:AV}(h:Lo 0 a):Closed a:=λM β w y b=>by have:=h M β w y b;rwa[D8] at this
section
variable {M:Nat->Prop}{β:Bq}{w:World}{k:Nat}
theorem vD:∀{cs:La} {ys:List Value},(∀c∈cs,Lo k c)->RVs M β w cs ys->RVs M (xY k β) w cs ys
 |[],_,_,h=>h
 |c::_,_,hc,⟨x,xs,e,h1,h2⟩=>⟨x,xs,e,hc c (mu ..) M β w x h1,vD (λd a=>hc d (lQ _ a)) h2⟩
theorem Gc{b:Nat}:∀{cs:La} {off:Nat},(∀c∈cs,Lo k c)->RVcs M β w b cs off->RVcs M (xY k β) w b cs off
 |[],_,_,_=>trivial
 |c::_,_,hc,⟨⟨x,h0,h1⟩,h2⟩=>⟨⟨x,h0,hc c (mu ..) M β w x h1⟩,Gc (λd a=>hc d (lQ _ a)) h2⟩
theorem vG{b s:Nat}:∀{es:Lc} {off:Nat},(∀e∈es,∀c∈e,Lo k c)->RVess M β w b s es off->RVess M (xY k β) w b s es off
 |[],_,_,_=>trivial
 |e::_,_,hc,⟨h0,h1,h2⟩=>⟨h0,Gc (hc e (mu ..)) h1,vG (λd a=>hc d (lQ _ a)) h2⟩
end
@[simp] theorem lo_v (k:Nat)(x:Value):Lo k (.v x):=λ_ _ _ _ h=>h
@[simp] theorem lo_any (k:Nat):Lo k .any:=λ_ _ _ _ h=>h
@[simp] theorem lo_emp (k:Nat):Lo k .emp:=λ_ _ _ _ h=>h
theorem lo_arr(h:∀e∈es,∀c∈e,Lo k c):Lo k (.arr es):=by
 rintro M β w y ⟨a,c,rfl,i,g,l⟩;refine⟨a,c,rfl,i,g,l.imp (λh=>h) ?_⟩;rintro⟨b,d,s,rfl,hb,f,j⟩;exact⟨b,d,s,rfl,hb,f,vG h j⟩
theorem lo_aptr(h:∀e∈es,∀c∈e,Lo k c):Lo k (.aptr es i o):=by
 rintro M β w y ⟨g,b,a,s,rfl,hb,d,f⟩;exact⟨g,b,a,s,rfl,hb,d,vG h f⟩
theorem lo_agg{cs:La}(h:∀c∈cs,Lo k c):Lo k (.agg cs):=by
 rintro M β w y ⟨xs,rfl,a⟩;exact⟨xs,rfl,vD h a⟩
theorem lo_tup{cs:La}(h:∀c∈cs,Lo k c):Lo k (.tup cs):=by
 rintro M β w y ⟨xs,rfl,a⟩;exact⟨xs,rfl,vD h a⟩
theorem lo_clos{f:Nat}{fst cap:La}(h1:∀c∈fst,Lo k c)(h2:∀c∈cap,Lo k c):Lo k (.clos f fst cap):=by
 rintro M β w y ⟨xs,b,rfl,d,a⟩;exact⟨xs,b,rfl,vD h1 d,vD h2 a⟩
structure Ren where
 n:Nat
 s:Nat->Nat
def Ren.id(k:Nat):Ren:=⟨k,λi=>i⟩
def Ren.app(r:Ren)(hp':Hq)(β:Bq):Nat->Option (Nat×Nat):=λi=>if i< r.n/\(hp' i).isSome=true then β (r.s i) else none
theorem Ren.app_zero(hp':Hq)(β:Bq):(Ren.id 0).app hp' β=λ_=>none:=by funext i;simp[Ren.app,Ren.id]
theorem Ren.app_some{r:Ren}{x:Nat×Nat}(h:r.app hp' β i=some x):i< r.n/\β (r.s i)=some x:=by
 unfold Ren.app at h;grind
theorem Ren.app_of{r:Ren}(h:i< r.n)(hl:(hp' i).isSome=true):r.app hp' β i=β (r.s i):=by rw[Ren.app,if_pos ⟨h,hl⟩]
theorem Ren.app_live{r:Ren}{x:Nat×Nat}(h:r.app hp' β i=some x):(hp' i).isSome=true:=by
 unfold Ren.app at h;grind
structure Shr (r:Ren)(hp hp':Hq):Prop where
 sub:∀i B,hp' i=some B->i< r.n/\∃B0,hp (r.s i)=some B0/\B0.ty=B.ty/\B0.sz=B.sz/\B0.es.length=B.es.length
def Cv(r:Ren)(hp hp':Hq)(x0 x:AV):Prop:=∀(M0:Nat->Prop) w0 β w y,Mem M0 w0 β hp w->RV (MM M0 β hp) β w x0 y->RV (MM M0 (r.app hp' β) hp') (r.app hp' β) w x y
def CvL(r:Ren)(hp hp':Hq):La->La->Prop
 |[],ys=>ys=[]
 |x::xs,ys=> ∃y ys',ys=y::ys'/\Cv r hp hp' x y/\CvL r hp hp' xs ys'
def CvLL(r:Ren)(hp hp':Hq):Lc->Lc->Prop
 |[],ys=>ys=[]
 |x::xs,ys=> ∃y ys',ys=y::ys'/\CvL r hp hp' x y/\CvLL r hp hp' xs ys'
section
variable {r:Ren}{hp hp':Hq}{M0:Nat->Prop}{w0:Base}{w:World}{β:Bq}
theorem Shr.mm(h:Shr r hp hp')(hb:MM M0 (r.app hp' β) hp' b):MM M0 β hp b:=by
 rcases hb with hb|⟨i,B,s,d,c⟩
 exact .inl hb;obtain⟨_,a,e,_⟩:=h.sub i B d;exact .inr ⟨r.s i,a,s,e,(Ren.app_some c).2⟩
theorem ao(h:Shr r hp hp')(hl:Closed x):Cv r hp hp' x x:=λa _ β w y _ c=>
 StabC.all (β:=λ_=>none) (w:=w) (w':=w) ⟨λ_ _ _ _=>rfl,λ_ _ _ b=>h.mm b,(λ_ _ h=>by cases h),λ_ _ h=>h⟩ (hl (MM a β hp) β w y c)
theorem Cv.loE{x':AV}(h:Shr r hp hp')(e:x=x')(hl:Closed x):Cv r hp hp' x x':=e▸ao h hl
theorem Cv.ptr{id id':Nat}(hi:Nat.blt id' r.n=true)(hs:r.s id'=id)(hl:(hp' id').isSome=true):Cv r hp hp' (.lptr id i o) (.lptr id' i o):=by
 rintro a c β w y _ ⟨b,s,hb,rfl⟩;exact⟨b,s,by rw[Ren.app_of (r9 hi) hl];grind,rfl⟩
theorem Cv.sl{id id' n sz:Nat}{cap:Option Nat}(hi:Nat.blt id' r.n=true)(hs:r.s id'=id)(hl:(hp' id').isSome=true):Cv r hp hp' (.lsl id i n cap sz) (.lsl id' i n cap sz):=by
 rintro d e β w y _ ⟨b,c,hb,a⟩;exact⟨b,c,by rw[Ren.app_of (r9 hi) hl];grind,a⟩
theorem CvL.rvs(mem:Mem M0 w0 β hp w):∀{xs ys:La} {vs:List Value},CvL r hp hp' xs ys->RVs (MM M0 β hp) β w xs vs->RVs (MM M0 (r.app hp' β) hp') (r.app hp' β) w ys vs
 |[],ys,vs,h,hr=>by cases (h:ys=[]);exact hr
 |x::xs,ys,vs,⟨y,ys',e,h1,h2⟩,⟨v,vs',e',r1,r2⟩=>by subst e;exact⟨v,vs',e',h1 M0 w0 β w v mem r1,CvL.rvs mem h2 r2⟩
theorem CvL.rvcs(mem:Mem M0 w0 β hp w):∀{xs ys:La} {off:Nat},CvL r hp hp' xs ys->RVcs (MM M0 β hp) β w b xs off->RVcs (MM M0 (r.app hp' β) hp') (r.app hp' β) w b ys off
 |[],ys,off,h,hr=>by cases (h:ys=[]);exact hr
 |x::xs,ys,off,⟨y,ys',e,h1,h2⟩,⟨⟨v,e',r1⟩,r2⟩=>by subst e;exact⟨⟨v,e',h1 M0 w0 β w v mem r1⟩,CvL.rvcs mem h2 r2⟩
theorem CvL.length:∀{xs ys:La},CvL r hp hp' xs ys->ys.length=xs.length
 |[],ys,h=>by cases (h:ys=[]);rfl
 |x::xs,ys,⟨y,ys',e,_,h2⟩=>by subst e;simp[CvL.length h2]
theorem CvLL.kv(mem:Mem M0 w0 β hp w):∀{xs ys:Lc} {ens:List MapEntry},CvLL r hp hp' xs ys->RVkv (MM M0 β hp) β w xs ens->RVkv (MM M0 (r.app hp' β) hp') (r.app hp' β) w ys ens
 |[],ys,_,h,hr=>by cases (h:ys=[]);exact hr
 |x::xs,ys,_,⟨y,ys',e,h1,h2⟩,⟨en,es',e2,r1,r2⟩=>by subst e;exact⟨en,es',e2,h1.rvs mem r1,CvLL.kv mem h2 r2⟩
theorem CvLL.length:∀{xs ys:Lc},CvLL r hp hp' xs ys->ys.length=xs.length
 |[],ys,h=>by cases (h:ys=[]);rfl
 |x::xs,ys,⟨y,ys',e,_,h2⟩=>by subst e;simp[CvLL.length h2]
theorem CvLL.rvess{s:Nat}(mem:Mem M0 w0 β hp w):∀{xs ys:Lc} {off:Nat},CvLL r hp hp' xs ys->RVess (MM M0 β hp) β w b s xs off->RVess (MM M0 (r.app hp' β) hp') (r.app hp' β) w b s ys off
 |[],ys,off,h,hr=>by cases (h:ys=[]);exact hr
 |x::xs,ys,off,⟨y,ys',e,h1,h2⟩,⟨r0,r1,r2⟩=>by subst e;exact⟨h1.length.trans r0,h1.rvcs mem r1,CvLL.rvess mem h2 r2⟩
theorem Cv.agg(h:CvL r hp hp' xs ys):Cv r hp hp' (.agg xs) (.agg ys):=by
 rintro c d β w y a ⟨vs,rfl,b⟩;exact⟨vs,rfl,h.rvs a b⟩
theorem Cv.tup(h:CvL r hp hp' xs ys):Cv r hp hp' (.tup xs) (.tup ys):=by
 rintro c d β w y a ⟨vs,rfl,b⟩;exact⟨vs,rfl,h.rvs a b⟩
theorem Cv.clos{f:Nat}{xs' ys':La}(h1:CvL r hp hp' xs ys)(h2:CvL r hp hp' xs' ys'):Cv r hp hp' (.clos f xs xs') (.clos f ys ys'):=by
 rintro d e β w y a ⟨vs,us,rfl,c,b⟩;exact⟨vs,us,rfl,h1.rvs a c,h2.rvs a b⟩
theorem Cv.emp(x:AV)(hx:x= .arr []:=by rfl):Cv r hp hp' .emp x:=by
 subst hx;rintro b c β w y a h;exact zi h
theorem Cv.any(x:AV):Cv r hp hp' x .any:=λ_ _ _ _ _ _ _=>trivial
theorem Cv.trans_eq{y z:AV}(h:Cv r hp hp' x y)(e:y=z):Cv r hp hp' x z:=e▸h
theorem CvLL.drop:∀{xs ys:Lc} (n:Nat),CvLL r hp hp' xs ys->CvLL r hp hp' (xs.drop n) (ys.drop n)
 |_,_,0,h=>h
 |[],ys,n+1,h=>by cases (h:ys=[]);exact rfl
 |x::xs,ys,n+1,⟨y,ys',e,_,h2⟩=>by subst e;exact CvLL.drop n h2
def ux(r:Ren)(hp':Hq)(i:Nat):Prop:=∀j B,hp' j=some B->r.s j≠i
theorem vy{s:Nat}(mem:Mem M0 w0 β hp w)(h:Shr r hp hp')(hi:hp i=some B)(hi':ux r hp' i)(hb:β i=some (b,s)):¬MM M0 (r.app hp' β) hp' b:=by
 rintro(e|⟨j,a,f,c,g⟩);exact(mem.rng i b s hb).1 (mem.m0 b e).1;obtain⟨_,d,k,_⟩:=h.sub j a c;exact hi' j a c (mem.inj i (r.s j) B d b s f hi k hb (Ren.app_some g).2).symm
theorem Cv.shut{id n sz:Nat}{cap:Option Nat}(h:Shr r hp hp')(hi:dS hp id=some B)(hi':ux r hp' id)(hn:i+n<=B.es.length)(hc:CvLL r hp hp' ((B.es.drop i).take n) es):
    Cv r hp hp' (.lsl id i n cap sz) (.arr es):=by
 rintro o m β w y a ⟨b,c,hb,rfl,j,e,_,_⟩;obtain⟨l,cs,d,g,k,_⟩:=a.cellsF hi;rw[hb] at d;cases d;have f:es.length=n:=by rw[hc.length];grind
 exact⟨_,c,by rw[f],ω,e,.inr ⟨b,0+i* B.sz,B.sz,ψ,⟨cs.size,by simp[aY,g]⟩,vy a h (ea hi).1 hi' hb,hc.rvess a ((k.drop i).take n)⟩⟩
theorem Cv.sealp{id:Nat}(h:Shr r hp hp')(hi:dS hp id=some B)(hi':ux r hp' id)(hn:i< B.es.length)(hc:CvLL r hp hp' B.es es):
    Cv r hp hp' (.lptr id i o) (.aptr es i o):=by
 rintro f g β w y a ⟨b,s,hb,rfl⟩;obtain⟨j,cs,c,d,e,_⟩:=a.cellsF hi;rw[hb] at c;cases c;exact⟨by rw[hc.length];grind,b,0,B.sz,ψ,⟨cs.size,by simp[aY,d]⟩,vy a h (ea hi).1 hi' hb,hc.rvess a e⟩
theorem CvL.clo:∀{xs:La},Shr r hp hp'->(∀c∈xs,Closed c)->CvL r hp hp' xs xs
 |[],_,_=>rfl
 |x::_,h,hl=>⟨x,_,rfl,ao h (hl x (mu ..)),CvL.clo h λc a=>hl c (lQ _ a)⟩
theorem bv:∀{xs:Lc},Shr r hp hp'->(∀e∈xs,∀c∈e,Closed c)->CvLL r hp hp' xs xs
 |[],_,_=>rfl
 |x::_,h,hl=>⟨x,_,rfl,CvL.clo h (hl x (mu ..)),bv h λc a=>hl c (lQ _ a)⟩
theorem aM{xs ys:Lc}(h:Shr r hp hp')(e:xs=ys)(hc:∀e∈ys,∀c∈e,Closed c):CvLL r hp hp' xs ys:=by subst e;exact bv h hc
end
def SEnt(st st':AState):Prop:=∀M0 w0 a w,jT M0 w0 st a w->jT M0 w0 st' a w
theorem SEnt.refl(st:AState):SEnt st st:=λ_ _ _ _ h=>h
theorem SEnt.trans{a b c:AState}(h:SEnt a b)(h':SEnt b c):SEnt a c:=λd e x w f=>h' d e x w (h d e x w f)
def CvF(r:Ren)(hp hp':Hq)(fr:List (Nat×AV)):List (Nat×AV)->Prop
 |[]=>True
 |(t,x)::l=>(∃x0,look fr t=some x0/\Cv r hp hp' x0 x)/\CvF r hp hp' fr l
def CvH(r:Ren)(hp hp':Hq):List (Nat×Option ABlk)->Prop
 |[]=>True
 |(i,x)::l=>(match x with|none=>True|some B=>i< r.n/\∃B0,hp (r.s i)=some B0/\B0.ty=B.ty/\B0.sz=B.sz/\CvLL r hp hp' B0.es B.es)/\CvH r hp hp' l
theorem CvF.look{r:Ren}{hp hp':Hq}{fr:List (Nat×AV)}:∀{l:List (Nat×AV)} {t:Nat} {x:AV},CvF r hp hp' fr l->look l t=some x->∃x0,look fr t=some x0/\Cv r hp hp' x0 x
 |[],_,_,_,h=>by cases h
 |(s,y)::l,t,x,⟨h1,h2⟩,h=>by
  rw[b8] at h;unfold upd at h;split at h
  ·grind
  exact CvF.look h2 h
theorem CvH.look{r:Ren}{hp:Hq}:∀{l:List (Nat×Option ABlk)} {i:Nat} {B:ABlk},CvH r hp hp' l->ap l i=some B->i< r.n/\∃B0,hp (r.s i)=some B0/\B0.ty=B.ty/\B0.sz=B.sz/\CvLL r hp hp' B0.es B.es
 |[],_,_,_,h=>by cases h
 |(s,y)::l,i,B,⟨h1,h2⟩,h=>by
  rw[dw] at h;unfold upd at h;split at h
  ·grind
  exact CvH.look h2 h
def ShrL(r:Ren)(hp:Hq):List (Nat×Option ABlk)->Prop
 |[]=>True
 |(i,x)::l=>(match x with|none=>True|some B=>i< r.n/\∃B0,hp (r.s i)=some B0/\B0.ty=B.ty/\B0.sz=B.sz/\B0.es.length=B.es.length)/\ShrL r hp l
theorem ShrL.shr{r:Ren}{hp:Hq}:∀{l:List (Nat×Option ABlk)},ShrL r hp l->Shr r hp (ap l)
 |[],_=>⟨λi B h=>by cases h⟩
 |(s,y)::l,⟨h1,h2⟩=>⟨λi B h=>by
  rw[dw] at h;unfold upd at h;split at h
  ·grind
  exact(ShrL.shr h2).sub i B h⟩
theorem iA:∀{l:List (Nat×Option ABlk)} {i:Nat} {B:ABlk},ap l i=some B->(i,some B)∈l
 |[],_,_,h=>by cases h
 |(s,y)::l,i,B,h=>by
  rw[dw] at h;unfold upd at h;split at h
  ·grind
  exact lQ _ (iA h)
def nN(r:Ren):Ln->Bool
 |[]=>true
 |i::l=>l.all (λj=>!Nat.beq (r.s i) (r.s j)||Nat.beq i j) && nN r l
theorem yh{r:Ren}:∀{l:Ln},nN r l=true->∀i j,i∈l->j∈l->r.s i=r.s j->i=j
 |[],_,i,_,h,_,_=>by cases h
 |a::l,hh,i,j,hi,hj,e=>by
  simp only[nN,sj,pZ] at hh
  have b:∀k∈l,r.s a=r.s k->a=k:=λk d e=>by
   have:=hh.1 k d;simp_all
  rcases pY.1 hi with h1|h1 <;> rcases pY.1 hj with c|c
  rw[h1,c];rw[h1] at e⊢;exact b j c e;rw[c] at e⊢;exact(b i h1 e.symm).symm;exact yh hh.2 i j h1 c e
theorem aR{r:Ren}{l:List (Nat×Option ABlk)}(h:(l.all λp=>!Nat.beq (r.s p.1) i)=true):ux r (ap l) i:=λj B a e=>by
 have:=pZ.1 h _ (iA a);simp_all
def TRel(M0:Nat->Prop)(w0:Base)(st:AState)(a:Act)(w:World):Prop:=
 ∃β,Mem M0 w0 β (ap st.hp) w/\a.tmps.size=st.n/\(∀t x,look st.fr t=some x->RV (MM M0 β (ap st.hp)) β w x (fj w0 a t))/\(∀i,st.nx<=i->β i=none/\i≠0)/\DefOK a.defers w0 w/\∀i x,β i=some x->(ap st.hp i).isSome=true
theorem TRel.arel{M0:Nat->Prop}{w0:Base}{a:Act}{w:World}(h:TRel M0 w0 st a w):jT M0 w0 st a w:=by
 obtain⟨β,d,b,f,c,e,_⟩:=h;exact⟨β,d,b,f,c,e⟩
def SEntT(st st':AState):Prop:=∀M0 w0 a w,jT M0 w0 st a w->TRel M0 w0 st' a w
theorem SEntT.ent(h:SEntT st st'):SEnt st st':=λb d a w c=>(h b d a w c).arel
theorem SEntT.intro(r:Ren)(hr:r.n=st'.nx)(hk:0< st'.nx)(h0:r.s 0=0)(hinj:nN r (st'.hp.map (·.1))=true)(hn:st'.n=st.n)(hF:CvF r (ap st.hp) (ap st'.hp) st.fr st'.fr)(hH:CvH r (ap st.hp) (ap st'.hp) st'.hp):SEntT st st':=by
 rintro F D a w ⟨β,c,f,e,y,o⟩;refine⟨r.app (ap st'.hp) β,⟨c.below,c.m0,λi b s d=>c.rng _ b s (Ren.app_some d).2,λg=>?_,λi B d=>?_,λi j B J b s A f e y o=>?_⟩,f.trans hn.symm,λt x E=>?_,λi d=>?_,o,λi x d=>Ren.app_live d⟩;rw[Ren.app_of ω g,h0];obtain⟨B,H⟩:=xa.1 g;obtain⟨_,h,e1,_⟩:=hH.look H;exact c.pin φ;obtain⟨p,h,e1,e2,G,u⟩:=hH.look d;obtain⟨b,K,k⟩:=c.blk _ h e1;refine⟨b,by rw[Ren.app_of p φ];grind,?_⟩;rcases k with⟨g,cs,k,l,L⟩|⟨g,q,C,k,l⟩
 refine .inl ⟨φ,cs,φ,?_,by rw[u.length];grind⟩;rw[<-G];exact u.rvess c l;exact .inr ⟨φ,q,C,k,u.kv c l⟩;obtain⟨_,h,e1,_⟩:=hH.look f;obtain⟨_,m,v,_⟩:=hH.look e;have:=c.inj _ _ h m b s A e1 v (Ren.app_some y).2 (Ren.app_some o).2;exact yh hinj i j (Oa (iA f)) (Oa (iA e)) this;obtain⟨z,e1,e2⟩:=hF.look E;exact e2 F D β w _ c (e t z e1);simp only[Ren.app];grind
theorem SEnt.intro(r:Ren)(hr:r.n=st'.nx)(hk:0< st'.nx)(h0:r.s 0=0)(hinj:nN r (st'.hp.map (·.1))=true)(hn:st'.n=st.n)(hF:CvF r (ap st.hp) (ap st'.hp) st.fr st'.fr)(hH:CvH r (ap st.hp) (ap st'.hp) st'.hp):SEnt st st':=
 (SEntT.intro r hr hk h0 hinj hn hF hH).ent
end
end Go.Abs
