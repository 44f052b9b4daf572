/- Part Y03 of the proof. -/
import Derived.Test.YtjgokhkahkmpbaaGreatDoorY02
import Derived.OrdersIn
set_option linter.all false
namespace Go.Abs
open Go.RowKit
section
variable {w0:Base}{a:Act}{t:Nat}
section
variable {P:Program}{id:Nat}{ev ev':Operand->Option AV}{hp hp':Hq}{op:Op}{u:Upd}{rd:Ln}
theorem fF{o:Option Operand}(h:∀x,o=some x->ev' x=ev x):evO ev' o=evO ev o:=by
 cases o with
 |none=>rfl
 |some x=>simp only[evO,h x rfl]
theorem SlB.congr{lo hi mx:Option Operand}{l h len:Nat}{cap m:Option Nat}(hb:SlB ev lo hi mx l h len cap m)(h1:∀x,lo=some x->ev' x=ev x)(h2:∀x,hi=some x->ev' x=ev x)(h3:∀x,mx=some x->ev' x=ev x):SlB ev' lo hi mx l h len cap m:=by
 unfold SlB at *
 rw[fF h1,fF h2,fF h3];grind
theorem θ{p:Prop}(h:p:=by simp[Op.operands]):p:=h
theorem AEval.congr(h:AEval P id ev hp op u rd)(h1:∀x∈op.operands,ev' x=ev x)(h2:∀i∈rd,hp' i=hp i):AEval P id ev' hp' op u rd:=by
 have m1:∀{x:Operand} {a:AV},x∈op.operands->ev x=some a->ev' x=some a:=λhx ha=>(h1 _ hx).trans ha;have me:∀{xs:List Operand} {as:La},(∀x∈xs,x∈op.operands)->evs ev xs=some as->evs ev' xs=some as:=λhx ha=>(wu λx hm=>h1 x (hx x hm)).trans ha;cases h with
 |move h=>exact .move (m1 θ h)
 |sem h=>exact .sem λM0 w0 β hp2 w ρ o ho mem hev hc a1 a2 a3 a4=>h M0 w0 β hp2 w ρ o ho mem (λx hx a ha=>hev x hx a (m1 hx ha)) hc a1 a2 a3 λi hi=>(a4 i hi).trans (h2 i hi)
 |assign h=>exact .assign (m1 θ h)
 |pick h ha hb=>exact .pick (m1 θ h) (λt=>m1 θ (ha t)) (λt=>m1 θ (hb t))
 |alloc h hz=>exact .alloc h hz
 |box h hc hz=>exact .box (m1 θ h) hc hz
 |load_l h hb=>exact .load_l (m1 θ h) ((eS (h2 _ ψ)).trans hb) ‹_› ‹_› ‹_› ‹_›
 |load_l1 h hb=>exact .load_l1 (m1 θ h) ((eS (h2 _ ψ)).trans hb) ‹_› ‹_› ‹_›
 |load_a h=>exact .load_a (m1 θ h) ‹_› ‹_› ‹_› ‹_›
 |load_a1 h=>exact .load_a1 (m1 θ h) ‹_› ‹_› ‹_›
 |store h hb he ha=>exact .store (m1 θ h) ((eS (h2 _ ψ)).trans hb) he (m1 θ ha) ‹_› ‹_› ‹_› ‹_›
 |nilCheck h hc=>exact .nilCheck (m1 θ h) hc
 |bin h hb hr=>exact .bin (m1 θ h) (m1 θ hb) hr
 |bin_c h hb hr=>exact .bin_c (m1 θ h) hb hr
 |un h hr=>exact .un (m1 θ h) hr
 |conv h hr=>exact .conv (m1 θ h) hr
 |extract h hc=>exact .extract (m1 θ h) hc
 |build hz hpl h hf=>exact .build hz hpl (me (by intro x hx;simpa[Op.operands] using hx) h) hf
 |fieldAddr_l h hf hs=>exact .fieldAddr_l (m1 θ h) hf hs
 |fieldAddr_a h hf hs=>exact .fieldAddr_a (m1 θ h) hf hs
 |field h hf ha hl=>exact .field (m1 θ h) hf ha hl
 |field1 h hf ha hl=>exact .field1 (m1 θ h) hf ha hl
 |index_l h hi h0 hk he=>exact .index_l (m1 θ h) (m1 θ hi) h0 hk he
 |index_a h hi h0 hk hl he=>exact .index_a (m1 θ h) (m1 θ hi) h0 hk hl he
 |index_s h hi hr=>exact .index_s (m1 θ h) (m1 θ hi) hr
 |makeFunc ha hb=>exact .makeFunc (me (by intro x hx;simp[Op.operands];exact .inl (by simpa using hx)) ha) (me (by intro x hx;simp[Op.operands];exact .inr (by simpa using hx)) hb)
 |call hc h ha hs=>exact .call hc (m1 (by simp[Op.operands,Call.operands,hc]) h) (me (by intro x hx;simp[Op.operands,Call.operands,hc];exact .inr (by simpa using hx)) ha) hs
 |callS hc h ha hsl hs=>exact .callS hc (m1 (by simp[Op.operands,Call.operands,hc]) h) (me (by intro x hx;simp[Op.operands,Call.operands,hc];exact .inr (by simpa using hx)) ha) (hsl.congr λi hi=>h2 i hi) hs
 |callE hc h ha hx hr hb hs=>exact .callE hc (m1 (by simp[Op.operands,Call.operands,hc]) h) ha (m1 (by simp[Op.operands,Call.operands,hc,<-Array.mem_toList_iff,ha]) hx) (me (by intro x hx;simp[Op.operands,Call.operands,hc,<-Array.mem_toList_iff,ha];exact .inr (.inr hx)) hr) ((eS (h2 _ ψ)).trans hb) hs
 |callO hc h ha hs=>exact .callO hc (m1 (by simp[Op.operands,Call.operands,hc]) h) (me (by intro x hx;simp[Op.operands,Call.operands,hc];exact .inr (by simpa using hx)) ha) hs
 |len hc ha ht h hn he=>exact .len hc ha ht (m1 (by simp[Op.operands,Call.operands,hc,ha]) h) hn he
 |builtinV hc ha hr=>exact .builtinV hc (me (by intro x hx;simp[Op.operands,Call.operands,hc];simpa using hx) ha) hr
 |slice_a h hb=>exact .slice_a (m1 θ h) (SlB.congr hb (λx hx=>h1 x (by rw[hx];simp[Op.operands])) (λx hx=>h1 x (by rw[hx];simp[Op.operands])) (λx hx=>h1 x (by rw[hx];simp[Op.operands]))) ‹_› ‹_› ‹_› ‹_›
 |slice_l h hb=>exact .slice_l (m1 θ h) (SlB.congr hb (λx hx=>h1 x (by rw[hx];simp[Op.operands])) (λx hx=>h1 x (by rw[hx];simp[Op.operands])) (λx hx=>h1 x (by rw[hx];simp[Op.operands]))) ‹_› ‹_› ‹_› ‹_›
 |slice_e h hb hl hh hm he=>exact .slice_e (m1 θ h) hb ((fF (λx hx=>h1 x (by rw[hx];simp[Op.operands]))).trans hl) (by rw[fF (λx hx=>h1 x (by rw[hx];simp[Op.operands]))];exact hh) (by rw[fF (λx hx=>h1 x (by rw[hx];simp[Op.operands]))];exact hm) he
 |slice_v h hl hh hm hr=>exact .slice_v (m1 θ h) ((fF (λx hx=>h1 x (by rw[hx];simp[Op.operands]))).trans hl) ((fF (λx hx=>h1 x (by rw[hx];simp[Op.operands]))).trans hh) ((fF (λx hx=>h1 x (by rw[hx];simp[Op.operands]))).trans hm) hr
 |makeSlice h hc a1 a2 a3 a4 a5 a6 a7 hz=>exact .makeSlice (m1 θ h) (m1 θ hc) a1 a2 a3 a4 a5 a6 a7 hz
 |buildSlice a1 a2 a3 a4 a5 h a7 a8 hz=>exact .buildSlice a1 a2 a3 a4 a5 (me (by intro x hx;simpa[Op.operands] using hx) h) a7 a8 hz
 |append0 hc ha ht he he' hx hy hs=>exact .append0 hc ha ht he he' (m1 (by simp[Op.operands,Call.operands,hc,ha]) hx) (m1 (by simp[Op.operands,Call.operands,hc,ha]) hy) (hs.congr h2)
 |append_e hc ha ht he he' hx hy hs a1 a2 a3 a4 a5 a6 hz=>exact .append_e hc ha ht he he' (m1 (by simp[Op.operands,Call.operands,hc,ha]) hx) (m1 (by simp[Op.operands,Call.operands,hc,ha]) hy) (hs.congr h2) a1 a2 a3 a4 a5 a6 hz
 |append_l hc ha ht he he' hx hb b1 b2 b3 b4 b5 hy hs=>exact .append_l hc ha ht he he' (m1 (by simp[Op.operands,Call.operands,hc,ha]) hx) ((eS (h2 _ ψ)).trans hb) b1 b2 b3 b4 b5 (m1 (by simp[Op.operands,Call.operands,hc,ha]) hy) (hs.congr λi hi=>h2 i (List.mem_cons_of_mem _ hi)) ‹_› ‹_› ‹_› ‹_› ‹_›
 |copy hc ha ht he hx hb b1 b2 b3 hy hs=>exact .copy hc ha ht he (m1 (by simp[Op.operands,Call.operands,hc,ha]) hx) ((eS (h2 _ ψ)).trans hb) b1 b2 b3 (m1 (by simp[Op.operands,Call.operands,hc,ha]) hy) (hs.congr λi hi=>h2 i (List.mem_cons_of_mem _ hi))
end
def look{α:Type}:List (Nat×α)->Nat->Option α
 |[],_=>none
 |(k,x)::l,t=>cond (Nat.beq k t) (some x) (look l t)
def au(l:List (Nat×Option ABlk))(t:Nat):Option ABlk:=(look l t).join
structure AState where
 fr:List (Nat×AV)
 hp:List (Nat×Option ABlk)
 nx:Nat
 n:Nat
abbrev GH:Nat:=1000
def evF(fr:Nat->Option AV):Operand->Option AV
 | .tmp t=>cond (Nat.ble t 999) (fr t) none
 | .const v=>some (ofV v)
 | .global g=>some (.v (.pointer (some ⟨g,0,none⟩)))
 | .func f=>some (.clos f [] [])
def AState.ev(st:AState):Operand->Option AV:=evF (look st.fr)
def zg(fr:Nat->Option AV)(dst:Option Nat)(v:AV):Nat->Option AV:=match dst with|some d=>upd fr d (some v)|none=>fr
def zf(fr:List (Nat×AV))(dst:Option Nat)(v:AV):List (Nat×AV):=match dst with|some d=>(d,v)::fr|none=>fr
def AState.step(st:AState)(dst:Option Nat)(u:Upd):AState:={st with fr:=zf st.fr dst u.val,hp:=u.blk.reverse++st.hp}
theorem cJ{α:Type}(k:Nat)(x:α)(l:List (Nat×α)):look ((k,x)::l)=upd (look l) k (some x):=by
 funext t;simp only[look,upd];by_cases h:t=k;subst h;simp
 have:Nat.beq k t=false:=by
  cases hb:Nat.beq k t with
  |false=>rfl
  |true=>simp_all
 grind
theorem nr(fr:List (Nat×AV))(dst:Option Nat)(v:AV):look (zf fr dst v)=zg (look fr) dst v:=by
 cases dst with
 |none=>rfl
 |some d=>exact cJ d v fr
theorem de(k:Nat)(x:Option ABlk)(l:List (Nat×Option ABlk)):au ((k,x)::l)=upd (au l) k x:=by
 funext t;simp only[au,cJ,upd];grind
theorem kI:∀(bs:List (Nat×Option ABlk)) (l:List (Nat×Option ABlk)),au (bs.reverse++l)=iM (au l) bs
 |[],l=>rfl
 |(k,x)::bs,l=>by
  simp only[List.reverse_cons,List.append_assoc,List.singleton_append,iM];rw[kI bs,de]
def BC(D:Nat):Deferred:={target:= .collected D,args:= #[]}
def DefOK(ds:List Deferred)(w0:Base)(w:World):Prop:=
 ∃Ds:Ln,ds=Ds.map BC/\Ds.Nodup/\∀D∈Ds,w.heap[D]?=some (.deferred (some []))/\¬w0.K D
def fU(w0:Base)(a:Act)(t:Nat):Value:=if t< GH\/t< a.tmps.size then a.tmps.getD t undef else w0.gh t
theorem wU(h:Nat.ble t 999=true):fU w0 a t=a.tmps.getD t undef:=if_pos (.inl (by have:=Nat.le_of_ble_eq_true h;grind))
theorem cY(h:w0.gh=λ_=>undef)(t:Nat):fU w0 a t=a.tmps.getD t undef:=by
 unfold fU;grind
theorem slot_hi(h:GH<=t)(h2:a.tmps.size<=t):fU w0 a t=w0.gh t:=if_neg ω
def FRel(M0:Nat->Prop)(w0:Base)(fr:Nat->Option AV)(hp:Hq)(free:Nat->Prop)(n:Nat)(a:Act)(w:World):Prop:=
 ∃β,Mem M0 w0 β hp w/\a.tmps.size=n/\(∀t x,fr t=some x->RV (MM M0 β hp) β w x (fU w0 a t))/\(∀i,free i->β i=none/\i≠0)/\DefOK a.defers w0 w
def ARel(M0:Nat->Prop)(w0:Base)(st:AState)(a:Act)(w:World):Prop:=FRel M0 w0 (look st.fr) (au st.hp) (λi=>st.nx<=i) st.n a w
theorem DefOK.stab{ds:List Deferred}{w w':World}{M M':Nat->Prop}{β β':Bq}(h:DefOK ds w0 w)(st:Stab M M' β β' w w'):DefOK ds w0 w':=by
 obtain⟨Ds,h1,h2,h3⟩:=h;refine⟨Ds,h1,h2,λD hD=>?_⟩;obtain⟨h4,h5⟩:=h3 D hD;have hlt:D< w.heap.size:=φ
 exact⟨by rw[st.oth D hlt (by simp[aL,h4])];grind,h5⟩
theorem evF_tmp{fr:Nat->Option AV}{v:AV}(h:evF fr (.tmp t)=some v):Nat.ble t 999=true/\fr t=some v:=by
 simp only[evF] at h;grind
theorem iW{M:Nat->Prop}{β:Bq}{w:World}{fr:Nat->Option AV}(h:∀t x,fr t=some x->RV M β w x (fU w0 a t)):∀x v,evF fr x=some v->RV M β w v (a.eval x)
 | .tmp t,v,hv=>by
  obtain⟨h1,h2⟩:=evF_tmp hv;have:=h t v h2;rw[wU h1] at this;exact this
 | .const c,v,hv=>by simp only[evF,Option.some.injEq] at hv;subst hv;exact F2 c
 | .global g,v,hv=>by simp only[evF,Option.some.injEq] at hv;subst hv;rfl
 | .func f,v,hv=>by simp only[evF,Option.some.injEq] at hv;subst hv;exact⟨#[], #[],rfl,rfl,rfl⟩
def aQ:Value->Option Bool
 | .bool b=>some b
 |_=>none
def AStep(P:Program)(ops:Array Oper)(id:Nat)(fr:Nat->Option AV)(hp:Hq)(o:Oper)(u:Upd)(rd:Ln):Prop:=
 (∀c,o.op≠ .defer c)/\
 match o.guard with
 |none=>AEval P id (evF fr) hp o.op u rd
 |some (g,want)=> ∃t x,(ops[g]?).bind (·.dst)=some t/\evF fr (.tmp t)=some (.v x)/\
    ((aQ x=some want/\AEval P id (evF fr) hp o.op u rd)\/(aQ x≠some want/\u=⟨.v undef,[]⟩/\rd=[]))
def FR(ρ:Option Nat):Fence:={fn:=λ_=>True,depth:=none,alive:=false,round:=ρ}
section
variable {P:Program}{M0:Nat->Prop}{w0:Base}{w:World}{ops:Array Oper}{id n:Nat}{fr:Nat->Option AV}{hp:Hq}{free:Nat->Prop}{o:Oper}{u:Upd}{rd:Ln}{a:Act}{ρ:Option Nat}{Q:Exit->Act->World->Prop}
theorem yq{f:FuncId}{args:Array Value}{R:Ending->World->Prop}{k:Nat}(h:Calls P f args w R):CallsIn (FR ρ) k P f args w R:=
 (callsIn_wide (n:=k)).2 h
theorem pM{d:Nat}{v:Value}(hd:d< a.tmps.size):fU w0 (a.put (some d) v) t=if t=d then v else fU w0 a t:=by
 have hs:(a.put (some d) v).tmps.size=a.tmps.size:=by simp[Act.put]
 have hg:(a.put (some d) v).tmps.getD t undef=if t=d then v else a.tmps.getD t undef:=by
  simp only[Act.put,Array.getD_eq_getD_getElem?];grind
 unfold fU;grind
theorem AStep.sim (h:AStep P ops id fr hp o u rd) (hr:FRel M0 w0 fr hp free n a w) (hid:free id) (hd:∀d,o.dst=some d->d< n) {K:Act->World->Prop}
    (hK:∀a' w',FRel M0 w0 (zg fr o.dst u.val) (iM hp u.blk) (λi=>free i/\i≠id) n a' w'->K a' w'):
    if Region.wanted o (yielded ops a.tmps) then o.wpIn (FR ρ) 0 P a w K Q else(∀f,o.about P w a.eval=some f->(FR ρ).fn f)/\K (a.put o.dst undef) w:=by
 obtain⟨β,mem,hn,hfr,hfree,hdef⟩:=hr;obtain⟨hidn,hid0⟩:=hfree id hid
 have hidh:hp id=none:=by
  cases hh:hp id with
  |none=>rfl
  |some B=>obtain⟨b,hb,_⟩:=mem.blk id B hh;grind
 -- behind the operation
 have fin:∀y w' β',mS M0 w0 β hp w id u y w' β'->K (a.put o.dst y) w':=by
  rintro y w' β' ⟨m',hy,st,hβ⟩;refine hK _ _ ⟨β',m',?_,λt x hx=>?_,λi hi=>?_,?_⟩;cases o.dst <;> simp[Act.put,hn];cases hdst:o.dst with
  |none=>rw[hdst] at hx;have e:fU w0 (a.put none y) t=fU w0 a t:=rfl
         rw[e];exact st.all (hfr t x hx)
  |some d=>
   rw[hdst] at hx;rw[pM φ];simp only[zg,upd] at hx;split at hx
   ·grind
   ·rename_i htd;rw[if_neg htd];exact st.all (hfr t x hx)
  rw[hβ i hi.2];exact hfree i hi.1;have:(a.put o.dst y).defers=a.defers:=by cases o.dst <;> rfl
  rw[this];exact hdef.stab st
 have run:AEval P id (evF fr) hp o.op u rd->o.wpIn (FR ρ) 0 P a w K Q:=by
  intro he;refine⟨λ_ _=>trivial,?_⟩;rw[Oper.semAt_eq _ _ _ h.1];rcases he.good (ρ:=a.eval) (o:=o) mem (iW hfr) (λ_=>rfl) hid0 hidn hidh rfl with⟨y,w',β',hrun,haft⟩|⟨f,args,hrun,hcalls⟩
  rcases hrun with hrun|⟨hrun,rfl⟩
  rw[hrun];exact fin y w' β' haft;rw[hrun];exact fin undef w' β' haft;rw[hrun];refine⟨λhh=>by simp[FR] at hh,yq (hcalls.mono ?_)⟩;grind
 have skip:u=⟨.v undef,[]⟩->K (a.put o.dst undef) w:=by
  rintro rfl;exact fin undef w β ⟨mem,rfl,.refl,λ_ _=>rfl⟩
 have h2:=h.2;cases hg:o.guard with
 |none=>
  rw[hg] at h2;rw[if_pos (by simp[Region.wanted,hg])];exact run h2
 |some gw=>
  obtain⟨g,want⟩:=gw;rw[hg] at h2;obtain⟨t,x,ht,hx,hc⟩:=h2;have hval:a.tmps.getD t undef=x:=iW hfr (.tmp t) _ hx
  have hyl:yielded ops a.tmps g=aQ x:=by
   simp only[yielded,ht,Option.bind_some];cases htt:a.tmps[t]? with
   |none=>
    rw[Array.getD_eq_getD_getElem?,htt] at hval;subst hval;rfl
   |some y=>
    rw[Array.getD_eq_getD_getElem?,htt] at hval;simp only[Option.getD_some] at hval;subst hval;cases y <;> rfl
  have hw:Region.wanted o (yielded ops a.tmps)=true↔aQ x=some want:=by
   simp only[Region.wanted,hg,hyl,beq_iff_eq]
  rcases hc with⟨hx1,he⟩|⟨hx1,hu,_⟩
  rw[if_pos (hw.2 hx1)];exact run he;rw[if_neg (λhh=>hx1 (hw.1 hh))];exact⟨λ_ _=>trivial,skip hu⟩
end
end
section
variable {b i t:Nat}{fr:Nat->Option AV}{hp:Hq}
section lists
theorem vO:∀{l m:Ln},l.Pairwise (· < ·)->m.Pairwise (· < ·)->(∀x,x∈l↔x∈m)->l=m
 |[],[],_,_,_=>rfl
 |[],b::m,_,_,h=>absurd ((h b).2 (List.mem_cons_self ..)) ψ
 |a::l,[],_,_,h=>absurd ((h a).1 (List.mem_cons_self ..)) ψ
 |a::l,b::m,hl,hm,h=>by
  rw[List.pairwise_cons] at hl hm
  have hab:a=b:=by
   rcases List.mem_cons.1 ((h a).1 (List.mem_cons_self ..)) with e|e
   exact e;rcases List.mem_cons.1 ((h b).2 (List.mem_cons_self ..)) with e'|e'
   exact e'.symm;grind
  congr 1;refine vO hl.2 hm.2 λx=>⟨λhx=>?_,λhx=>?_⟩;rcases List.mem_cons.1 ((h x).1 (List.mem_cons_of_mem _ hx)) with e|e
  have:=hl.1 x hx;omega;exact e;grind
theorem wr{S α:Type}(step:S->Nat->S)(get:S->α)(p:Nat->Bool)(val:Nat->α)(h1:∀s j,p j=true->get (step s j)=val j)(h2:∀s j,p j=false->get (step s j)=get s):
    ∀(σ τ:Ln) (s t:S),get s=get t->σ.filter p=τ.filter p->get (σ.foldl step s)=get (τ.foldl step t):=by
 have key:∀(σ:Ln) (s:S),get (σ.foldl step s)=((σ.filter p).foldl (λ_ j=>val j) (get s)):=by
  intro σ
  induction σ with
  |nil=>grind
  |cons j σ ih=>
   grind
 grind
end lists
structure Topo (anc:Nat->Nat->Bool)(N:Nat)(σ:Ln):Prop where
 lt:∀a∈σ,a< N
 pw:σ.Pairwise λa b=>anc b a=false
 closed:∀a∈σ,∀b,anc b a=true->b∈σ
theorem Topo.filter {anc:Nat->Nat->Bool} {N:Nat} {σ:Ln} (h:Topo anc N σ) (nd:σ.Nodup) {p:Nat->Bool} {j:Nat} (ha:∀i,i< j->p i=true->i∈σ) (hb:∀i,j<=i->p i=true->i∉σ)
    (hc:∀i k,i< k->k< N->p i=true->p k=true->anc i k=true):σ.filter p=(List.range j).filter p:=by
 refine vO ?_ (List.Pairwise.filter _ List.pairwise_lt_range) λx=>?_;have hall:σ.Pairwise λa b=>anc b a=false/\a≠b:=h.pw.and nd
 have:(σ.filter p).Pairwise λa b=>(anc b a=false/\a≠b)/\(a∈σ.filter p/\b∈σ.filter p):=by
  have h1:=List.Pairwise.filter p hall;exact List.Pairwise.imp_of_mem (φ) h1
 refine this.imp ?_;rintro a b ⟨⟨h1,h2⟩,h3,h4⟩;rw[List.mem_filter] at h3 h4;rcases Nat.lt_trichotomy a b with hlt|heq|hgt
 exact hlt;exact absurd heq h2;have:=hc b a hgt (h.lt a h3.1) h4.2 h3.2;rw[h1] at this;cases this;grind
def A9(xs:List Operand):Ln:=xs.filterMap fun| .tmp t=>some t|_=>none
def xu(ops:Array Oper)(o:Oper):Ln:=
 A9 o.op.operands.toList++(match o.guard with|some (g,_)=>((ops[g]?).bind (·.dst)).toList|none=>[])
def nX(d1 d2:Option Nat)(l1 l2:Ln)(w1 r1 w2 r2:Ln):Bool:=
 (match d1,d2 with|some a,some b=>!Nat.beq a b|_,_=>true) &&
 (match d1 with|some a=>l2.all λt=>!Nat.beq a t|none=>true) &&
 (match d2 with|some b=>l1.all λt=>!Nat.beq b t|none=>true) &&
 (w1.all λk=>(r2.all λt=>!Nat.beq k t) && (w2.all λt=>!Nat.beq k t)) &&
 (w2.all λk=>r1.all λt=>!Nat.beq k t)
theorem Et{a:Nat}(h:(!Nat.beq a b)=true):a≠b:=by
 intro e;simp_all
section
variable (ops:Array Oper)(us:List (Upd×Ln))(fr0:Nat->Option AV)(hp0:Hq)
def dst?(j:Nat):Option Nat:=(ops[j]?).bind (·.dst)
def val?(j:Nat):AV:=((us[j]?).map (·.1.val)).getD .any
def blk?(j:Nat):List (Nat×Option ABlk):=((us[j]?).map (·.1.blk)).getD []
def rd?(j:Nat):Ln:=((us[j]?).map (·.2)).getD []
def wk?(j:Nat):Ln:=(blk? us j).map (·.1)
def lk?(j:Nat):Ln:=((ops[j]?).map (xu ops)).getD []
def stF(σ:Ln):Nat->Option AV:=σ.foldl (λfr j=>zg fr (dst? ops j) (val? us j)) fr0
def stH(σ:Ln):Nat->Option ABlk:=σ.foldl (λhp j=>iM hp (blk? us j)) hp0
def pu(anc:Nat->Nat->Bool):Bool:=(List.range ops.size).all λj=>(List.range j).all λi=>anc i j||
 nX (dst? ops i) (dst? ops j) (lk? ops i) (lk? ops j) (wk? us i) (rd? us i) (wk? us j) (rd? us j)
end
theorem lQ:∀(bs:List (Nat×Option ABlk)) (hp:Hq) (k:Nat),k∉bs.map (·.1)->iM hp bs k=hp k
 |[],_,_,_=>rfl
 |(i,x)::bs,hp,k,h=>by
  simp only[List.map_cons,List.mem_cons,not_or] at h;rw[iM,lQ bs _ k h.2,br _ _ h.1]
theorem wH:∀(bs:List (Nat×Option ABlk)) (hp hp':Hq) (k:Nat),k∈bs.map (·.1)->iM hp bs k=iM hp' bs k
 |(i,x)::bs,hp,hp',k,h=>by
  simp only[iM];by_cases hk:k∈bs.map (·.1);exact wH bs _ _ k hk;rw[lQ bs _ k hk,lQ bs _ k hk];simp_all
section
variable {ops:Array Oper}{us:List (Upd×Ln)}{fr0:Nat->Option AV}{hp0:Hq}
theorem wS(σ τ:Ln)(t:Nat)(h:σ.filter (λj=>dst? ops j==some t)=τ.filter (λj=>dst? ops j==some t)):stF ops us fr0 σ t=stF ops us fr0 τ t:=by
 refine wr (S:=Nat->Option AV) _ (λfr=>fr t) (λj=>dst? ops j==some t) (λj=>some (val? us j)) ?_ ?_ σ τ _ _ rfl h;intro s j hj;rw[beq_iff_eq] at hj;simp[zg,hj];intro s j hj;cases hd:dst? ops j with
 |none=>rfl
 |some d=>simp only[zg];rw[br];grind
theorem wR(σ τ:Ln)(k:Nat)(h:σ.filter (λj=>(wk? us j).contains k)=τ.filter (λj=>(wk? us j).contains k)):stH us hp0 σ k=stH us hp0 τ k:=by
 refine wr (S:=Nat->Option ABlk) _ (λhp=>hp k) (λj=>(wk? us j).contains k) (λj=>iM (λ_=>none) (blk? us j) k) ?_ ?_ σ τ _ _ rfl h;intro s j hj;exact wH _ _ _ k (by simpa[wk?] using hj);intro s j hj;exact lQ _ _ k (by simpa[wk?] using hj)
theorem io{anc:Nat->Nat->Bool}(h:pu ops us anc=true){j:Nat}(hij:i< j)(hj:j< ops.size)(hn:anc i j=false):
    nX (dst? ops i) (dst? ops j) (lk? ops i) (lk? ops j) (wk? us i) (rd? us i) (wk? us j) (rd? us j)=true:=by
 have h1:=List.all_eq_true.1 h j (List.mem_range.2 hj);grind
theorem A8{xs:List Operand}(h:Operand.tmp t∈xs):t∈A9 xs:=by
 unfold A9;grind
variable {anc:Nat->Nat->Bool}{σ:Ln}{j:Nat}
theorem Ig (hok:pu ops us anc=true) (ht:Topo anc ops.size σ) (nd:σ.Nodup) (hj:j< ops.size) (hjσ:j∉σ) (hr:∀i,anc i j=true->i∈σ)
    (hww:∀i k t,i< k->k< ops.size->dst? ops i=some t->dst? ops k=some t->anc i k=true) (hl:t∈lk? ops j):
    stF ops us fr0 σ t=stF ops us fr0 (List.range j) t:=by
 refine wS σ _ t (ht.filter nd (λi hi hp=>?_) (λi hi hp=>?_) λi k hik hk h1 h2=>hww i k t hik hk φ φ);rw[beq_iff_eq] at hp;cases ha:anc i j with
 |true=>grind
 |false=>
  have hf:=io hok hi hj ha;simp only[nX,hp,Bool.and_eq_true,List.all_eq_true] at hf;exact absurd rfl (Et (hf.1.1.1.2 t hl))
 intro hiσ;rw[beq_iff_eq] at hp;have hne:i≠j:=λe=>hjσ (e▸hiσ);cases ha:anc j i with
 |true=>exact hjσ (ht.closed i hiσ j ha)
 |false=>
  have hf:=io hok (show j< i by omega) (ht.lt i hiσ) ha;simp only[nX,hp,Bool.and_eq_true,List.all_eq_true] at hf;exact absurd rfl (Et (hf.1.1.2 t hl))
theorem If (hok:pu ops us anc=true) (ht:Topo anc ops.size σ) (nd:σ.Nodup) (hj:j< ops.size) (hjσ:j∉σ) (hr:∀i,anc i j=true->i∈σ)
    (hww:∀i k b,i< k->k< ops.size->b∈wk? us i->b∈wk? us k->anc i k=true) (hl:b∈rd? us j):
    stH us hp0 σ b=stH us hp0 (List.range j) b:=by
 refine wR σ _ b (ht.filter nd (λi hi hp=>?_) (λi hi hp=>?_) λi k hik hk h1 h2=>hww i k b hik hk φ φ);have hp':b∈wk? us i:=φ
 cases ha:anc i j with
 |true=>grind
 |false=>
  have hf:=io hok hi hj ha;simp only[nX,Bool.and_eq_true,List.all_eq_true] at hf;exact absurd rfl (Et ((hf.1.2 b hp').1 b hl))
 intro hiσ;have hp':b∈wk? us i:=φ
 have hne:i≠j:=λe=>hjσ (e▸hiσ);cases ha:anc j i with
 |true=>exact hjσ (ht.closed i hiσ j ha)
 |false=>
  have hf:=io hok (show j< i by omega) (ht.lt i hiσ) ha;simp only[nX,Bool.and_eq_true,List.all_eq_true] at hf;exact absurd rfl (Et (hf.2 b hp' b hl))
theorem pr(hok:pu ops us anc=true){k:Nat}(hik:i< k)(hk:k< ops.size)(h1:dst? ops i=some t)(h2:dst? ops k=some t):anc i k=true:=by
 cases ha:anc i k with
 |true=>rfl
 |false=>
  have hf:=io hok hik hk ha;simp only[nX] at hf;simp_all
theorem pt(hok:pu ops us anc=true){k:Nat}(hik:i< k)(hk:k< ops.size)(h1:b∈wk? us i)(h2:b∈wk? us k):anc i k=true:=by
 cases ha:anc i k with
 |true=>rfl
 |false=>
  have hf:=io hok hik hk ha;simp only[nX,Bool.and_eq_true,List.all_eq_true] at hf;exact absurd rfl (Et ((hf.1.2 b h1).2 b h2))
theorem E3{fr':Nat->Option AV}{x:Operand}(h:∀t,x= .tmp t->fr' t=fr t):evF fr' x=evF fr x:=by
 cases x with
 |tmp t=>simp only[evF,h t rfl]
 |_=>rfl
theorem AStep.congr {P:Program} {id:Nat} {fr':Nat->Option AV} {hp':Hq} {o:Oper} {u:Upd} {rd:Ln} (h:AStep P ops id fr hp o u rd)
    (h1:∀t∈xu ops o,fr' t=fr t) (h2:∀i∈rd,hp' i=hp i):AStep P ops id fr' hp' o u rd:=by
 have he:AEval P id (evF fr) hp o.op u rd->AEval P id (evF fr') hp' o.op u rd:=λhe=>he.congr (λx hx=>E3 λt e=>h1 t (by
  subst e;exact List.mem_append_left _ (A8 (Array.mem_toList_iff.2 hx)))) h2
 refine⟨h.1,?_⟩;have hh:=h.2;cases hg:o.guard with
 |none=>grind
 |some gw=>
  rw[hg] at hh;obtain⟨t,x,ht,hx,hc⟩:=hh;refine⟨t,x,ht,?_,hc.imp (fun⟨a,b⟩=>⟨a,he b⟩) (λz=>z)⟩;simp only[evF,h1 t (List.mem_append_right _ φ)];exact hx
theorem lc(σ:Ln)(j:Nat):stF ops us fr0 (σ++[j])=zg (stF ops us fr0 σ) (dst? ops j) (val? us j):=by simp[stF]
theorem jx(σ:Ln)(j:Nat):stH us hp0 (σ++[j])=iM (stH us hp0 σ) (blk? us j):=by simp[stH]
theorem ra{p q:Nat->Bool}:∀{l:Ln} {j:Nat},j∈l->p j=true->q j=false->(∀x,q x=true->p x=true)->(l.filter q).length< (l.filter p).length
 |a::l,j,hj,hp,hq,h=>by
  have hle:(l.filter q).length<=(l.filter p).length:=by
   clear hj
   induction l with
   |nil=>simp
   |cons b l ih=>
    grind
  rcases List.mem_cons.1 hj with rfl|hj
  rw[List.filter_cons_of_neg φ,List.filter_cons_of_pos hp];simp;omega;have ih:=ra hj hp hq h;grind
structure AncOK (ops:Array Oper)(anc:Nat->Nat->Bool):Prop where
 back:∀j o,ops[j]?=some o->∀e∈o.after,Region.binds .any e=true->e.on< j
 ready:∀(σ:Ln) j o,(∀a∈σ,∀b,anc b a=true->b∈σ)->ops[j]?=some o->(∀e∈o.after,Region.binds .any e=true->e.on∈σ)->∀b,anc b j=true->b∈σ
variable {P:Program}{M0:Nat->Prop}{w0:Base}{w:World}{nx n:Nat}{a:Act}{ρ:Option Nat}{Q:Exit->Act->World->Prop}{rid:Nat}
theorem FRel.free{f f':Nat->Prop}(h:FRel M0 w0 fr hp f n a w)(hf:∀i,f' i->f i):FRel M0 w0 fr hp f' n a w:=by
 obtain⟨β,h1,h2,h3,h4,h5⟩:=h;exact⟨β,h1,h2,h3,λi hi=>h4 i (hf i hi),h5⟩
theorem FRel.drew{f:Nat->Prop}(h:FRel M0 w0 fr hp f n a w):FRel M0 w0 fr hp f n a w.drew:=by
 obtain⟨β,h1,h2,h3,h4,h5⟩:=h;have hm:=h1.ext ((Below.refl w.heap.size w).drew);exact⟨β,hm.1,h2,λt x hx=>hm.2.all (h3 t x hx),h4,h5.stab hm.2⟩
theorem Br (hm:P.follows .mixedOrders=true) (hanc:AncOK ops anc) (hok:pu ops us anc=true)
    (hsteps:∀j o,ops[j]?=some o->∃u rd,us[j]?=some (u,rd)/\AStep P ops (nx+j) (stF ops us fr0 (List.range j)) (stH us hp0 (List.range j)) o u rd/\∀d,o.dst=some d->d< n)
    (hrel:FRel M0 w0 fr0 hp0 (λi=>nx<=i) n a w)
    (hQ:∀a' w',FRel M0 w0 (stF ops us fr0 (List.range ops.size)) (stH us hp0 (List.range ops.size)) (λi=>nx+ops.size<=i) n a' w'->Q .normal a' w'):
    (Code.region rid ops true).wpIn (FR ρ) 0 P Q a w:=by
 refine wpIn_region_any hm ?_
 have main:∀(fuel:Nat) (σ:Ln) (listed:Array Bool) (a:Act) (w:World),Topo anc ops.size σ->σ.Nodup->listed.size=ops.size->(∀j,j< ops.size->(listed.getD j true=true↔j∈σ)/\(listed.getD j false=true↔j∈σ))->
     ((List.range ops.size).filter λj=>!σ.contains j).length<=fuel->FRel M0 w0 (stF ops us fr0 σ) (stH us hp0 σ) (λi=>nx<=i/\∀j∈σ,i≠nx+j) n a w->
     wpAnyIn (FR ρ) 0 P .any ops Q fuel listed a w:=by
  have fin:∀(σ:Ln) (a:Act) (w:World),Topo anc ops.size σ->σ.Nodup->(∀j,j< ops.size->j∈σ)->FRel M0 w0 (stF ops us fr0 σ) (stH us hp0 σ) (λi=>nx<=i/\∀j∈σ,i≠nx+j) n a w->Q .normal a w:=by
   intro σ a w ht nd hall hr;refine hQ a w ?_
   have e1:stF ops us fr0 σ=stF ops us fr0 (List.range ops.size):=by
    funext t;refine wS σ _ t (ht.filter nd (λi hi _=>hall i hi) (λi hi _ hiσ=>by have:=ht.lt i hiσ;omega) λi k hik hk h1 h2=>pr hok hik hk (by simpa using h1) φ)
   have e2:stH us hp0 σ=stH us hp0 (List.range ops.size):=by
    funext t;refine wR σ _ t (ht.filter nd (λi hi _=>hall i hi) (λi hi _ hiσ=>by have:=ht.lt i hiσ;omega) λi k hik hk h1 h2=>pt hok hik hk (by simpa using h1) φ)
   rw[<-e1,<-e2];exact hr.free λi hi=>⟨ω,λj hj=>by have:=ht.lt j hj;omega⟩
  have allIn:∀(σ:Ln) (listed:Array Bool),(∀j,j< ops.size->(listed.getD j true=true↔j∈σ)/\(listed.getD j false=true↔j∈σ))->Region.ready .any ops listed=[]->∀j,j< ops.size->j∈σ:=by
   intro σ listed hl hr j
   induction j using Nat.strongRecOn with
   |_ j ih=>
    intro hj;by_cases hjσ:j∈σ;exact hjσ;exfalso
    have hmem:j∈Region.ready .any ops listed:=by
     refine mem_ready.2 ⟨?_,ops[j],Array.getElem?_eq_getElem hj,λe he hb=>?_⟩;cases hh:listed.getD j true with
     |false=>rfl
     |true=>exact absurd ((hl j hj).1.1 hh) hjσ
     have hlt:=hanc.back j _ (Array.getElem?_eq_getElem hj) e he hb;exact(hl e.on ω).2.2 (ih e.on hlt ω)
    rw[hr] at hmem;cases hmem
  intro fuel
  induction fuel with
  |zero=>
   intro σ listed a w ht nd hsz hl hf hr
   have hall:∀j,j< ops.size->j∈σ:=by
    intro j hj;by_cases hjσ:j∈σ;exact hjσ;exfalso;have:j∈(List.range ops.size).filter λj=>!σ.contains j:=List.mem_filter.2 ⟨List.mem_range.2 hj,by simpa using hjσ⟩;rw[List.eq_nil_of_length_eq_zero (Nat.le_zero.1 hf)] at this;cases this
   refine⟨?_,fin σ a w ht nd hall hr⟩;rw[List.eq_nil_iff_forall_not_mem];intro j hj;obtain⟨h0,o,ho,_⟩:=mem_ready.1 hj;have hlt:j< ops.size:=(Array.getElem?_eq_some_iff.1 ho).1;rw[(hl j hlt).1.2 (hall j hlt)] at h0;cases h0
  |succ fuel ih=>
   intro σ listed a w ht nd hsz hl hf hr;refine⟨λh0=>fin σ a w ht nd (allIn σ listed hl h0) hr,λj hj=>?_⟩;obtain⟨h0,o,ho,hedges⟩:=mem_ready.1 hj;have hlt:j< ops.size:=(Array.getElem?_eq_some_iff.1 ho).1;have hjσ:j∉σ:=λh=>by rw[(hl j hlt).1.2 h] at h0;cases h0
   have hready:∀i,anc i j=true->i∈σ:=hanc.ready σ j o ht.closed ho λe he hb=>(hl e.on (by have:=hanc.back j o ho e he hb;omega)).2.1 (hedges e he hb);obtain⟨u,rd,hu,hstep,hdst⟩:=hsteps j o ho;have hlk:lk? ops j=xu ops o:=by simp[lk?,ho]
   have hrd:rd? us j=rd:=by simp[rd?,hu]
   have hstep':AStep P ops (nx+j) (stF ops us fr0 σ) (stH us hp0 σ) o u rd:=hstep.congr
    (λt htl=>Ig hok ht nd hlt hjσ hready (λi k t h1 h2 h3 h4=>pr hok h1 h2 h3 h4) (by rw[hlk];exact htl))
    (λb hb=>If hok ht nd hlt hjσ hready (λi k b h1 h2 h3 h4=>pt hok h1 h2 h3 h4) (by rw[hrd];exact hb))
   have hd1:dst? ops j=o.dst:=by simp[dst?,ho]
   have hv1:val? us j=u.val:=by simp[val?,hu]
   have hb1:blk? us j=u.blk:=by simp[blk?,hu]
   have ht':Topo anc ops.size (σ++[j]):=by
    refine⟨λx hx=>?_,List.pairwise_append.2 ⟨ht.pw,List.pairwise_singleton _ _,λx hx y hy=>?_⟩,λx hx b hb=>?_⟩;rcases List.mem_append.1 hx with h|h
    exact ht.lt x h;rw[List.mem_singleton.1 h];exact hlt;rw[List.mem_singleton.1 hy];cases hh:anc j x with
    |false=>rfl
    |true=>exact absurd (ht.closed x hx j hh) hjσ
    rcases List.mem_append.1 hx with h|h
    exact List.mem_append_left _ (ht.closed x h b hb);rw[List.mem_singleton.1 h] at hb;exact List.mem_append_left _ (hready b hb)
   have nd':(σ++[j]).Nodup:=List.nodup_append.2 ⟨nd,ψ,λx hx y hy e=>by rw[List.mem_singleton.1 hy] at e;exact hjσ (e▸hx)⟩
   have hl':∀i,i< ops.size->((listed.setIfInBounds j true).getD i true=true↔i∈σ++[j])/\((listed.setIfInBounds j true).getD i false=true↔i∈σ++[j]):=by
    intro i hi;by_cases hij:j=i;subst hij;simp[Array.getD_eq_getD_getElem?,hsz,hlt];rw[getD_set_ne _ hij,getD_set_ne _ hij,List.mem_append,List.mem_singleton];have:=hl i hi;exact⟨this.1.trans ⟨.inl,λh=>h.resolve_right λe=>hij e.symm⟩,this.2.trans ⟨.inl,λh=>h.resolve_right λe=>hij e.symm⟩⟩
   have hf':((List.range ops.size).filter λi=>!(σ++[j]).contains i).length<=fuel:=by
    have:=ra (p:=λi=>!σ.contains i) (q:=λi=>!(σ++[j]).contains i) (List.mem_range.2 hlt) (by simpa using hjσ) ψ (λx hx=>by simp at hx⊢;exact hx.1);omega
   unfold wpOpIn;simp only[ho]
   refine hstep'.sim hr ⟨ω,λi hi e=>by have:j=i:=ω
                                       exact hjσ (this▸hi)⟩ hdst ?_
   intro a' w' hr';refine ih (σ++[j]) _ a' w' ht' nd' (by simpa using hsz) hl' hf' ?_;rw[lc,jx,hd1,hv1,hb1];exact hr'.free λi ⟨h1,h2⟩=>⟨⟨h1,λk hk=>h2 k (List.mem_append_left _ hk)⟩,h2 j ψ⟩
 refine main ops.size [] _ a _ ⟨ψ,List.Pairwise.nil,ψ⟩ List.nodup_nil ψ ?_ ?_ ?_;intro j hj;simp[Array.getD_eq_getD_getElem?,hj];exact Nat.le_trans (List.length_filter_le _ _) ψ;exact(hrel.drew).free λi hi=>hi.1
end
end
section
variable {k i o b:Nat}{es:Lc}{hp':Hq}{β:Bq}{x:AV}{xs ys:La}{B:ABlk}{st st':AState}
def vW(k:Nat)(β:Bq):Nat->Option (Nat×Nat):=λi=>if i< k then β i else none
theorem Bo(β:Bq):vW 0 β=λ_=>none:=by funext i;simp[vW]
def Lo(k:Nat)(a:AV):Prop:=∀(M:Nat->Prop) β w y,RV M β w a y->RV M (vW k β) w a y
theorem Closed.lo{a:AV}(h:Closed a)(k:Nat):Lo k a:=λM β w y hy=>
 StabC.all (β:=λ_=>none) (w:=w) (M:=M) (M':=M) ⟨λ_ _ _ _=>rfl,λ_ _ _ h=>h,(λ_ _ h=>by cases h),λ_ _ h=>h⟩ (h M β w y hy)
theorem Lo.closed{a:AV}(h:Lo 0 a):Closed a:=λM β w y hy=>by have:=h M β w y hy;rwa[Bo] at this
section
variable {M:Nat->Prop}{β:Bq}{w:World}{k:Nat}
theorem tF:∀{cs:La} {ys:List Value},(∀c∈cs,Lo k c)->RVs M β w cs ys->RVs M (vW k β) w cs ys
 |[],_,_,h=>h
 |c::_,_,hc,⟨x,xs,e,h1,h2⟩=>⟨x,xs,e,hc c (List.mem_cons_self ..) M β w x h1,tF (λd hd=>hc d (List.mem_cons_of_mem _ hd)) h2⟩
theorem Da{b:Nat}:∀{cs:La} {off:Nat},(∀c∈cs,Lo k c)->RVcs M β w b cs off->RVcs M (vW k β) w b cs off
 |[],_,_,_=>trivial
 |c::_,_,hc,⟨⟨x,h0,h1⟩,h2⟩=>⟨⟨x,h0,hc c (List.mem_cons_self ..) M β w x h1⟩,Da (λd hd=>hc d (List.mem_cons_of_mem _ hd)) h2⟩
theorem tH{b s:Nat}:∀{es:Lc} {off:Nat},(∀e∈es,∀c∈e,Lo k c)->RVess M β w b s es off->RVess M (vW k β) w b s es off
 |[],_,_,_=>trivial
 |e::_,_,hc,⟨h0,h1,h2⟩=>⟨h0,Da (hc e (List.mem_cons_self ..)) h1,tH (λd hd=>hc d (List.mem_cons_of_mem _ hd)) h2⟩
end
@[simp] theorem lo_v (k:Nat)(x:Value):Lo k (.v x):=λ_ _ _ _ h=>h
@[simp] theorem lo_any (k:Nat):Lo k .any:=λ_ _ _ _ h=>h
@[simp] theorem lo_emp (k:Nat):Lo k .emp:=λ_ _ _ _ h=>h
theorem lo_arr(h:∀e∈es,∀c∈e,Lo k c):Lo k (.arr es):=by
 rintro M β w y ⟨a,c,rfl,h1,h2,h3⟩;refine⟨a,c,rfl,h1,h2,h3.imp (λh=>h) ?_⟩;rintro⟨b,off,s,rfl,hb,hm,hr⟩;exact⟨b,off,s,rfl,hb,hm,tH h hr⟩
theorem lo_aptr(h:∀e∈es,∀c∈e,Lo k c):Lo k (.aptr es i o):=by
 rintro M β w y ⟨hi,b,off,s,rfl,hb,hm,hr⟩;exact⟨hi,b,off,s,rfl,hb,hm,tH h hr⟩
theorem lo_agg{cs:La}(h:∀c∈cs,Lo k c):Lo k (.agg cs):=by
 rintro M β w y ⟨xs,rfl,hr⟩;exact⟨xs,rfl,tF h hr⟩
theorem lo_clos{f:Nat}{fst cap:La}(h1:∀c∈fst,Lo k c)(h2:∀c∈cap,Lo k c):Lo k (.clos f fst cap):=by
 rintro M β w y ⟨xs,ys,rfl,r1,r2⟩;exact⟨xs,ys,rfl,tF h1 r1,tF h2 r2⟩
theorem lo_mp{ks:List Value}{vs:La}(h:∀c∈vs,Lo k c):Lo k (.mp ks vs):=by
 rintro M β w y ⟨r,ens,ck,rfl,h1,h2,l,h5,h3,h4⟩;exact⟨r,ens,ck,rfl,h1,h2,l,h5,h3,tF h h4⟩
structure Ren where
 n:Nat
 s:Nat->Nat
def Ren.id(k:Nat):Ren:=⟨k,λi=>i⟩
def Ren.app(r:Ren)(hp':Hq)(β:Bq):Nat->Option (Nat×Nat):=λi=>if i< r.n/\(hp' i).isSome=true then β (r.s i) else none
theorem Ren.app_zero(hp':Hq)(β:Bq):(Ren.id 0).app hp' β=λ_=>none:=by funext i;simp[Ren.app,Ren.id]
theorem Ren.app_some{r:Ren}{x:Nat×Nat}(h:r.app hp' β i=some x):i< r.n/\β (r.s i)=some x:=by
 unfold Ren.app at h;grind
theorem Ren.app_of{r:Ren}(h:i< r.n)(hl:(hp' i).isSome=true):r.app hp' β i=β (r.s i):=by rw[Ren.app,if_pos ⟨h,hl⟩]
theorem Ren.app_live{r:Ren}{x:Nat×Nat}(h:r.app hp' β i=some x):(hp' i).isSome=true:=by
 unfold Ren.app at h;grind
structure Shr (r:Ren)(hp hp':Hq):Prop where
 sub:∀i B,hp' i=some B->i< r.n/\∃B0,hp (r.s i)=some B0/\B0.ty=B.ty/\B0.sz=B.sz/\B0.es.length=B.es.length
def Cv(r:Ren)(hp hp':Hq)(x0 x:AV):Prop:=∀(M0:Nat->Prop) w0 β w y,Mem M0 w0 β hp w->RV (MM M0 β hp) β w x0 y->RV (MM M0 (r.app hp' β) hp') (r.app hp' β) w x y
def CvL(r:Ren)(hp hp':Hq):La->La->Prop
 |[],ys=>ys=[]
 |x::xs,ys=> ∃y ys',ys=y::ys'/\Cv r hp hp' x y/\CvL r hp hp' xs ys'
def CvLL(r:Ren)(hp hp':Hq):Lc->Lc->Prop
 |[],ys=>ys=[]
 |x::xs,ys=> ∃y ys',ys=y::ys'/\CvL r hp hp' x y/\CvLL r hp hp' xs ys'
section
variable {r:Ren}{hp hp':Hq}{M0:Nat->Prop}{w0:Base}{w:World}{β:Bq}
theorem Shr.mm(h:Shr r hp hp')(hb:MM M0 (r.app hp' β) hp' b):MM M0 β hp b:=by
 rcases hb with hb|⟨i,B,s,h1,h2⟩
 exact .inl hb;obtain⟨_,B0,h3,_⟩:=h.sub i B h1;exact .inr ⟨r.s i,B0,s,h3,(Ren.app_some h2).2⟩
theorem ah(h:Shr r hp hp')(hl:Closed x):Cv r hp hp' x x:=λM0 _ β w y _ hy=>
 StabC.all (β:=λ_=>none) (w:=w) (w':=w) ⟨λ_ _ _ _=>rfl,λ_ _ _ hm=>h.mm hm,(λ_ _ h=>by cases h),λ_ _ h=>h⟩ (hl (MM M0 β hp) β w y hy)
theorem Cv.loE{x':AV}(h:Shr r hp hp')(e:x=x')(hl:Closed x):Cv r hp hp' x x':=e▸ah h hl
theorem Cv.ptr{id id':Nat}(hi:Nat.blt id' r.n=true)(hs:r.s id'=id)(hl:(hp' id').isSome=true):Cv r hp hp' (.lptr id i o) (.lptr id' i o):=by
 rintro M0 w0 β w y _ ⟨b,s,hb,rfl⟩;exact⟨b,s,by rw[Ren.app_of (Nat.le_of_ble_eq_true hi) hl];grind,rfl⟩
theorem Cv.sl{id id' n sz:Nat}{cap:Option Nat}(hi:Nat.blt id' r.n=true)(hs:r.s id'=id)(hl:(hp' id').isSome=true):Cv r hp hp' (.lsl id i n cap sz) (.lsl id' i n cap sz):=by
 rintro M0 w0 β w y _ ⟨b,c,hb,hr⟩;exact⟨b,c,by rw[Ren.app_of (Nat.le_of_ble_eq_true hi) hl];grind,hr⟩
theorem CvL.rvs(mem:Mem M0 w0 β hp w):∀{xs ys:La} {vs:List Value},CvL r hp hp' xs ys->RVs (MM M0 β hp) β w xs vs->RVs (MM M0 (r.app hp' β) hp') (r.app hp' β) w ys vs
 |[],ys,vs,h,hr=>by cases (h:ys=[]);exact hr
 |x::xs,ys,vs,⟨y,ys',e,h1,h2⟩,⟨v,vs',e',r1,r2⟩=>by subst e;exact⟨v,vs',e',h1 M0 w0 β w v mem r1,CvL.rvs mem h2 r2⟩
theorem CvL.rvcs(mem:Mem M0 w0 β hp w):∀{xs ys:La} {off:Nat},CvL r hp hp' xs ys->RVcs (MM M0 β hp) β w b xs off->RVcs (MM M0 (r.app hp' β) hp') (r.app hp' β) w b ys off
 |[],ys,off,h,hr=>by cases (h:ys=[]);exact hr
 |x::xs,ys,off,⟨y,ys',e,h1,h2⟩,⟨⟨v,e',r1⟩,r2⟩=>by subst e;exact⟨⟨v,e',h1 M0 w0 β w v mem r1⟩,CvL.rvcs mem h2 r2⟩
theorem CvL.length:∀{xs ys:La},CvL r hp hp' xs ys->ys.length=xs.length
 |[],ys,h=>by cases (h:ys=[]);rfl
 |x::xs,ys,⟨y,ys',e,_,h2⟩=>by subst e;simp[CvL.length h2]
theorem CvLL.kv(mem:Mem M0 w0 β hp w):∀{xs ys:Lc} {ens:List MapEntry},CvLL r hp hp' xs ys->RVkv (MM M0 β hp) β w xs ens->RVkv (MM M0 (r.app hp' β) hp') (r.app hp' β) w ys ens
 |[],ys,_,h,hr=>by cases (h:ys=[]);exact hr
 |x::xs,ys,_,⟨y,ys',e,h1,h2⟩,⟨en,es',e2,r1,r2⟩=>by subst e;exact⟨en,es',e2,h1.rvs mem r1,CvLL.kv mem h2 r2⟩
theorem CvLL.length:∀{xs ys:Lc},CvLL r hp hp' xs ys->ys.length=xs.length
 |[],ys,h=>by cases (h:ys=[]);rfl
 |x::xs,ys,⟨y,ys',e,_,h2⟩=>by subst e;simp[CvLL.length h2]
theorem CvLL.rvess{s:Nat}(mem:Mem M0 w0 β hp w):∀{xs ys:Lc} {off:Nat},CvLL r hp hp' xs ys->RVess (MM M0 β hp) β w b s xs off->RVess (MM M0 (r.app hp' β) hp') (r.app hp' β) w b s ys off
 |[],ys,off,h,hr=>by cases (h:ys=[]);exact hr
 |x::xs,ys,off,⟨y,ys',e,h1,h2⟩,⟨r0,r1,r2⟩=>by subst e;exact⟨h1.length.trans r0,h1.rvcs mem r1,CvLL.rvess mem h2 r2⟩
theorem Cv.agg(h:CvL r hp hp' xs ys):Cv r hp hp' (.agg xs) (.agg ys):=by
 rintro M0 w0 β w y mem ⟨vs,rfl,hr⟩;exact⟨vs,rfl,h.rvs mem hr⟩
theorem Cv.tup(h:CvL r hp hp' xs ys):Cv r hp hp' (.tup xs) (.tup ys):=by
 rintro M0 w0 β w y mem ⟨vs,rfl,hr⟩;exact⟨vs,rfl,h.rvs mem hr⟩
theorem Cv.clos{f:Nat}{xs' ys':La}(h1:CvL r hp hp' xs ys)(h2:CvL r hp hp' xs' ys'):Cv r hp hp' (.clos f xs xs') (.clos f ys ys'):=by
 rintro M0 w0 β w y mem ⟨vs,us,rfl,r1,r2⟩;exact⟨vs,us,rfl,h1.rvs mem r1,h2.rvs mem r2⟩
theorem Cv.emp(x:AV)(hx:x= .arr []:=by rfl):Cv r hp hp' .emp x:=by
 subst hx;rintro M0 w0 β w y mem h;exact xb h
theorem Cv.any(x:AV):Cv r hp hp' x .any:=λ_ _ _ _ _ _ _=>trivial
theorem Cv.trans_eq{y z:AV}(h:Cv r hp hp' x y)(e:y=z):Cv r hp hp' x z:=e▸h
theorem CvLL.drop:∀{xs ys:Lc} (n:Nat),CvLL r hp hp' xs ys->CvLL r hp hp' (xs.drop n) (ys.drop n)
 |_,_,0,h=>h
 |[],ys,n+1,h=>by cases (h:ys=[]);exact rfl
 |x::xs,ys,n+1,⟨y,ys',e,_,h2⟩=>by subst e;exact CvLL.drop n h2
def vA(r:Ren)(hp':Hq)(i:Nat):Prop:=∀j B,hp' j=some B->r.s j≠i
theorem tE{s:Nat}(mem:Mem M0 w0 β hp w)(h:Shr r hp hp')(hi:hp i=some B)(hi':vA r hp' i)(hb:β i=some (b,s)):¬MM M0 (r.app hp' β) hp' b:=by
 rintro(hm|⟨j,B',s',h1,h2⟩);exact(mem.rng i b s hb).1 (mem.m0 b hm).1;obtain⟨_,B0,h3,_⟩:=h.sub j B' h1;exact hi' j B' h1 (mem.inj i (r.s j) B B0 b s s' hi h3 hb (Ren.app_some h2).2).symm
theorem Cv.shut{id n sz:Nat}{cap:Option Nat}(h:Shr r hp hp')(hi:dw hp id=some B)(hi':vA r hp' id)(hn:i+n<=B.es.length)(hc:CvLL r hp hp' ((B.es.drop i).take n) es):
    Cv r hp hp' (.lsl id i n cap sz) (.arr es):=by
 rintro M0 w0 β w y mem ⟨b,c,hb,rfl,hnc,hcm,_,_⟩;obtain⟨b',cs,hb',hh,hr,_⟩:=mem.cellsF hi;rw[hb] at hb';cases hb';have hl:es.length=n:=by rw[hc.length];grind
 exact⟨_,c,by rw[hl],ω,hcm,.inr ⟨b,0+i* B.sz,B.sz,ψ,⟨cs.size,by simp[aL,hh]⟩,tE mem h (du hi).1 hi' hb,hc.rvess mem ((hr.drop i).take n)⟩⟩
theorem Cv.sealp{id:Nat}(h:Shr r hp hp')(hi:dw hp id=some B)(hi':vA r hp' id)(hn:i< B.es.length)(hc:CvLL r hp hp' B.es es):
    Cv r hp hp' (.lptr id i o) (.aptr es i o):=by
 rintro M0 w0 β w y mem ⟨b,s,hb,rfl⟩;obtain⟨b',cs,hb',hh,hr,_⟩:=mem.cellsF hi;rw[hb] at hb';cases hb';exact⟨by rw[hc.length];grind,b,0,B.sz,ψ,⟨cs.size,by simp[aL,hh]⟩,tE mem h (du hi).1 hi' hb,hc.rvess mem hr⟩
theorem CvL.clo:∀{xs:La},Shr r hp hp'->(∀c∈xs,Closed c)->CvL r hp hp' xs xs
 |[],_,_=>rfl
 |x::_,h,hl=>⟨x,_,rfl,ah h (hl x (List.mem_cons_self ..)),CvL.clo h λc hc=>hl c (List.mem_cons_of_mem _ hc)⟩
theorem bZ:∀{xs:Lc},Shr r hp hp'->(∀e∈xs,∀c∈e,Closed c)->CvLL r hp hp' xs xs
 |[],_,_=>rfl
 |x::_,h,hl=>⟨x,_,rfl,CvL.clo h (hl x (List.mem_cons_self ..)),bZ h λc hc=>hl c (List.mem_cons_of_mem _ hc)⟩
theorem aI{xs ys:Lc}(h:Shr r hp hp')(e:xs=ys)(hc:∀e∈ys,∀c∈e,Closed c):CvLL r hp hp' xs ys:=by subst e;exact bZ h hc
end
def SEnt(st st':AState):Prop:=∀M0 w0 a w,ARel M0 w0 st a w->ARel M0 w0 st' a w
theorem SEnt.refl(st:AState):SEnt st st:=λ_ _ _ _ h=>h
theorem SEnt.trans{a b c:AState}(h:SEnt a b)(h':SEnt b c):SEnt a c:=λM0 w0 x w hr=>h' M0 w0 x w (h M0 w0 x w hr)
def CvF(r:Ren)(hp hp':Hq)(fr:List (Nat×AV)):List (Nat×AV)->Prop
 |[]=>True
 |(t,x)::l=>(∃x0,look fr t=some x0/\Cv r hp hp' x0 x)/\CvF r hp hp' fr l
def CvH(r:Ren)(hp hp':Hq):List (Nat×Option ABlk)->Prop
 |[]=>True
 |(i,x)::l=>(match x with|none=>True|some B=>i< r.n/\∃B0,hp (r.s i)=some B0/\B0.ty=B.ty/\B0.sz=B.sz/\CvLL r hp hp' B0.es B.es)/\CvH r hp hp' l
theorem CvF.look{r:Ren}{hp hp':Hq}{fr:List (Nat×AV)}:∀{l:List (Nat×AV)} {t:Nat} {x:AV},CvF r hp hp' fr l->look l t=some x->∃x0,look fr t=some x0/\Cv r hp hp' x0 x
 |[],_,_,_,h=>by cases h
 |(s,y)::l,t,x,⟨h1,h2⟩,h=>by
  rw[cJ] at h;unfold upd at h;split at h
  ·grind
  exact CvF.look h2 h
theorem CvH.look{r:Ren}{hp:Hq}:∀{l:List (Nat×Option ABlk)} {i:Nat} {B:ABlk},CvH r hp hp' l->au l i=some B->i< r.n/\∃B0,hp (r.s i)=some B0/\B0.ty=B.ty/\B0.sz=B.sz/\CvLL r hp hp' B0.es B.es
 |[],_,_,_,h=>by cases h
 |(s,y)::l,i,B,⟨h1,h2⟩,h=>by
  rw[de] at h;unfold upd at h;split at h
  ·grind
  exact CvH.look h2 h
def ShrL(r:Ren)(hp:Hq):List (Nat×Option ABlk)->Prop
 |[]=>True
 |(i,x)::l=>(match x with|none=>True|some B=>i< r.n/\∃B0,hp (r.s i)=some B0/\B0.ty=B.ty/\B0.sz=B.sz/\B0.es.length=B.es.length)/\ShrL r hp l
theorem ShrL.shr{r:Ren}{hp:Hq}:∀{l:List (Nat×Option ABlk)},ShrL r hp l->Shr r hp (au l)
 |[],_=>⟨λi B h=>by cases h⟩
 |(s,y)::l,⟨h1,h2⟩=>⟨λi B h=>by
  rw[de] at h;unfold upd at h;split at h
  ·grind
  exact(ShrL.shr h2).sub i B h⟩
theorem da:∀{l:List (Nat×Option ABlk)} {i:Nat} {B:ABlk},au l i=some B->(i,some B)∈l
 |[],_,_,h=>by cases h
 |(s,y)::l,i,B,h=>by
  rw[de] at h;unfold upd at h;split at h
  ·grind
  exact List.mem_cons_of_mem _ (da h)
def lA(r:Ren):Ln->Bool
 |[]=>true
 |i::l=>l.all (λj=>!Nat.beq (r.s i) (r.s j)||Nat.beq i j) && lA r l
theorem qQ{r:Ren}:∀{l:Ln},lA r l=true->∀i j,i∈l->j∈l->r.s i=r.s j->i=j
 |[],_,i,_,h,_,_=>by cases h
 |a::l,hh,i,j,hi,hj,e=>by
  simp only[lA,Bool.and_eq_true,List.all_eq_true] at hh
  have key:∀k∈l,r.s a=r.s k->a=k:=λk hk e=>by
   have:=hh.1 k hk;simp_all
  rcases List.mem_cons.1 hi with h1|h1 <;> rcases List.mem_cons.1 hj with h2|h2
  rw[h1,h2];rw[h1] at e⊢;exact key j h2 e;rw[h2] at e⊢;exact(key i h1 e.symm).symm;exact qQ hh.2 i j h1 h2 e
theorem aP{r:Ren}{l:List (Nat×Option ABlk)}(h:(l.all λp=>!Nat.beq (r.s p.1) i)=true):vA r (au l) i:=λj B hj e=>by
 have:=List.all_eq_true.1 h _ (da hj);simp_all
def TRel(M0:Nat->Prop)(w0:Base)(st:AState)(a:Act)(w:World):Prop:=
 ∃β,Mem M0 w0 β (au st.hp) w/\a.tmps.size=st.n/\(∀t x,look st.fr t=some x->RV (MM M0 β (au st.hp)) β w x (fU w0 a t))/\(∀i,st.nx<=i->β i=none/\i≠0)/\DefOK a.defers w0 w/\∀i x,β i=some x->(au st.hp i).isSome=true
theorem TRel.arel{M0:Nat->Prop}{w0:Base}{a:Act}{w:World}(h:TRel M0 w0 st a w):ARel M0 w0 st a w:=by
 obtain⟨β,h1,h2,h3,h4,h5,_⟩:=h;exact⟨β,h1,h2,h3,h4,h5⟩
def SEntT(st st':AState):Prop:=∀M0 w0 a w,ARel M0 w0 st a w->TRel M0 w0 st' a w
theorem SEntT.ent(h:SEntT st st'):SEnt st st':=λM0 w0 a w hr=>(h M0 w0 a w hr).arel
theorem SEntT.intro(r:Ren)(hr:r.n=st'.nx)(hk:0< st'.nx)(h0:r.s 0=0)(hinj:lA r (st'.hp.map (·.1))=true)(hn:st'.n=st.n)(hF:CvF r (au st.hp) (au st'.hp) st.fr st'.fr)(hH:CvH r (au st.hp) (au st'.hp) st'.hp):SEntT st st':=by
 rintro M0 w0 a w ⟨β,mem,h1,h2,h3,h4⟩;refine⟨r.app (au st'.hp) β,⟨mem.below,mem.m0,λi b s hi=>mem.rng _ b s (Ren.app_some hi).2,λhz=>?_,λi B hi=>?_,λi j B B' b s s' h1 h2 h3 h4=>?_⟩,h1.trans hn.symm,λt x hx=>?_,λi hi=>?_,h4,λi x hi=>Ren.app_live hi⟩;rw[Ren.app_of ω hz,h0];obtain⟨B,hB⟩:=Option.isSome_iff_exists.1 hz;obtain⟨_,B0,e1,_⟩:=hH.look hB;exact mem.pin φ;obtain⟨hik,B0,e1,e2,e3,e4⟩:=hH.look hi;obtain⟨b,r1,r2⟩:=mem.blk _ B0 e1;refine⟨b,by rw[Ren.app_of hik φ];grind,?_⟩;rcases r2 with⟨hz,cs,r2,r3,r4⟩|⟨hz,ens,ck,r2,r3⟩
 refine .inl ⟨φ,cs,φ,?_,by rw[e4.length];grind⟩;rw[<-e3];exact e4.rvess mem r3;exact .inr ⟨φ,ens,ck,r2,e4.kv mem r3⟩;obtain⟨_,B0,e1,_⟩:=hH.look h1;obtain⟨_,B0',e1',_⟩:=hH.look h2;have:=mem.inj _ _ B0 B0' b s s' e1 e1' (Ren.app_some h3).2 (Ren.app_some h4).2;exact qQ hinj i j (List.mem_map_of_mem (da h1)) (List.mem_map_of_mem (da h2)) this;obtain⟨x0,e1,e2⟩:=hF.look hx;exact e2 M0 w0 β w _ mem (h2 t x0 e1);simp only[Ren.app];grind
theorem SEnt.intro(r:Ren)(hr:r.n=st'.nx)(hk:0< st'.nx)(h0:r.s 0=0)(hinj:lA r (st'.hp.map (·.1))=true)(hn:st'.n=st.n)(hF:CvF r (au st.hp) (au st'.hp) st.fr st'.fr)(hH:CvH r (au st.hp) (au st'.hp) st'.hp):SEnt st st':=
 (SEntT.intro r hr hk h0 hinj hn hF hH).ent
end
end Go.Abs
