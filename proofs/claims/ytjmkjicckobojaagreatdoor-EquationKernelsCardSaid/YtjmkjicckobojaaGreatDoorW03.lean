/- Part W03 of the proof. -/
import Derived.Test.YtjmkjicckobojaaGreatDoorW02
import Derived.OrdersIn
set_option linter.all false
namespace Go.Abs
open Go.RowKit
section
variable {w0:Base}{a:Act}{t:Nat}
section
variable {P:Program}{id:Nat}{ev ev':Operand->Option AV}{hp hp':Hq}{op:Op}{u:Upd}{rd:Ln}
theorem gC{o:Option Operand}(h:∀x,o=some x->ev' x=ev x):evO ev' o=evO ev o:=by
 cases o with
 |none=>rfl
 |some x=>simp only[evO,h x rfl]
theorem SlB.congr{lo hi mx:Option Operand}{l h len:Nat}{cap m:Option Nat}(hb:SlB ev lo hi mx l h len cap m)(h1:∀x,lo=some x->ev' x=ev x)(h2:∀x,hi=some x->ev' x=ev x)(h3:∀x,mx=some x->ev' x=ev x):SlB ev' lo hi mx l h len cap m:=by
 unfold SlB at *
 rw[gC h1,gC h2,gC h3];grind
theorem θ{p:Prop}(h:p:=by simp[Op.operands]):p:=h
theorem AEval.congr(h:AEval P id ev hp op u rd)(h1:∀x∈op.operands,ev' x=ev x)(h2:∀i∈rd,hp' i=hp i):AEval P id ev' hp' op u rd:=by
 have m1:∀{x:Operand} {a:AV},x∈op.operands->ev x=some a->ev' x=some a:=λb ha=>(h1 _ b).trans ha;have k:∀{xs:List Operand} {as:La},(∀x∈xs,x∈op.operands)->evs ev xs=some as->evs ev' xs=some as:=λb ha=>(tJ λx q=>h1 x (b x q)).trans ha;cases h with
 |move h=>exact .move (m1 θ h)
 |sem h=>exact .sem λN K β D w ρ o J r A hc p a2 a3 a4=>h N K β D w ρ o J r (λx b a ha=>A x b a (m1 b ha)) hc p a2 a3 λi e=>(a4 i e).trans (h2 i e)
 |assign h=>exact .assign (m1 θ h)
 |pick h ha hb=>exact .pick (m1 θ h) (λt=>m1 θ (ha t)) (λt=>m1 θ (hb t))
 |alloc h g=>exact .alloc h g
 |box h hc g=>exact .box (m1 θ h) hc g
 |load_l h hb=>exact .load_l (m1 θ h) ((fC (h2 _ ψ)).trans hb) ‹_› ‹_› ‹_› ‹_›
 |load_l1 h hb=>exact .load_l1 (m1 θ h) ((fC (h2 _ ψ)).trans hb) ‹_› ‹_› ‹_›
 |load_a h=>exact .load_a (m1 θ h) ‹_› ‹_› ‹_› ‹_›
 |load_a1 h=>exact .load_a1 (m1 θ h) ‹_› ‹_› ‹_›
 |store h hb c ha=>exact .store (m1 θ h) ((fC (h2 _ ψ)).trans hb) c (m1 θ ha) ‹_› ‹_› ‹_› ‹_›
 |nilCheck h hc=>exact .nilCheck (m1 θ h) hc
 |bin h hb d=>exact .bin (m1 θ h) (m1 θ hb) d
 |bin_c h hb d=>exact .bin_c (m1 θ h) hb d
 |un h d=>exact .un (m1 θ h) d
 |conv h d=>exact .conv (m1 θ h) d
 |extract h hc=>exact .extract (m1 θ h) hc
 |build g v h l=>exact .build g v (k (by intro x b;simpa[Op.operands] using b) h) l
 |fieldAddr_l h l hs=>exact .fieldAddr_l (m1 θ h) l hs
 |fieldAddr_a h l hs=>exact .fieldAddr_a (m1 θ h) l hs
 |field h l ha m=>exact .field (m1 θ h) l ha m
 |field1 h l ha m=>exact .field1 (m1 θ h) l ha m
 |index_l h e y B c=>exact .index_l (m1 θ h) (m1 θ e) y B c
 |index_a h e y B m c=>exact .index_a (m1 θ h) (m1 θ e) y B m c
 |index_s h e d=>exact .index_s (m1 θ h) (m1 θ e) d
 |makeFunc ha hb=>exact .makeFunc (k (by intro x b;simp[Op.operands];exact .inl (by simpa using b)) ha) (k (by intro x b;simp[Op.operands];exact .inr (by simpa using b)) hb)
 |call hc h ha hs=>exact .call hc (m1 (by simp[Op.operands,Call.operands,hc]) h) (k (by intro x b;simp[Op.operands,Call.operands,hc];exact .inr (by simpa using b)) ha) hs
 |callS hc h ha C hs=>exact .callS hc (m1 (by simp[Op.operands,Call.operands,hc]) h) (k (by intro x b;simp[Op.operands,Call.operands,hc];exact .inr (by simpa using b)) ha) (C.congr λi e=>h2 i e) hs
 |callE hc h ha b d hb hs=>exact .callE hc (m1 (by simp[Op.operands,Call.operands,hc]) h) ha (m1 (by simp[Op.operands,Call.operands,hc,<-Array.mem_toList_iff,ha]) b) (k (by intro x b;simp[Op.operands,Call.operands,hc,<-Array.mem_toList_iff,ha];exact .inr (.inr b)) d) ((fC (h2 _ ψ)).trans hb) hs
 |callO hc h ha hs=>exact .callO hc (m1 (by simp[Op.operands,Call.operands,hc]) h) (k (by intro x b;simp[Op.operands,Call.operands,hc];exact .inr (by simpa using b)) ha) hs
 |len hc ha j h M c=>exact .len hc ha j (m1 (by simp[Op.operands,Call.operands,hc,ha]) h) M c
 |builtinV hc ha d=>exact .builtinV hc (k (by intro x b;simp[Op.operands,Call.operands,hc];simpa using b) ha) d
 |slice_a h hb=>exact .slice_a (m1 θ h) (SlB.congr hb (λx b=>h1 x (by rw[b];simp[Op.operands])) (λx b=>h1 x (by rw[b];simp[Op.operands])) (λx b=>h1 x (by rw[b];simp[Op.operands]))) ‹_› ‹_› ‹_› ‹_›
 |slice_l h hb=>exact .slice_l (m1 θ h) (SlB.congr hb (λx b=>h1 x (by rw[b];simp[Op.operands])) (λx b=>h1 x (by rw[b];simp[Op.operands])) (λx b=>h1 x (by rw[b];simp[Op.operands]))) ‹_› ‹_› ‹_› ‹_›
 |slice_e h hb m E q c=>exact .slice_e (m1 θ h) hb ((gC (λx b=>h1 x (by rw[b];simp[Op.operands]))).trans m) (by rw[gC (λx b=>h1 x (by rw[b];simp[Op.operands]))];exact E) (by rw[gC (λx b=>h1 x (by rw[b];simp[Op.operands]))];exact q) c
 |slice_v h m E q d=>exact .slice_v (m1 θ h) ((gC (λx b=>h1 x (by rw[b];simp[Op.operands]))).trans m) ((gC (λx b=>h1 x (by rw[b];simp[Op.operands]))).trans E) ((gC (λx b=>h1 x (by rw[b];simp[Op.operands]))).trans q) d
 |makeSlice h hc p a2 a3 a4 a5 F s g=>exact .makeSlice (m1 θ h) (m1 θ hc) p a2 a3 a4 a5 F s g
 |buildSlice p a2 a3 a4 a5 h s G g=>exact .buildSlice p a2 a3 a4 a5 (k (by intro x b;simpa[Op.operands] using b) h) s G g
 |append0 hc ha j c f b n hs=>exact .append0 hc ha j c f (m1 (by simp[Op.operands,Call.operands,hc,ha]) b) (m1 (by simp[Op.operands,Call.operands,hc,ha]) n) (hs.congr h2)
 |append_e hc ha j c f b n hs p a2 a3 a4 a5 F g=>exact .append_e hc ha j c f (m1 (by simp[Op.operands,Call.operands,hc,ha]) b) (m1 (by simp[Op.operands,Call.operands,hc,ha]) n) (hs.congr h2) p a2 a3 a4 a5 F g
 |append_l hc ha j c f b hb b1 b2 z L H n hs=>exact .append_l hc ha j c f (m1 (by simp[Op.operands,Call.operands,hc,ha]) b) ((fC (h2 _ ψ)).trans hb) b1 b2 z L H (m1 (by simp[Op.operands,Call.operands,hc,ha]) n) (hs.congr λi e=>h2 i (List.mem_cons_of_mem _ e)) ‹_› ‹_› ‹_› ‹_› ‹_›
 |copy hc ha j c b hb b1 b2 z n hs=>exact .copy hc ha j c (m1 (by simp[Op.operands,Call.operands,hc,ha]) b) ((fC (h2 _ ψ)).trans hb) b1 b2 z (m1 (by simp[Op.operands,Call.operands,hc,ha]) n) (hs.congr λi e=>h2 i (List.mem_cons_of_mem _ e))
end
def look{α:Type}:List (Nat×α)->Nat->Option α
 |[],_=>none
 |(k,x)::l,t=>cond (Nat.beq k t) (some x) (look l t)
def au(l:List (Nat×Option ABlk))(t:Nat):Option ABlk:=(look l t).join
structure AState where
 fr:List (Nat×AV)
 hp:List (Nat×Option ABlk)
 nx:Nat
 n:Nat
abbrev GH:Nat:=1000
def evF(fr:Nat->Option AV):Operand->Option AV
 | .tmp t=>cond (Nat.ble t 999) (fr t) none
 | .const v=>some (ofV v)
 | .global g=>some (.v (.pointer (some ⟨g,0,none⟩)))
 | .func f=>some (.clos f [] [])
def AState.ev(st:AState):Operand->Option AV:=evF (look st.fr)
def BG(fr:Nat->Option AV)(dst:Option Nat)(v:AV):Nat->Option AV:=match dst with|some d=>upd fr d (some v)|none=>fr
def Jt(fr:List (Nat×AV))(dst:Option Nat)(v:AV):List (Nat×AV):=match dst with|some d=>(d,v)::fr|none=>fr
def AState.step(st:AState)(dst:Option Nat)(u:Upd):AState:={st with fr:=Jt st.fr dst u.val,hp:=u.blk.reverse++st.hp}
theorem c8{α:Type}(k:Nat)(x:α)(l:List (Nat×α)):look ((k,x)::l)=upd (look l) k (some x):=by
 funext t;simp only[look,upd];by_cases h:t=k;subst h;simp
 have:Nat.beq k t=false:=by
  cases hb:Nat.beq k t with
  |false=>rfl
  |true=>simp_all
 grind
theorem oX(fr:List (Nat×AV))(dst:Option Nat)(v:AV):look (Jt fr dst v)=BG (look fr) dst v:=by
 cases dst with
 |none=>rfl
 |some d=>exact c8 d v fr
theorem dB(k:Nat)(x:Option ABlk)(l:List (Nat×Option ABlk)):au ((k,x)::l)=upd (au l) k x:=by
 funext t;simp only[au,c8,upd];grind
theorem l8:∀(bs:List (Nat×Option ABlk)) (l:List (Nat×Option ABlk)),au (bs.reverse++l)=jd (au l) bs
 |[],l=>rfl
 |(k,x)::bs,l=>by
  simp only[List.reverse_cons,List.append_assoc,List.singleton_append,jd];rw[l8 bs,dB]
def DY(D:Nat):Deferred:={target:= .collected D,args:= #[]}
def DefOK(ds:List Deferred)(w0:Base)(w:World):Prop:=
 ∃Ds:Ln,ds=Ds.map DY/\Ds.Nodup/\∀D∈Ds,w.heap[D]?=some (.deferred (some []))/\¬w0.K D
def iB(w0:Base)(a:Act)(t:Nat):Value:=if t< GH\/t< a.tmps.size then a.tmps.getD t undef else w0.gh t
theorem FG(h:Nat.ble t 999=true):iB w0 a t=a.tmps.getD t undef:=if_pos (.inl (by have:=Nat.le_of_ble_eq_true h;grind))
theorem cC(h:w0.gh=λ_=>undef)(t:Nat):iB w0 a t=a.tmps.getD t undef:=by
 unfold iB;grind
theorem slot_hi(h:GH<=t)(h2:a.tmps.size<=t):iB w0 a t=w0.gh t:=if_neg ω
def FRel(M0:Nat->Prop)(w0:Base)(fr:Nat->Option AV)(hp:Hq)(free:Nat->Prop)(n:Nat)(a:Act)(w:World):Prop:=
 ∃β,Mem M0 w0 β hp w/\a.tmps.size=n/\(∀t x,fr t=some x->RV (MM M0 β hp) β w x (iB w0 a t))/\(∀i,free i->β i=none/\i≠0)/\DefOK a.defers w0 w
def jZ(M0:Nat->Prop)(w0:Base)(st:AState)(a:Act)(w:World):Prop:=FRel M0 w0 (look st.fr) (au st.hp) (λi=>st.nx<=i) st.n a w
theorem DefOK.stab{ds:List Deferred}{w w':World}{M M':Nat->Prop}{β β':Bq}(h:DefOK ds w0 w)(st:Stab M M' β β' w w'):DefOK ds w0 w':=by
 obtain⟨b,e,c,g⟩:=h;refine⟨b,e,c,λD i=>?_⟩;obtain⟨d,f⟩:=g D i;have a:D< w.heap.size:=φ
 exact⟨by rw[st.oth D a (by simp[aU,d])];grind,f⟩
theorem evF_tmp{fr:Nat->Option AV}{v:AV}(h:evF fr (.tmp t)=some v):Nat.ble t 999=true/\fr t=some v:=by
 simp only[evF] at h;grind
theorem gf{M:Nat->Prop}{β:Bq}{w:World}{fr:Nat->Option AV}(h:∀t x,fr t=some x->RV M β w x (iB w0 a t)):∀x v,evF fr x=some v->RV M β w v (a.eval x)
 | .tmp t,v,hv=>by
  obtain⟨b,d⟩:=evF_tmp hv;have:=h t v d;rw[FG b] at this;exact this
 | .const c,v,hv=>by simp only[evF,Option.some.injEq] at hv;subst hv;exact I8 c
 | .global g,v,hv=>by simp only[evF,Option.some.injEq] at hv;subst hv;rfl
 | .func f,v,hv=>by simp only[evF,Option.some.injEq] at hv;subst hv;exact⟨#[], #[],rfl,rfl,rfl⟩
def gO:Value->Option Bool
 | .bool b=>some b
 |_=>none
def AStep(P:Program)(ops:Array Oper)(id:Nat)(fr:Nat->Option AV)(hp:Hq)(o:Oper)(u:Upd)(rd:Ln):Prop:=
 (∀c,o.op≠ .defer c)/\
 match o.guard with
 |none=>AEval P id (evF fr) hp o.op u rd
 |some (g,want)=> ∃t x,(ops[g]?).bind (·.dst)=some t/\evF fr (.tmp t)=some (.v x)/\
    ((gO x=some want/\AEval P id (evF fr) hp o.op u rd)\/(gO x≠some want/\u=⟨.v undef,[]⟩/\rd=[]))
def FR(ρ:Option Nat):Fence:={fn:=λ_=>True,depth:=none,alive:=false,round:=ρ}
section
variable {P:Program}{M0:Nat->Prop}{w0:Base}{w:World}{ops:Array Oper}{id n:Nat}{fr:Nat->Option AV}{hp:Hq}{free:Nat->Prop}{o:Oper}{u:Upd}{rd:Ln}{a:Act}{ρ:Option Nat}{Q:Exit->Act->World->Prop}
theorem vn{f:FuncId}{args:Array Value}{R:Ending->World->Prop}{k:Nat}(h:Calls P f args w R):CallsIn (FR ρ) k P f args w R:=
 (callsIn_wide (n:=k)).2 h
theorem rH{d:Nat}{v:Value}(hd:d< a.tmps.size):iB w0 (a.put (some d) v) t=if t=d then v else iB w0 a t:=by
 have hs:(a.put (some d) v).tmps.size=a.tmps.size:=by simp[Act.put]
 have b:(a.put (some d) v).tmps.getD t undef=if t=d then v else a.tmps.getD t undef:=by
  simp only[Act.put,Array.getD_eq_getD_getElem?];grind
 unfold iB;grind
theorem AStep.sim (h:AStep P ops id fr hp o u rd) (hr:FRel M0 w0 fr hp free n a w) (hid:free id) (hd:∀d,o.dst=some d->d< n) {K:Act->World->Prop}
    (hK:∀a' w',FRel M0 w0 (BG fr o.dst u.val) (jd hp u.blk) (λi=>free i/\i≠id) n a' w'->K a' w'):
    if Region.wanted o (yielded ops a.tmps) then o.wpIn (FR ρ) 0 P a w K Q else(∀f,o.about P w a.eval=some f->(FR ρ).fn f)/\K (a.put o.dst undef) w:=by
 obtain⟨β,r,X,l,k,E⟩:=hr;obtain⟨G,C⟩:=k id hid
 have F:hp id=none:=by
  cases D:hp id with
  |none=>rfl
  |some B=>obtain⟨b,hb,_⟩:=r.blk id B D;grind
 -- behind the operation
 have fin:∀y w' z,oC M0 w0 β hp w id u y w' z->K (a.put o.dst y) w':=by
  rintro y w' z ⟨W,Y,st,T⟩;refine hK _ _ ⟨z,W,?_,λt x q=>?_,λi R=>?_,?_⟩;cases o.dst <;> simp[Act.put,X];cases hdst:o.dst with
  |none=>rw[hdst] at q;have e:iB w0 (a.put none y) t=iB w0 a t:=rfl
         rw[e];exact st.all (l t x q)
  |some d=>
   rw[hdst] at q;rw[rH φ];simp only[BG,upd] at q;split at q
   ·grind
   ·rename_i L;rw[if_neg L];exact st.all (l t x q)
  rw[T i R.2];exact k i R.1;have:(a.put o.dst y).defers=a.defers:=by cases o.dst <;> rfl
  rw[this];exact E.stab st
 have run:AEval P id (evF fr) hp o.op u rd->o.wpIn (FR ρ) 0 P a w K Q:=by
  intro M;refine⟨λ_ _=>trivial,?_⟩;rw[Oper.semAt_eq _ _ _ h.1];rcases M.good (ρ:=a.eval) (o:=o) r (gf l) (λ_=>rfl) C G F rfl with⟨y,w',z,c,p⟩|⟨f,N,c,m⟩
  rcases c with c|⟨c,rfl⟩
  rw[c];exact fin y w' z p;rw[c];exact fin undef w' z p;rw[c];refine⟨λD=>by simp[FR] at D,vn (m.mono ?_)⟩;grind
 have skip:u=⟨.v undef,[]⟩->K (a.put o.dst undef) w:=by
  rintro rfl;exact fin undef w β ⟨r,rfl,.refl,λ_ _=>rfl⟩
 have H:=h.2;cases hg:o.guard with
 |none=>
  rw[hg] at H;rw[if_pos (by simp[Region.wanted,hg])];exact run H
 |some V=>
  obtain⟨g,A⟩:=V;rw[hg] at H;obtain⟨t,x,S,q,hc⟩:=H;have j:a.tmps.getD t undef=x:=gf l (.tmp t) _ q
  have J:yielded ops a.tmps g=gO x:=by
   simp only[yielded,S,Option.bind_some];cases htt:a.tmps[t]? with
   |none=>
    rw[Array.getD_eq_getD_getElem?,htt] at j;subst j;rfl
   |some y=>
    rw[Array.getD_eq_getD_getElem?,htt] at j;simp only[Option.getD_some] at j;subst j;cases y <;> rfl
  have O:Region.wanted o (yielded ops a.tmps)=true↔gO x=some A:=by
   simp only[Region.wanted,hg,J,beq_iff_eq]
  rcases hc with⟨s,M⟩|⟨s,U,_⟩
  rw[if_pos (O.2 s)];exact run M;rw[if_neg (λD=>s (O.1 D))];exact⟨λ_ _=>trivial,skip U⟩
end
end
section
variable {b i t:Nat}{fr:Nat->Option AV}{hp:Hq}
section lists
theorem yj:∀{l m:Ln},l.Pairwise (· < ·)->m.Pairwise (· < ·)->(∀x,x∈l↔x∈m)->l=m
 |[],[],_,_,_=>rfl
 |[],b::m,_,_,h=>absurd ((h b).2 (List.mem_cons_self ..)) ψ
 |a::l,[],_,_,h=>absurd ((h a).1 (List.mem_cons_self ..)) ψ
 |a::l,b::m,hl,hm,h=>by
  rw[List.pairwise_cons] at hl hm
  have f:a=b:=by
   rcases List.mem_cons.1 ((h a).1 (List.mem_cons_self ..)) with e|e
   exact e;rcases List.mem_cons.1 ((h b).2 (List.mem_cons_self ..)) with d|d
   exact d.symm;grind
  congr 1;refine yj hl.2 hm.2 λx=>⟨λc=>?_,λc=>?_⟩;rcases List.mem_cons.1 ((h x).1 (List.mem_cons_of_mem _ c)) with e|e
  have:=hl.1 x c;omega;exact e;grind
theorem yW{S α:Type}(step:S->Nat->S)(get:S->α)(p:Nat->Bool)(val:Nat->α)(h1:∀s j,p j=true->get (step s j)=val j)(h2:∀s j,p j=false->get (step s j)=get s):
    ∀(σ τ:Ln) (s t:S),get s=get t->σ.filter p=τ.filter p->get (σ.foldl step s)=get (τ.foldl step t):=by
 have a:∀(σ:Ln) (s:S),get (σ.foldl step s)=((σ.filter p).foldl (λ_ j=>val j) (get s)):=by
  intro σ
  induction σ with
  |nil=>grind
  |cons j σ b=>
   grind
 grind
end lists
structure Topo (anc:Nat->Nat->Bool)(N:Nat)(σ:Ln):Prop where
 lt:∀a∈σ,a< N
 pw:σ.Pairwise λa b=>anc b a=false
 closed:∀a∈σ,∀b,anc b a=true->b∈σ
theorem Topo.filter {anc:Nat->Nat->Bool} {N:Nat} {σ:Ln} (h:Topo anc N σ) (nd:σ.Nodup) {p:Nat->Bool} {j:Nat} (ha:∀i,i< j->p i=true->i∈σ) (hb:∀i,j<=i->p i=true->i∉σ)
    (hc:∀i k,i< k->k< N->p i=true->p k=true->anc i k=true):σ.filter p=(List.range j).filter p:=by
 refine yj ?_ (List.Pairwise.filter _ List.pairwise_lt_range) λx=>?_;have c:σ.Pairwise λa b=>anc b a=false/\a≠b:=h.pw.and nd
 have:(σ.filter p).Pairwise λa b=>(anc b a=false/\a≠b)/\(a∈σ.filter p/\b∈σ.filter p):=by
  have f:=List.Pairwise.filter p c;exact List.Pairwise.imp_of_mem (φ) f
 refine this.imp ?_;rintro a b ⟨⟨f,m⟩,g,l⟩;rw[List.mem_filter] at g l;rcases Nat.lt_trichotomy a b with d|heq|e
 exact d;exact absurd heq m;have:=hc b a e (h.lt a g.1) l.2 g.2;rw[f] at this;cases this;grind
def Do(xs:List Operand):Ln:=xs.filterMap fun| .tmp t=>some t|_=>none
def n6(ops:Array Oper)(o:Oper):Ln:=
 Do o.op.operands.toList++(match o.guard with|some (g,_)=>((ops[g]?).bind (·.dst)).toList|none=>[])
def pv(d1 d2:Option Nat)(l1 l2:Ln)(w1 r1 w2 r2:Ln):Bool:=
 (match d1,d2 with|some a,some b=>!Nat.beq a b|_,_=>true) &&
 (match d1 with|some a=>l2.all λt=>!Nat.beq a t|none=>true) &&
 (match d2 with|some b=>l1.all λt=>!Nat.beq b t|none=>true) &&
 (w1.all λk=>(r2.all λt=>!Nat.beq k t) && (w2.all λt=>!Nat.beq k t)) &&
 (w2.all λk=>r1.all λt=>!Nat.beq k t)
theorem HJ{a:Nat}(h:(!Nat.beq a b)=true):a≠b:=by
 intro e;simp_all
section
variable (ops:Array Oper)(us:List (Upd×Ln))(fr0:Nat->Option AV)(hp0:Hq)
def dst?(j:Nat):Option Nat:=(ops[j]?).bind (·.dst)
def val?(j:Nat):AV:=((us[j]?).map (·.1.val)).getD .any
def blk?(j:Nat):List (Nat×Option ABlk):=((us[j]?).map (·.1.blk)).getD []
def rd?(j:Nat):Ln:=((us[j]?).map (·.2)).getD []
def wk?(j:Nat):Ln:=(blk? us j).map (·.1)
def lk?(j:Nat):Ln:=((ops[j]?).map (n6 ops)).getD []
def stF(σ:Ln):Nat->Option AV:=σ.foldl (λfr j=>BG fr (dst? ops j) (val? us j)) fr0
def stH(σ:Ln):Nat->Option ABlk:=σ.foldl (λhp j=>jd hp (blk? us j)) hp0
def rc(anc:Nat->Nat->Bool):Bool:=(List.range ops.size).all λj=>(List.range j).all λi=>anc i j||
 pv (dst? ops i) (dst? ops j) (lk? ops i) (lk? ops j) (wk? us i) (rd? us i) (wk? us j) (rd? us j)
end
theorem ns:∀(bs:List (Nat×Option ABlk)) (hp:Hq) (k:Nat),k∉bs.map (·.1)->jd hp bs k=hp k
 |[],_,_,_=>rfl
 |(i,x)::bs,hp,k,h=>by
  simp only[List.map_cons,List.mem_cons,not_or] at h;rw[jd,ns bs _ k h.2,bF _ _ h.1]
theorem zg:∀(bs:List (Nat×Option ABlk)) (hp hp':Hq) (k:Nat),k∈bs.map (·.1)->jd hp bs k=jd hp' bs k
 |(i,x)::bs,hp,hp',k,h=>by
  simp only[jd];by_cases hk:k∈bs.map (·.1);exact zg bs _ _ k hk;rw[ns bs _ k hk,ns bs _ k hk];simp_all
section
variable {ops:Array Oper}{us:List (Upd×Ln)}{fr0:Nat->Option AV}{hp0:Hq}
theorem zA(σ τ:Ln)(t:Nat)(h:σ.filter (λj=>dst? ops j==some t)=τ.filter (λj=>dst? ops j==some t)):stF ops us fr0 σ t=stF ops us fr0 τ t:=by
 refine yW (S:=Nat->Option AV) _ (λfr=>fr t) (λj=>dst? ops j==some t) (λj=>some (val? us j)) ?_ ?_ σ τ _ _ rfl h;intro s j a;rw[beq_iff_eq] at a;simp[BG,a];intro s j a;cases hd:dst? ops j with
 |none=>rfl
 |some d=>simp only[BG];rw[bF];grind
theorem zy(σ τ:Ln)(k:Nat)(h:σ.filter (λj=>(wk? us j).contains k)=τ.filter (λj=>(wk? us j).contains k)):stH us hp0 σ k=stH us hp0 τ k:=by
 refine yW (S:=Nat->Option ABlk) _ (λhp=>hp k) (λj=>(wk? us j).contains k) (λj=>jd (λ_=>none) (blk? us j) k) ?_ ?_ σ τ _ _ rfl h;intro s j a;exact zg _ _ _ k (by simpa[wk?] using a);intro s j a;exact ns _ _ k (by simpa[wk?] using a)
theorem jl{anc:Nat->Nat->Bool}(h:rc ops us anc=true){j:Nat}(hij:i< j)(hj:j< ops.size)(hn:anc i j=false):
    pv (dst? ops i) (dst? ops j) (lk? ops i) (lk? ops j) (wk? us i) (rd? us i) (wk? us j) (rd? us j)=true:=by
 have a:=List.all_eq_true.1 h j (List.mem_range.2 hj);grind
theorem vD{xs:List Operand}(h:Operand.tmp t∈xs):t∈Do xs:=by
 unfold Do;grind
variable {anc:Nat->Nat->Bool}{σ:Ln}{j:Nat}
theorem Ff (hok:rc ops us anc=true) (ht:Topo anc ops.size σ) (nd:σ.Nodup) (hj:j< ops.size) (hjσ:j∉σ) (hr:∀i,anc i j=true->i∈σ)
    (hww:∀i k t,i< k->k< ops.size->dst? ops i=some t->dst? ops k=some t->anc i k=true) (hl:t∈lk? ops j):
    stF ops us fr0 σ t=stF ops us fr0 (List.range j) t:=by
 refine zA σ _ t (ht.filter nd (λi d hp=>?_) (λi d hp=>?_) λi k c f l h=>hww i k t c f φ φ);rw[beq_iff_eq] at hp;cases ha:anc i j with
 |true=>grind
 |false=>
  have b:=jl hok d hj ha;simp only[pv,hp,Bool.and_eq_true,List.all_eq_true] at b;exact absurd rfl (HJ (b.1.1.1.2 t hl))
 intro a;rw[beq_iff_eq] at hp;have g:i≠j:=λe=>hjσ (e▸a);cases ha:anc j i with
 |true=>exact hjσ (ht.closed i a j ha)
 |false=>
  have b:=jl hok (show j< i by omega) (ht.lt i a) ha;simp only[pv,hp,Bool.and_eq_true,List.all_eq_true] at b;exact absurd rfl (HJ (b.1.1.2 t hl))
theorem LI (hok:rc ops us anc=true) (ht:Topo anc ops.size σ) (nd:σ.Nodup) (hj:j< ops.size) (hjσ:j∉σ) (hr:∀i,anc i j=true->i∈σ)
    (hww:∀i k b,i< k->k< ops.size->b∈wk? us i->b∈wk? us k->anc i k=true) (hl:b∈rd? us j):
    stH us hp0 σ b=stH us hp0 (List.range j) b:=by
 refine zy σ _ b (ht.filter nd (λi g hp=>?_) (λi g hp=>?_) λi k f h n m=>hww i k b f h φ φ);have a:b∈wk? us i:=φ
 cases ha:anc i j with
 |true=>grind
 |false=>
  have d:=jl hok g hj ha;simp only[pv,Bool.and_eq_true,List.all_eq_true] at d;exact absurd rfl (HJ ((d.1.2 b a).1 b hl))
 intro c;have a:b∈wk? us i:=φ
 have l:i≠j:=λe=>hjσ (e▸c);cases ha:anc j i with
 |true=>exact hjσ (ht.closed i c j ha)
 |false=>
  have d:=jl hok (show j< i by omega) (ht.lt i c) ha;simp only[pv,Bool.and_eq_true,List.all_eq_true] at d;exact absurd rfl (HJ (d.2 b a b hl))
theorem nU(hok:rc ops us anc=true){k:Nat}(hik:i< k)(hk:k< ops.size)(h1:dst? ops i=some t)(h2:dst? ops k=some t):anc i k=true:=by
 cases ha:anc i k with
 |true=>rfl
 |false=>
  have a:=jl hok hik hk ha;simp only[pv] at a;simp_all
theorem qZ(hok:rc ops us anc=true){k:Nat}(hik:i< k)(hk:k< ops.size)(h1:b∈wk? us i)(h2:b∈wk? us k):anc i k=true:=by
 cases ha:anc i k with
 |true=>rfl
 |false=>
  have a:=jl hok hik hk ha;simp only[pv,Bool.and_eq_true,List.all_eq_true] at a;exact absurd rfl (HJ ((a.1.2 b h1).2 b h2))
theorem y2{fr':Nat->Option AV}{x:Operand}(h:∀t,x= .tmp t->fr' t=fr t):evF fr' x=evF fr x:=by
 cases x with
 |tmp t=>simp only[evF,h t rfl]
 |_=>rfl
theorem AStep.congr {P:Program} {id:Nat} {fr':Nat->Option AV} {hp':Hq} {o:Oper} {u:Upd} {rd:Ln} (h:AStep P ops id fr hp o u rd)
    (h1:∀t∈n6 ops o,fr' t=fr t) (h2:∀i∈rd,hp' i=hp i):AStep P ops id fr' hp' o u rd:=by
 have c:AEval P id (evF fr) hp o.op u rd->AEval P id (evF fr') hp' o.op u rd:=λc=>c.congr (λx d=>y2 λt e=>h1 t (by
  subst e;exact List.mem_append_left _ (vD (Array.mem_toList_iff.2 d)))) h2
 refine⟨h.1,?_⟩;have f:=h.2;cases hg:o.guard with
 |none=>grind
 |some j=>
  rw[hg] at f;obtain⟨t,x,g,d,hc⟩:=f;refine⟨t,x,g,?_,hc.imp (fun⟨a,b⟩=>⟨a,c b⟩) (λz=>z)⟩;simp only[evF,h1 t (List.mem_append_right _ φ)];exact d
theorem mI(σ:Ln)(j:Nat):stF ops us fr0 (σ++[j])=BG (stF ops us fr0 σ) (dst? ops j) (val? us j):=by simp[stF]
theorem jg(σ:Ln)(j:Nat):stH us hp0 (σ++[j])=jd (stH us hp0 σ) (blk? us j):=by simp[stH]
theorem tH{p q:Nat->Bool}:∀{l:Ln} {j:Nat},j∈l->p j=true->q j=false->(∀x,q x=true->p x=true)->(l.filter q).length< (l.filter p).length
 |a::l,j,c,hp,hq,h=>by
  have e:(l.filter q).length<=(l.filter p).length:=by
   clear c
   induction l with
   |nil=>simp
   |cons b l d=>
    grind
  rcases List.mem_cons.1 c with rfl|c
  rw[List.filter_cons_of_neg φ,List.filter_cons_of_pos hp];simp;omega;have d:=tH c hp hq h;grind
structure AncOK (ops:Array Oper)(anc:Nat->Nat->Bool):Prop where
 back:∀j o,ops[j]?=some o->∀e∈o.after,Region.binds .any e=true->e.on< j
 ready:∀(σ:Ln) j o,(∀a∈σ,∀b,anc b a=true->b∈σ)->ops[j]?=some o->(∀e∈o.after,Region.binds .any e=true->e.on∈σ)->∀b,anc b j=true->b∈σ
variable {P:Program}{M0:Nat->Prop}{w0:Base}{w:World}{nx n:Nat}{a:Act}{ρ:Option Nat}{Q:Exit->Act->World->Prop}{rid:Nat}
theorem FRel.free{f f':Nat->Prop}(h:FRel M0 w0 fr hp f n a w)(hf:∀i,f' i->f i):FRel M0 w0 fr hp f' n a w:=by
 obtain⟨β,d,b,g,c,e⟩:=h;exact⟨β,d,b,g,λi j=>c i (hf i j),e⟩
theorem FRel.drew{f:Nat->Prop}(h:FRel M0 w0 fr hp f n a w):FRel M0 w0 fr hp f n a w.drew:=by
 obtain⟨β,e,c,i,d,g⟩:=h;have b:=e.ext ((Below.refl w.heap.size w).drew);exact⟨β,b.1,c,λt x j=>b.2.all (i t x j),d,g.stab b.2⟩
theorem DL (hm:P.follows .mixedOrders=true) (hanc:AncOK ops anc) (hok:rc ops us anc=true)
    (hsteps:∀j o,ops[j]?=some o->∃u rd,us[j]?=some (u,rd)/\AStep P ops (nx+j) (stF ops us fr0 (List.range j)) (stH us hp0 (List.range j)) o u rd/\∀d,o.dst=some d->d< n)
    (hrel:FRel M0 w0 fr0 hp0 (λi=>nx<=i) n a w)
    (hQ:∀a' w',FRel M0 w0 (stF ops us fr0 (List.range ops.size)) (stH us hp0 (List.range ops.size)) (λi=>nx+ops.size<=i) n a' w'->Q .normal a' w'):
    (Code.region rid ops true).wpIn (FR ρ) 0 P Q a w:=by
 refine wpIn_region_any hm ?_
 have main:∀(fuel:Nat) (σ:Ln) (listed:Array Bool) (a:Act) (w:World),Topo anc ops.size σ->σ.Nodup->listed.size=ops.size->(∀j,j< ops.size->(listed.getD j true=true↔j∈σ)/\(listed.getD j false=true↔j∈σ))->
     ((List.range ops.size).filter λj=>!σ.contains j).length<=fuel->FRel M0 w0 (stF ops us fr0 σ) (stH us hp0 σ) (λi=>nx<=i/\∀j∈σ,i≠nx+j) n a w->
     wpAnyIn (FR ρ) 0 P .any ops Q fuel listed a w:=by
  have fin:∀(σ:Ln) (a:Act) (w:World),Topo anc ops.size σ->σ.Nodup->(∀j,j< ops.size->j∈σ)->FRel M0 w0 (stF ops us fr0 σ) (stH us hp0 σ) (λi=>nx<=i/\∀j∈σ,i≠nx+j) n a w->Q .normal a w:=by
   intro σ a w ht nd hall hr;refine hQ a w ?_
   have e1:stF ops us fr0 σ=stF ops us fr0 (List.range ops.size):=by
    funext t;refine zA σ _ t (ht.filter nd (λi hi _=>hall i hi) (λi hi _ hiσ=>by have:=ht.lt i hiσ;omega) λi k hik hk h1 h2=>nU hok hik hk (by simpa using h1) φ)
   have e2:stH us hp0 σ=stH us hp0 (List.range ops.size):=by
    funext t;refine zy σ _ t (ht.filter nd (λi hi _=>hall i hi) (λi hi _ hiσ=>by have:=ht.lt i hiσ;omega) λi k hik hk h1 h2=>qZ hok hik hk (by simpa using h1) φ)
   rw[<-e1,<-e2];exact hr.free λi hi=>⟨ω,λj hj=>by have:=ht.lt j hj;omega⟩
  have allIn:∀(σ:Ln) (listed:Array Bool),(∀j,j< ops.size->(listed.getD j true=true↔j∈σ)/\(listed.getD j false=true↔j∈σ))->Region.ready .any ops listed=[]->∀j,j< ops.size->j∈σ:=by
   intro σ listed hl hr j
   induction j using Nat.strongRecOn with
   |_ j ih=>
    intro hj;by_cases hjσ:j∈σ;exact hjσ;exfalso
    have hmem:j∈Region.ready .any ops listed:=by
     refine mem_ready.2 ⟨?_,ops[j],Array.getElem?_eq_getElem hj,λe he hb=>?_⟩;cases hh:listed.getD j true with
     |false=>rfl
     |true=>exact absurd ((hl j hj).1.1 hh) hjσ
     have hlt:=hanc.back j _ (Array.getElem?_eq_getElem hj) e he hb;exact(hl e.on ω).2.2 (ih e.on hlt ω)
    rw[hr] at hmem;cases hmem
  intro fuel
  induction fuel with
  |zero=>
   intro σ listed a w ht nd hsz hl hf hr
   have hall:∀j,j< ops.size->j∈σ:=by
    intro j hj;by_cases hjσ:j∈σ;exact hjσ;exfalso;have:j∈(List.range ops.size).filter λj=>!σ.contains j:=List.mem_filter.2 ⟨List.mem_range.2 hj,by simpa using hjσ⟩;rw[List.eq_nil_of_length_eq_zero (Nat.le_zero.1 hf)] at this;cases this
   refine⟨?_,fin σ a w ht nd hall hr⟩;rw[List.eq_nil_iff_forall_not_mem];intro j hj;obtain⟨h0,o,ho,_⟩:=mem_ready.1 hj;have hlt:j< ops.size:=(Array.getElem?_eq_some_iff.1 ho).1;rw[(hl j hlt).1.2 (hall j hlt)] at h0;cases h0
  |succ fuel ih=>
   intro σ listed a w ht nd hsz hl hf hr;refine⟨λh0=>fin σ a w ht nd (allIn σ listed hl h0) hr,λj hj=>?_⟩;obtain⟨h0,o,ho,hedges⟩:=mem_ready.1 hj;have hlt:j< ops.size:=(Array.getElem?_eq_some_iff.1 ho).1;have hjσ:j∉σ:=λh=>by rw[(hl j hlt).1.2 h] at h0;cases h0
   have hready:∀i,anc i j=true->i∈σ:=hanc.ready σ j o ht.closed ho λe he hb=>(hl e.on (by have:=hanc.back j o ho e he hb;omega)).2.1 (hedges e he hb);obtain⟨u,rd,hu,hstep,hdst⟩:=hsteps j o ho;have hlk:lk? ops j=n6 ops o:=by simp[lk?,ho]
   have hrd:rd? us j=rd:=by simp[rd?,hu]
   have hstep':AStep P ops (nx+j) (stF ops us fr0 σ) (stH us hp0 σ) o u rd:=hstep.congr
    (λt htl=>Ff hok ht nd hlt hjσ hready (λi k t h1 h2 h3 h4=>nU hok h1 h2 h3 h4) (by rw[hlk];exact htl))
    (λb hb=>LI hok ht nd hlt hjσ hready (λi k b h1 h2 h3 h4=>qZ hok h1 h2 h3 h4) (by rw[hrd];exact hb))
   have hd1:dst? ops j=o.dst:=by simp[dst?,ho]
   have hv1:val? us j=u.val:=by simp[val?,hu]
   have hb1:blk? us j=u.blk:=by simp[blk?,hu]
   have ht':Topo anc ops.size (σ++[j]):=by
    refine⟨λx hx=>?_,List.pairwise_append.2 ⟨ht.pw,List.pairwise_singleton _ _,λx hx y hy=>?_⟩,λx hx b hb=>?_⟩;rcases List.mem_append.1 hx with h|h
    exact ht.lt x h;rw[List.mem_singleton.1 h];exact hlt;rw[List.mem_singleton.1 hy];cases hh:anc j x with
    |false=>rfl
    |true=>exact absurd (ht.closed x hx j hh) hjσ
    rcases List.mem_append.1 hx with h|h
    exact List.mem_append_left _ (ht.closed x h b hb);rw[List.mem_singleton.1 h] at hb;exact List.mem_append_left _ (hready b hb)
   have nd':(σ++[j]).Nodup:=List.nodup_append.2 ⟨nd,ψ,λx hx y hy e=>by rw[List.mem_singleton.1 hy] at e;exact hjσ (e▸hx)⟩
   have hl':∀i,i< ops.size->((listed.setIfInBounds j true).getD i true=true↔i∈σ++[j])/\((listed.setIfInBounds j true).getD i false=true↔i∈σ++[j]):=by
    intro i hi;by_cases hij:j=i;subst hij;simp[Array.getD_eq_getD_getElem?,hsz,hlt];rw[getD_set_ne _ hij,getD_set_ne _ hij,List.mem_append,List.mem_singleton];have:=hl i hi;exact⟨this.1.trans ⟨.inl,λh=>h.resolve_right λe=>hij e.symm⟩,this.2.trans ⟨.inl,λh=>h.resolve_right λe=>hij e.symm⟩⟩
   have hf':((List.range ops.size).filter λi=>!(σ++[j]).contains i).length<=fuel:=by
    have:=tH (p:=λi=>!σ.contains i) (q:=λi=>!(σ++[j]).contains i) (List.mem_range.2 hlt) (by simpa using hjσ) ψ (λx hx=>by simp at hx⊢;exact hx.1);omega
   unfold wpOpIn;simp only[ho]
   refine hstep'.sim hr ⟨ω,λi hi e=>by have:j=i:=ω
                                       exact hjσ (this▸hi)⟩ hdst ?_
   intro a' w' hr';refine ih (σ++[j]) _ a' w' ht' nd' (by simpa using hsz) hl' hf' ?_;rw[mI,jg,hd1,hv1,hb1];exact hr'.free λi ⟨h1,h2⟩=>⟨⟨h1,λk hk=>h2 k (List.mem_append_left _ hk)⟩,h2 j ψ⟩
 refine main ops.size [] _ a _ ⟨ψ,List.Pairwise.nil,ψ⟩ List.nodup_nil ψ ?_ ?_ ?_;intro j hj;simp[Array.getD_eq_getD_getElem?,hj];exact Nat.le_trans (List.length_filter_le _ _) ψ;exact(hrel.drew).free λi hi=>hi.1
end
end
section
variable {k i o b:Nat}{es:Lc}{hp':Hq}{β:Bq}{x:AV}{xs ys:La}{B:ABlk}{st st':AState}
def yo(k:Nat)(β:Bq):Nat->Option (Nat×Nat):=λi=>if i< k then β i else none
theorem DK(β:Bq):yo 0 β=λ_=>none:=by funext i;simp[yo]
def Lo(k:Nat)(a:AV):Prop:=∀(M:Nat->Prop) β w y,RV M β w a y->RV M (yo k β) w a y
theorem Closed.lo{a:AV}(h:Closed a)(k:Nat):Lo k a:=λM β w y b=>
 StabC.all (β:=λ_=>none) (w:=w) (M:=M) (M':=M) ⟨λ_ _ _ _=>rfl,λ_ _ _ h=>h,(λ_ _ h=>by cases h),λ_ _ h=>h⟩ (h M β w y b)
theorem Lo.closed{a:AV}(h:Lo 0 a):Closed a:=λM β w y b=>by have:=h M β w y b;rwa[DK] at this
section
variable {M:Nat->Prop}{β:Bq}{w:World}{k:Nat}
theorem vW:∀{cs:La} {ys:List Value},(∀c∈cs,Lo k c)->RVs M β w cs ys->RVs M (yo k β) w cs ys
 |[],_,_,h=>h
 |c::_,_,hc,⟨x,xs,e,h1,h2⟩=>⟨x,xs,e,hc c (List.mem_cons_self ..) M β w x h1,vW (λd a=>hc d (List.mem_cons_of_mem _ a)) h2⟩
theorem FN{b:Nat}:∀{cs:La} {off:Nat},(∀c∈cs,Lo k c)->RVcs M β w b cs off->RVcs M (yo k β) w b cs off
 |[],_,_,_=>trivial
 |c::_,_,hc,⟨⟨x,h0,h1⟩,h2⟩=>⟨⟨x,h0,hc c (List.mem_cons_self ..) M β w x h1⟩,FN (λd a=>hc d (List.mem_cons_of_mem _ a)) h2⟩
theorem vY{b s:Nat}:∀{es:Lc} {off:Nat},(∀e∈es,∀c∈e,Lo k c)->RVess M β w b s es off->RVess M (yo k β) w b s es off
 |[],_,_,_=>trivial
 |e::_,_,hc,⟨h0,h1,h2⟩=>⟨h0,FN (hc e (List.mem_cons_self ..)) h1,vY (λd a=>hc d (List.mem_cons_of_mem _ a)) h2⟩
end
@[simp] theorem lo_v (k:Nat)(x:Value):Lo k (.v x):=λ_ _ _ _ h=>h
@[simp] theorem lo_any (k:Nat):Lo k .any:=λ_ _ _ _ h=>h
@[simp] theorem lo_emp (k:Nat):Lo k .emp:=λ_ _ _ _ h=>h
theorem lo_arr(h:∀e∈es,∀c∈e,Lo k c):Lo k (.arr es):=by
 rintro M β w y ⟨a,c,rfl,i,g,l⟩;refine⟨a,c,rfl,i,g,l.imp (λh=>h) ?_⟩;rintro⟨b,d,s,rfl,hb,f,j⟩;exact⟨b,d,s,rfl,hb,f,vY h j⟩
theorem lo_aptr(h:∀e∈es,∀c∈e,Lo k c):Lo k (.aptr es i o):=by
 rintro M β w y ⟨g,b,a,s,rfl,hb,d,f⟩;exact⟨g,b,a,s,rfl,hb,d,vY h f⟩
theorem lo_agg{cs:La}(h:∀c∈cs,Lo k c):Lo k (.agg cs):=by
 rintro M β w y ⟨xs,rfl,a⟩;exact⟨xs,rfl,vW h a⟩
theorem lo_tup{cs:La}(h:∀c∈cs,Lo k c):Lo k (.tup cs):=by
 rintro M β w y ⟨xs,rfl,a⟩;exact⟨xs,rfl,vW h a⟩
theorem lo_clos{f:Nat}{fst cap:La}(h1:∀c∈fst,Lo k c)(h2:∀c∈cap,Lo k c):Lo k (.clos f fst cap):=by
 rintro M β w y ⟨xs,b,rfl,d,a⟩;exact⟨xs,b,rfl,vW h1 d,vW h2 a⟩
structure Ren where
 n:Nat
 s:Nat->Nat
def Ren.id(k:Nat):Ren:=⟨k,λi=>i⟩
def Ren.app(r:Ren)(hp':Hq)(β:Bq):Nat->Option (Nat×Nat):=λi=>if i< r.n/\(hp' i).isSome=true then β (r.s i) else none
theorem Ren.app_zero(hp':Hq)(β:Bq):(Ren.id 0).app hp' β=λ_=>none:=by funext i;simp[Ren.app,Ren.id]
theorem Ren.app_some{r:Ren}{x:Nat×Nat}(h:r.app hp' β i=some x):i< r.n/\β (r.s i)=some x:=by
 unfold Ren.app at h;grind
theorem Ren.app_of{r:Ren}(h:i< r.n)(hl:(hp' i).isSome=true):r.app hp' β i=β (r.s i):=by rw[Ren.app,if_pos ⟨h,hl⟩]
theorem Ren.app_live{r:Ren}{x:Nat×Nat}(h:r.app hp' β i=some x):(hp' i).isSome=true:=by
 unfold Ren.app at h;grind
structure Shr (r:Ren)(hp hp':Hq):Prop where
 sub:∀i B,hp' i=some B->i< r.n/\∃B0,hp (r.s i)=some B0/\B0.ty=B.ty/\B0.sz=B.sz/\B0.es.length=B.es.length
def Cv(r:Ren)(hp hp':Hq)(x0 x:AV):Prop:=∀(M0:Nat->Prop) w0 β w y,Mem M0 w0 β hp w->RV (MM M0 β hp) β w x0 y->RV (MM M0 (r.app hp' β) hp') (r.app hp' β) w x y
def CvL(r:Ren)(hp hp':Hq):La->La->Prop
 |[],ys=>ys=[]
 |x::xs,ys=> ∃y ys',ys=y::ys'/\Cv r hp hp' x y/\CvL r hp hp' xs ys'
def CvLL(r:Ren)(hp hp':Hq):Lc->Lc->Prop
 |[],ys=>ys=[]
 |x::xs,ys=> ∃y ys',ys=y::ys'/\CvL r hp hp' x y/\CvLL r hp hp' xs ys'
section
variable {r:Ren}{hp hp':Hq}{M0:Nat->Prop}{w0:Base}{w:World}{β:Bq}
theorem Shr.mm(h:Shr r hp hp')(hb:MM M0 (r.app hp' β) hp' b):MM M0 β hp b:=by
 rcases hb with hb|⟨i,B,s,d,c⟩
 exact .inl hb;obtain⟨_,a,e,_⟩:=h.sub i B d;exact .inr ⟨r.s i,a,s,e,(Ren.app_some c).2⟩
theorem ao(h:Shr r hp hp')(hl:Closed x):Cv r hp hp' x x:=λa _ β w y _ c=>
 StabC.all (β:=λ_=>none) (w:=w) (w':=w) ⟨λ_ _ _ _=>rfl,λ_ _ _ b=>h.mm b,(λ_ _ h=>by cases h),λ_ _ h=>h⟩ (hl (MM a β hp) β w y c)
theorem Cv.loE{x':AV}(h:Shr r hp hp')(e:x=x')(hl:Closed x):Cv r hp hp' x x':=e▸ao h hl
theorem Cv.ptr{id id':Nat}(hi:Nat.blt id' r.n=true)(hs:r.s id'=id)(hl:(hp' id').isSome=true):Cv r hp hp' (.lptr id i o) (.lptr id' i o):=by
 rintro a c β w y _ ⟨b,s,hb,rfl⟩;exact⟨b,s,by rw[Ren.app_of (Nat.le_of_ble_eq_true hi) hl];grind,rfl⟩
theorem Cv.sl{id id' n sz:Nat}{cap:Option Nat}(hi:Nat.blt id' r.n=true)(hs:r.s id'=id)(hl:(hp' id').isSome=true):Cv r hp hp' (.lsl id i n cap sz) (.lsl id' i n cap sz):=by
 rintro d e β w y _ ⟨b,c,hb,a⟩;exact⟨b,c,by rw[Ren.app_of (Nat.le_of_ble_eq_true hi) hl];grind,a⟩
theorem CvL.rvs(mem:Mem M0 w0 β hp w):∀{xs ys:La} {vs:List Value},CvL r hp hp' xs ys->RVs (MM M0 β hp) β w xs vs->RVs (MM M0 (r.app hp' β) hp') (r.app hp' β) w ys vs
 |[],ys,vs,h,hr=>by cases (h:ys=[]);exact hr
 |x::xs,ys,vs,⟨y,ys',e,h1,h2⟩,⟨v,vs',e',r1,r2⟩=>by subst e;exact⟨v,vs',e',h1 M0 w0 β w v mem r1,CvL.rvs mem h2 r2⟩
theorem CvL.rvcs(mem:Mem M0 w0 β hp w):∀{xs ys:La} {off:Nat},CvL r hp hp' xs ys->RVcs (MM M0 β hp) β w b xs off->RVcs (MM M0 (r.app hp' β) hp') (r.app hp' β) w b ys off
 |[],ys,off,h,hr=>by cases (h:ys=[]);exact hr
 |x::xs,ys,off,⟨y,ys',e,h1,h2⟩,⟨⟨v,e',r1⟩,r2⟩=>by subst e;exact⟨⟨v,e',h1 M0 w0 β w v mem r1⟩,CvL.rvcs mem h2 r2⟩
theorem CvL.length:∀{xs ys:La},CvL r hp hp' xs ys->ys.length=xs.length
 |[],ys,h=>by cases (h:ys=[]);rfl
 |x::xs,ys,⟨y,ys',e,_,h2⟩=>by subst e;simp[CvL.length h2]
theorem CvLL.kv(mem:Mem M0 w0 β hp w):∀{xs ys:Lc} {ens:List MapEntry},CvLL r hp hp' xs ys->RVkv (MM M0 β hp) β w xs ens->RVkv (MM M0 (r.app hp' β) hp') (r.app hp' β) w ys ens
 |[],ys,_,h,hr=>by cases (h:ys=[]);exact hr
 |x::xs,ys,_,⟨y,ys',e,h1,h2⟩,⟨en,es',e2,r1,r2⟩=>by subst e;exact⟨en,es',e2,h1.rvs mem r1,CvLL.kv mem h2 r2⟩
theorem CvLL.length:∀{xs ys:Lc},CvLL r hp hp' xs ys->ys.length=xs.length
 |[],ys,h=>by cases (h:ys=[]);rfl
 |x::xs,ys,⟨y,ys',e,_,h2⟩=>by subst e;simp[CvLL.length h2]
theorem CvLL.rvess{s:Nat}(mem:Mem M0 w0 β hp w):∀{xs ys:Lc} {off:Nat},CvLL r hp hp' xs ys->RVess (MM M0 β hp) β w b s xs off->RVess (MM M0 (r.app hp' β) hp') (r.app hp' β) w b s ys off
 |[],ys,off,h,hr=>by cases (h:ys=[]);exact hr
 |x::xs,ys,off,⟨y,ys',e,h1,h2⟩,⟨r0,r1,r2⟩=>by subst e;exact⟨h1.length.trans r0,h1.rvcs mem r1,CvLL.rvess mem h2 r2⟩
theorem Cv.agg(h:CvL r hp hp' xs ys):Cv r hp hp' (.agg xs) (.agg ys):=by
 rintro c d β w y a ⟨vs,rfl,b⟩;exact⟨vs,rfl,h.rvs a b⟩
theorem Cv.tup(h:CvL r hp hp' xs ys):Cv r hp hp' (.tup xs) (.tup ys):=by
 rintro c d β w y a ⟨vs,rfl,b⟩;exact⟨vs,rfl,h.rvs a b⟩
theorem Cv.clos{f:Nat}{xs' ys':La}(h1:CvL r hp hp' xs ys)(h2:CvL r hp hp' xs' ys'):Cv r hp hp' (.clos f xs xs') (.clos f ys ys'):=by
 rintro d e β w y a ⟨vs,us,rfl,c,b⟩;exact⟨vs,us,rfl,h1.rvs a c,h2.rvs a b⟩
theorem Cv.emp(x:AV)(hx:x= .arr []:=by rfl):Cv r hp hp' .emp x:=by
 subst hx;rintro b c β w y a h;exact zP h
theorem Cv.any(x:AV):Cv r hp hp' x .any:=λ_ _ _ _ _ _ _=>trivial
theorem Cv.trans_eq{y z:AV}(h:Cv r hp hp' x y)(e:y=z):Cv r hp hp' x z:=e▸h
theorem CvLL.drop:∀{xs ys:Lc} (n:Nat),CvLL r hp hp' xs ys->CvLL r hp hp' (xs.drop n) (ys.drop n)
 |_,_,0,h=>h
 |[],ys,n+1,h=>by cases (h:ys=[]);exact rfl
 |x::xs,ys,n+1,⟨y,ys',e,_,h2⟩=>by subst e;exact CvLL.drop n h2
def uj(r:Ren)(hp':Hq)(i:Nat):Prop:=∀j B,hp' j=some B->r.s j≠i
theorem vV{s:Nat}(mem:Mem M0 w0 β hp w)(h:Shr r hp hp')(hi:hp i=some B)(hi':uj r hp' i)(hb:β i=some (b,s)):¬MM M0 (r.app hp' β) hp' b:=by
 rintro(e|⟨j,a,f,c,g⟩);exact(mem.rng i b s hb).1 (mem.m0 b e).1;obtain⟨_,d,k,_⟩:=h.sub j a c;exact hi' j a c (mem.inj i (r.s j) B d b s f hi k hb (Ren.app_some g).2).symm
theorem Cv.shut{id n sz:Nat}{cap:Option Nat}(h:Shr r hp hp')(hi:dS hp id=some B)(hi':uj r hp' id)(hn:i+n<=B.es.length)(hc:CvLL r hp hp' ((B.es.drop i).take n) es):
    Cv r hp hp' (.lsl id i n cap sz) (.arr es):=by
 rintro o m β w y a ⟨b,c,hb,rfl,j,e,_,_⟩;obtain⟨l,cs,d,g,k,_⟩:=a.cellsF hi;rw[hb] at d;cases d;have f:es.length=n:=by rw[hc.length];grind
 exact⟨_,c,by rw[f],ω,e,.inr ⟨b,0+i* B.sz,B.sz,ψ,⟨cs.size,by simp[aU,g]⟩,vV a h (eb hi).1 hi' hb,hc.rvess a ((k.drop i).take n)⟩⟩
theorem Cv.sealp{id:Nat}(h:Shr r hp hp')(hi:dS hp id=some B)(hi':uj r hp' id)(hn:i< B.es.length)(hc:CvLL r hp hp' B.es es):
    Cv r hp hp' (.lptr id i o) (.aptr es i o):=by
 rintro f g β w y a ⟨b,s,hb,rfl⟩;obtain⟨j,cs,c,d,e,_⟩:=a.cellsF hi;rw[hb] at c;cases c;exact⟨by rw[hc.length];grind,b,0,B.sz,ψ,⟨cs.size,by simp[aU,d]⟩,vV a h (eb hi).1 hi' hb,hc.rvess a e⟩
theorem CvL.clo:∀{xs:La},Shr r hp hp'->(∀c∈xs,Closed c)->CvL r hp hp' xs xs
 |[],_,_=>rfl
 |x::_,h,hl=>⟨x,_,rfl,ao h (hl x (List.mem_cons_self ..)),CvL.clo h λc hc=>hl c (List.mem_cons_of_mem _ hc)⟩
theorem ba:∀{xs:Lc},Shr r hp hp'->(∀e∈xs,∀c∈e,Closed c)->CvLL r hp hp' xs xs
 |[],_,_=>rfl
 |x::_,h,hl=>⟨x,_,rfl,CvL.clo h (hl x (List.mem_cons_self ..)),ba h λc hc=>hl c (List.mem_cons_of_mem _ hc)⟩
theorem aJ{xs ys:Lc}(h:Shr r hp hp')(e:xs=ys)(hc:∀e∈ys,∀c∈e,Closed c):CvLL r hp hp' xs ys:=by subst e;exact ba h hc
end
def SEnt(st st':AState):Prop:=∀M0 w0 a w,jZ M0 w0 st a w->jZ M0 w0 st' a w
theorem SEnt.refl(st:AState):SEnt st st:=λ_ _ _ _ h=>h
theorem SEnt.trans{a b c:AState}(h:SEnt a b)(h':SEnt b c):SEnt a c:=λd e x w f=>h' d e x w (h d e x w f)
def CvF(r:Ren)(hp hp':Hq)(fr:List (Nat×AV)):List (Nat×AV)->Prop
 |[]=>True
 |(t,x)::l=>(∃x0,look fr t=some x0/\Cv r hp hp' x0 x)/\CvF r hp hp' fr l
def CvH(r:Ren)(hp hp':Hq):List (Nat×Option ABlk)->Prop
 |[]=>True
 |(i,x)::l=>(match x with|none=>True|some B=>i< r.n/\∃B0,hp (r.s i)=some B0/\B0.ty=B.ty/\B0.sz=B.sz/\CvLL r hp hp' B0.es B.es)/\CvH r hp hp' l
theorem CvF.look{r:Ren}{hp hp':Hq}{fr:List (Nat×AV)}:∀{l:List (Nat×AV)} {t:Nat} {x:AV},CvF r hp hp' fr l->look l t=some x->∃x0,look fr t=some x0/\Cv r hp hp' x0 x
 |[],_,_,_,h=>by cases h
 |(s,y)::l,t,x,⟨h1,h2⟩,h=>by
  rw[c8] at h;unfold upd at h;split at h
  ·grind
  exact CvF.look h2 h
theorem CvH.look{r:Ren}{hp:Hq}:∀{l:List (Nat×Option ABlk)} {i:Nat} {B:ABlk},CvH r hp hp' l->au l i=some B->i< r.n/\∃B0,hp (r.s i)=some B0/\B0.ty=B.ty/\B0.sz=B.sz/\CvLL r hp hp' B0.es B.es
 |[],_,_,_,h=>by cases h
 |(s,y)::l,i,B,⟨h1,h2⟩,h=>by
  rw[dB] at h;unfold upd at h;split at h
  ·grind
  exact CvH.look h2 h
def ShrL(r:Ren)(hp:Hq):List (Nat×Option ABlk)->Prop
 |[]=>True
 |(i,x)::l=>(match x with|none=>True|some B=>i< r.n/\∃B0,hp (r.s i)=some B0/\B0.ty=B.ty/\B0.sz=B.sz/\B0.es.length=B.es.length)/\ShrL r hp l
theorem ShrL.shr{r:Ren}{hp:Hq}:∀{l:List (Nat×Option ABlk)},ShrL r hp l->Shr r hp (au l)
 |[],_=>⟨λi B h=>by cases h⟩
 |(s,y)::l,⟨h1,h2⟩=>⟨λi B h=>by
  rw[dB] at h;unfold upd at h;split at h
  ·grind
  exact(ShrL.shr h2).sub i B h⟩
theorem jn:∀{l:List (Nat×Option ABlk)} {i:Nat} {B:ABlk},au l i=some B->(i,some B)∈l
 |[],_,_,h=>by cases h
 |(s,y)::l,i,B,h=>by
  rw[dB] at h;unfold upd at h;split at h
  ·grind
  exact List.mem_cons_of_mem _ (jn h)
def oa(r:Ren):Ln->Bool
 |[]=>true
 |i::l=>l.all (λj=>!Nat.beq (r.s i) (r.s j)||Nat.beq i j) && oa r l
theorem yI{r:Ren}:∀{l:Ln},oa r l=true->∀i j,i∈l->j∈l->r.s i=r.s j->i=j
 |[],_,i,_,h,_,_=>by cases h
 |a::l,hh,i,j,hi,hj,e=>by
  simp only[oa,Bool.and_eq_true,List.all_eq_true] at hh
  have b:∀k∈l,r.s a=r.s k->a=k:=λk d e=>by
   have:=hh.1 k d;simp_all
  rcases List.mem_cons.1 hi with h1|h1 <;> rcases List.mem_cons.1 hj with c|c
  rw[h1,c];rw[h1] at e⊢;exact b j c e;rw[c] at e⊢;exact(b i h1 e.symm).symm;exact yI hh.2 i j h1 c e
theorem aG{r:Ren}{l:List (Nat×Option ABlk)}(h:(l.all λp=>!Nat.beq (r.s p.1) i)=true):uj r (au l) i:=λj B a e=>by
 have:=List.all_eq_true.1 h _ (jn a);simp_all
def TRel(M0:Nat->Prop)(w0:Base)(st:AState)(a:Act)(w:World):Prop:=
 ∃β,Mem M0 w0 β (au st.hp) w/\a.tmps.size=st.n/\(∀t x,look st.fr t=some x->RV (MM M0 β (au st.hp)) β w x (iB w0 a t))/\(∀i,st.nx<=i->β i=none/\i≠0)/\DefOK a.defers w0 w/\∀i x,β i=some x->(au st.hp i).isSome=true
theorem TRel.arel{M0:Nat->Prop}{w0:Base}{a:Act}{w:World}(h:TRel M0 w0 st a w):jZ M0 w0 st a w:=by
 obtain⟨β,d,b,f,c,e,_⟩:=h;exact⟨β,d,b,f,c,e⟩
def SEntT(st st':AState):Prop:=∀M0 w0 a w,jZ M0 w0 st a w->TRel M0 w0 st' a w
theorem SEntT.ent(h:SEntT st st'):SEnt st st':=λb d a w c=>(h b d a w c).arel
theorem SEntT.intro(r:Ren)(hr:r.n=st'.nx)(hk:0< st'.nx)(h0:r.s 0=0)(hinj:oa r (st'.hp.map (·.1))=true)(hn:st'.n=st.n)(hF:CvF r (au st.hp) (au st'.hp) st.fr st'.fr)(hH:CvH r (au st.hp) (au st'.hp) st'.hp):SEntT st st':=by
 rintro F D a w ⟨β,c,f,e,y,o⟩;refine⟨r.app (au st'.hp) β,⟨c.below,c.m0,λi b s d=>c.rng _ b s (Ren.app_some d).2,λg=>?_,λi B d=>?_,λi j B J b s A f e y o=>?_⟩,f.trans hn.symm,λt x E=>?_,λi d=>?_,o,λi x d=>Ren.app_live d⟩;rw[Ren.app_of ω g,h0];obtain⟨B,H⟩:=Option.isSome_iff_exists.1 g;obtain⟨_,h,e1,_⟩:=hH.look H;exact c.pin φ;obtain⟨p,h,e1,e2,G,u⟩:=hH.look d;obtain⟨b,K,k⟩:=c.blk _ h e1;refine⟨b,by rw[Ren.app_of p φ];grind,?_⟩;rcases k with⟨g,cs,k,l,L⟩|⟨g,q,C,k,l⟩
 refine .inl ⟨φ,cs,φ,?_,by rw[u.length];grind⟩;rw[<-G];exact u.rvess c l;exact .inr ⟨φ,q,C,k,u.kv c l⟩;obtain⟨_,h,e1,_⟩:=hH.look f;obtain⟨_,m,v,_⟩:=hH.look e;have:=c.inj _ _ h m b s A e1 v (Ren.app_some y).2 (Ren.app_some o).2;exact yI hinj i j (List.mem_map_of_mem (jn f)) (List.mem_map_of_mem (jn e)) this;obtain⟨z,e1,e2⟩:=hF.look E;exact e2 F D β w _ c (e t z e1);simp only[Ren.app];grind
theorem SEnt.intro(r:Ren)(hr:r.n=st'.nx)(hk:0< st'.nx)(h0:r.s 0=0)(hinj:oa r (st'.hp.map (·.1))=true)(hn:st'.n=st.n)(hF:CvF r (au st.hp) (au st'.hp) st.fr st'.fr)(hH:CvH r (au st.hp) (au st'.hp) st'.hp):SEnt st st':=
 (SEntT.intro r hr hk h0 hinj hn hF hH).ent
end
end Go.Abs
