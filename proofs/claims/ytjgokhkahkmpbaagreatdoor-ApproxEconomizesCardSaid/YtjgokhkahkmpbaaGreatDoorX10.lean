/- Part X10 of the proof. -/
import Derived.Test.YtjgokhkahkmpbaaGreatDoorX09
set_option linter.all false
namespace Go.Abs
section
variable {k:Nat}{Q:Exit→Nat→Bool→AState→Prop}
section
variable {P:Program}{l N:Nat}{T:Nat→Option La}{E:GEnv P l T N}
def GLs(E:GEnv P l T N)(ops:Array Oper)(Q:Exit→Nat→Bool→AState→Prop)(tail:List Oper)(j nx n k:Nat)(go:Bool)(fr:Fr)(hp:Hp):Prop:=
 ∀(a:Act) (w:World) (M G:Nat→Prop) (hj:E.J k go M G w),FRel M (fw w G (E.gk hj)) (look fr) (au hp) (fun i=>nx+j≤i) n a w→
  wpListIn (FR none) 0 P ops (fun e a' w'=> ∃k' go' st',GRel E k' go' st' a' w'∧Q e k' go' st') tail a w
theorem GLs.fin {ops:Array Oper} {tail:List Oper} {j nx n n1:Nat} {go:Bool} {fr:Fr} {hp:Hp} (hsz:j+tail.length=n1)
    (h:AR P ops nx n j tail fr hp fun _ f' h'=>Q .normal k go ⟨f',h',nx+n1,n⟩):GLs E ops Q tail j nx n k go fr hp:=by
 intro a w M G hj hr;obtain⟨us,st3,hrun,hq⟩:=h;have hn3:=iu _ j _ _ _ hrun;have happ:=jx (P:=P) (ops:=ops) (ρ:=none) (M0:=M) (w0:=fw w G (E.gk hj)) (nx:=nx) (Q:=fun e a' w'=> ∃k' go' st',GRel E k' go' st' a' w'∧Q e k' go' st') [] tail j ⟨fr,hp,nx,n⟩ st3 us a w hrun hr fun a5 w5 hr5=>?_;rw[List.append_nil] at happ;exact happ;refine⟨k,go,⟨st3.fr,st3.hp,nx+n1,n⟩,GRel.go_on hj ?_,hq⟩;rw[hn3] at hr5;refine hr5.free fun i (hi:nx+n1≤i)=>?_;omega
theorem GLs.yield {ops:Array Oper} {tail:List Oper} {j nx n nx2 d:Nat} {fr fr2:Fr} {hp hp2:Hp} (m:Nat) {o:Oper} (ho:tail[m]?=some o) {cc:Call} {f:Operand} {as:La} (hop:o.op= .call cc) (hd:o.dst=some d) (hf:cc.callee= .value f)
    (hg:o.guard=none∨∃g t,o.guard=some (g,true)∧ops[g]?.bind (·.dst)=some t∧evF (look fr2) (.tmp t)=some (.v (.bool true)))
    (h:AR P ops nx n j (tail.take m) fr hp fun _ f1 h1=>SEntT ⟨f1,h1,nx+(j+m),n⟩ ⟨fr2,hp2,nx2,n⟩) (hdn:Nat.blt d n=true)
    (hev:evF (look fr2) f=some (.v (.func (.yield l) #[] #[]))) (has:evs (evF (look fr2)) cc.args.toList=some as) (hT:T k=some (as.map coe)) (hcl:∀a∈as.map coe,Closed a)
    (h3:∀go,GLs E ops Q (tail.drop (m+1)) (j+m+1) nx2 n (k+1) go ((d,.v (.bool go))::fr2) hp2):GLs E ops Q tail j nx n k true fr hp:=by
 have hjl:m< tail.length:=(List.getElem?_eq_some_iff.1 ho).1
 have hops:tail=tail.take m++o::tail.drop (m+1):=by
  rw[←(List.getElem?_eq_some_iff.1 ho).2,←List.drop_eq_getElem_cons hjl,List.take_append_drop]
 intro a w M G hj hr;rw[hops];obtain⟨us,st1,hrun,hent⟩:=h;have hn1:=iu _ j _ _ _ hrun;simp only at hn1;refine jx (M0:=M) (w0:=fw w G (E.gk hj)) (ρ:=none) _ _ j ⟨fr,hp,nx,n⟩ st1 us a w hrun hr fun a1 w1 hr1=>?_;have hl:(tail.take m).length=m:=by rw[List.length_take];omega
 rw[hl,hn1] at hr1;have hr2:TRel M (fw w G (E.gk hj)) ⟨fr2,hp2,nx2,n⟩ a1 w1:=hent M _ a1 w1 hr1;have hb:=hr1.choose_spec.1.below;have hst:GStep G (fun b=>(G b∨w.heap.size≤b)∧b< w1.heap.size) w w1:=⟨hb.os,hb.tape,hb.output,hb.size,fun b h1 h2=>hb.block b ⟨h1,h2⟩,hb.sizes,fun b h=>h⟩;have hj1:=E.ok _ _ _ _ _ _ _ hj hst
 have hr3:TRel M (fw w1 (fun b=>(G b∨w.heap.size≤b)∧b< w1.heap.size) (E.gk hj1)) ⟨fr2,hp2,nx2,n⟩ a1 w1:=by
  obtain⟨β,mem,h1,h2,h3,⟨Ds,h4,h5,h6⟩,h7⟩:=hr2
  have hK:∀b,b< w1.heap.size→¬(fw w G (E.gk hj)).K b→¬(fw w1 (fun b=>(G b∨w.heap.size≤b)∧b< w1.heap.size) (E.gk hj1)).K b:=by
   rintro b hlt hk ⟨_,hn⟩;refine hn ⟨?_,hlt⟩;by_cases hG:G b;exact .inl hG;exact .inr (Nat.le_of_not_lt fun hl=>hk ⟨hl,hG⟩)
  refine⟨β,mem.rebase (fw w1 _ (E.gk hj1)) rfl (fun b hb=>?_) (fun i b s hi=>hK b (mem.rng i b s hi).2 (mem.rng i b s hi).1) mem.pin,h1,fun t x hx=>h2 t x hx,h3,⟨Ds,h4,h5,fun D hD=>?_⟩,h7⟩;have:=(mem.m0 b hb).1;exact⟨Nat.lt_of_lt_of_le this.1 mem.below.size,fun hG=>hG.1.elim this.2 fun h=>by have:=this.1;omega⟩;obtain⟨h8,h9⟩:=h6 D hD;exact⟨h8,hK D (Array.getElem?_eq_some_iff.1 h8).1 h9⟩
 have hw:Region.wanted o (yielded ops a1.tmps)=true:=by
  rcases hg with hg|⟨g,t,hg,ht,hx⟩
  simp[Region.wanted,hg];obtain⟨β,mem,h1,h2,_⟩:=hr2;have hval:a1.tmps.getD t undef= .bool true:=iR h2 (.tmp t) _ hx
  have hyl:yielded ops a1.tmps g=some true:=by
   simp only[yielded,ht,Option.bind_some];cases htt:a1.tmps[t]? with
   |none=>
    rw[Array.getD_eq_getD_getElem?,htt] at hval;cases hval
   |some y=>
    rw[Array.getD_eq_getD_getElem?,htt] at hval;simp only[Option.getD_some] at hval;subst hval;rfl
  simp only[Region.wanted,hg,hyl,beq_iff_eq]
 refine wpListIn_step fun K hK=>?_;rw[if_pos hw];refine xC (E:=E) (st:=⟨fr2,hp2,nx2,n⟩) hop hd (Nat.le_of_ble_eq_true hdn) hf hev has hT hcl hj1 hr3 fun go a2 w2 hr4=>hK a2 w2 ?_;obtain⟨M4,G4,hj4,hr4⟩:=hr4;exact h3 go a2 w2 M4 G4 hj4 (FRel.free hr4 fun i hi=>by show nx2≤i;omega)
theorem GWp.cutT{α:Type}{x y:Code}{go:Bool}{st:AState}(S:α→AState)(Post:α→Prop)(h:AWp none P x (cutA S Post fun _ _=>False) st)(h2:∀a,Post a→GWp E y Q k go (S a)):GWp E x (Em (GWp E y Q) Q) k go st:=
 GWp.lift (AWp.mono h fun e s hs=>by
  cases e with
  |normal=>obtain⟨a,h3,h4⟩:=hs;exact GWp.ent h4 (h2 a h3)
  |_=>exact hs.elim)
end
end
section
variable {l l0:List (Ln×Ln)}
def mxB(T sz:Nat):List Lc→Nat→Hp
 |[],_=>[]
 |e::l,i=>(i,some ⟨T,sz,e⟩)::mxB T sz l (i+1)
theorem Co{T sz:Nat}:∀(L:List Lc) (i j:Nat) (B:ABlk),(j,some B)∈mxB T sz L i→∃k e,L[k]?=some e∧j=i+k∧B=⟨T,sz,e⟩
 |[],_,_,_,h=>by cases h
 |e::l,i,j,B,h=>by
  rcases List.mem_cons.1 h with h|h
  cases h;exact⟨0,e,rfl,rfl,rfl⟩;obtain⟨k,e',h1,h2,h3⟩:=Co l (i+1) j B h;exact⟨k+1,e',by grind,by omega,h3⟩
theorem Cp{T sz:Nat}:∀(L:List Lc) (i j:Nat),j∈(mxB T sz L i).map (·.1)→i≤j∧j< i+L.length
 |[],_,_,h=>by cases h
 |e::l,i,j,h=>by
  rcases List.mem_cons.1 h with h|h
  subst h;exact⟨Nat.le_refl _,by simp⟩;have:=Cp l (i+1) j h;grind
def mxH(TS TQ:Nat)(o:Lc)(L:List Lc):Hp:=(1,some ⟨TS,1,o⟩)::mxB TQ 4 L 2
theorem BH{r:Ren}{hp hp':Hq}:∀l:Hp,(∀i B,(i,some B)∈l→i< r.n∧∃B0,hp (r.s i)=some B0∧B0.ty=B.ty∧B0.sz=B.sz∧CvLL r hp hp' B0.es B.es)→CvH r hp hp' l
 |[],_=>trivial
 |(i,none)::l,h=>⟨trivial,BH l fun j B hj=>h j B (List.mem_cons_of_mem _ hj)⟩
 |(i,some B)::l,h=>⟨h i B (List.mem_cons_self ..),BH l fun j B hj=>h j B (List.mem_cons_of_mem _ hj)⟩
theorem CD{r:Ren}:∀l:Ln,(∀i j,i∈l→j∈l→r.s i=r.s j→i=j)→lu r l=true
 |[],_=>rfl
 |a::l,h=>by
  rw[lu,Bool.and_eq_true,List.all_eq_true];refine⟨fun j hj=>?_,CD l fun i j hi hj=>h i j (List.mem_cons_of_mem _ hi) (List.mem_cons_of_mem _ hj)⟩;by_cases e:r.s a=r.s j;have:=h a j (List.mem_cons_self ..) (List.mem_cons_of_mem _ hj) e;rw[this];simp
  have:Nat.beq (r.s a) (r.s j)=false:=by
   cases hb:Nat.beq (r.s a) (r.s j) with
   |false=>rfl
   |true=>simp_all
  grind
theorem SEnt.mx {fr fr':Fr} {hp:Hp} {nx N TS TQ:Nat} (s:Nat→Nat) (o o':Lc) (L:List Lc) (hL:L.length≤30) (s0:s 0=0) (hinj:∀i j,1≤i→i< L.length+2→1≤j→j< L.length+2→s i=s j→i=j)
    (h1:au hp (s 1)=some ⟨TS,1,o'⟩) (ho:o'.length=o.length) (hr:∀i e,L[i]?=some e→au hp (s (i+2))=some ⟨TQ,4,e⟩∧∀x∈e,∀c∈x,Closed c)
    (hO:Shr ⟨40,s⟩ (au hp) (au (mxH TS TQ o L))→CvLL ⟨40,s⟩ (au hp) (au (mxH TS TQ o L)) o' o)
    (hF:Shr ⟨40,s⟩ (au hp) (au (mxH TS TQ o L))→CvF ⟨40,s⟩ (au hp) (au (mxH TS TQ o L)) fr fr'):SEnt ⟨fr,hp,nx,N⟩ ⟨fr',mxH TS TQ o L,40,N⟩:=by
 have key:∀i B,(i,some B)∈mxH TS TQ o L→(i=1∧B=⟨TS,1,o⟩)∨∃k e,L[k]?=some e∧i=k+2∧B=⟨TQ,4,e⟩:=fun i B h=>by
  rcases List.mem_cons.1 h with h|h
  cases h;exact .inl ⟨rfl,rfl⟩;obtain⟨k,e,k1,k2,k3⟩:=Co L 2 i B h;grind
 have hS:Shr ⟨40,s⟩ (au hp) (au (mxH TS TQ o L)):=⟨fun i B h=>by
  rcases key i B (dR h) with⟨rfl,rfl⟩|⟨k,e,k1,rfl,rfl⟩
  exact⟨(show 1< 40 by decide),_,h1,rfl,rfl,ho⟩;grind⟩
 refine SEnt.intro (st:=⟨fr,hp,nx,N⟩) (st':=⟨fr',mxH TS TQ o L,40,N⟩) ⟨40,s⟩ rfl (show 0< 40 by decide) s0 (CD _ fun i j hi hj e=>?_) rfl (hF hS) (BH _ fun i B h=>?_)
 have g:∀i,i∈(mxH TS TQ o L).map (·.1)→1≤i∧i< L.length+2:=fun i hi=>by
  rcases List.mem_cons.1 hi with h|h
  have h:i=1:=h;omega;have:=Cp L 2 i h;omega
 exact hinj i j (g i hi).1 (g i hi).2 (g j hj).1 (g j hj).2 e;rcases key i B h with⟨rfl,rfl⟩|⟨k,e,k1,rfl,rfl⟩
 exact⟨(show 1< 40 by decide),_,h1,rfl,rfl,hO hS⟩;exact⟨by grind,_,(hr k e k1).1,rfl,rfl,cU hS (hr k e k1).2⟩
def mxO(w:Nat)(s:Nat→Nat)(n:Nat):Lc:=(List.range n).map fun i=>[.lsl (s (i+2)) 0 w none 4]
@[simp] theorem mxO_length (w:Nat)(s:Nat→Nat)(n:Nat):(mxO w s n).length=n:=by simp[mxO]
def lessF:List (Ln×Ln)→List (Ln×Ln)→Prop
 |[],[]=>True
 |(w,r)::l,(w0,r0)::l0=>w=w0∧(∀k∈w,40≤k)∧(∀x∈r,x∈r0∨x< 40)∧lessF l l0
 |_,_=>False
theorem lessF.nil:lessF [] []:=trivial
theorem lessF.cons{w w0 r r0:Ln}(h1:w=w0)(h2:∀k∈w,40≤k)(h3:∀x∈r,x∈r0∨x< 40)(h4:lessF l l0):lessF ((w,r)::l) ((w0,r0)::l0):=⟨h1,h2,h3,h4⟩
theorem lessF.rd{x:Nat}(hx:x< 40)(h:lessF l l0):lessF (([],[x])::l) (([],[])::l0):= .cons rfl (fun k hk=>absurd hk List.not_mem_nil) (fun k hk=> .inr (by grind)) h
theorem lessF.st{x y:Nat}(e:x=y)(hx:40≤x)(h:lessF l l0):lessF (([x],[x])::l) (([y],[y])::l0):= .cons (by rw[e]) (fun k hk=>by grind) (fun k hk=> .inl (by grind)) h
end
end Go.Abs
namespace Go.Abs
open Go.RowKit
section
variable {ty sz t t2:Nat}{v:Value}{es:Lc}
structure OTSpec (P:Program)(f:Nat)(args:La)(ty sz:Nat)(es:Lc)(v:Value):Prop where
 sz0:sz≠0
 cl:∀a∈args,Closed a
 enters:∀(xs:Array Value) (w:World),(callFunc f xs).run P w= .ok (.enter f xs) w
 calls:∀(M:Nat→Prop) (w:World) (vals:List Value),Fit M w→RVs M (fun _=>none) w args vals→
  Calls P f vals.toArray w fun x w'=> ∃b c,x= .returned (.tuple #[.slice (some ⟨b,0,none⟩) es.length c,v])∧w.heap.size≤b∧b< w'.heap.size∧es.length≤c∧c≤maxLen∧(∃cs,w'.heap[b]?=some (.cells cs ty (0,0))∧RVess (fun x=>M x∨x=b) (fun _=>none) w' b sz es 0∧c* sz≤cs.size)∧Below w.heap.size w w'
theorem OTSpec.intro {P:Program} {f:Nat} {fn:Func} {c:Code} {args:La} (hf:P.funcs[f]?=some fn) (hb:fn.body=some c) (hname:(fn.name== "runtime.NumGoroutine")=false) (hrs:fn.results.toList=[.tmp t,.tmp t2]) (hcl:∀a∈args,Closed a) (hce:∀x∈es,∀c∈x,Closed c) (hn:args.length≤fn.ntmps)
    (h:AWp none P c (fun x st=>(x= .normal∨x= .ret)∧(∃i cap,look st.fr t=some (.lsl i 0 es.length cap sz)∧au st.hp i=some ⟨ty,sz,es⟩)∧look st.fr t2=some (.v v)) ⟨dh 0 args,[],1,fn.ntmps⟩) (hz:Nat.blt 0 sz=true:=by rfl):OTSpec P f args ty sz es v:=by
 refine⟨iU hz,hcl,fun xs w=>?_,fun M w vals hM hargs=>?_⟩;have hname':¬fn.name= "runtime.NumGoroutine" :=by grind
 simp[callFunc,hf,hname',hb];refine(callsIn_wide (n:=0)).1 (callsIn_of_wp_marks (F:=Fence.wide) hf hb trivial ?_);have hlen:=hargs.length
 have hrel:ARel M (Base.of w hM.tab) ⟨dh 0 args,[],1,fn.ntmps⟩ {tmps:=vals.toArray++Array.replicate (fn.ntmps- vals.toArray.size) undef,defers:=[]} w:=by
  refine⟨fun _=>none,⟨⟨rfl,rfl,rfl,Nat.le_refl _,fun _ _=>rfl,fun _ _ h=>h⟩,(fun b hb=>⟨hM.lt b hb,fun e=>hM.nt (e▸hb)⟩),(fun _ _ _ h=>by cases h),(fun _=>rfl),(fun _ _ h=>by cases h),(fun _ _ _ _ _ _ _ h=>by simp)⟩,by grind,fun t x hx=>?_,fun i (hi:1≤i)=>⟨rfl,by omega⟩,⟨[],rfl,List.nodup_nil,by simp⟩⟩;have hmm:MM M (fun _=>none) (au [])=M:=by funext b;simp[MM,au,look]
  show RV (MM M (fun _=>none) (au [])) _ _ _ _;rw[hmm,cO rfl];obtain⟨_,y,h1,h2⟩:=gf hargs hx
  have hy:(vals.toArray++Array.replicate (fn.ntmps- vals.toArray.size) undef).getD t undef=y:=by
   have hlt:t< vals.length:=by grind
   rw[Array.getD_eq_getD_getElem?,Array.getElem?_append_left (by grind)];grind
  grind
 refine wpIn_mono (h M (Base.of w hM.tab) _ w hrel) fun x a' w' ⟨st',⟨β,mem,hsz,hfr,hfree,Ds,hds,hnd,hD⟩,he,⟨i,cap,hlk,hbk⟩,hlk2⟩=>?_
 have hres:kS P fn.results.toList st' .any:=by
  rw[hrs];exact⟨[_,_],⟨_,[_],rfl,hlk,⟨_,[],rfl,hlk2,rfl⟩⟩,fun _ _ _ _ _ _ _=>trivial⟩
 have hL:LeavesInM (FR none) 0 P fn a'.tmps (fun x w'=> ∃b c,x= .returned (.tuple #[.slice (some ⟨b,0,none⟩) es.length c,v])∧w.heap.size≤b∧b< w'.heap.size∧es.length≤c∧c≤maxLen∧(∃cs,w'.heap[b]?=some (.cells cs ty (0,0))∧RVess (fun x=>M x∨x=b) (fun _=>none) w' b sz es 0∧c* sz≤cs.size)∧Below w.heap.size w w') a'.defers .returning w':=by
  rw[hds];refine io hres (fun y w'' _ h2 h3 h4=>?_) Ds w' hnd hD mem (fun t x hx=>by have:=hfr t x hx;rwa[cO rfl] at this);obtain⟨b,c,e1,e2,e3,e4,e5,N,e6,e7⟩:=h3 t _ hlk;have g2:a'.tmps.getD t2 undef=v:=h3 t2 _ hlk2;obtain⟨b',cs,f1,f2,f3,f4⟩:=h2.cells hbk (iU hz);rw[e1] at f1;cases f1;have hr:=h2.rng i b _ e1
  have hy:y= .tuple #[.slice (some ⟨b,0,none⟩) es.length c,v]:=by
   have hm:(fn.results.mapM (fO a'.tmps)).run P w''= .ok #[a'.tmps.getD t undef,a'.tmps.getD t2 undef] w'':=by
    rw[Array.mapM_eq_mapM_toList,hrs];rfl
   have he:results fn a'.tmps=(do let vs←fn.results.mapM (fO a'.tmps);pure (if h:vs.size=1 then vs[0] else .tuple vs)):=rfl;rw[he,Sem.run_bind,hm] at h4;have h5:(Result.ok (.tuple #[a'.tmps.getD t undef,a'.tmps.getD t2 undef]) w'':Result Value)= .ok y w'':=h4;cases h5;rw[e2,g2];simp
  refine⟨b,c,by rw[hy],Nat.le_of_not_lt hr.1,hr.2,e3,e4,⟨cs,f2,?_,?_⟩,⟨h2.below.os,h2.below.tape,h2.below.output,h2.below.size,h2.below.block⟩⟩;refine StabC.ess (w:=w'') (w':=w'') (M:=MM M β (au st'.hp)) (β:=fun _=>none) ⟨fun _ _ _ _=>rfl,fun x _ _ hx=>?_,(fun _ _ h=>by cases h),fun _ _ h=>h⟩ rfl (gC hce f3);rcases hx with hx|rfl
  exact .inl hx;exact .inr ⟨i,_,_,hbk,e1⟩;simp[aK,f2] at e6;rw[e6];simpa using e7
 rcases he with rfl|rfl
 exact hL;exact hL
def FinOT(t t2 ty sz:Nat)(es:Lc)(v:Value)(x:Exit)(st:AState):Prop:=(x= .normal∨x= .ret)∧(∃i cap,look st.fr t=some (.lsl i 0 es.length cap sz)∧au st.hp i=some ⟨ty,sz,es⟩)∧look st.fr t2=some (.v v)
theorem FinOT.tmp{fr:Fr}{hp:Hp}{nx n i k:Nat}{cap:Option Nat}{es':Lc}(h:look fr t=some (.lsl i 0 k cap sz))(hb:au hp i=some ⟨ty,sz,es⟩)(he:es=es')(hk:k=es'.length)(h2:look fr t2=some (.v v)):FinOT t t2 ty sz es' v .ret ⟨fr,hp,nx,n⟩:=
 ⟨.inr rfl,⟨i,cap,by grind,by grind⟩,h2⟩
theorem OTSpec.enter {P:Program} {f:Nat} {fn:Func} {c:Code} {args:La} (hf:P.funcs[f]?=some fn) (hb:fn.body=some c) (hname:(fn.name== "runtime.NumGoroutine")=false) (hrs:fn.results.toList=[.tmp t,.tmp t2]) {m:Nat} (hm:fn.ntmps=m) (hn:Nat.ble args.length m=true)
    (hcl:∀a∈args,Closed a) (hce:∀x∈es,∀c∈x,Closed c) {fr:Fr} (hfr:dh 0 args=fr) (h:AWp none P c (FinOT t t2 ty sz es v) ⟨fr,[],1,m⟩) (hz:Nat.blt 0 sz=true:=by rfl):OTSpec P f args ty sz es v:=by
 subst hm hfr;exact OTSpec.intro hf hb hname hrs hcl hce (nle hn) h hz
section
variable {P:Program}{id:Nat}{ev:Operand→Option AV}{hp:Hq}
end
end
end Go.Abs
namespace Go.Abs
section
variable {P:Program}{id:Nat}{ev:Operand→Option AV}{hp:Hq}{T:Nat}{x lo hi:Operand}{es es':Lc}{kl kh:IntKind}{zl zh:Int}{l h:Nat}{d:Nat×Nat}
theorem AEval.sa_hE(e:es.take h=es')(hx:ev x=some (.arr es))(h2:ev hi=some (.v (.int kh zh)))(e2:zh=(h:Int))(hl:h≤es.length)(he:dT P T=some d)(hel:∀e∈es,e.length=d.2):
    AEval P id ev hp (.slice T x none (some hi) none) ⟨.arr es',[]⟩ []:=by
 subst e;exact .sa_h hx h2 e2 hl he hel
end
end Go.Abs
namespace Go.Abs
open Go.RowKit
structure XSpec (P:Program)(f:Nat)(args:La)(hp:Hp)(nx:Nat)(v:AV)(hp':Hp)(nx':Nat):Prop where
 enters:∀(xs:Array Value) (w:World),(callFunc f xs).run P w= .ok (.enter f xs) w
 calls:∀(M:Nat→Prop) (w0:Base) (β:Bq) (vals:List Value),w0.gh=(fun _=>undef)→Mem M w0 β (au hp) w0.w→(∀i,nx≤i→β i=none∧i≠0)→RVs (MM M β (au hp)) β w0.w args vals→
  Calls P f vals.toArray w0.w fun x w'=> ∃y β',x= .returned y∧Mem M w0 β' (au hp') w'∧RV (MM M β' (au hp')) β' w' v y∧∀i,nx'≤i→β' i=none∧i≠0
def FinX(t:Nat)(v:AV)(hp':Hp)(nx' n:Nat)(x:Exit)(st:AState):Prop:=(x= .normal∨x= .ret)∧SEnt st ⟨[(t,v)],hp',nx',n⟩
theorem FinX.of{fr:Fr}{hp hp':Hp}{nx nx' n t:Nat}{v:AV}(h:SEnt ⟨fr,hp,nx,n⟩ ⟨[(t,v)],hp',nx',n⟩):FinX t v hp' nx' n .ret ⟨fr,hp,nx,n⟩:=⟨.inr rfl,h⟩
theorem XSpec.enter {P:Program} {f:Nat} {fn:Func} {c:Code} {t nx nx':Nat} {v:AV} {hp hp':Hp} {args:La} (hf:P.funcs[f]?=some fn) (hb:fn.body=some c) (hname:(fn.name== "runtime.NumGoroutine")=false) (hrs:fn.results.toList=[.tmp t]) {m:Nat} (hm:fn.ntmps=m) (hn:Nat.ble args.length m=true)
    (ht:Nat.ble t 999=true) {fr:Fr} (hfr:dh 0 args=fr) (h:AWp none P c (FinX t v hp' nx' m) ⟨fr,hp,nx,m⟩):XSpec P f args hp nx v hp' nx':=by
 subst hm hfr;have hn:=Nat.le_of_ble_eq_true hn;refine⟨fun xs w=>?_,fun M w0 β vals hgh mem hfree hargs=>?_⟩;have hname':¬fn.name= "runtime.NumGoroutine" :=by grind
 simp[callFunc,hf,hname',hb];refine(callsIn_wide (n:=0)).1 (callsIn_of_wp_marks (F:=Fence.wide) hf hb trivial ?_);have hlen:=hargs.length
 have hrel:ARel M w0 ⟨dh 0 args,hp,nx,fn.ntmps⟩ {tmps:=vals.toArray++Array.replicate (fn.ntmps- vals.toArray.size) undef,defers:=[]} w0.w:=by
  refine⟨β,mem,by grind,fun t x hx=>?_,hfree,⟨[],rfl,List.nodup_nil,by simp⟩⟩;rw[cO hgh]
  have key:∀{as:La} {vs:List Value} {i t:Nat} {x:AV},RVs (MM M β (au hp)) β w0.w as vs→look (dh i as) t=some x→i≤t∧∃y,vs[t- i]?=some y∧RV (MM M β (au hp)) β w0.w x y:=by
   intro as
   induction as with
   |nil=>intro vs i t x _ h;cases h
   |cons a as ih=>
    rintro vs i t x ⟨y,ys,e,h1,h2⟩ h;subst e;simp only[dh] at h;rw[cy] at h;unfold upd at h;grind
  obtain⟨_,y,h1,h2⟩:=key hargs hx
  have hy:(vals.toArray++Array.replicate (fn.ntmps- vals.toArray.size) undef).getD t undef=y:=by
   have hlt:t< vals.length:=by grind
   rw[Array.getD_eq_getD_getElem?,Array.getElem?_append_left (by grind)];grind
  grind
 refine wpIn_mono (h M w0 _ w0.w hrel) fun x a' w' ⟨st',hst,he,hent⟩=>?_;obtain⟨β',mem',hsz,hfr,hfree',Ds,hds,hnd,hD⟩:=hent M w0 a' w' hst;have hv:look ([(t,v)]:Fr) t=some v:=by rw[cy];exact aX _ _ _
 have hres:kS P fn.results.toList ⟨[(t,v)],hp',nx',fn.ntmps⟩ .any:=by
  rw[hrs];exact⟨[_],⟨_,[],rfl,hv,rfl⟩,fun _ _ _ _ _ _ _=>trivial⟩
 have hL:LeavesInM (FR none) 0 P fn a'.tmps (fun x w'=> ∃y β',x= .returned y∧Mem M w0 β' (au hp') w'∧RV (MM M β' (au hp')) β' w' v y∧∀i,nx'≤i→β' i=none∧i≠0) a'.defers .returning w':=by
  rw[hds];refine io (st:=⟨[(t,v)],hp',nx',fn.ntmps⟩) hres (fun y w'' _ h2 h3 h4=>?_) Ds w' hnd hD mem' (fun t x hx=>by have:=hfr t x hx;rwa[cO hgh] at this)
  have hy:y=a'.tmps.getD t undef:=by
   have hm:(fn.results.mapM (fO a'.tmps)).run P w''= .ok #[a'.tmps.getD t undef] w'':=by
    rw[Array.mapM_eq_mapM_toList,hrs];rfl
   have he:results fn a'.tmps=(do let vs←fn.results.mapM (fO a'.tmps);pure (if h:vs.size=1 then vs[0] else .tuple vs)):=rfl;rw[he,Sem.run_bind,hm] at h4;have h5:(Result.ok (a'.tmps.getD t undef) w'':Result Value)= .ok y w'':=h4;cases h5;rfl
  exact⟨y,β',rfl,h2,by rw[hy];exact h3 t v hv,hfree'⟩
 rcases he with rfl|rfl
 exact hL;exact hL
theorem Af{M M':Nat→Prop}{β β':Bq}{w w':World}{x:AV}{y:Value}(hc:Closed x)(h:RV M β w x y)(h1:∀b N,aK w b=some N→¬M b→w'.heap[b]?=w.heap[b]?)(h2:∀b N,aK w b=some N→M' b→M b)(h3:∀b n,aK w b=some n→aK w' b=some n):RV M' β' w' x y:=by
 have g1:RVs M (fun _=>none) w [x] [y]:=dV (fun a ha=>by grind) ⟨_,_,rfl,h,rfl⟩;have g2:RVs M' β' w' [x] [y]:=StabC.vs ⟨h1,h2,(fun _ _ h=>by cases h),h3⟩ g1;obtain⟨z,zs,e,r,_⟩:=g2;grind
section
variable {fr:Fr}{hp hp':Hp}{nx nx':Nat}
def FinX0(hp':Hp)(nx' n:Nat)(x:Exit)(st:AState):Prop:=(x= .normal∨x= .ret)∧SEnt st ⟨[],hp',nx',n⟩
theorem FinX0.of{n:Nat}(h:SEnt ⟨fr,hp,nx,n⟩ ⟨[],hp',nx',n⟩):FinX0 hp' nx' n .ret ⟨fr,hp,nx,n⟩:=⟨.inr rfl,h⟩
theorem FinX0.norm{n:Nat}(h:SEnt ⟨fr,hp,nx,n⟩ ⟨[],hp',nx',n⟩):FinX0 hp' nx' n .normal ⟨fr,hp,nx,n⟩:=⟨.inl rfl,h⟩
theorem XSpec.enter0 {P:Program} {f:Nat} {fn:Func} {c:Code} {args:La} (hf:P.funcs[f]?=some fn) (hb:fn.body=some c) (hname:(fn.name== "runtime.NumGoroutine")=false) (hrs:fn.results.toList=[]) {m:Nat} (hm:fn.ntmps=m) (hn:Nat.ble args.length m=true)
 (hfr:dh 0 args=fr) (h:AWp none P c (FinX0 hp' nx' m) ⟨fr,hp,nx,m⟩):XSpec P f args hp nx (.tup []) hp' nx':=by
  subst hm hfr;have hn:=Nat.le_of_ble_eq_true hn;refine⟨fun xs w=>?_,fun M w0 β vals hgh mem hfree hargs=>?_⟩;have hname':¬fn.name= "runtime.NumGoroutine" :=by simpa using hname
  simp[callFunc,hf,hname',hb];refine(callsIn_wide (n:=0)).1 ?_;refine callsIn_of_wp_marks (F:=Fence.wide) hf hb trivial ?_;have hlen:=hargs.length
  have hrel:ARel M w0 ⟨dh 0 args,hp,nx,fn.ntmps⟩ {tmps:=vals.toArray++Array.replicate (fn.ntmps- vals.toArray.size) undef,defers:=[]} w0.w:=by
   refine⟨β,mem,by simp;omega,fun t x hx=>?_,hfree,⟨[],rfl,List.nodup_nil,by simp⟩⟩;rw[cO hgh]
   have key:∀{as:La} {vs:List Value} {i t:Nat} {x:AV},RVs (MM M β (au hp)) β w0.w as vs→look (dh i as) t=some x→i≤t∧∃y,vs[t- i]?=some y∧RV (MM M β (au hp)) β w0.w x y:=by
    intro as
    induction as with
    |nil=>intro vs i t x _ h;cases h
    |cons a as ih=>
     rintro vs i t x ⟨y,ys,e,h1,h2⟩ h;subst e;simp only[dh] at h;rw[cy] at h;unfold upd at h;split at h
     ·rename_i e;subst e;cases h;exact⟨Nat.le_refl _,y,by simp,h1⟩
     obtain⟨h3,z,h4,h5⟩:=ih h2 h;exact⟨by omega,z,by rw[show t- i=(t- (i+1))+1 by omega,List.getElem?_cons_succ];exact h4,h5⟩
   obtain⟨_,y,h1,h2⟩:=key hargs hx
   have hy:(vals.toArray++Array.replicate (fn.ntmps- vals.toArray.size) undef).getD t undef=y:=by
    have hlt:t< vals.length:=by simpa using(List.getElem?_eq_some_iff.1 h1).1
    rw[Array.getD_eq_getD_getElem?,Array.getElem?_append_left (by simpa using hlt)];simp at h1⊢;rw[h1];rfl
   rw[hy];exact h2
  refine wpIn_mono (h M w0 _ w0.w hrel) fun x a' w' ⟨st',hst,he,hent⟩=>?_;obtain⟨β',mem',hsz,hfr,hfree',Ds,hds,hnd,hD⟩:=hent M w0 a' w' hst
  have hres:kS P fn.results.toList ⟨[],hp',nx',fn.ntmps⟩ .any:=by
   rw[hrs];exact⟨[],rfl,fun _ _ _ _ _ _ _=>trivial⟩
  have hL:LeavesInM (FR none) 0 P fn a'.tmps (fun x w'=> ∃y β',x= .returned y∧Mem M w0 β' (au hp') w'∧RV (MM M β' (au hp')) β' w' (.tup []) y∧∀i,nx'≤i→β' i=none∧i≠0) a'.defers .returning w':=by
   rw[hds];refine io (st:=⟨[],hp',nx',fn.ntmps⟩) hres (fun y w'' _ h2 h3 h4=>?_) Ds w' hnd hD mem' (fun t x hx=>by cases hx)
   have hy:y= .tuple #[]:=by
    have hm:(fn.results.mapM (fO a'.tmps)).run P w''= .ok #[] w'':=by
     rw[Array.mapM_eq_mapM_toList,hrs];rfl
    have he:results fn a'.tmps=(do let vs←fn.results.mapM (fO a'.tmps);pure (if h:vs.size=1 then vs[0] else .tuple vs)):=rfl;rw[he,Sem.run_bind,hm] at h4;have h5:(Result.ok (.tuple #[]) w'':Result Value)= .ok y w'':=h4;cases h5;rfl
   refine⟨y,β',rfl,h2,?_,hfree'⟩;rw[hy];exact⟨#[],rfl,rfl⟩
  rcases he with rfl|rfl
  exact hL;exact hL
end
section
variable {st:AState}{w:World}{P:Program}{H:Nat→Prop}{e:Nat}
def SEntP(st st':AState):Prop:=∀M0 (w0:Base) a w,ARel M0 w0 st a w→∃p,TRel M0 {w0 with pin:=p} st' a w
theorem SEntP.intro{st':AState}(r:Ren)(hr:r.n=st'.nx)(hk:0< st'.nx)(hinj:lu r (st'.hp.map (·.1))=true)(hn:st'.n=st.n)(hF:CvF r (au st.hp) (au st'.hp) st.fr st'.fr)(hH:CvH r (au st.hp) (au st'.hp) st'.hp):SEntP st st':=by
 rintro M0 w0 a w ⟨β,mem,h1,h2,h3,h4⟩;refine⟨r.app (au st'.hp) β 0,r.app (au st'.hp) β,⟨⟨mem.below.os,mem.below.tape,mem.below.output,mem.below.size,mem.below.block,mem.below.sizes⟩,mem.m0,fun i b s hi=>mem.rng _ b s (Ren.app_some hi).2,fun hz=>rfl,fun i B hi=>?_,fun i j B B' b s s' h1 h2 h3 h4=>?_⟩,h1.trans hn.symm,fun t x hx=>?_,fun i hi=>?_,h4,fun i x hi=>Ren.app_live hi⟩;obtain⟨hik,B0,e1,e2,e3,e4⟩:=hH.look hi;obtain⟨b,r1,r2⟩:=mem.blk _ B0 e1;refine⟨b,by rw[Ren.app_of hik (by rw[hi];rfl),←e3];exact r1,?_⟩;rcases r2 with⟨hz,cs,r2,r3,r4⟩|⟨hz,ens,ck,r2,r3⟩
 refine .inl ⟨by rw[←e3];exact hz,cs,by rw[←e2];exact r2,?_,by rw[e4.length,←e3];exact r4⟩;rw[←e3];exact e4.rvess mem r3;exact .inr ⟨by rw[←e3];exact hz,ens,ck,r2,e4.kv mem r3⟩;obtain⟨_,B0,e1,_⟩:=hH.look h1;obtain⟨_,B0',e1',_⟩:=hH.look h2;have:=mem.inj _ _ B0 B0' b s s' e1 e1' (Ren.app_some h3).2 (Ren.app_some h4).2;exact qj hinj i j (List.mem_map_of_mem (dR h1)) (List.mem_map_of_mem (dR h2)) this;obtain⟨x0,e1,e2⟩:=hF.look hx;exact e2 M0 w0 β w _ mem (h2 t x0 e1);have hle:st'.nx≤i:=hi;refine⟨?_,by omega⟩;simp only[Ren.app];rw[if_neg (fun hh=>by have:=hh.1;omega)]
theorem SEntP.to {fr fr':Fr} {hp hp':Hp} {nx nx' n:Nat} (l:List (Nat×Nat)) (hk:Nat.blt 0 nx'=true) (hinj:lu (rnm fr l nx') (hp'.map (·.1))=true) (hS:ShrL (rnm fr l nx') (au hp) hp')
    (hF:Shr (rnm fr l nx') (au hp) (au hp')→CvF (rnm fr l nx') (au hp) (au hp') fr fr')
    (hH:Shr (rnm fr l nx') (au hp) (au hp')→CvH (rnm fr l nx') (au hp) (au hp') hp'):SEntP ⟨fr,hp,nx,n⟩ ⟨fr',hp',nx',n⟩:=
 SEntP.intro (st:=⟨fr,hp,nx,n⟩) (st':=⟨fr',hp',nx',n⟩) (rnm fr l nx') rfl (Nat.le_of_ble_eq_true hk) hinj rfl (hF hS.shr) (hH hS.shr)
theorem ARel.unpin{M0:Nat→Prop}{w0:Base}{p:Option (Nat×Nat)}{a:Act}(h:ARel M0 {w0 with pin:=p} st a w)(h0:au st.hp 0=none):ARel M0 w0 st a w:=by
 obtain⟨β,mem,h1,h2,h3,h4⟩:=h;exact⟨β,⟨⟨mem.below.os,mem.below.tape,mem.below.output,mem.below.size,mem.below.block,mem.below.sizes⟩,mem.m0,mem.rng,(fun hz=>by rw[h0] at hz;cases hz),mem.blk,mem.inj⟩,h1,h2,h3,h4⟩
theorem AWp.pinned{ρ:Option Nat}{Q:Exit→AState→Prop}{st':AState}{c:Code}(h:SEntP st st')(hc:AWp ρ P c (fun e s=>au s.hp 0=none∧Q e s) st'):AWp ρ P c Q st:=fun M0 w0 a w hr=>by
 obtain⟨p,ht⟩:=h M0 w0 a w hr;exact wpIn_mono (hc M0 _ a w ht.arel) fun e a' w' ⟨s,h1,h2,h3⟩=>⟨s,h1.unpin h2,h3⟩
def Top(H:Nat→Prop)(x:AV):Prop:=Closed x∨(∃j e o,x= .lptr j e o∧H j)∨(∃j e m cap sz,x= .lsl j e m cap sz∧H j)∨∃f j e o,x= .clos f [] [.lptr j e o]∧H j
theorem Top.clo{x:AV}(h:Closed x):Top H x:= .inl h
theorem Top.ptr{j o:Nat}(h:H j):Top H (.lptr j e o):= .inr (.inl ⟨j,e,o,rfl,h⟩)
theorem Top.sl{j m sz:Nat}{cap:Option Nat}(h:H j):Top H (.lsl j e m cap sz):= .inr (.inr (.inl ⟨j,e,m,cap,sz,rfl,h⟩))
theorem Top.cl{f j o:Nat}(h:H j):Top H (.clos f [] [.lptr j e o]):= .inr (.inr (.inr ⟨f,j,e,o,rfl,h⟩))
theorem rv{M M':Nat→Prop}{β β':Bq}{w':World}{x:AV}{y:Value}(hx:Top H x)(h:RV M β w x y)(hb:∀j,H j→∀p,β j=some p→β' j=some p)(h1:∀b N,aK w b=some N→¬M b→w'.heap[b]?=w.heap[b]?)(h2:∀b N,aK w b=some N→M' b→M b)(h3:∀b n,aK w b=some n→aK w' b=some n):RV M' β' w' x y:=by
 rcases hx with hx|⟨j,e,o,rfl,hj⟩|⟨j,e,m,cap,sz,rfl,hj⟩|⟨f,j,e,o,rfl,hj⟩
 exact Af hx h h1 h2 h3;obtain⟨b,s,q1,q2⟩:=h;exact⟨b,s,hb j hj _ q1,q2⟩;obtain⟨b,c,q1,q2,q3,q4,q5,N,q6,q7⟩:=h;exact⟨b,c,hb j hj _ q1,q2,q3,q4,q5,N,h3 b N q6,q7⟩;obtain⟨xs,ys,q1,q2,z,zs,q3,⟨b,s,q4,q5⟩,q6⟩:=h;exact⟨xs,ys,q1,q2,z,zs,q3,⟨b,s,hb j hj _ q4,q5⟩,q6⟩
theorem Ek{H:Nat→Prop}{M M':Nat→Prop}{β β':Bq}{w w':World}{b:Nat}(hb:∀j,H j→∀p,β j=some p→β' j=some p)(h1:∀b N,aK w b=some N→¬M b→w'.heap[b]?=w.heap[b]?)(h2:∀b N,aK w b=some N→M' b→M b)(h3:∀b n,aK w b=some n→aK w' b=some n)(hh:w'.heap[b]?=w.heap[b]?):∀{cs:La} {off:Nat},(∀c∈cs,Top H c)→RVcs M β w b cs off→RVcs M' β' w' b cs off
 |[],_,_,h=>h
 |c::cs,off,ht,⟨⟨x,q1,q2⟩,q3⟩=>⟨⟨x,by rw[cell?_congr hh];exact q1,rv (ht c (List.mem_cons_self ..)) q2 hb h1 h2 h3⟩,Ek hb h1 h2 h3 hh (fun d hd=>ht d (List.mem_cons_of_mem _ hd)) q3⟩
theorem vH{H:Nat→Prop}{M M':Nat→Prop}{β β':Bq}{w w':World}{b s:Nat}(hb:∀j,H j→∀p,β j=some p→β' j=some p)(h1:∀b N,aK w b=some N→¬M b→w'.heap[b]?=w.heap[b]?)(h2:∀b N,aK w b=some N→M' b→M b)(h3:∀b n,aK w b=some n→aK w' b=some n)(hh:w'.heap[b]?=w.heap[b]?):∀{es:Lc} {off:Nat},(∀e∈es,∀c∈e,Top H c)→RVess M β w b s es off→RVess M' β' w' b s es off
 |[],_,_,h=>h
 |e::es,off,ht,⟨q1,q2,q3⟩=>⟨q1,Ek hb h1 h2 h3 hh (ht e (List.mem_cons_self ..)) q2,vH hb h1 h2 h3 hh (fun d hd=>ht d (List.mem_cons_of_mem _ hd)) q3⟩
theorem Ej{H:Nat→Prop}{M M':Nat→Prop}{β β':Bq}{w w':World}(hb:∀j,H j→∀p,β j=some p→β' j=some p)(h1:∀b N,aK w b=some N→¬M b→w'.heap[b]?=w.heap[b]?)(h2:∀b N,aK w b=some N→M' b→M b)(h3:∀b n,aK w b=some n→aK w' b=some n):∀{cs:La} {ys:List Value},(∀c∈cs,Top H c)→RVs M β w cs ys→RVs M' β' w' cs ys
 |[],_,_,h=>h
 |c::cs,_,ht,⟨x,xs,q1,q2,q3⟩=>⟨x,xs,q1,rv (ht c (List.mem_cons_self ..)) q2 hb h1 h2 h3,Ej hb h1 h2 h3 (fun d hd=>ht d (List.mem_cons_of_mem _ hd)) q3⟩
theorem zT{ρ:Operand→Value}{o:Oper}{c:Call}{callee:Operand}{f:Nat}{args:List Value}{ys:Array Value}(ho:o.op= .call c)(h1:c.callee= .value callee)(hx:ρ callee= .func (.func f) #[] ys)(ha:c.args.toList.map ρ=args)(he:∀(xs:Array Value) (w:World),(callFunc f xs).run P w= .ok (.enter f xs) w):
    (execOp ρ o).run P w= .ok (.enter f (args++ys.toList).toArray) w:=by
 subst ha;simp only[execOp,ho];simp only[resolve,h1,hx,Deferred.ofValue,Sem.run_bind,Sem.run_pure,Result.andThen_ok,invoke];rw[Array.empty_append,he];have:(c.args.toList.map ρ++ys.toList).toArray=c.args.map ρ++ys:=by apply Array.ext';simp
 rw[this]
theorem AWp.regF {ρ:Option Nat} {Q:Exit→AState→Prop} {ops:Array Oper} {id n nx n1 nx2 k nxc g:Nat} {fr fr2 fr3:Fr} {hp hp2 hp3 hpc hpd:Hp} {v:AV} (jj:Nat) {o:Oper} (ho:ops.toList[jj]?=some o) {cc:Call} {f:Operand} {as cap:La} (hop:o.op= .call cc) (hg:o.guard=none) (hf:cc.callee= .value f) (hsz:ops.size=n1)
    (h:AR P ops nx n 0 (ops.toList.take jj) fr hp fun _ f1 h1=>SEntT ⟨f1,h1,nx+jj,n⟩ ⟨fr2,hp2,nx2,n⟩) (hdn:∀d,o.dst=some d→Nat.blt d n=true)
    (hev:evF (look fr2) f=some (.clos g [] cap)) (has:evs (evF (look fr2)) cc.args.toList=some as) (hX:XSpec P g ((as++cap).map coe) hpc k v hpd nxc) (hkn:k≤nx2) (hkc:nxc≤k)
    (hA:∀x∈as++cap,Top (fun j=>j< k∧(au hpc j).isSome=true) x) (hE:∀i,i< k→au hpc i=au hp2 i) (hc0:∀i,k≤i→au hpc i=none) (hCB:∀i B,au hpc i=some B→B.sz≠0∧∀e∈B.es,∀c∈e,Top (fun j=>j< k∧(au hpc j).isSome=true) c)
    (hS:∀i B,k≤i→au hp2 i=some B→B.sz≠0∧∀e∈B.es,∀c∈e,Top (fun j=>j=0∨k≤j) c)
    (hD:∀i,au hp3 i=if i< k then au hpd i else au hp2 i) (hd:∀i,k≤i→au hpd i=none) (h0:(au hpc 0).isSome=true) (h0':(au hpd 0).isSome=true)
    (h30:∀t x,look fr3 t=some x→look fr2 t=some x∧Top (fun j=>j=0∨k≤j) x)
    (h3:AR P ops nx2 n (jj+1) (ops.toList.drop (jj+1)) (xY fr3 o.dst v) hp3 fun _ f' h'=>Q .normal ⟨f',h',nx2+n1,n⟩):AWp ρ P (.region id ops false) Q ⟨fr,hp,nx,n⟩:=by
 have hjl:jj< ops.toList.length:=(List.getElem?_eq_some_iff.1 ho).1
 have hops:ops.toList=ops.toList.take jj++o::ops.toList.drop (jj+1):=by
  rw[←(List.getElem?_eq_some_iff.1 ho).2,←List.drop_eq_getElem_cons hjl,List.take_append_drop]
 rintro M w0 a w hr;refine wpIn_region_list ?_;rw[hops];obtain⟨us,st1,hrun,hent⟩:=h
 have hn1:=(eB (ops.toList.take jj) 0 _ st1 us [] (look fr) (au hp) hrun rfl (fun i o h=>by
  rw[List.getElem?_take] at h;split at h;simpa using h;cases h) rfl rfl).2.2.2
 simp only at hn1;refine jx (M0:=M) (w0:=w0) (ρ:=ρ) _ _ 0 ⟨fr,hp,nx,n⟩ st1 us a w hrun (FRel.free hr fun i hi=>by show nx≤i;simpa using hi) fun a1 w1 hr1=>?_;have hl:(ops.toList.take jj).length=jj:=by rw[List.length_take];omega
 rw[hl,Nat.zero_add,hn1] at hr1;obtain⟨β,mem,s1,s2,s3,⟨Ds,s4,s5,s6⟩,s7⟩:=hent M w0 a1 w1 hr1;refine wpListIn_step fun K hK=>?_;rw[if_pos (by simp[Region.wanted,hg])]
 have hC:∀i B,au hpc i=some B→i< k∧au hp2 i=some B:=fun i B hB=>by
  by_cases hi:i< k;exact⟨hi,by rw[←hE i hi];exact hB⟩;rw[hc0 i (by omega)] at hB;cases hB
 obtain⟨βc,hβ⟩:∃βc:Nat→Option (Nat×Nat),βc=fun i=>if i< k∧(au hpc i).isSome=true then β i else none:=⟨_,rfl⟩
 have bc1:∀i p,βc i=some p→i< k∧(au hpc i).isSome=true∧β i=some p:=fun i p hi=>by
  rw[hβ] at hi;simp only at hi;split at hi
  ·rename_i hh;exact⟨hh.1,hh.2,hi⟩
  cases hi
 have bc2:∀i,i< k∧(au hpc i).isSome=true→∀p,β i=some p→βc i=some p:=fun i hi p hp=>by
  rw[hβ];simp only;rw[if_pos hi];exact hp
 obtain⟨Mc,hMc⟩:∃Mc:Nat→Prop,Mc=fun b=>M b∨∃i B s,k≤i∧au hp2 i=some B∧β i=some (b,s):=⟨_,rfl⟩;have hjn:∀b,(∃i s,βc i=some (b,s))→¬w0.K b:=fun b ⟨i,s,hi⟩=>(mem.rng i b s (bc1 i _ hi).2.2).1;have hgt:¬(∃i s,βc i=some (GT,s)):=fun⟨i,s,hi⟩=>mem.gtn i s (bc1 i _ hi).2.2
 let wc:Base:=⟨w1,fun b=>b< w1.heap.size∧¬ ∃i s,βc i=some (b,s),fun _ h=>h.1,w0.pin,fun _=>undef,⟨mem.tab.lt,hgt⟩,mem.tab⟩
 have hsep:∀i B b s,k≤i→au hp2 i=some B→β i=some (b,s)→¬ ∃j s,βc j=some (b,s):=fun i B b s hi hB hb ⟨j,s',hj⟩=>by
  obtain⟨j1,j2,j3⟩:=bc1 j _ hj;obtain⟨B',hB'⟩:=Option.isSome_iff_exists.1 j2;have:=mem.inj i j B B' b s s' hB (hC j B' hB').2 hb j3;omega
 have hMM:∀b,MM Mc βc (au hpc) b↔MM M β (au hp2) b:=fun b=>by
  constructor;rintro(h|⟨i,B,s,e1,e2⟩);rw[hMc] at h;rcases h with h|⟨i,B,s,_,e1,e2⟩
  exact .inl h;exact .inr ⟨i,B,s,e1,e2⟩;exact .inr ⟨i,B,s,(hC i B e1).2,(bc1 i _ e2).2.2⟩;rintro(h|⟨i,B,s,e1,e2⟩);exact .inl (by rw[hMc];exact .inl h);by_cases hi:k≤i;exact .inl (by rw[hMc];exact .inr ⟨i,B,s,hi,e1,e2⟩);have e3:au hpc i=some B:=by rw[hE i (by omega)];exact e1
  exact .inr ⟨i,B,s,e3,bc2 i ⟨by omega,by rw[e3];rfl⟩ _ e2⟩
 have memc:Mem Mc wc βc (au hpc) wc.w:=by
  refine⟨⟨rfl,rfl,rfl,Nat.le_refl _,fun _ _=>rfl,fun _ _ h=>h⟩,fun b hb=>?_,fun i b s hi=>⟨fun hk=>hk.2 ⟨i,s,hi⟩,(mem.rng i b s (bc1 i _ hi).2.2).2⟩,fun hz=>?_,fun i B hi=>?_,fun i j B B' b s s' h1 h2 h3 h4=>?_⟩;rw[hMc] at hb;rcases hb with hb|⟨i,B,s,hi,e1,e2⟩
  exact⟨⟨mem.lt (.inl hb),fun he=>hjn b he (mem.m0 b hb).1⟩,(mem.m0 b hb).2⟩;exact⟨⟨(mem.rng i b s e2).2,hsep i B b s hi e1 e2⟩,fun e=>mem.gtn i s (e▸e2)⟩
  have h02:(au hp2 0).isSome=true:=by
   obtain⟨B,hB⟩:=Option.isSome_iff_exists.1 hz;rw[(hC 0 B hB).2];rfl
  have e:=mem.pin h02;show βc 0=w0.pin;rw[hβ];simp only;rw[if_pos ⟨by obtain⟨B,hB⟩:=Option.isSome_iff_exists.1 hz;exact(hC 0 B hB).1,hz⟩];exact e;obtain⟨q1,q2⟩:=hC i B hi;obtain⟨b,r1,r2⟩:=mem.blk i B q2;refine⟨b,bc2 i ⟨q1,by rw[hi];rfl⟩ _ r1,?_⟩;obtain⟨hz,ht⟩:=hCB i B hi;rcases r2 with⟨_,cs,r2,r3,r4⟩|⟨hz',_⟩
  exact .inl ⟨hz,cs,r2,vH (fun j hj p hp=>bc2 j hj p hp) (fun _ _ _ _=>rfl) (fun b _ _ hb=>(hMM b).1 hb) (fun _ _ h=>h) rfl ht r3,r4⟩;exact absurd hz' hz;exact mem.inj i j B B' b s s' (hC i B h1).2 (hC j B' h2).2 (bc1 i _ h3).2.2 (bc1 j _ h4).2.2
 obtain⟨xs,ys,hx,hx1,hx2⟩:=iR s2 f _ hev;have hxs:xs= #[]:=Array.ext' hx1;subst hxs;have hv:RVs (MM M β (au hp2)) β w1 (as++cap) (cc.args.toList.map a1.eval++ys.toList):=(iQ (iR s2) has).append hx2;have hv1:RVs (MM Mc βc (au hpc)) βc w1 (as++cap) (cc.args.toList.map a1.eval++ys.toList):=Ej (fun j hj p hp=>bc2 j hj p hp) (fun _ _ _ _=>rfl) (fun b _ _ hb=>(hMM b).1 hb) (fun _ _ h=>h) hA hv;have hv2:=iY hv1;refine⟨fun _ _=>trivial,?_⟩;rw[Oper.semAt_eq _ _ _ (by rw[hop];intro c e;cases e)];have hrunc:(execOp a1.eval o).run P w1= .ok (.enter g (cc.args.toList.map a1.eval++ys.toList).toArray) w1:=zT hop hf hx rfl hX.enters;rw[hrunc]
 refine⟨fun hh=>by simp[FR] at hh,xj ((hX.calls Mc wc βc _ rfl memc (fun i hi=>⟨?_,by
  have:0< k:=by
   obtain⟨B,hB⟩:=Option.isSome_iff_exists.1 h0;exact(hC 0 B hB).1
  omega⟩) hv2).mono ?_)⟩
 rw[hβ];simp only;rw[if_neg (fun hh=>by have:=hh.1;omega)];rintro e w' ⟨y,βd,rfl,mem',hy,hfree'⟩;have hold:∀b,b< w1.heap.size→(¬ ∃i s,βc i=some (b,s))→w'.heap[b]?=w1.heap[b]?:=fun b h1 h2=>mem'.below.block b ⟨h1,h2⟩
 have hlive:∀b,(∃i s,βc i=some (b,s))→MM M β (au hp2) b:=fun b ⟨i,s,hi⟩=>by
  obtain⟨j1,j2,j3⟩:=bc1 i _ hi;obtain⟨B,hB⟩:=Option.isSome_iff_exists.1 j2;exact .inr ⟨i,B,s,(hC i B hB).2,j3⟩
 obtain⟨βn,hβn⟩:∃βn:Nat→Option (Nat×Nat),βn=fun i=>if i< k then βd i else β i:=⟨_,rfl⟩
 have bn1:∀i,i< k→βn i=βd i:=fun i hi=>by rw[hβn];simp only;rw[if_pos hi]
 have bn2:∀i,k≤i→βn i=β i:=fun i hi=>by rw[hβn];simp only;rw[if_neg (by omega)]
 have k0:0< k:=by
  obtain⟨B,hB⟩:=Option.isSome_iff_exists.1 h0;exact(hC 0 B hB).1
 have hpin:βd 0=β 0:=by
  have e1:βd 0=w0.pin:=mem'.pin h0'
  have h02:(au hp2 0).isSome=true:=by
   obtain⟨B,hB⟩:=Option.isSome_iff_exists.1 h0;rw[(hC 0 B hB).2];rfl
  rw[e1,mem.pin h02]
 have hkeep:∀j,(j=0∨k≤j)→∀p,β j=some p→βn j=some p:=fun j hj p hp=>by
  rcases hj with rfl|hj
  rw[bn1 0 k0,hpin];exact hp;rw[bn2 j hj];exact hp
 have c1:∀b N,aK w1 b=some N→¬MM M β (au hp2) b→w'.heap[b]?=w1.heap[b]?:=fun b N hs hm=>hold b (bZ hs) fun he=>hm (hlive b he)
 have hMn:∀b,MM M βn (au hp3) b↔MM Mc βd (au hpd) b:=fun b=>by
  constructor;rintro(h|⟨i,B,s,e1,e2⟩);exact .inl (by rw[hMc];exact .inl h);rw[hD] at e1;by_cases hi:i< k;rw[if_pos hi] at e1;rw[bn1 i hi] at e2;exact .inr ⟨i,B,s,e1,e2⟩;rw[if_neg hi] at e1;rw[bn2 i (by omega)] at e2;exact .inl (by rw[hMc];exact .inr ⟨i,B,s,by omega,e1,e2⟩);rintro(h|⟨i,B,s,e1,e2⟩);rw[hMc] at h;rcases h with h|⟨i,B,s,hi,e1,e2⟩
  exact .inl h;exact .inr ⟨i,B,s,by rw[hD,if_neg (by omega)];exact e1,by rw[bn2 i hi];exact e2⟩
  have hi:i< k:=by
   by_cases hi:i< k;exact hi;rw[hd i (by omega)] at e1;cases e1
  exact .inr ⟨i,B,s,by rw[hD,if_pos hi];exact e1,by rw[bn1 i hi];exact e2⟩
 have c2:∀b N,aK w1 b=some N→MM M βn (au hp3) b→MM M β (au hp2) b:=fun b N hs hm=>by
  rcases(hMn b).1 hm with hm|⟨i,B,s,_,hi⟩
  exact(hMM b).1 (.inl hm);by_cases he:∃i s,βc i=some (b,s);exact hlive b he;exact absurd ⟨bZ hs,he⟩ (mem'.rng i b s hi).1
 have hDs:∀D∈Ds,w'.heap[D]?=some (.deferred (some []))∧¬w0.K D:=fun D hD=>by
  obtain⟨d1,d2⟩:=s6 D hD;refine⟨?_,d2⟩;rw[hold D (Array.getElem?_eq_some_iff.1 d1).1 fun⟨i,s,hi⟩=>?_];exact d1;obtain⟨j1,j2,j3⟩:=bc1 i _ hi;obtain⟨B,hB⟩:=Option.isSome_iff_exists.1 (s7 i _ j3);obtain⟨b,r1,r2⟩:=mem.blk i B hB;rw[j3] at r1;cases r1;obtain⟨N,hN⟩:=r2.size;simp[aK,d1] at hN
 have stn:StabC (MM Mc βd (au hpd)) (MM M βn (au hp3)) βd βn w' w':=⟨fun _ _ _ _=>rfl,fun b _ _ hb=>(hMn b).1 hb,(fun i p hi=>by
  by_cases hk:i< k;rw[bn1 i hk];exact hi;rw[(hfree' i (by omega)).1] at hi;cases hi),fun _ _ h=>h⟩
 have memn:Mem M w0 βn (au hp3) w':=by
  have hb:=mem'.below;refine⟨⟨hb.os.trans mem.below.os,hb.tape.trans mem.below.tape,hb.output.trans mem.below.output,Nat.le_trans mem.below.size hb.size,fun b hk=>?_,fun b n hs=>hb.sizes b n (mem.below.sizes b n hs)⟩,mem.m0,fun i b s hi=>?_,fun hz=>?_,fun i B hi=>?_,fun i j B B' b s s' h1 h2 h3 h4=>?_⟩;rw[hold b (Nat.lt_of_lt_of_le (w0.lt b hk) mem.below.size) fun he=>hjn b he hk];exact mem.below.block b hk;by_cases hk:i< k;rw[bn1 i hk] at hi;exact⟨fun hk=>(mem'.rng i b s hi).1 ⟨Nat.lt_of_lt_of_le (w0.lt b hk) mem.below.size,fun he=>hjn b he hk⟩,(mem'.rng i b s hi).2⟩;rw[bn2 i (by omega)] at hi;exact⟨(mem.rng i b s hi).1,Nat.lt_of_lt_of_le (mem.rng i b s hi).2 hb.size⟩;rw[bn1 0 k0];exact mem'.pin h0';rw[hD] at hi;by_cases hk:i< k;rw[if_pos hk] at hi;obtain⟨b,r1,r2⟩:=mem'.blk i B hi;exact⟨b,by rw[bn1 i hk];exact r1,r2.stab stn rfl⟩;rw[if_neg hk] at hi;obtain⟨b,r1,r2⟩:=mem.blk i B hi;refine⟨b,by rw[bn2 i (by omega)];exact r1,?_⟩;obtain⟨hz,ht⟩:=hS i B (by omega) hi;have hh:w'.heap[b]?=w1.heap[b]?:=hold b (mem.rng i b _ r1).2 (hsep i B b _ (by omega) hi r1);rcases r2 with⟨_,cs,r2,r3,r4⟩|⟨hz',_⟩
  exact .inl ⟨hz,cs,by rw[hh];exact r2,vH hkeep c1 c2 hb.sizes hh ht r3,r4⟩;exact absurd hz' hz;rw[hD] at h1 h2;have hmix:∀{i j:Nat} {B B':ABlk} {b s s':Nat},i< k→k≤j→au hpd i=some B→au hp2 j=some B'→βd i=some (b,s)→β j=some (b,s')→False:=fun{i j B B' b s s'} hi hj e1 e2 e3 e4=>(mem'.rng i b s e3).1 ⟨(mem.rng j b s' e4).2,hsep j B' b s' hj e2 e4⟩;by_cases hi:i< k;rw[if_pos hi] at h1;rw[bn1 i hi] at h3;by_cases hj:j< k;rw[if_pos hj] at h2;rw[bn1 j hj] at h4;exact mem'.inj i j B B' b s s' h1 h2 h3 h4;rw[if_neg hj] at h2;rw[bn2 j (by omega)] at h4;exact(hmix hi (by omega) h1 h2 h3 h4).elim;rw[if_neg hi] at h1;rw[bn2 i (by omega)] at h3;by_cases hj:j< k;rw[if_pos hj] at h2;rw[bn1 j hj] at h4;exact(hmix hj (by omega) h2 h1 h4 h3).elim;rw[if_neg hj] at h2;rw[bn2 j (by omega)] at h4;exact mem.inj i j B B' b s s' h1 h2 h3 h4
 refine hK _ w' ?_;obtain⟨us',st3,hrun3,hq⟩:=h3;have hn3:=(iu _ (jj+1) _ _ _ hrun3);simp only at hn3;have hfreen:∀i,nx2≤i→βn i=none∧i≠0:=fun i hi=>⟨by rw[bn2 i (by omega)];exact(s3 i hi).1,(s3 i hi).2⟩
 have hrel:ARel M w0 ⟨xY fr3 o.dst v,hp3,nx2,n⟩ (a1.put o.dst y) w':=by
  cases hdst:o.dst with
  |none=>
   refine⟨βn,memn,s1,fun t x hx=>?_,hfreen,⟨Ds,s4,s5,hDs⟩⟩;obtain⟨e1,e2⟩:=h30 t x hx;exact rv e2 (s2 t x e1) hkeep c1 c2 mem'.below.sizes
  |some d=>
   refine⟨βn,memn,by simp[Act.put,s1],fun t x hx=>?_,hfreen,⟨Ds,by rw[←s4];rfl,s5,hDs⟩⟩;rw[pe (by rw[s1];exact Nat.le_of_ble_eq_true (hdn d hdst))];have hx':look ((d,v)::fr3) t=some x:=hx;rw[cy] at hx';unfold upd at hx';split at hx'
   ·rename_i htd;rw[if_pos htd];cases hx';exact stn.all hy
   ·rename_i htd;rw[if_neg htd]
    obtain⟨e1,e2⟩:=h30 t x hx';exact rv e2 (s2 t x e1) hkeep c1 c2 mem'.below.sizes
 have happ:=jx (P:=P) (ops:=ops) (ρ:=ρ) (M0:=M) (w0:=w0) (nx:=nx2) (Q:=fun e a' w'=> ∃st',ARel M w0 st' a' w'∧Q e st') [] (ops.toList.drop (jj+1)) (jj+1) ⟨xY fr3 o.dst v,hp3,nx2,n⟩ st3 us' (a1.put o.dst y) w' hrun3 (hrel.free fun i hi=>by show nx2≤i;omega) fun a5 w5 hr5=>?_;rw[List.append_nil] at happ;exact happ;refine⟨⟨st3.fr,st3.hp,nx2+n1,n⟩,?_,hq⟩;rw[hn3] at hr5;refine hr5.free fun i (hi:nx2+n1≤i)=>?_;rw[List.length_drop,Array.length_toList];have:jj< ops.size:=by simpa using hjl
 omega
end
end Go.Abs
