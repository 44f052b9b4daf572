/- Part Z04 of the proof. -/
import Derived.Test.YtdjfjpeoddmamaaGreatDoorZ03
import Derived.IntWalk
set_option linter.all false
namespace Go.Abs
open Go.RowKit
section
variable {M0:Nat→Prop}{w0:Base}{w:World}{β:Nat→Option (Nat×Nat)}{hp:Nat→Option ABlk}
theorem Mem.shut(h:Mem M0 w0 β hp w){D:Nat}{o o':Obj}(hD:w.heap[D]?=some o)(hno:aP_ w D=none)(hd:¬w0.K D):
    Mem M0 w0 β hp (w.putObj D o')∧StabC (MM M0 β hp) (MM M0 β hp) β β w (w.putObj D o'):=by
 have hlt:D< w.heap.size:=by
  by_cases hlt:D< w.heap.size
  exact hlt
  rw[Array.getElem?_eq_none (by omega)] at hD;cases hD
 have hsize:(w.putObj D o').heap.size=w.heap.size:=by simp[World.putObj]
 have hkeep:∀b N,aP_ w b=some N→(w.putObj D o').heap[b]?=w.heap[b]?:=fun b N hb=>World.putObj_heap_other (fun e=>by subst e;rw[hno] at hb;cases hb)
 have st:StabC (MM M0 β hp) (MM M0 β hp) β β w (w.putObj D o'):=
  ⟨fun b N hb _=>hkeep b N hb,fun _ _ _ h=>h,fun _ _ h=>h,fun b N hb=>(cd_ (hkeep b N hb)).trans hb⟩
 refine⟨⟨⟨h.below.os,h.below.tape,h.below.output,by rw[hsize];exact h.below.size,fun k hk=>(World.putObj_heap_other (fun e=>hd (by subst e;exact hk))).trans (h.below.block k hk),fun b n hs=>st.sz b n (h.below.sizes b n hs)⟩,h.m0,fun i b s hi=>by rw[hsize];exact h.rng i b s hi,h.pin,fun i B hi=>?_,h.inj⟩,st⟩
 obtain⟨b,h1,h2⟩:=h.blk i B hi
 obtain⟨N,hs⟩:=h2.size
 exact⟨b,h1,h2.stab st (hkeep b N hs)⟩
end
def ARes1(P:Program)(st:AState):ResultVar→AV→Prop
 | .tmp t,r=>look st.fr t=some r
 | .cell a T,r=> ∃i e o B cs,look st.fr a=some (.lptr i e o)∧cellF (lookB st.hp) i=some B∧B.es[e]?=some cs∧
     ((em_ P T=some true∧∃n,szOf P T=some n∧o+n≤cs.length∧r= .agg ((cs.drop o).take n))∨(em_ P T=some false∧cs[o]?=some r))
def AResL(P:Program)(st:AState):List ResultVar→List AV→Prop
 |[],rs=>rs=[]
 |x::xs,rs=> ∃r rs',rs=r::rs'∧ARes1 P st x r∧AResL P st xs rs'
def oneOf:List AV→AV
 |[x]=>x
 |xs=> .tup xs
def ResOK(P:Program)(rs:List ResultVar)(st:AState)(r:AV):Prop:=∃as,AResL P st rs as∧Cv (Ren.id 0) (lookB st.hp) (fun _=>none) (oneOf as) r
def hz_(tmps:Array Value):ResultVar→Sem Value
 | .tmp t=>pure (tmps.getD t undef)
 | .cell a t=>do loadVar t (←asAddr (tmps.getD a undef))
section
variable {P:Program}{M0:Nat→Prop}{w0:Base}{w:World}{β:Nat→Option (Nat×Nat)}{st:AState}{tmps:Array Value}
theorem res1_run(mem:Mem M0 w0 β (lookB st.hp) w)(hf:∀t x,look st.fr t=some x→RV (MM M0 β (lookB st.hp)) β w x (tmps.getD t undef)):∀(v:ResultVar) (r:AV),ARes1 P st v r→∃y,(hz_ tmps v).run P w= .ok y w∧RV (MM M0 β (lookB st.hp)) β w r y
 | .tmp t,r,h=>⟨_,rfl,hf t r h⟩
 | .cell a T,r,⟨i,e,o,B,cs,h1,h2,h3,h4⟩=>by
  obtain⟨b,s,hb,hx⟩:=hf a _ h1
  obtain⟨b',cs',hb',_,hr,_⟩:=mem.cellsF h2
  rw[hb] at hb';cases hb'
  rcases h4 with⟨h4,n,h5,h6,rfl⟩|⟨h4,h5⟩
  have hg:=((hr.get h3).1.drop o).take n
  obtain⟨xs,hx1,hx2⟩:=hg.vals
  have hl:xs.length=n:=by rw[hx1.length];simp;omega
  refine⟨.agg xs.toArray,?_,_,rfl,hx1⟩
  simp[hz_,hx,asAddr,d1_ h4 h5 hl (fun j v hj=>by have:=hx2 j v hj;simpa using this)]
  obtain⟨y,hy1,hy2⟩:=(hr.get h3).1.get h5
  refine⟨y,?_,hy2⟩
  simp[hz_,hx,asAddr,d0_ h4 (by simpa using hy1)]
theorem oy_(mem:Mem M0 w0 β (lookB st.hp) w)(hf:∀t x,look st.fr t=some x→RV (MM M0 β (lookB st.hp)) β w x (tmps.getD t undef)):∀(vs:List ResultVar) (rs:List AV),AResL P st vs rs→∃ys,(vs.mapM (hz_ tmps)).run P w= .ok ys w∧RVs (MM M0 β (lookB st.hp)) β w rs ys
 |[],rs,h=>⟨[],rfl,by cases (h:rs=[]);rfl⟩
 |v::vs,rs,⟨r,rs',e,h1,h2⟩=>by
  subst e
  obtain⟨y,hy1,hy2⟩:=res1_run mem hf v r h1
  obtain⟨ys,hz1,hz2⟩:=oy_ mem hf vs rs' h2
  refine⟨y::ys,?_,y,ys,rfl,hy2,hz2⟩
  simp only[List.mapM_cons,Sem.run_bind,hy1,Result.andThen_ok,hz1,Sem.run_pure]
theorem res_run{fn:Func}{r:AV}(mem:Mem M0 w0 β (lookB st.hp) w)(hf:∀t x,look st.fr t=some x→RV (MM M0 β (lookB st.hp)) β w x (tmps.getD t undef))(h:ResOK P fn.results.toList st r):
    ∃y,(results fn tmps).run P w= .ok y w∧RV M0 (fun _=>none) w r y:=by
 obtain⟨as,h1,h2⟩:=h
 obtain⟨ys,h3,h4⟩:=oy_ mem hf _ _ h1
 have hm:(fn.results.mapM (hz_ tmps)).run P w= .ok ys.toArray w:=by
  rw[Array.mapM_eq_mapM_toList,Sem.run_map,h3];rfl
 have hy:RV (MM M0 β (lookB st.hp)) β w (oneOf as) (if h:ys.toArray.size=1 then ys.toArray[0] else .tuple ys.toArray):=by
  cases as with
  |nil=>cases (h4:ys=[]);exact⟨_,rfl,rfl⟩
  |cons a as=>
   obtain⟨y,ys',rfl,r1,r2⟩:=h4
   cases as with
   |nil=>cases (r2:ys'=[]);exact r1
   |cons b bs=>
    obtain⟨z,zs,rfl,r3,r4⟩:=r2
    exact⟨_,rfl,y,_,rfl,r1,z,zs,rfl,r3,r4⟩
 refine⟨(if h:ys.toArray.size=1 then ys.toArray[0] else Value.tuple ys.toArray),?_,?_⟩
 have he:results fn tmps=(do let vs←fn.results.mapM (hz_ tmps);pure (if h:vs.size=1 then vs[0] else .tuple vs)):=rfl
 rw[he,Sem.run_bind,hm]
 rfl
 have:=h2 M0 w0 β w _ mem hy
 have e:MM M0 ((Ren.id 0).app (fun _=>none) β) (fun _=>none)=M0:=by
  funext b
  simp[MM]
 rw[e,Ren.app_zero] at this
 exact this
end
def argFr:Nat→List AV→List (Nat×AV)
 |_,[]=>[]
 |i,a::as=>(i,a)::argFr (i+1) as
theorem dV_{M:Nat→Prop}{w:World}:∀{as:List AV} {vs:List Value} {i t:Nat} {x:AV},RVs M (fun _=>none) w as vs→look (argFr i as) t=some x→i≤t∧∃y,vs[t- i]?=some y∧RV M (fun _=>none) w x y
 |[],_,_,_,_,_,h=>by cases h
 |a::as,vs,i,t,x,⟨y,ys,e,h1,h2⟩,h=>by
  subst e
  simp only[argFr] at h
  rw[cg_] at h
  unfold upd at h
  split at h
  ·rename_i e;subst e;cases h;exact⟨Nat.le_refl _,y,by simp,h1⟩
  obtain⟨h3,z,h4,h5⟩:=dV_ h2 h
  exact⟨by omega,z,by rw[show t- i=(t- (i+1))+1 by omega,List.getElem?_cons_succ];exact h4,h5⟩
theorem hf_ {P:Program} {fn:Func} {tmps:Array Value} {R:Ending→World→Prop} {M0:Nat→Prop} {w0:Base} {β:Nat→Option (Nat×Nat)} {st:AState} {r:AV}
    (hres:ResOK P fn.results.toList st r) (hR:∀y w',RV M0 (fun _=>none) w' r y→Mem M0 w0 β (lookB st.hp) w'→(∀t x,look st.fr t=some x→RV (MM M0 β (lookB st.hp)) β w' x (tmps.getD t undef))→(results fn tmps).run P w'= .ok y w'→R (.returned y) w'):
    ∀(Ds:List Nat) (w:World),Ds.Nodup→(∀D∈Ds,w.heap[D]?=some (.deferred (some []))∧¬w0.K D)→Mem M0 w0 β (lookB st.hp) w→(∀t x,look st.fr t=some x→RV (MM M0 β (lookB st.hp)) β w x (tmps.getD t undef))→
     LeavesInM (FR none) 0 P fn tmps R (Ds.map rh_) .returning w
 |[],w,_,_,mem,hf=>by
  obtain⟨y,h1,h2⟩:=res_run mem hf hres
  exact⟨y,h1,hR y w h2 mem hf h1⟩
 |D::Ds,w,nd,hD,mem,hf=>by
  obtain⟨h1,h2⟩:=hD D (List.mem_cons_self ..)
  rw[List.nodup_cons] at nd
  have hsh:=mem.shut (o':= .deferred none) h1 (by simp[aP_,h1]) h2
  refine⟨by simp,.inl ⟨D,w.putObj D (.deferred none),rfl,run_takeDeferred h1,?_⟩⟩
  refine hf_ hres hR Ds _ nd.2 (fun E hE=>?_) hsh.1 fun t x hx=>hsh.2.all (hf t x hx)
  obtain⟨h3,h4⟩:=hD E (List.mem_cons_of_mem _ hE)
  exact⟨by rw[World.putObj_heap_other (fun e=>by subst e;exact nd.1 hE)];exact h3,h4⟩
def Base.of(w:World)(h:TabW w):Base:=⟨w,fun b=>b< w.heap.size,fun _ h=>h,none,fun _=>undef,h.lt,h⟩
theorem FSpec.intro {P:Program} {f:Nat} {fn:Func} {c:Code} {args:List AV} {r:AV} (hf:P.funcs[f]?=some fn) (hb:fn.body=some c) (hname:(fn.name== "runtime.NumGoroutine")=false) (hcl:∀a∈args,Closed a) (hn:args.length≤fn.ntmps)
    (h:AWp none P c (fun e st=>(e= .normal∨e= .ret)∧ResOK P fn.results.toList st r) ⟨argFr 0 args,[],1,fn.ntmps⟩):FSpec P f args r:=by
 refine⟨hcl,fun xs w=>?_,fun M w vals hM hargs=>?_⟩
 have hname':¬fn.name= "runtime.NumGoroutine" :=by simpa using hname
 simp[callFunc,hf,hname',hb]
 refine(callsIn_wide (n:=0)).1 ?_
 refine callsIn_of_wp_marks (F:=Fence.wide) hf hb trivial ?_
 have hlen:=hargs.length
 have hrel:ARel M (Base.of w hM.tab) ⟨argFr 0 args,[],1,fn.ntmps⟩ {tmps:=vals.toArray++Array.replicate (fn.ntmps- vals.toArray.size) undef,defers:=[]} w:=by
  refine⟨fun _=>none,⟨⟨rfl,rfl,rfl,Nat.le_refl _,fun _ _=>rfl,fun _ _ h=>h⟩,(fun b hb=>⟨hM.lt b hb,fun e=>hM.nt (e▸hb)⟩),(fun _ _ _ h=>by cases h),(fun _=>rfl),(fun _ _ h=>by cases h),(fun _ _ _ _ _ _ _ h=>by cases h)⟩,by simp;omega,fun t x hx=>?_,fun i (hi:1≤i)=>⟨rfl,by omega⟩,⟨[],rfl,List.nodup_nil,by simp⟩⟩
  have hmm:MM M (fun _=>none) (lookB [])=M:=by funext b;simp[MM,lookB,look]
  show RV (MM M (fun _=>none) (lookB [])) _ _ _ _
  rw[hmm,cy_ rfl]
  obtain⟨_,y,h1,h2⟩:=dV_ hargs hx
  have hy:(vals.toArray++Array.replicate (fn.ntmps- vals.toArray.size) undef).getD t undef=y:=by
   have hlt:t< vals.length:=by simpa using(List.getElem?_eq_some_iff.1 h1).1
   rw[Array.getD_eq_getD_getElem?,Array.getElem?_append_left (by simpa using hlt)]
   simp at h1⊢
   rw[h1];rfl
  rw[hy];exact h2
 refine wpIn_mono (h M (Base.of w hM.tab) _ w hrel) fun e a' w' ⟨st',⟨β,mem,hsz,hfr,hfree,Ds,hds,hnd,hD⟩,he,hres⟩=>?_
 have hL:LeavesInM (FR none) 0 P fn a'.tmps (fun e w'=> ∃y,e= .returned y∧RV M (fun _=>none) w' r y∧Below w.heap.size w w') a'.defers .returning w':=by
  rw[hds]
  exact hf_ hres (fun y w'' h1 h2 _ _=>⟨y,rfl,h1,⟨h2.below.os,h2.below.tape,h2.below.output,h2.below.size,h2.below.block⟩⟩) Ds w' hnd hD mem (fun t x hx=>by have:=hfr t x hx;rwa[cy_ rfl] at this)
 rcases he with rfl|rfl
 exact hL
 exact hL
theorem ESpec.intro {P:Program} {f:Nat} {fn:Func} {c:Code} {ty sz:Nat} {E E':List (List AV)} {e n:Nat} {cap:Option Nat} {args:List AV} {r:Value} (hf:P.funcs[f]?=some fn) (hb:fn.body=some c) (hname:(fn.name== "runtime.NumGoroutine")=false)
    (hcl:∀a∈args,Closed a) (hclE:∀x∈E,∀c∈x,Closed c) (hclE':∀x∈E',∀c∈x,Closed c) (hn:args.length+1≤fn.ntmps)
    (h:AWp none P c (fun x st=>(x= .normal∨x= .ret)∧ResOK P fn.results.toList st (.v r)∧lookB st.hp 0=some ⟨ty,sz,E'⟩) ⟨(0,.lsl 0 e n cap sz)::argFr 1 args,[(0,some ⟨ty,sz,E⟩)],1,fn.ntmps⟩) (hz:Nat.blt 0 sz=true:=by rfl):ESpec P f ty sz E E' e n cap args r:=by
 refine⟨f6_ hz,hcl,hclE,fun xs w=>?_,fun M w b y0 vals hM hMb hold hy0 hargs=>?_⟩
 have hname':¬fn.name= "runtime.NumGoroutine" :=by simpa using hname
 simp[callFunc,hf,hname',hb]
 refine(callsIn_wide (n:=0)).1 ?_
 refine callsIn_of_wp_marks (F:=Fence.wide) hf hb trivial ?_
 have hlen:=hargs.length
 obtain⟨cs,hh,hr,hl⟩:=hold
 let bs:Base:=⟨w,fun x=>x< w.heap.size∧x≠b,fun _ h=>h.1,some (b,sz),fun _=>undef,⟨hM.tab.lt,fun e=>hM.nt (e▸hMb)⟩,hM.tab⟩
 let β0:Nat→Option (Nat×Nat):=fun i=>if i=0 then some (b,sz) else none
 have hlb:∀i,lookB [(0,some (⟨ty,sz,E⟩:ABlk))] i=if i=0 then some ⟨ty,sz,E⟩ else none:=fun i=>by
  rw[c3_];unfold upd;split <;> rfl
 have hmm:∀x,MM (fun x=>M x∧x≠b) β0 (lookB [(0,some (⟨ty,sz,E⟩:ABlk))]) x↔M x:=by
  intro x
  constructor
  rintro(hx|⟨i,B,s,h1,h2⟩)
  exact hx.1
  simp only[β0] at h2
  split at h2
  cases h2;exact hMb
  cases h2
  intro hx
  by_cases hxb:x=b
  exact .inr ⟨0,⟨ty,sz,E⟩,sz,by rw[hlb];rfl,by subst hxb;rfl⟩
  exact .inl ⟨hx,hxb⟩
 have hmm':MM (fun x=>M x∧x≠b) β0 (lookB [(0,some (⟨ty,sz,E⟩:ABlk))])=M:=funext fun x=>propext (hmm x)
 have up:StabC M M (fun _=>none) β0 w w:=⟨fun _ _ _ _=>rfl,fun _ _ _ h=>h,(fun _ _ h=>by cases h),fun _ _ h=>h⟩
 have hmem:Mem (fun x=>M x∧x≠b) bs β0 (lookB [(0,some (⟨ty,sz,E⟩:ABlk))]) w:=by
  refine⟨⟨rfl,rfl,rfl,Nat.le_refl _,fun _ _=>rfl,fun _ _ h=>h⟩,fun x hx=>⟨⟨hM.lt x hx.1,hx.2⟩,fun e=>hM.nt (e▸hx.1)⟩,fun i x s hi=>?_,(fun _=>rfl),fun i B hi=>?_,fun i j B B' x s s' hi hj _ _=>?_⟩
  simp only[β0] at hi
  split at hi
  cases hi;exact⟨fun hk=>hk.2 rfl,hM.lt _ hMb⟩
  cases hi
  rw[hlb] at hi
  split at hi
  ·rename_i h0
   subst h0
   cases hi
   refine⟨b,rfl,.inl ⟨f6_ hz,cs,hh,?_,hl⟩⟩
   rw[hmm'];exact up.ess rfl hr
  cases hi
  rw[hlb] at hi hj
  by_cases h1:i=0
  by_cases h2:j=0
  rw[h1,h2]
  rw[if_neg h2] at hj;cases hj
  rw[if_neg h1] at hi;cases hi
 have hrel:ARel (fun x=>M x∧x≠b) bs ⟨(0,.lsl 0 e n cap sz)::argFr 1 args,[(0,some ⟨ty,sz,E⟩)],1,fn.ntmps⟩ {tmps:=(y0::vals).toArray++Array.replicate (fn.ntmps- (y0::vals).toArray.size) undef,defers:=[]} w:=by
  refine⟨β0,hmem,by simp;omega,fun t x hx=>?_,fun i (hi:1≤i)=>⟨by simp only[β0];rw[if_neg (by omega)],by omega⟩,⟨[],rfl,List.nodup_nil,by simp⟩⟩
  show RV (MM _ β0 (lookB [(0,some (⟨ty,sz,E⟩:ABlk))])) _ _ _ _
  rw[hmm',cy_ rfl]
  rw[show(look ((0,.lsl 0 e n cap sz)::argFr 1 args) t=some x)↔(upd (look (argFr 1 args)) 0 (some (.lsl 0 e n cap sz)) t=some x) by rw[cg_]] at hx
  have get:∀(k:Nat) (y:Value),(y0::vals)[k]?=some y→((y0::vals).toArray++Array.replicate (fn.ntmps- (y0::vals).toArray.size) undef).getD k undef=y:=by
   intro k y hk
   have hlt:k< (y0::vals).length:=(List.getElem?_eq_some_iff.1 hk).1
   rw[Array.getD_eq_getD_getElem?,Array.getElem?_append_left (by simpa using hlt)]
   simp only[List.getElem?_toArray]
   rw[hk];rfl
  unfold upd at hx
  split at hx
  ·rename_i h0;subst h0;cases hx
   rw[get 0 y0 rfl]
   exact hy0
  obtain⟨h1,y,h2,h3⟩:=dV_ hargs hx
  rw[get t y (by rw[show t=(t- 1)+1 by omega,List.getElem?_cons_succ];exact h2)]
  exact up.all h3
 refine wpIn_mono (h _ bs _ w hrel) fun x a' w' ⟨st',⟨β,mem,hsz,hfr,hfree,Ds,hds,hnd,hD⟩,he,hres,h0⟩=>?_
 have hL:LeavesInM (FR none) 0 P fn a'.tmps (fun x w'=>x= .returned r∧Holds M w' b ty sz E'∧But b w w') a'.defers .returning w':=by
  rw[hds]
  refine hf_ hres (fun y w'' h1 h2 _ _=>?_) Ds w' hnd hD mem (fun t x hx=>by have:=hfr t x hx;rwa[cy_ rfl] at this)
  cases (h1:y=r)
  have hb0:β 0=some (b,sz):=h2.pin (by rw[h0];rfl)
  obtain⟨b',cs',e1,e2,e3,e4⟩:=h2.cells h0 (f6_ hz)
  rw[hb0] at e1;cases e1
  refine⟨rfl,⟨cs',e2,?_,e4⟩,⟨h2.below.os,h2.below.tape,h2.below.output,h2.below.size,fun x hx hxb=>h2.below.block x ⟨hx,hxb⟩,h2.below.sizes⟩⟩
  refine StabC.ess (w:=w'') (w':=w'') (M:=MM (fun x=>M x∧x≠b) β (lookB st'.hp)) (β:=fun _=>none) ⟨fun _ _ _ _=>rfl,fun x _ _ hx=>?_,(fun _ _ h=>by cases h),fun _ _ h=>h⟩ rfl (eh_ hclE' e3)
  by_cases hxb:x=b
  subst hxb;exact .inr ⟨0,_,_,h0,hb0⟩
  exact .inl ⟨hx,hxb⟩
 rcases he with rfl|rfl
 exact hL
 exact hL
theorem OSpec.intro {P:Program} {f:Nat} {fn:Func} {c:Code} {ty sz t:Nat} {args:List AV} {es:List (List AV)} (hf:P.funcs[f]?=some fn) (hb:fn.body=some c) (hname:(fn.name== "runtime.NumGoroutine")=false) (hrs:fn.results.toList=[.tmp t]) (hcl:∀a∈args,Closed a) (hce:∀x∈es,∀c∈x,Closed c) (hn:args.length≤fn.ntmps)
    (h:AWp none P c (fun x st=>(x= .normal∨x= .ret)∧∃i cap,look st.fr t=some (.lsl i 0 es.length cap sz)∧lookB st.hp i=some ⟨ty,sz,es⟩) ⟨argFr 0 args,[],1,fn.ntmps⟩) (hz:Nat.blt 0 sz=true:=by rfl):OSpec P f args ty sz es:=by
 refine⟨f6_ hz,hcl,fun xs w=>?_,fun M w vals hM hargs=>?_⟩
 have hname':¬fn.name= "runtime.NumGoroutine" :=by simpa using hname
 simp[callFunc,hf,hname',hb]
 refine(callsIn_wide (n:=0)).1 ?_
 refine callsIn_of_wp_marks (F:=Fence.wide) hf hb trivial ?_
 have hlen:=hargs.length
 have hrel:ARel M (Base.of w hM.tab) ⟨argFr 0 args,[],1,fn.ntmps⟩ {tmps:=vals.toArray++Array.replicate (fn.ntmps- vals.toArray.size) undef,defers:=[]} w:=by
  refine⟨fun _=>none,⟨⟨rfl,rfl,rfl,Nat.le_refl _,fun _ _=>rfl,fun _ _ h=>h⟩,(fun b hb=>⟨hM.lt b hb,fun e=>hM.nt (e▸hb)⟩),(fun _ _ _ h=>by cases h),(fun _=>rfl),(fun _ _ h=>by cases h),(fun _ _ _ _ _ _ _ h=>by cases h)⟩,by simp;omega,fun t x hx=>?_,fun i (hi:1≤i)=>⟨rfl,by omega⟩,⟨[],rfl,List.nodup_nil,by simp⟩⟩
  have hmm:MM M (fun _=>none) (lookB [])=M:=by funext b;simp[MM,lookB,look]
  show RV (MM M (fun _=>none) (lookB [])) _ _ _ _
  rw[hmm,cy_ rfl]
  obtain⟨_,y,h1,h2⟩:=dV_ hargs hx
  have hy:(vals.toArray++Array.replicate (fn.ntmps- vals.toArray.size) undef).getD t undef=y:=by
   have hlt:t< vals.length:=by simpa using(List.getElem?_eq_some_iff.1 h1).1
   rw[Array.getD_eq_getD_getElem?,Array.getElem?_append_left (by simpa using hlt)]
   simp at h1⊢
   rw[h1];rfl
  rw[hy];exact h2
 refine wpIn_mono (h M (Base.of w hM.tab) _ w hrel) fun x a' w' ⟨st',⟨β,mem,hsz,hfr,hfree,Ds,hds,hnd,hD⟩,he,i,cap,hlk,hbk⟩=>?_
 have hres:ResOK P fn.results.toList st' .any:=by
  rw[hrs]
  exact⟨[_],⟨_,[],rfl,hlk,rfl⟩,fun _ _ _ _ _ _ _=>trivial⟩
 have hL:LeavesInM (FR none) 0 P fn a'.tmps (fun x w'=> ∃b c,x= .returned (.slice (some ⟨b,0,none⟩) es.length c)∧w.heap.size≤b∧b< w'.heap.size∧es.length≤c∧c≤maxLen∧(∃cs,w'.heap[b]?=some (.cells cs ty (0,0))∧RVess (fun x=>M x∨x=b) (fun _=>none) w' b sz es 0∧c* sz≤cs.size)∧Below w.heap.size w w') a'.defers .returning w':=by
  rw[hds]
  refine hf_ hres (fun y w'' _ h2 h3 h4=>?_) Ds w' hnd hD mem (fun t x hx=>by have:=hfr t x hx;rwa[cy_ rfl] at this)
  obtain⟨b,c,e1,e2,e3,e4,e5,N,e6,e7⟩:=h3 t _ hlk
  obtain⟨b',cs,f1,f2,f3,f4⟩:=h2.cells hbk (f6_ hz)
  rw[e1] at f1;cases f1
  have hr:=h2.rng i b _ e1
  have hy:y= .slice (some ⟨b,0,none⟩) es.length c:=by
   have hm:(fn.results.mapM (hz_ a'.tmps)).run P w''= .ok #[a'.tmps.getD t undef] w'':=by
    rw[Array.mapM_eq_mapM_toList,hrs];rfl
   have he:results fn a'.tmps=(do let vs←fn.results.mapM (hz_ a'.tmps);pure (if h:vs.size=1 then vs[0] else .tuple vs)):=rfl
   rw[he,Sem.run_bind,hm] at h4
   have h5:(Result.ok (a'.tmps.getD t undef) w'':Result Value)= .ok y w'':=h4
   cases h5
   rw[e2];simp
  refine⟨b,c,by rw[hy],Nat.le_of_not_lt hr.1,hr.2,e3,e4,⟨cs,f2,?_,?_⟩,⟨h2.below.os,h2.below.tape,h2.below.output,h2.below.size,h2.below.block⟩⟩
  refine StabC.ess (w:=w'') (w':=w'') (M:=MM M β (lookB st'.hp)) (β:=fun _=>none) ⟨fun _ _ _ _=>rfl,fun x _ _ hx=>?_,(fun _ _ h=>by cases h),fun _ _ h=>h⟩ rfl (eh_ hce f3)
  rcases hx with hx|rfl
  exact .inl hx
  exact .inr ⟨i,_,_,hbk,e1⟩
  simp[aP_,f2] at e6
  rw[e6];simpa using e7
 rcases he with rfl|rfl
 exact hL
 exact hL
def bp_:Op→Bool
 | .defer _=>false
 |_=>true
theorem a9_{op:Op}(h:bp_ op=true):∀c,op≠ .defer c:=by
 intro c e;subst e;cases h
section
variable {P:Program}{ops:Array Oper}{nx j:Nat}{rest:List Oper}{K:List (List Nat×List Nat)→AState→Prop}
variable {fr:List (Nat×AV)}{hp:List (Nat×Option ABlk)}{nx' n d:Nat}{op:Op}{ty:Nat}{pos:String}{after:Array Edge}{a:AV}{p:Nat×Option ABlk}{rd:List Nat}
theorem AReg.op0 (hs:AEval P (nx+j) (evF (look fr)) (lookB hp) op ⟨a,[]⟩ rd) (hnd:bp_ op=true) (hd:Nat.blt d n=true)
    (h:AReg P ops nx (j+1) rest ⟨(d,a)::fr,hp,nx',n⟩ fun fps s=>K (([],rd)::fps) s):AReg P ops nx j (⟨some d,op,ty,pos,after,none⟩::rest) ⟨fr,hp,nx',n⟩ K:=
 AReg.cons ⟨a9_ hnd,hs⟩ hd h
theorem AReg.op1 (hs:AEval P (nx+j) (evF (look fr)) (lookB hp) op ⟨a,[p]⟩ rd) (hnd:bp_ op=true) (hd:Nat.blt d n=true)
    (h:AReg P ops nx (j+1) rest ⟨(d,a)::fr,p::hp,nx',n⟩ fun fps s=>K (([p.1],rd)::fps) s):AReg P ops nx j (⟨some d,op,ty,pos,after,none⟩::rest) ⟨fr,hp,nx',n⟩ K:=
 AReg.cons ⟨a9_ hnd,hs⟩ hd h
theorem AReg.op2 {q:Nat×Option ABlk} (hs:AEval P (nx+j) (evF (look fr)) (lookB hp) op ⟨a,[p,q]⟩ rd) (hnd:bp_ op=true) (hd:Nat.blt d n=true)
    (h:AReg P ops nx (j+1) rest ⟨(d,a)::fr,q::p::hp,nx',n⟩ fun fps s=>K (([p.1,q.1],rd)::fps) s):AReg P ops nx j (⟨some d,op,ty,pos,after,none⟩::rest) ⟨fr,hp,nx',n⟩ K:=
 AReg.cons ⟨a9_ hnd,hs⟩ hd h
theorem AReg.op1n (hs:AEval P (nx+j) (evF (look fr)) (lookB hp) op ⟨a,[p]⟩ rd) (hnd:bp_ op=true)
    (h:AReg P ops nx (j+1) rest ⟨fr,p::hp,nx',n⟩ fun fps s=>K (([p.1],rd)::fps) s):AReg P ops nx j (⟨none,op,ty,pos,after,none⟩::rest) ⟨fr,hp,nx',n⟩ K:=
 AReg.cons ⟨a9_ hnd,hs⟩ rfl h
theorem AReg.op0n (hs:AEval P (nx+j) (evF (look fr)) (lookB hp) op ⟨a,[]⟩ rd) (hnd:bp_ op=true)
    (h:AReg P ops nx (j+1) rest ⟨fr,hp,nx',n⟩ fun fps s=>K (([],rd)::fps) s):AReg P ops nx j (⟨none,op,ty,pos,after,none⟩::rest) ⟨fr,hp,nx',n⟩ K:=
 AReg.cons ⟨a9_ hnd,hs⟩ rfl h
variable {g t:Nat}{want:Bool}{x:Value}
theorem AReg.op0y (ht:(ops[g]?).bind (·.dst)=some t) (hx:evF (look fr) (.tmp t)=some (.v x)) (hb:cV_ x=some want) (hs:AEval P (nx+j) (evF (look fr)) (lookB hp) op ⟨a,[]⟩ rd) (hnd:bp_ op=true) (hd:Nat.blt d n=true)
    (h:AReg P ops nx (j+1) rest ⟨(d,a)::fr,hp,nx',n⟩ fun fps s=>K (([],rd)::fps) s):AReg P ops nx j (⟨some d,op,ty,pos,after,some (g,want)⟩::rest) ⟨fr,hp,nx',n⟩ K:=
 AReg.cons ⟨a9_ hnd,t,x,ht,hx,.inl ⟨hb,hs⟩⟩ hd h
theorem AReg.op1y (ht:(ops[g]?).bind (·.dst)=some t) (hx:evF (look fr) (.tmp t)=some (.v x)) (hb:cV_ x=some want) (hs:AEval P (nx+j) (evF (look fr)) (lookB hp) op ⟨a,[p]⟩ rd) (hnd:bp_ op=true) (hd:Nat.blt d n=true)
    (h:AReg P ops nx (j+1) rest ⟨(d,a)::fr,p::hp,nx',n⟩ fun fps s=>K (([p.1],rd)::fps) s):AReg P ops nx j (⟨some d,op,ty,pos,after,some (g,want)⟩::rest) ⟨fr,hp,nx',n⟩ K:=
 AReg.cons ⟨a9_ hnd,t,x,ht,hx,.inl ⟨hb,hs⟩⟩ hd h
theorem AReg.opN (ht:(ops[g]?).bind (·.dst)=some t) (hx:evF (look fr) (.tmp t)=some (.v x)) (hb:cV_ x≠some want) (hnd:bp_ op=true) (hd:Nat.blt d n=true)
    (h:AReg P ops nx (j+1) rest ⟨(d,.v undef)::fr,hp,nx',n⟩ fun fps s=>K (([],[])::fps) s):AReg P ops nx j (⟨some d,op,ty,pos,after,some (g,want)⟩::rest) ⟨fr,hp,nx',n⟩ K:=
 AReg.cons (u:=⟨.v undef,[]⟩) ⟨a9_ hnd,t,x,ht,hx,.inr ⟨hb,rfl,rfl⟩⟩ hd h
end
section
variable {P:Program}{T:Nat}{x y:Operand}{k:IntKind}{a b:Int}
theorem h8_:∀w,(do eqGuard .add T x y (.int k a) (.int k b);binOp .add T (.int k a) (.int k b):Sem Value).run P w= .ok (.int k (k.wrap (a+b))) w:=fun w=>by
 simp[eqGuard,binOp,Op.intArith]
theorem h6_:∀w,(do eqGuard .sub T x y (.int k a) (.int k b);binOp .sub T (.int k a) (.int k b):Sem Value).run P w= .ok (.int k (k.wrap (a- b))) w:=fun w=>by
 simp[eqGuard,binOp,Op.intArith]
theorem pJ_:∀w,(do eqGuard .mul T x y (.int k a) (.int k b);binOp .mul T (.int k a) (.int k b):Sem Value).run P w= .ok (.int k (k.wrap (a* b))) w:=fun w=>by
 simp[eqGuard,binOp,Op.intArith]
theorem h7_(hb:b≠0):∀w,(do eqGuard .quo T x y (.int k a) (.int k b);binOp .quo T (.int k a) (.int k b):Sem Value).run P w= .ok (.int k (k.wrap (a.tdiv b))) w:=fun w=>by
 simp[eqGuard,binOp,Op.intDiv,hb]
theorem g2_(hb:b≠0):∀w,(do eqGuard .rem T x y (.int k a) (.int k b);binOp .rem T (.int k a) (.int k b):Sem Value).run P w= .ok (.int k (a.tmod b)) w:=fun w=>by
 simp[eqGuard,binOp,Op.intDiv,hb]
theorem bq_:∀w,(do eqGuard .eql T x y (.int k a) (.int k b);binOp .eql T (.int k a) (.int k b):Sem Value).run P w= .ok (.bool (a==b)) w:=fun w=>by
 simp[eqGuard,binOp,Op.intCmp]
theorem bu_:∀w,(do eqGuard .neq T x y (.int k a) (.int k b);binOp .neq T (.int k a) (.int k b):Sem Value).run P w= .ok (.bool (a !=b)) w:=fun w=>by
 simp[eqGuard,binOp,Op.intCmp]
theorem dx_:∀w,(do eqGuard .lss T x y (.int k a) (.int k b);binOp .lss T (.int k a) (.int k b):Sem Value).run P w= .ok (.bool (decide (a< b))) w:=fun w=>by
 simp[eqGuard,binOp,Op.intCmp]
theorem dy_:∀w,(do eqGuard .leq T x y (.int k a) (.int k b);binOp .leq T (.int k a) (.int k b):Sem Value).run P w= .ok (.bool (decide (a≤b))) w:=fun w=>by
 simp[eqGuard,binOp,Op.intCmp]
theorem dQ_:∀w,(do eqGuard .gtr T x y (.int k a) (.int k b);binOp .gtr T (.int k a) (.int k b):Sem Value).run P w= .ok (.bool (decide (b< a))) w:=fun w=>by
 simp[eqGuard,binOp,Op.intCmp]
theorem dz_:∀w,(do eqGuard .geq T x y (.int k a) (.int k b);binOp .geq T (.int k a) (.int k b):Sem Value).run P w= .ok (.bool (decide (b≤a))) w:=fun w=>by
 simp[eqGuard,binOp,Op.intCmp]
theorem lK_{p:Bool}:∀w,(Op.unary .not (.bool p)).run P w= .ok (.bool !p) w:=fun _=>rfl
theorem un_neg:∀w,(Op.unary .neg (.int k a)).run P w= .ok (.int k (k.wrap (0- a))) w:=fun _=>rfl
end
abbrev Fr:=List (Nat×AV)
abbrev Hp:=List (Nat×Option ABlk)
abbrev Fps:=List (List Nat×List Nat)
theorem nle{a b:Nat}(h:Nat.ble a b=true):a≤b:=Nat.le_of_ble_eq_true h
def AR(P:Program)(ops:Array Oper)(nx n j:Nat)(rest:List Oper)(fr:Fr)(hp:Hp)(K:Fps→Fr→Hp→Prop):Prop:=
 ∃us st',go_ P ops nx j rest ⟨fr,hp,nx,n⟩ us st'∧K (us.map fp) st'.fr st'.hp
section
variable {P:Program}{ops:Array Oper}{nx n j:Nat}{rest:List Oper}{fr:Fr}{hp:Hp}{K:Fps→Fr→Hp→Prop}
variable {d:Nat}{op:Op}{ty:Nat}{pos:String}{after:Array Edge}{a:AV}{p q:Nat×Option ABlk}{rd:List Nat}
theorem ak_(h:K [] fr hp):AR P ops nx n j [] fr hp K:=⟨[],_,⟨rfl,rfl⟩,h⟩
theorem AR.cons {dst:Option Nat} {guard:Option (Nat×Bool)} {u:Upd} {rd:List Nat}
    (hs:AStep P ops (nx+j) (look fr) (lookB hp) ⟨dst,op,ty,pos,after,guard⟩ u rd) (hd:(match dst with|some d=>Nat.blt d n|none=>true)=true)
    (h:AR P ops nx n (j+1) rest (putL fr dst u.val) (u.blk.reverse++hp) fun fps f h=>K ((u.blk.map (·.1),rd)::fps) f h):AR P ops nx n j (⟨dst,op,ty,pos,after,guard⟩::rest) fr hp K:=by
 obtain⟨us,st',h1,h2⟩:=h
 refine⟨(u,rd)::us,st',⟨u,rd,us,rfl,hs,fun d hd'=>?_,h1⟩,h2⟩
 simp only at hd'
 subst hd'
 exact Nat.le_of_ble_eq_true hd
theorem aM_ (hs:AEval P (nx+j) (evF (look fr)) (lookB hp) op ⟨a,[]⟩ rd) (hnd:bp_ op=true) (hd:Nat.blt d n=true)
    (h:AR P ops nx n (j+1) rest ((d,a)::fr) hp fun fps f h=>K (([],rd)::fps) f h):AR P ops nx n j (⟨some d,op,ty,pos,after,none⟩::rest) fr hp K:=
 AR.cons ⟨a9_ hnd,hs⟩ hd h
theorem AR.op1 (hs:AEval P (nx+j) (evF (look fr)) (lookB hp) op ⟨a,[p]⟩ rd) (hnd:bp_ op=true) (hd:Nat.blt d n=true)
    (h:AR P ops nx n (j+1) rest ((d,a)::fr) (p::hp) fun fps f h=>K (([p.1],rd)::fps) f h):AR P ops nx n j (⟨some d,op,ty,pos,after,none⟩::rest) fr hp K:=
 AR.cons ⟨a9_ hnd,hs⟩ hd h
theorem AR.op2 (hs:AEval P (nx+j) (evF (look fr)) (lookB hp) op ⟨a,[p,q]⟩ rd) (hnd:bp_ op=true) (hd:Nat.blt d n=true)
    (h:AR P ops nx n (j+1) rest ((d,a)::fr) (q::p::hp) fun fps f h=>K (([p.1,q.1],rd)::fps) f h):AR P ops nx n j (⟨some d,op,ty,pos,after,none⟩::rest) fr hp K:=
 AR.cons ⟨a9_ hnd,hs⟩ hd h
theorem AR.op1n (hs:AEval P (nx+j) (evF (look fr)) (lookB hp) op ⟨a,[p]⟩ rd) (hnd:bp_ op=true)
    (h:AR P ops nx n (j+1) rest fr (p::hp) fun fps f h=>K (([p.1],rd)::fps) f h):AR P ops nx n j (⟨none,op,ty,pos,after,none⟩::rest) fr hp K:=
 AR.cons ⟨a9_ hnd,hs⟩ rfl h
theorem AR.op0n (hs:AEval P (nx+j) (evF (look fr)) (lookB hp) op ⟨a,[]⟩ rd) (hnd:bp_ op=true)
    (h:AR P ops nx n (j+1) rest fr hp fun fps f h=>K (([],rd)::fps) f h):AR P ops nx n j (⟨none,op,ty,pos,after,none⟩::rest) fr hp K:=
 AR.cons ⟨a9_ hnd,hs⟩ rfl h
variable {g t:Nat}{want:Bool}{x:Value}
theorem bl_ (ht:(ops[g]?).bind (·.dst)=some t) (hx:evF (look fr) (.tmp t)=some (.v x)) (hb:cV_ x=some want) (hs:AEval P (nx+j) (evF (look fr)) (lookB hp) op ⟨a,[]⟩ rd) (hnd:bp_ op=true) (hd:Nat.blt d n=true)
    (h:AR P ops nx n (j+1) rest ((d,a)::fr) hp fun fps f h=>K (([],rd)::fps) f h):AR P ops nx n j (⟨some d,op,ty,pos,after,some (g,want)⟩::rest) fr hp K:=
 AR.cons ⟨a9_ hnd,t,x,ht,hx,.inl ⟨hb,hs⟩⟩ hd h
theorem AR.op1y (ht:(ops[g]?).bind (·.dst)=some t) (hx:evF (look fr) (.tmp t)=some (.v x)) (hb:cV_ x=some want) (hs:AEval P (nx+j) (evF (look fr)) (lookB hp) op ⟨a,[p]⟩ rd) (hnd:bp_ op=true) (hd:Nat.blt d n=true)
    (h:AR P ops nx n (j+1) rest ((d,a)::fr) (p::hp) fun fps f h=>K (([p.1],rd)::fps) f h):AR P ops nx n j (⟨some d,op,ty,pos,after,some (g,want)⟩::rest) fr hp K:=
 AR.cons ⟨a9_ hnd,t,x,ht,hx,.inl ⟨hb,hs⟩⟩ hd h
theorem f7_ (ht:(ops[g]?).bind (·.dst)=some t) (hx:evF (look fr) (.tmp t)=some (.v x)) (hb:cV_ x≠some want) (hnd:bp_ op=true) (hd:Nat.blt d n=true)
    (h:AR P ops nx n (j+1) rest ((d,.v undef)::fr) hp fun fps f h=>K (([],[])::fps) f h):AR P ops nx n j (⟨some d,op,ty,pos,after,some (g,want)⟩::rest) fr hp K:=
 AR.cons (u:=⟨.v undef,[]⟩) ⟨a9_ hnd,t,x,ht,hx,.inr ⟨hb,rfl,rfl⟩⟩ hd h
theorem AR.opNn (ht:(ops[g]?).bind (·.dst)=some t) (hx:evF (look fr) (.tmp t)=some (.v x)) (hb:cV_ x≠some want) (hnd:bp_ op=true)
    (h:AR P ops nx n (j+1) rest fr hp fun fps f h=>K (([],[])::fps) f h):AR P ops nx n j (⟨none,op,ty,pos,after,some (g,want)⟩::rest) fr hp K:=
 AR.cons (u:=⟨.v undef,[]⟩) ⟨a9_ hnd,t,x,ht,hx,.inr ⟨hb,rfl,rfl⟩⟩ rfl h
variable {ρ:Option Nat}{Q:Exit→AState→Prop}{id m:Nat}
theorem AWp.regD(hm:P.follows .mixedOrders=true)(hsz:ops.size=m)(h:AR P ops nx n 0 ops.toList fr hp fun fps f h=>okReg ops fps=true∧Q .normal ⟨f,h,nx+m,n⟩):AWp ρ P (.region id ops true) Q ⟨fr,hp,nx,n⟩:=by
 obtain⟨us,st',h1,h2,h3⟩:=h
 have hn:=(cS_ ops.toList 0 _ st' us [] (look fr) (lookB hp) h1 rfl (fun i o h=>by simpa using h) rfl rfl).2.2.2
 refine AWp.regionD hm ⟨us,st',h1,h2,?_⟩
 show Q .normal ⟨st'.fr,st'.hp,nx+ops.size,st'.n⟩
 rw[hsz,hn];exact h3
theorem sZ_(hsz:ops.size=m)(h:AR P ops nx n 0 ops.toList fr hp fun _ f h=>Q .normal ⟨f,h,nx+m,n⟩):AWp ρ P (.region id ops false) Q ⟨fr,hp,nx,n⟩:=by
 obtain⟨us,st',h1,h3⟩:=h
 have hn:=(cS_ ops.toList 0 _ st' us [] (look fr) (lookB hp) h1 rfl (fun i o h=>by simpa using h) rfl rfl).2.2.2
 refine AWp.region ⟨us,st',h1,?_⟩
 show Q .normal ⟨st'.fr,st'.hp,nx+ops.size,st'.n⟩
 rw[hsz,hn];exact h3
end
section
variable {P:Program}{T:Nat}{x y:Operand}{a b:Int}
theorem bI64_add(h: -9223372036854775808≤a+b∧a+b≤9223372036854775807):∀w,(do eqGuard .add T x y (.int .i64 a) (.int .i64 b);binOp .add T (.int .i64 a) (.int .i64 b):Sem Value).run P w= .ok (.int .i64 (a+b)) w:=fun w=>by
 rw[h8_,IntWalk.i64_in _ h]
theorem h9_(h: -9223372036854775808≤a- b∧a- b≤9223372036854775807):∀w,(do eqGuard .sub T x y (.int .i64 a) (.int .i64 b);binOp .sub T (.int .i64 a) (.int .i64 b):Sem Value).run P w= .ok (.int .i64 (a- b)) w:=fun w=>by
 rw[h6_,IntWalk.i64_in _ h]
theorem g4_(h: -9223372036854775808≤a* b∧a* b≤9223372036854775807):∀w,(do eqGuard .mul T x y (.int .i64 a) (.int .i64 b);binOp .mul T (.int .i64 a) (.int .i64 b):Sem Value).run P w= .ok (.int .i64 (a* b)) w:=fun w=>by
 rw[pJ_,IntWalk.i64_in _ h]
theorem bI64_quo(h0:0≤a∧0< b∧a≤9223372036854775807):∀w,(do eqGuard .quo T x y (.int .i64 a) (.int .i64 b);binOp .quo T (.int .i64 a) (.int .i64 b):Sem Value).run P w= .ok (.int .i64 (a/ b)) w:=fun w=>by
 have h1:0≤a/ b:=Int.ediv_nonneg h0.1 (by omega)
 have h2:a/ b≤a:=Int.ediv_le_self _ h0.1
 rw[h7_ (by omega),Int.tdiv_eq_ediv_of_nonneg h0.1,IntWalk.i64_in _ (by omega)]
theorem pN_(h0:0≤a∧0< b):∀w,(do eqGuard .rem T x y (.int .i64 a) (.int .i64 b);binOp .rem T (.int .i64 a) (.int .i64 b):Sem Value).run P w= .ok (.int .i64 (a % b)) w:=fun w=>by
 rw[g2_ (by omega),Int.tmod_eq_emod_of_nonneg h0.1]
theorem bU32_add(h:0≤a+b∧a+b≤4294967295):∀w,(do eqGuard .add T x y (.int .u32 a) (.int .u32 b);binOp .add T (.int .u32 a) (.int .u32 b):Sem Value).run P w= .ok (.int .u32 (a+b)) w:=fun w=>by
 rw[h8_,IntWalk.u32_in _ h]
theorem bU32_sub(h:0≤a- b∧a- b≤4294967295):∀w,(do eqGuard .sub T x y (.int .u32 a) (.int .u32 b);binOp .sub T (.int .u32 a) (.int .u32 b):Sem Value).run P w= .ok (.int .u32 (a- b)) w:=fun w=>by
 rw[h6_,IntWalk.u32_in _ h]
theorem pM_(h0:0≤a∧0< b∧a≤4294967295):∀w,(do eqGuard .quo T x y (.int .u32 a) (.int .u32 b);binOp .quo T (.int .u32 a) (.int .u32 b):Sem Value).run P w= .ok (.int .u32 (a/ b)) w:=fun w=>by
 have h1:0≤a/ b:=Int.ediv_nonneg h0.1 (by omega)
 have h2:a/ b≤a:=Int.ediv_le_self _ h0.1
 rw[h7_ (by omega),Int.tdiv_eq_ediv_of_nonneg h0.1,IntWalk.u32_in _ (by omega)]
theorem bU32_rem(h0:0≤a∧0< b):∀w,(do eqGuard .rem T x y (.int .u32 a) (.int .u32 b);binOp .rem T (.int .u32 a) (.int .u32 b):Sem Value).run P w= .ok (.int .u32 (a % b)) w:=fun w=>by
 rw[g2_ (by omega),Int.tmod_eq_emod_of_nonneg h0.1]
theorem bU64_add(h:0≤a+b∧a+b≤18446744073709551615):∀w,(do eqGuard .add T x y (.int .u64 a) (.int .u64 b);binOp .add T (.int .u64 a) (.int .u64 b):Sem Value).run P w= .ok (.int .u64 (a+b)) w:=fun w=>by
 rw[h8_,IntWalk.u64_in _ h]
theorem bU64_sub(h:0≤a- b∧a- b≤18446744073709551615):∀w,(do eqGuard .sub T x y (.int .u64 a) (.int .u64 b);binOp .sub T (.int .u64 a) (.int .u64 b):Sem Value).run P w= .ok (.int .u64 (a- b)) w:=fun w=>by
 rw[h6_,IntWalk.u64_in _ h]
theorem bU64_mul(h:0≤a* b∧a* b≤18446744073709551615):∀w,(do eqGuard .mul T x y (.int .u64 a) (.int .u64 b);binOp .mul T (.int .u64 a) (.int .u64 b):Sem Value).run P w= .ok (.int .u64 (a* b)) w:=fun w=>by
 rw[pJ_,IntWalk.u64_in _ h]
theorem pL_(h0:0≤a∧0< b∧a≤18446744073709551615):∀w,(do eqGuard .quo T x y (.int .u64 a) (.int .u64 b);binOp .quo T (.int .u64 a) (.int .u64 b):Sem Value).run P w= .ok (.int .u64 (a/ b)) w:=fun w=>by
 have h1:0≤a/ b:=Int.ediv_nonneg h0.1 (by omega)
 have h2:a/ b≤a:=Int.ediv_le_self _ h0.1
 rw[h7_ (by omega),Int.tdiv_eq_ediv_of_nonneg h0.1,IntWalk.u64_in _ (by omega)]
theorem bU64_rem(h0:0≤a∧0< b):∀w,(do eqGuard .rem T x y (.int .u64 a) (.int .u64 b);binOp .rem T (.int .u64 a) (.int .u64 b):Sem Value).run P w= .ok (.int .u64 (a % b)) w:=fun w=>by
 rw[g2_ (by omega),Int.tmod_eq_emod_of_nonneg h0.1]
theorem bU8_sub(h:0≤a- b∧a- b≤255):∀w,(do eqGuard .sub T x y (.int .u8 a) (.int .u8 b);binOp .sub T (.int .u8 a) (.int .u8 b):Sem Value).run P w= .ok (.int .u8 (a- b)) w:=fun w=>by
 rw[h6_,IntWalk.u8_in _ h]
theorem bU8_add(h:0≤a+b∧a+b≤255):∀w,(do eqGuard .add T x y (.int .u8 a) (.int .u8 b);binOp .add T (.int .u8 a) (.int .u8 b):Sem Value).run P w= .ok (.int .u8 (a+b)) w:=fun w=>by
 rw[h8_,IntWalk.u8_in _ h]
theorem bU8_rem(h0:0≤a∧0< b):∀w,(do eqGuard .rem T x y (.int .u8 a) (.int .u8 b);binOp .rem T (.int .u8 a) (.int .u8 b):Sem Value).run P w= .ok (.int .u8 (a % b)) w:=fun w=>by
 rw[g2_ (by omega),Int.tmod_eq_emod_of_nonneg h0.1]
theorem ke_(h: -9223372036854775808≤ -a∧ -a≤9223372036854775807):∀w,(Op.unary .neg (.int .i64 a)).run P w= .ok (.int .i64 (-a)) w:=fun w=>by
 rw[un_neg,show(0:Int)- a= -a by omega,IntWalk.i64_in _ h]
theorem cI64{S D:Nat}{k:IntKind}{n:Int}(h: -9223372036854775808≤n∧n≤9223372036854775807){d:TypeDesc}(hs:P.underlying S=some d)(hd:P.underlying D=some (.int .i64)):∀w,(convert S D (.int k n)).run P w= .ok (.int .i64 n) w:=fun w=>by
 simp only[convert,Sem.run_bind,run_underlying hs w,run_underlying hd w,Result.andThen_ok]
 cases d <;> simp[Conv.intToInt,IntWalk.i64_in _ h]
theorem cU64{S D:Nat}{k:IntKind}{n:Int}(h:0≤n∧n≤18446744073709551615){d:TypeDesc}(hs:P.underlying S=some d)(hd:P.underlying D=some (.int .u64)):∀w,(convert S D (.int k n)).run P w= .ok (.int .u64 n) w:=fun w=>by
 simp only[convert,Sem.run_bind,run_underlying hs w,run_underlying hd w,Result.andThen_ok]
 cases d <;> simp[Conv.intToInt,IntWalk.u64_in _ h]
theorem cU32{S D:Nat}{k:IntKind}{n:Int}(h:0≤n∧n≤4294967295){d:TypeDesc}(hs:P.underlying S=some d)(hd:P.underlying D=some (.int .u32)):∀w,(convert S D (.int k n)).run P w= .ok (.int .u32 n) w:=fun w=>by
 simp only[convert,Sem.run_bind,run_underlying hs w,run_underlying hd w,Result.andThen_ok]
 cases d <;> simp[Conv.intToInt,IntWalk.u32_in _ h]
theorem cU8{S D:Nat}{k:IntKind}{n:Int}(h:0≤n∧n≤255){d:TypeDesc}(hs:P.underlying S=some d)(hd:P.underlying D=some (.int .u8)):∀w,(convert S D (.int k n)).run P w= .ok (.int .u8 n) w:=fun w=>by
 simp only[convert,Sem.run_bind,run_underlying hs w,run_underlying hd w,Result.andThen_ok]
 cases d <;> simp[Conv.intToInt,IntWalk.u8_in _ h]
end
def Fin(P:Program)(rs:List ResultVar)(r:AV)(e:Exit)(st:AState):Prop:=(e= .normal∨e= .ret)∧ResOK P rs st r
theorem au_{k:Ren}{hp:Nat→Option ABlk}:Shr k hp (fun _=>none):=⟨fun _ _ h=>by cases h⟩
section
variable {P:Program}{fr:Fr}{hp:Hp}{nx n:Nat}{r:AV}{ρ:Option Nat}
theorem Fin.tmp{t:Nat}{r0:AV}(h:look fr t=some r0)(hc:Cv (Ren.id 0) (lookB hp) (fun _=>none) r0 r):Fin P [.tmp t] r .ret ⟨fr,hp,nx,n⟩:=
 ⟨.inr rfl,[r0],⟨r0,[],rfl,h,rfl⟩,hc⟩
theorem aS_{t:Nat}{r0:AV}(h:look fr t=some r0)(e:r0=r)(hc:Closed r):Fin P [.tmp t] r .ret ⟨fr,hp,nx,n⟩:=
 Fin.tmp h (by subst e;exact an_ au_ hc)
theorem Fin.cell {t T i e o k:Nat} {B:ABlk} {cs:List AV} (h:look fr t=some (.lptr i e o)) (hb:cellF (lookB hp) i=some B) (he:B.es[e]?=some cs) (hg:em_ P T=some true) (hs:szOf P T=some k) (hl:o+k≤cs.length)
    (hc:Cv (Ren.id 0) (lookB hp) (fun _=>none) (.agg ((cs.drop o).take k)) r):Fin P [.cell t T] r .ret ⟨fr,hp,nx,n⟩:=
 ⟨.inr rfl,[.agg ((cs.drop o).take k)],⟨_,[],rfl,⟨i,e,o,B,cs,h,hb,he,.inl ⟨hg,k,hs,hl,rfl⟩⟩,rfl⟩,hc⟩
theorem b7_ {t T i e o k:Nat} {B:ABlk} {cs:List AV} (h:look fr t=some (.lptr i e o)) (hb:cellF (lookB hp) i=some B) (he:B.es[e]?=some cs) (hg:em_ P T=some true) (hs:szOf P T=some k) (hl:o+k≤cs.length)
    (e:AV.agg ((cs.drop o).take k)=r) (hc:Closed r):Fin P [.cell t T] r .ret ⟨fr,hp,nx,n⟩:=
 Fin.cell h hb he hg hs hl (by subst e;exact an_ au_ hc)
theorem Fin.many{rs:List ResultVar}{as bs:List AV}(h:AResL P ⟨fr,hp,nx,n⟩ rs as)(h2:2≤as.length)(hc:CvL (Ren.id 0) (lookB hp) (fun _=>none) as bs):Fin P rs (.tup bs) .ret ⟨fr,hp,nx,n⟩:=by
 refine⟨.inr rfl,as,h,?_⟩
 have:oneOf as= .tup as:=by
  cases as with
  |nil=>simp at h2
  |cons a as=>cases as with|nil=>simp at h2|cons b bs=>rfl
 rw[this]
 exact Cv.tup hc
end
theorem ad_(x:Value):Closed (.v x):=(lo_v 0 x).closed
theorem bQ_:Closed .emp:=(lo_emp 0).closed
theorem aU_{es:List (List AV)}(h:∀e∈es,∀c∈e,Closed c):Closed (.arr es):=(lo_arr fun e he c hc=>(h e he c hc).lo 0).closed
theorem dt_{es:List (List AV)}{i o:Nat}(h:∀e∈es,∀c∈e,Closed c):Closed (.aptr es i o):=(lo_aptr fun e he c hc=>(h e he c hc).lo 0).closed
theorem ao_{cs:List AV}(h:∀c∈cs,Closed c):Closed (.agg cs):=(lo_agg fun c hc=>(h c hc).lo 0).closed
theorem aW_{f:Nat}{fst cap:List AV}(h1:∀c∈fst,Closed c)(h2:∀c∈cap,Closed c):Closed (.clos f fst cap):=(lo_clos (fun c hc=>(h1 c hc).lo 0) (fun c hc=>(h2 c hc).lo 0)).closed
theorem oh_ {P:Program} {f:Nat} {fn:Func} {c:Code} {args:List AV} {r:AV} (hf:P.funcs[f]?=some fn) (hb:fn.body=some c) (hname:(fn.name== "runtime.NumGoroutine")=false) {rs:List ResultVar} (hrs:fn.results.toList=rs) {m:Nat} (hm:fn.ntmps=m) (hn:Nat.ble args.length m=true)
    (hcl:∀a∈args,Closed a) {fr:Fr} (hfr:argFr 0 args=fr) (h:AWp none P c (Fin P rs r) ⟨fr,[],1,m⟩):FSpec P f args r:=by
 subst hrs hm hfr
 exact FSpec.intro hf hb hname hcl (nle hn) h
def FinE(P:Program)(rs:List ResultVar)(ty sz:Nat)(E':List (List AV))(r:Value)(x:Exit)(st:AState):Prop:=(x= .normal∨x= .ret)∧ResOK P rs st (.v r)∧lookB st.hp 0=some ⟨ty,sz,E'⟩
theorem FinE.tmp{P:Program}{fr:Fr}{hp:Hp}{nx n t ty sz:Nat}{E':List (List AV)}{r0:AV}{r:Value}{es:List (List AV)}(h:look fr t=some r0)(e:r0= .v r)(hb:lookB hp 0=some ⟨ty,sz,es⟩)(he:es=E'):FinE P [.tmp t] ty sz E' r .ret ⟨fr,hp,nx,n⟩:=
 ⟨.inr rfl,(aS_ (P:=P) (fr:=fr) (hp:=hp) (nx:=nx) (n:=n) h e (ad_ r)).2,by rw[←he];exact hb⟩
theorem ESpec.enter {P:Program} {f:Nat} {fn:Func} {c:Code} {ty sz:Nat} {E E':List (List AV)} {e k:Nat} {cap:Option Nat} {args:List AV} {r:Value} (hf:P.funcs[f]?=some fn) (hb:fn.body=some c) (hname:(fn.name== "runtime.NumGoroutine")=false) {rs:List ResultVar} (hrs:fn.results.toList=rs) {m:Nat} (hm:fn.ntmps=m) (hn:Nat.ble (args.length+1) m=true)
    (hcl:∀a∈args,Closed a) (hclE:∀x∈E,∀c∈x,Closed c) (hclE':∀x∈E',∀c∈x,Closed c) {fr:Fr} (hfr:argFr 1 args=fr)
    (h:AWp none P c (FinE P rs ty sz E' r) ⟨(0,.lsl 0 e k cap sz)::fr,[(0,some ⟨ty,sz,E⟩)],1,m⟩) (hz:Nat.blt 0 sz=true:=by rfl):ESpec P f ty sz E E' e k cap args r:=by
 subst hrs hm hfr
 exact ESpec.intro hf hb hname hcl hclE hclE' (nle hn) h hz
def FinO(t ty sz:Nat)(es:List (List AV))(x:Exit)(st:AState):Prop:=(x= .normal∨x= .ret)∧∃i cap,look st.fr t=some (.lsl i 0 es.length cap sz)∧lookB st.hp i=some ⟨ty,sz,es⟩
theorem FinO.tmp{fr:Fr}{hp:Hp}{nx n t ty sz i k:Nat}{cap:Option Nat}{es es':List (List AV)}(h:look fr t=some (.lsl i 0 k cap sz))(hb:lookB hp i=some ⟨ty,sz,es⟩)(he:es=es')(hk:k=es'.length):FinO t ty sz es' .ret ⟨fr,hp,nx,n⟩:=
 ⟨.inr rfl,i,cap,by rw[←hk];exact h,by rw[←he];exact hb⟩
theorem OSpec.enter {P:Program} {f:Nat} {fn:Func} {c:Code} {ty sz t:Nat} {args:List AV} {es:List (List AV)} (hf:P.funcs[f]?=some fn) (hb:fn.body=some c) (hname:(fn.name== "runtime.NumGoroutine")=false) (hrs:fn.results.toList=[.tmp t]) {m:Nat} (hm:fn.ntmps=m) (hn:Nat.ble args.length m=true)
    (hcl:∀a∈args,Closed a) (hce:∀x∈es,∀c∈x,Closed c) {fr:Fr} (hfr:argFr 0 args=fr) (h:AWp none P c (FinO t ty sz es) ⟨fr,[],1,m⟩) (hz:Nat.blt 0 sz=true:=by rfl):OSpec P f args ty sz es:=by
 subst hm hfr
 exact OSpec.intro hf hb hname hrs hcl hce (nle hn) h hz
section
variable {ρ:Option Nat}{P:Program}{Q:Exit→AState→Prop}{st:AState}
theorem aw_ {α:Type} {c:Code} (S:α→AState) (m:α→Nat) (Inv:α→Prop) (a0:α) (hi:Inv a0) (h0:SEnt st (S a0))
    (round:∀a,Inv a→AWp ρ P c (thenA (fun s'=> ∃a',m a'< m a∧Inv a'∧SEnt s' (S a')) Q) (S a)):AWp ρ P (.loop c) Q st:=by
 refine AWp.loop (fun n s=> ∃a,m a=n∧Inv a∧SEnt s (S a)) (m:=m a0) ⟨a0,rfl,hi,h0⟩ ?_
 rintro n s ⟨a,rfl,ha,hs⟩
 refine AWp.mono (AWp.ent hs (round a ha)) fun e s' h=>?_
 cases e with
 |normal=>obtain⟨a',h1,h2,h3⟩:=h;exact⟨m a',h1,a',rfl,h2,h3⟩
 |_=>exact h
end
section
variable {r:Ren}{hp hp':Nat→Option ABlk}{fr:Fr}
theorem aE_{t:Nat}{x x0:AV}{l:Fr}(h:Abs.look fr t=some x0)(hc:Cv r hp hp' x0 x)(hl:CvF r hp hp' fr l):CvF r hp hp' fr ((t,x)::l):=⟨⟨x0,h,hc⟩,hl⟩
theorem aK_:CvF r hp hp' fr []:=trivial
theorem aq_:CvH r hp hp' []:=trivial
theorem al_{i:Nat}{B B0:ABlk}{l:Hp}(hi:Nat.blt i r.n=true)(h:hp (r.s i)=some B0)(ht:B0.ty=B.ty)(hz:B0.sz=B.sz)(hc:CvLL r hp hp' B0.es B.es)(hl:CvH r hp hp' l):CvH r hp hp' ((i,some B)::l):=
 ⟨⟨Nat.le_of_ble_eq_true hi,B0,h,ht,hz,hc⟩,hl⟩
theorem ShrL.nil:ShrL r hp []:=trivial
theorem ShrL.cons{i:Nat}{B B0:ABlk}{l:Hp}(hi:Nat.blt i r.n=true)(h:hp (r.s i)=some B0)(ht:B0.ty=B.ty)(hz:B0.sz=B.sz)(hc:B0.es.length=B.es.length)(hl:ShrL r hp l):ShrL r hp ((i,some B)::l):=
 ⟨⟨Nat.le_of_ble_eq_true hi,B0,h,ht,hz,hc⟩,hl⟩
theorem ap_:CvL r hp hp' [] []:=rfl
theorem af_{x y:AV}{xs ys:List AV}(h:Cv r hp hp' x y)(h':CvL r hp hp' xs ys):CvL r hp hp' (x::xs) (y::ys):=⟨y,ys,rfl,h,h'⟩
theorem CvLL.nil:CvLL r hp hp' [] []:=rfl
theorem CvLL.cons{x y:List AV}{xs ys:List (List AV)}(h:CvL r hp hp' x y)(h':CvLL r hp hp' xs ys):CvLL r hp hp' (x::xs) (y::ys):=⟨y,ys,rfl,h,h'⟩
theorem ae_{x y:List AV}(h:CvL r hp hp' x y):CvLL r hp hp' [x] [y]:=CvLL.cons h CvLL.nil
end
theorem Cv.slE{r:Ren}{hp hp':Nat→Option ABlk}{id id' i i' n n' sz:Nat}{cap cap':Option Nat}(hi:Nat.blt id' r.n=true)(hs:r.s id'=id)(hl:(hp' id').isSome=true)(e0:i=i')(e:n=n')(e':cap=cap'):Cv r hp hp' (.lsl id i n cap sz) (.lsl id' i' n' cap' sz):=by
 subst e0 e e';exact Cv.sl hi hs hl
theorem Cv.sealE{r:Ren}{hp hp':Nat→Option ABlk}{id n sz:Nat}{cap:Option Nat}{B:ABlk}{es:List (List AV)}(h:Shr r hp hp')(hi:cellF hp id=some B)(hd:Dead r hp' id)(e:B.es=es)(hn:n=es.length)(hc:∀e∈es,∀c∈e,Closed c):Cv r hp hp' (.lsl id 0 n cap sz) (.arr es):=by
 subst e hn
 refine Cv.shut h hi hd (by simp) ?_
 rw[List.drop_zero,List.take_length]
 exact aO_ h hc
def idAt(fr:Fr)(t:Nat):Nat:=match look fr t with
 |some (.lsl i ..)=>i
 |some (.lptr i ..)=>i
 |_=>0
def rnm(fr:Fr)(l:List (Nat×Nat))(n:Nat):Ren:=⟨n,fun i=>match look l i with|some t=>idAt fr t|none=>i⟩
theorem at_ {fr fr':Fr} {hp hp':Hp} {nx nx' n:Nat} (l:List (Nat×Nat)) (hk:Nat.blt 0 nx'=true) (h0:(rnm fr l nx').s 0=0) (hinj:injL (rnm fr l nx') (hp'.map (·.1))=true) (hS:ShrL (rnm fr l nx') (lookB hp) hp')
    (hF:Shr (rnm fr l nx') (lookB hp) (lookB hp')→CvF (rnm fr l nx') (lookB hp) (lookB hp') fr fr')
    (hH:Shr (rnm fr l nx') (lookB hp) (lookB hp')→CvH (rnm fr l nx') (lookB hp) (lookB hp') hp'):SEnt ⟨fr,hp,nx,n⟩ ⟨fr',hp',nx',n⟩:=
 SEnt.intro (st:=⟨fr,hp,nx,n⟩) (st':=⟨fr',hp',nx',n⟩) (rnm fr l nx') rfl (Nat.le_of_ble_eq_true hk) h0 hinj rfl (hF hS.shr) (hH hS.shr)
theorem SEntT.to {fr fr':Fr} {hp hp':Hp} {nx nx' n:Nat} (l:List (Nat×Nat)) (hk:Nat.blt 0 nx'=true) (h0:(rnm fr l nx').s 0=0) (hinj:injL (rnm fr l nx') (hp'.map (·.1))=true) (hS:ShrL (rnm fr l nx') (lookB hp) hp')
    (hF:Shr (rnm fr l nx') (lookB hp) (lookB hp')→CvF (rnm fr l nx') (lookB hp) (lookB hp') fr fr')
    (hH:Shr (rnm fr l nx') (lookB hp) (lookB hp')→CvH (rnm fr l nx') (lookB hp) (lookB hp') hp'):SEntT ⟨fr,hp,nx,n⟩ ⟨fr',hp',nx',n⟩:=
 SEntT.intro (st:=⟨fr,hp,nx,n⟩) (st':=⟨fr',hp',nx',n⟩) (rnm fr l nx') rfl (Nat.le_of_ble_eq_true hk) h0 hinj rfl (hF hS.shr) (hH hS.shr)
section
variable {P:Program}{id:Nat}{ev:Operand→Option AV}{hp:Nat→Option ABlk}{c a b:Operand}{t:Bool}{v:AV}
theorem AEval.pickT(h:ev c=some (.v (.bool t)))(ht:t=true)(ha:ev a=some v):AEval P id ev hp (.pick c a b) ⟨v,[]⟩ []:= .pick h (fun _=>ha) (fun e=>absurd (ht.symm.trans e) (by decide))
theorem AEval.pickF(h:ev c=some (.v (.bool t)))(ht:t=false)(hb:ev b=some v):AEval P id ev hp (.pick c a b) ⟨v,[]⟩ []:= .pick h (fun e=>absurd (ht.symm.trans e) (by decide)) (fun _=>hb)
end
def cutA{α:Type}(S:α→AState)(Post:α→Prop)(Q:Exit→AState→Prop):Exit→AState→Prop
 | .normal,s=> ∃a,Post a∧SEnt s (S a)
 |e,s=>Q e s
theorem aD_{ρ:Option Nat}{P:Program}{Q:Exit→AState→Prop}{st:AState}{x y:Code}{α:Type}(S:α→AState)(Post:α→Prop)(h:AWp ρ P x (cutA S Post Q) st)(h2:∀a,Post a→AWp ρ P y Q (S a)):AWp ρ P x (thenA (AWp ρ P y Q) Q) st:=
 AWp.mono h fun e s hs=>by
  cases e with
  |normal=>obtain⟨a,h3,h4⟩:=hs;exact AWp.ent h4 (h2 a h3)
  |_=>exact hs
theorem a2_{ρ:Option Nat}{P:Program}{Q:Exit→AState→Prop}{st:AState}{x y:Code}{α:Type}(S:α→AState)(Post:α→Prop)(h:AWp ρ P x (cutA S Post Q) st)(h2:∀a,Post a→AWp ρ P y Q (S a)):AWp ρ P (.seq x y) Q st:=
 ac_ (AWp.mono h fun e s hs=>by
  cases e with
  |normal=>obtain⟨a,h3,h4⟩:=hs;exact AWp.ent h4 (h2 a h3)
  |_=>exact hs)
section
variable {P:Program}{id:Nat}{ev:Operand→Option AV}{hp:Nat→Option ABlk}{T:Nat}{x lo hi mx:Operand}{es:List (List AV)}{kl kh km:IntKind}{zl zh zm:Int}{l h m:Nat}{d:Nat×Nat}
theorem AEval.sa_h(hx:ev x=some (.arr es))(h2:ev hi=some (.v (.int kh zh)))(e2:zh=(h:Int))(hl:h≤es.length)(he:elOf P T=some d)(hel:∀e∈es,e.length=d.2):
    AEval P id ev hp (.slice T x none (some hi) none) ⟨.arr (es.take h),[]⟩ []:=by
 subst e2
 have:=AEval.slice_a (P:=P) (id:=id) (hp:=hp) (T:=T) (lo:=none) (hi:=some hi) (mx:=none) (l:=0) (h:=h) hx ⟨⟨none,rfl,.inl ⟨rfl,rfl⟩⟩,⟨some (.int kh h),by simp only[evO,h2],.inr ⟨kh,_,rfl,rfl⟩⟩,⟨none,rfl,.inl ⟨rfl,rfl⟩⟩⟩ (Nat.zero_le _) hl he (fun _=>hel)
 simpa using this
theorem AEval.sa_hm(hx:ev x=some (.arr es))(h2:ev hi=some (.v (.int kh zh)))(e2:zh=(h:Int))(h3:ev mx=some (.v (.int km zm)))(e3:zm=(m:Int))(hm:h≤m∧m≤es.length)(he:elOf P T=some d)(hel:∀e∈es,e.length=d.2):
    AEval P id ev hp (.slice T x none (some hi) (some mx)) ⟨.arr (es.take h),[]⟩ []:=by
 subst e2 e3
 have:=AEval.slice_a (P:=P) (id:=id) (hp:=hp) (T:=T) (lo:=none) (hi:=some hi) (mx:=some mx) (l:=0) (h:=h) hx ⟨⟨none,rfl,.inl ⟨rfl,rfl⟩⟩,⟨some (.int kh h),by simp only[evO,h2],.inr ⟨kh,_,rfl,rfl⟩⟩,⟨some (.int km m),by simp only[evO,h3],.inr ⟨km,_,m,rfl,rfl,hm.1,hm.2,.inr rfl⟩⟩⟩ (Nat.zero_le _) (Nat.le_trans hm.1 hm.2) he (fun _=>hel)
 simpa using this
theorem AEval.sa_l(hx:ev x=some (.arr es))(h1:ev lo=some (.v (.int kl zl)))(e1:zl=(l:Int))(hl:l≤es.length)(he:elOf P T=some d)(hel:∀e∈es,e.length=d.2):
    AEval P id ev hp (.slice T x (some lo) none none) ⟨.arr (es.drop l),[]⟩ []:=by
 subst e1
 have:=AEval.slice_a (P:=P) (id:=id) (hp:=hp) (T:=T) (lo:=some lo) (hi:=none) (mx:=none) (l:=l) (h:=es.length) hx ⟨⟨some (.int kl l),by simp only[evO,h1],.inr ⟨kl,_,rfl,rfl⟩⟩,⟨none,rfl,.inl ⟨rfl,rfl,rfl⟩⟩,⟨none,rfl,.inl ⟨rfl,rfl⟩⟩⟩ hl (Nat.le_refl _) he (fun _=>hel)
 rwa[List.take_of_length_le (by simp)] at this
end
theorem gy{t want:Bool}(h:t=want):cV_ (.bool t)=some want:=by rw[h];rfl
theorem gn{t want:Bool}(h:t=!want):cV_ (.bool t)≠some want:=by rw[h];cases want <;> simp[cV_]
theorem bmin{P:Program}{k:IntKind}{a b:Int}{tys:Array Nat}:∀w ty cs,(builtin .min tys ty cs [Value.int k a,Value.int k b].toArray).run P w= .ok (.value (.int k (if b< a then b else a))) w:=fun _ _ _=>rfl
theorem bmax{P:Program}{k:IntKind}{a b:Int}{tys:Array Nat}:∀w ty cs,(builtin .max tys ty cs [Value.int k a,Value.int k b].toArray).run P w= .ok (.value (.int k (if b> a then b else a))) w:=fun _ _ _=>rfl
section
variable {P:Program}{id:Nat}{ev:Operand→Option AV}{hp:Nat→Option ABlk}{T:Nat}{x lo hi mx:Operand}{i e n sz E:Nat}{cap:Option Nat}{kl kh km:IntKind}{zl zh zm:Int}{l h m:Nat}
theorem AEval.sl_lhm(hx:ev x=some (.lsl i e n cap sz))(h1:ev lo=some (.v (.int kl zl)))(e1:zl=(l:Int))(h2:ev hi=some (.v (.int kh zh)))(e2:zh=(h:Int))(h3:ev mx=some (.v (.int km zm)))(e3:zm=(m:Int))(hl:l< h∧h≤m∧m≤n)(he:elOf P T=some (E,sz)):
    AEval P id ev hp (.slice T x (some lo) (some hi) (some mx)) ⟨.lsl i (e+l) (h- l) (some (m- l)) sz,[]⟩ []:=by
 subst e1 e2 e3
 exact AEval.slice_l (P:=P) (id:=id) (hp:=hp) (T:=T) (lo:=some lo) (hi:=some hi) (mx:=some mx) (l:=l) (h:=h) (m:=some m) hx ⟨⟨some (.int kl l),by simp only[evO,h1],.inr ⟨kl,_,rfl,rfl⟩⟩,⟨some (.int kh h),by simp only[evO,h2],.inr ⟨kh,_,rfl,rfl⟩⟩,⟨some (.int km m),by simp only[evO,h3],.inr ⟨km,_,m,rfl,rfl,hl.2.1,hl.2.2,.inl rfl⟩⟩⟩ (by omega) (by omega) (.inr hl.1) he
end
theorem AEval.callE2 {P:Program} {id:Nat} {ev:Operand→Option AV} {hp:Nat→Option ABlk} {c:Call} {callee x0:Operand} {f i e n ty sz:Nat} {cap:Option Nat} {rest:List Operand} {as:List AV} {E E':List (List AV)} {r:Value} (h1:c.callee= .value callee) (h2:ev callee=some (.clos f [] [])) (h3:c.args.toList=x0::rest) (h4:ev x0=some (.lsl i e n cap sz)) (h5:evs ev rest=some as) (h6:cellF hp i=some ⟨ty,sz,E⟩)
    (h7:ESpec P f ty sz E E' e n cap (as.map coe) r):AEval P id ev hp (.call c) ⟨.v r,[(i,some ⟨ty,sz,E'⟩)]⟩ [i]:= .callE (B:=⟨ty,sz,E⟩) h1 h2 h3 h4 h5 h6 h7
section
variable {P:Program}{T:Nat}{x y:Operand}{a b:Bool}
theorem fZ_(h:P.underlying T=some .bool)(w:World):(Op.equal T (.bool a) (.bool b)).run P w= .ok (a==b) w:=by
 unfold Op.equal
 rw[show Op.maxDepth=(Op.maxDepth- 1)+1 from rfl]
 simp[Op.equalIn,run_underlying h]
theorem binB_eql(h:P.underlying T=some .bool):∀w,(do eqGuard .eql T x y (.bool a) (.bool b);binOp .eql T (.bool a) (.bool b):Sem Value).run P w= .ok (.bool (a==b)) w:=fun w=>by
 simp[eqGuard,binOp,fZ_ h]
theorem binB_neq(h:P.underlying T=some .bool):∀w,(do eqGuard .neq T x y (.bool a) (.bool b);binOp .neq T (.bool a) (.bool b):Sem Value).run P w= .ok (.bool (a !=b)) w:=fun w=>by
 simp[eqGuard,binOp,fZ_ h];cases a <;> cases b <;> rfl
theorem pI_{s t:ByteArray}:∀w,(do eqGuard .eql T x y (.string s) (.string t);binOp .eql T (.string s) (.string t):Sem Value).run P w= .ok (.bool (s.toList==t.toList)) w:=fun w=>by
 simp[eqGuard,binOp,Op.stringOp]
theorem pG_{s t:ByteArray}:∀w,(do eqGuard .neq T x y (.string s) (.string t);binOp .neq T (.string s) (.string t):Sem Value).run P w= .ok (.bool !(s.toList==t.toList)) w:=fun w=>by
 simp[eqGuard,binOp,Op.stringOp]
end
theorem lM_{n:Int}(h: -18446744073709551616≤n∧n< 0):IntKind.u64.wrap n=n+18446744073709551616:=by
 rw[←IntWalk.u64_in (n+18446744073709551616) (by omega)]
 simp only[IntKind.wrap,IntKind.signed,IntKind.bits]
 simp
theorem cU64n{P:Program}{S D:Nat}{k:IntKind}{n:Int}(h: -18446744073709551616≤n∧n< 0){d:TypeDesc}(hs:P.underlying S=some d)(hd:P.underlying D=some (.int .u64)):∀w,(convert S D (.int k n)).run P w= .ok (.int .u64 (n+18446744073709551616)) w:=fun w=>by
 simp only[convert,Sem.run_bind,run_underlying hs w,run_underlying hd w,Result.andThen_ok]
 cases d <;> simp[Conv.intToInt,lM_ h]
theorem uU64_neg{P:Program}{a:Int}(h:0< a∧a≤18446744073709551616):∀w,(Op.unary .neg (.int .u64 a)).run P w= .ok (.int .u64 (18446744073709551616- a)) w:=fun w=>by
 rw[un_neg,lM_ (by omega)]
 rw[show 0- a+18446744073709551616=18446744073709551616- a by omega]
end Go.Abs
