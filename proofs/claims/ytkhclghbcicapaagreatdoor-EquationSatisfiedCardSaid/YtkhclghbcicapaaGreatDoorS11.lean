/- Part S11 of the proof. -/
import Derived.Test.YtkhclghbcicapaaGreatDoorS10
set_option linter.all false
namespace Go.Abs
open Go.RowKit
structure XSpecT (P:Program)(f:Nat)(args:List AV)(hp:Hp)(nx:Nat)(v:AV)(hp':Hp)(nx':Nat):Prop where
 enters:∀(xs:Array Value) (w:World),(callFunc f xs).run P w= .ok (.enter f xs) w
 calls:∀(M:Nat→Prop) (w0:Base) (β:Nat→Option (Nat×Nat)) (vals:List Value),w0.gh=(fun _=>undef)→Mem M w0 β (an hp) w0.w→(∀i,nx≤i→β i=none∧i≠0)→RVs (MM M β (an hp)) β w0.w args vals→
  Calls P f vals.toArray w0.w fun x w'=> ∃y β',x= .returned y∧Mem M w0 β' (an hp') w'∧RV (MM M β' (an hp')) β' w' v y∧(∀i,nx'≤i→β' i=none∧i≠0)∧∀i x,β' i=some x→(an hp' i).isSome=true
def FinXT(t:Nat)(v:AV)(hp':Hp)(nx' n:Nat)(x:Exit)(st:AState):Prop:=(x= .normal∨x= .ret)∧SEntT st ⟨[(t,v)],hp',nx',n⟩
theorem FinXT.of{fr:Fr}{hp hp':Hp}{nx nx' n t:Nat}{v:AV}(h:SEntT ⟨fr,hp,nx,n⟩ ⟨[(t,v)],hp',nx',n⟩):FinXT t v hp' nx' n .ret ⟨fr,hp,nx,n⟩:=⟨.inr rfl,h⟩
theorem XSpecT.enter {P:Program} {f:Nat} {fn:Func} {c:Code} {t nx nx':Nat} {v:AV} {hp hp':Hp} {args:List AV} (hf:P.funcs[f]?=some fn) (hb:fn.body=some c) (hname:(fn.name== "runtime.NumGoroutine")=false) (hrs:fn.results.toList=[.tmp t]) {m:Nat} (hm:fn.ntmps=m) (hn:Nat.ble args.length m=true)
    (ht:Nat.ble t 999=true) {fr:Fr} (hfr:c5 0 args=fr) (h:AWp none P c (FinXT t v hp' nx' m) ⟨fr,hp,nx,m⟩):XSpecT P f args hp nx v hp' nx':=by
 subst hm hfr;have hn:=Nat.le_of_ble_eq_true hn;refine⟨fun xs w=>?_,fun M w0 β vals hgh mem hfree hargs=>?_⟩;have hname':¬fn.name= "runtime.NumGoroutine" :=by grind
 simp[callFunc,hf,hname',hb];refine(callsIn_wide (n:=0)).1 (callsIn_of_wp_marks (F:=Fence.wide) hf hb trivial ?_);have hlen:=hargs.length
 have hrel:iJ M w0 ⟨c5 0 args,hp,nx,fn.ntmps⟩ {tmps:=vals.toArray++Array.replicate (fn.ntmps- vals.toArray.size) undef,defers:=[]} w0.w:=by
  refine⟨β,mem,by grind,fun t x hx=>?_,hfree,⟨[],rfl,List.nodup_nil,by simp⟩⟩;rw[ca hgh]
  have key:∀{as:List AV} {vs:List Value} {i t:Nat} {x:AV},RVs (MM M β (an hp)) β w0.w as vs→look (c5 i as) t=some x→i≤t∧∃y,vs[t- i]?=some y∧RV (MM M β (an hp)) β w0.w x y:=by
   intro as
   induction as with
   |nil=>intro vs i t x _ h;cases h
   |cons a as ih=>
    rintro vs i t x ⟨y,ys,e,h1,h2⟩ h;subst e;simp only[c5] at h;rw[cj] at h;unfold upd at h;grind
  obtain⟨_,y,h1,h2⟩:=key hargs hx
  have hy:(vals.toArray++Array.replicate (fn.ntmps- vals.toArray.size) undef).getD t undef=y:=by
   have hlt:t< vals.length:=by grind
   rw[Array.getD_eq_getD_getElem?,Array.getElem?_append_left (by grind)];grind
  grind
 refine wpIn_mono (h M w0 _ w0.w hrel) fun x a' w' ⟨st',hst,he,hent⟩=>?_;obtain⟨β',mem',hsz,hfr,hfree',⟨Ds,hds,hnd,hD⟩,hlive⟩:=hent M w0 a' w' hst;have hv:look ([(t,v)]:Fr) t=some v:=by rw[cj];exact aX _ _ _
 have hres:lr P fn.results.toList ⟨[(t,v)],hp',nx',fn.ntmps⟩ .any:=by
  rw[hrs];exact⟨[_],⟨_,[],rfl,hv,rfl⟩,fun _ _ _ _ _ _ _=>trivial⟩
 have hL:LeavesInM (FR none) 0 P fn a'.tmps (fun x w'=> ∃y β',x= .returned y∧Mem M w0 β' (an hp') w'∧RV (MM M β' (an hp')) β' w' v y∧(∀i,nx'≤i→β' i=none∧i≠0)∧∀i x,β' i=some x→(an hp' i).isSome=true) a'.defers .returning w':=by
  rw[hds];refine gF (st:=⟨[(t,v)],hp',nx',fn.ntmps⟩) hres (fun y w'' _ h2 h3 h4=>?_) Ds w' hnd hD mem' (fun t x hx=>by have:=hfr t x hx;rwa[ca hgh] at this)
  have hy:y=a'.tmps.getD t undef:=by
   have hm:(fn.results.mapM (gz a'.tmps)).run P w''= .ok #[a'.tmps.getD t undef] w'':=by
    rw[Array.mapM_eq_mapM_toList,hrs];rfl
   have he:results fn a'.tmps=(do let vs←fn.results.mapM (gz a'.tmps);pure (if h:vs.size=1 then vs[0] else .tuple vs)):=rfl;rw[he,Sem.run_bind,hm] at h4;have h5:(Result.ok (a'.tmps.getD t undef) w'':Result Value)= .ok y w'':=h4;cases h5;rfl
  exact⟨y,β',rfl,h2,by rw[hy];exact h3 t v hv,hfree',hlive⟩
 rcases he with rfl|rfl
 exact hL;exact hL
section
variable {P:Program}{ops:Array Oper}{us:List (Upd×List Nat)}{anc:Nat→Nat→Bool}{nx n:Nat}{fr0:Nat→Option AV}{hp0:Nat→Option ABlk}{ρ:Option Nat}{Q:Exit→Act→World→Prop}{rid:Nat}
variable {X:List Nat→(Nat→Prop)→Base→(Nat→Option (Nat×Nat))→Act→World→Prop}{gh:Nat→Value}
def YStep(P:Program)(ops:Array Oper)(us:List (Upd×List Nat))(anc:Nat→Nat→Bool)(nx n:Nat)(fr0:Nat→Option AV)(hp0:Nat→Option ABlk)(X:List Nat→(Nat→Prop)→Base→(Nat→Option (Nat×Nat))→Act→World→Prop)(j:Nat)(o:Oper)(u:Upd)(rd:List Nat):Prop:=
 (AStep P ops (nx+j) (stF ops us fr0 (List.range j)) (stH us hp0 (List.range j)) o u rd∧
  ∀σ M0 w0 β a w y w' β',j∉σ→a.tmps.size=n→X σ M0 w0 β a w→Mem M0 w0 β (stH us hp0 σ) w→mM M0 w0 β (stH us hp0 σ) w (nx+j) u y w' β'→X (σ++[j]) M0 w0 β' (a.put o.dst y) w')∨
 (o.guard=none∧(∀c,o.op≠ .defer c)∧∀σ M0 w0 β a w,j∉σ→(∀i,anc i j=true→i∈σ)→(∀t∈lQ ops o,stF ops us fr0 σ t=stF ops us fr0 (List.range j) t)→a.tmps.size=n→Mem M0 w0 β (stH us hp0 σ) w→
  (∀t x,stF ops us fr0 σ t=some x→RV (MM M0 β (stH us hp0 σ)) β w x (gq w0 a t))→β (nx+j)=none→nx+j≠0→X σ M0 w0 β a w→
  ∃f xs,(execOp a.eval o).run P w= .ok (.enter f xs) w∧Calls P f xs w fun e w'=> ∃y M0' w0' β',e= .returned y∧
   Mem M0' w0' β' (gT (stH us hp0 σ) u.blk) w'∧w0'.gh=w0.gh∧RV (MM M0' β' (gT (stH us hp0 σ) u.blk)) β' w' u.val y∧StabC (MM M0 β (stH us hp0 σ)) (MM M0' β' (gT (stH us hp0 σ) u.blk)) β β' w w'∧(∀i,i≠nx+j→β' i=β i)∧(∀ds,DefOK ds w0 w→DefOK ds w0' w')∧
   X (σ++[j]) M0' w0' β' (a.put o.dst y) w')
theorem FE (hm:P.follows .mixedOrders=true) (hanc:AncOK ops anc) (hok:oM ops us anc=true)
    (hsteps:∀j o,ops[j]?=some o→∃u rd,us[j]?=some (u,rd)∧(∀d,o.dst=some d→d< n)∧YStep P ops us anc nx n fr0 hp0 X j o u rd)
    {a:Act} {w:World} (hdrew:∀M0 w0 β,X [] M0 w0 β a w→X [] M0 w0 β a w.drew)
    (hrel:FX gh fr0 hp0 (fun i=>nx≤i) n (X []) a w)
    (hQ:∀σ a' w',σ.Nodup→(∀j,j< ops.size→j∈σ)→(∀j∈σ,j< ops.size)→FX gh (stF ops us fr0 (List.range ops.size)) (stH us hp0 (List.range ops.size)) (fun i=>nx+ops.size≤i) n (X σ) a' w'→Q .normal a' w'):
    (Code.region rid ops true).wpIn (FR ρ) 0 P Q a w:=by
 refine wpIn_region_any hm ?_
 have main:∀(fuel:Nat) (σ:List Nat) (listed:Array Bool) (a:Act) (w:World),Topo anc ops.size σ→σ.Nodup→listed.size=ops.size→(∀j,j< ops.size→(listed.getD j true=true↔j∈σ)∧(listed.getD j false=true↔j∈σ))→
     ((List.range ops.size).filter fun j=>!σ.contains j).length≤fuel→FX gh (stF ops us fr0 σ) (stH us hp0 σ) (fun i=>nx≤i∧∀j∈σ,i≠nx+j) n (X σ) a w→
     wpAnyIn (FR ρ) 0 P .any ops Q fuel listed a w:=by
  have fin:∀(σ:List Nat) (a:Act) (w:World),Topo anc ops.size σ→σ.Nodup→(∀j,j< ops.size→j∈σ)→FX gh (stF ops us fr0 σ) (stH us hp0 σ) (fun i=>nx≤i∧∀j∈σ,i≠nx+j) n (X σ) a w→Q .normal a w:=by
   intro σ a w ht nd hall hr;refine hQ σ a w nd hall ht.lt ?_
   have e1:stF ops us fr0 σ=stF ops us fr0 (List.range ops.size):=by
    funext t;refine wx σ _ t (ht.filter nd (fun i hi _=>hall i hi) (fun i hi _ hiσ=>by have:=ht.lt i hiσ;omega) fun i k hik hk h1 h2=>lL hok hik hk (by simpa using h1) (by grind))
   have e2:stH us hp0 σ=stH us hp0 (List.range ops.size):=by
    funext t;refine ww σ _ t (ht.filter nd (fun i hi _=>hall i hi) (fun i hi _ hiσ=>by have:=ht.lt i hiσ;omega) fun i k hik hk h1 h2=>oK hok hik hk (by simpa using h1) (by simpa using h2))
   rw[←e1,←e2];obtain⟨M0,w0,β,h1,hg,h2,h3,h4,h5⟩:=hr;exact⟨M0,w0,β,h1,hg,h2,h3,fun i hi=>h4 i ⟨by omega,fun j hj=>by have:=ht.lt j hj;omega⟩,h5⟩
  have allIn:∀(σ:List Nat) (listed:Array Bool),(∀j,j< ops.size→(listed.getD j true=true↔j∈σ)∧(listed.getD j false=true↔j∈σ))→Region.ready .any ops listed=[]→∀j,j< ops.size→j∈σ:=by
   intro σ listed hl hr j
   induction j using Nat.strongRecOn with
   |_ j ih=>
    intro hj;by_cases hjσ:j∈σ;exact hjσ;exfalso
    have hmem:j∈Region.ready .any ops listed:=by
     refine mem_ready.2 ⟨?_,ops[j],Array.getElem?_eq_getElem hj,fun e he hb=>?_⟩;cases hh:listed.getD j true with
     |false=>rfl
     |true=>exact absurd ((hl j hj).1.1 hh) hjσ
     have hlt:=hanc.back j _ (Array.getElem?_eq_getElem hj) e he hb;exact(hl e.on (by omega)).2.2 (ih e.on hlt (by omega))
    rw[hr] at hmem;cases hmem
  intro fuel
  induction fuel with
  |zero=>
   intro σ listed a w ht nd hsz hl hf hr
   have hall:∀j,j< ops.size→j∈σ:=by
    intro j hj;by_cases hjσ:j∈σ;exact hjσ;exfalso;have:j∈(List.range ops.size).filter fun j=>!σ.contains j:=List.mem_filter.2 ⟨List.mem_range.2 hj,by simpa using hjσ⟩;rw[List.eq_nil_of_length_eq_zero (Nat.le_zero.1 hf)] at this;cases this
   refine⟨?_,fin σ a w ht nd hall hr⟩;rw[List.eq_nil_iff_forall_not_mem];intro j hj;obtain⟨h0,o,ho,_⟩:=mem_ready.1 hj;have hlt:j< ops.size:=(Array.getElem?_eq_some_iff.1 ho).1;rw[(hl j hlt).1.2 (hall j hlt)] at h0;cases h0
  |succ fuel ih=>
   intro σ listed a w ht nd hsz hl hf hr;refine⟨fun h0=>fin σ a w ht nd (allIn σ listed hl h0) hr,fun j hj=>?_⟩;obtain⟨h0,o,ho,hedges⟩:=mem_ready.1 hj;have hlt:j< ops.size:=(Array.getElem?_eq_some_iff.1 ho).1;have hjσ:j∉σ:=fun h=>by rw[(hl j hlt).1.2 h] at h0;cases h0
   have hready:∀i,anc i j=true→i∈σ:=hanc.ready σ j o ht.closed ho fun e he hb=>(hl e.on (by have:=hanc.back j o ho e he hb;omega)).2.1 (hedges e he hb);obtain⟨u,rd,hu,hdst,hstep⟩:=hsteps j o ho;have hd1:dst? ops j=o.dst:=by simp[dst?,ho]
   have hv1:val? us j=u.val:=by simp[val?,hu]
   have hb1:blk? us j=u.blk:=by simp[blk?,hu]
   have ht':Topo anc ops.size (σ++[j]):=by
    refine⟨fun x hx=>?_,List.pairwise_append.2 ⟨ht.pw,List.pairwise_singleton _ _,fun x hx y hy=>?_⟩,fun x hx b hb=>?_⟩;rcases List.mem_append.1 hx with h|h
    exact ht.lt x h;rw[List.mem_singleton.1 h];exact hlt;rw[List.mem_singleton.1 hy];cases hh:anc j x with
    |false=>rfl
    |true=>exact absurd (ht.closed x hx j hh) hjσ
    rcases List.mem_append.1 hx with h|h
    exact List.mem_append_left _ (ht.closed x h b hb);rw[List.mem_singleton.1 h] at hb;exact List.mem_append_left _ (hready b hb)
   have nd':(σ++[j]).Nodup:=List.nodup_append.2 ⟨nd,by simp,fun x hx y hy e=>by rw[List.mem_singleton.1 hy] at e;exact hjσ (e▸hx)⟩
   have hl':∀i,i< ops.size→((listed.setIfInBounds j true).getD i true=true↔i∈σ++[j])∧((listed.setIfInBounds j true).getD i false=true↔i∈σ++[j]):=by
    intro i hi;by_cases hij:j=i;subst hij;simp[Array.getD_eq_getD_getElem?,hsz,hlt];rw[getD_set_ne _ hij,getD_set_ne _ hij,List.mem_append,List.mem_singleton];have:=hl i hi;exact⟨this.1.trans ⟨.inl,fun h=>h.resolve_right fun e=>hij e.symm⟩,this.2.trans ⟨.inl,fun h=>h.resolve_right fun e=>hij e.symm⟩⟩
   have hf':((List.range ops.size).filter fun i=>!(σ++[j]).contains i).length≤fuel:=by
    have:=qD (p:=fun i=>!σ.contains i) (q:=fun i=>!(σ++[j]).contains i) (List.mem_range.2 hlt) (by simpa using hjσ) (by simp) (fun x hx=>by simp at hx⊢;exact hx.1);omega
   obtain⟨M0,w0,β,mem,hgh,hn,hfr,hfree,hdef,hX⟩:=hr
   obtain⟨hidn,hid0⟩:=hfree (nx+j) ⟨by omega,fun i hi e=>by have:j=i:=by omega
                                                            exact hjσ (this▸hi)⟩
   -- behind the operation
   have go:∀y w' M0' w0' β',Mem M0' w0' β' (gT (stH us hp0 σ) u.blk) w'→w0'.gh=w0.gh→RV (MM M0' β' (gT (stH us hp0 σ) u.blk)) β' w' u.val y→StabC (MM M0 β (stH us hp0 σ)) (MM M0' β' (gT (stH us hp0 σ) u.blk)) β β' w w'→(∀i,i≠nx+j→β' i=β i)→DefOK a.defers w0' w'→X (σ++[j]) M0' w0' β' (a.put o.dst y) w'→wpAnyIn (FR ρ) 0 P .any ops Q fuel (listed.setIfInBounds j true) (a.put o.dst y) w':=by
    intro y w' M0' w0' β' m' hg2 hy st hβ hd2 hX';refine ih (σ++[j]) _ _ w' ht' nd' (by simpa using hsz) hl' hf' ⟨M0',w0',β',?_,hg2.trans hgh,?_,fun t x hx=>?_,fun i hi=>?_,?_,hX'⟩;rw[gX,hb1];exact m';cases o.dst <;> simp[Act.put,hn];rw[kP,hd1,hv1] at hx;rw[gX,hb1,yl hg2];cases hdst2:o.dst with
    |none=>rw[hdst2] at hx;have e:gq w0 (a.put none y) t=gq w0 a t:=rfl
           rw[e];exact st.all (hfr t x hx)
    |some d=>
     rw[hdst2] at hx;rw[o9 (by rw[hn];exact hdst d hdst2)];simp only[yG,upd] at hx;split at hx
     ·rename_i htd;rw[if_pos htd];cases hx;exact hy
     ·rename_i htd;rw[if_neg htd];exact st.all (hfr t x hx)
    have hne:i≠nx+j:=hi.2 j (by simp);rw[hβ i hne];exact hfree i ⟨hi.1,fun k hk=>hi.2 k (List.mem_append_left _ hk)⟩;have:(a.put o.dst y).defers=a.defers:=by cases o.dst <;> rfl
    rw[this];exact hd2
   unfold wpOpIn;simp only[ho];rcases hstep with⟨hstep,hkeep⟩|⟨hg,hnd,hx⟩
   have hlk:lk? ops j=lQ ops o:=by simp[lk?,ho]
   have hrd:rd? us j=rd:=by simp[rd?,hu]
   have hstep':AStep P ops (nx+j) (stF ops us fr0 σ) (stH us hp0 σ) o u rd:=hstep.congr
    (fun t htl=>Ck hok ht nd hlt hjσ hready (fun i k t h1 h2 h3 h4=>lL hok h1 h2 h3 h4) (by rw[hlk];exact htl))
    (fun b hb=>HI hok ht nd hlt hjσ hready (fun i k b h1 h2 h3 h4=>oK hok h1 h2 h3 h4) (by rw[hrd];exact hb))
   exact hstep'.simF mem hfr hidn hid0 fun y w' β' haft=>go y w' M0 w0 β' haft.1 rfl haft.2.1 haft.2.2.1.toStabC haft.2.2.2 (hdef.stab haft.2.2.1) (hkeep σ M0 w0 β a w y w' β' hjσ hn hX mem haft);have hagree:∀t∈lQ ops o,stF ops us fr0 σ t=stF ops us fr0 (List.range j) t:=fun t htl=>Ck hok ht nd hlt hjσ hready (fun i k t h1 h2 h3 h4=>lL hok h1 h2 h3 h4) (by rw[show lk? ops j=lQ ops o by simp[lk?,ho]];exact htl);obtain⟨f,xs,hrun,hcalls⟩:=hx σ M0 w0 β a w hjσ hready hagree hn mem hfr hidn hid0 hX;rw[if_pos (by simp[Region.wanted,hg])];refine⟨fun _ _=>trivial,?_⟩;rw[Oper.semAt_eq _ _ _ hnd,hrun];refine⟨fun hh=>by simp[FR] at hh,sr (hcalls.mono ?_)⟩;rintro e w' ⟨y,M0',w0',β',rfl,x1,x2,x3,x4,x5,x6,hX'⟩;exact go y w' M0' w0' β' x1 x2 x3 x4 x5 (x6 _ hdef) hX'
 refine main ops.size [] _ a _ ⟨by simp,List.Pairwise.nil,by simp⟩ List.nodup_nil (by simp) ?_ ?_ ?_;intro j hj;simp[Array.getD_eq_getD_getElem?,hj];exact Nat.le_trans (List.length_filter_le _ _) (by simp);obtain⟨M0,w0,β,h1,hg,h2,h3,h4,h5,h6⟩:=hrel;have hmx:=h1.ext ((Below.refl w.heap.size w).drew);exact⟨M0,w0,β,hmx.1,hg,h2,fun t x hx=>hmx.2.all (h3 t x hx),fun i hi=>h4 i hi.1,h5.stab hmx.2,hdrew M0 w0 β h6⟩
end
def RunY(P:Program)(ops:Array Oper)(sp:Nat→Option AV)(C:Nat→(Nat→Option AV)→Prop)(nx:Nat):Nat→List Oper→AState→List (Upd×List Nat)→AState→Prop
 |_,[],st,us,st'=>us=[]∧st'=st
 |j,o::rest,st,us,st'=> ∃u rd us',us=(u,rd)::us'∧(∀x,sp j=some x→u=⟨x,[]⟩∧rd=[]∧C j (look st.fr))∧(sp j=none→AStep P ops (nx+j) (look st.fr) (an st.hp) o u rd)∧(∀d,o.dst=some d→d< st.n)∧RunY P ops sp C nx (j+1) rest (st.step o.dst u) us' st'
theorem ri{P:Program}{ops:Array Oper}{sp:Nat→Option AV}{C:Nat→(Nat→Option AV)→Prop}{nx:Nat}:∀(rest:List Oper) (j:Nat) (st st':AState) (us us0:List (Upd×List Nat)) (fr0:Nat→Option AV) (hp0:Nat→Option ABlk),
    RunY P ops sp C nx j rest st us st'→us0.length=j→(∀i o,rest[i]?=some o→ops[j+i]?=some o)→look st.fr=stF ops (us0++us) fr0 (List.range j)→an st.hp=stH (us0++us) hp0 (List.range j)→
    (∀i o,rest[i]?=some o→∃u rd,(us0++us)[j+i]?=some (u,rd)∧(∀x,sp (j+i)=some x→u=⟨x,[]⟩∧rd=[]∧C (j+i) (stF ops (us0++us) fr0 (List.range (j+i))))∧(sp (j+i)=none→AStep P ops (nx+(j+i)) (stF ops (us0++us) fr0 (List.range (j+i))) (stH (us0++us) hp0 (List.range (j+i))) o u rd)∧∀d,o.dst=some d→d< st.n)∧
    look st'.fr=stF ops (us0++us) fr0 (List.range (j+rest.length))∧an st'.hp=stH (us0++us) hp0 (List.range (j+rest.length))∧st'.n=st.n
 |[],j,st,st',us,us0,fr0,hp0,h,_,_,hF,hH=>by
  obtain⟨rfl,rfl⟩:=h;grind
 |o::rest,j,st,st',us,us0,fr0,hp0,h,hl,hops,hF,hH=>by
  obtain⟨u,rd,a,rfl,r,m,c,e⟩:=h;have b:us0++(u,rd)::a=(us0++[(u,rd)])++a:=by simp
  have f:(us0++(u,rd)::a)[j]?=some (u,rd):=by grind
  have D:ops[j]?=some o:=hops 0 o rfl
  have q:look (st.step o.dst u).fr=stF ops ((us0++[(u,rd)])++a) fr0 (List.range (j+1)):=by
   rw[←b,List.range_succ,kP,←hF];simp only[AState.step,mY,dst?,D,val?,f,Option.bind_some,Option.map_some,Option.getD_some]
  have g:an (st.step o.dst u).hp=stH ((us0++[(u,rd)])++a) hp0 (List.range (j+1)):=by
   rw[←b,List.range_succ,gX,←hH];simp only[AState.step,j9,blk?,f,Option.map_some,Option.getD_some]
  obtain⟨y,s,v,A⟩:=ri rest (j+1) (st.step o.dst u) st' a (us0++[(u,rd)]) fr0 hp0 e (by simp[hl]) (fun i k h=>by
   have:=hops (i+1) k (by simpa using h);rwa[show j+(i+1)=j+1+i by omega] at this) q g
  rw[←b] at y s v;refine⟨fun i k p=>?_,?_,?_,A⟩;cases i with
  |zero=>
   simp only[List.getElem?_cons_zero,Option.some.injEq] at p;subst p;refine⟨u,rd,by simpa using f,fun x h=>?_,fun h=>?_,c⟩;rw[Nat.add_zero,←hF];exact r x h;rw[Nat.add_zero,←hF,←hH];exact m h
  |succ i=>
   obtain⟨B,l,h1,w,t,z⟩:=y i k (by simpa using p);rw[show j+1+i=j+(i+1) by omega] at h1 w t;exact⟨B,l,h1,w,t,z⟩
  rw[s,show j+1+rest.length=j+(o::rest).length by simp;omega];rw[v,show j+1+rest.length=j+(o::rest).length by simp;omega]
def AY(P:Program)(ops:Array Oper)(sp:Nat→Option AV)(C:Nat→(Nat→Option AV)→Prop)(nx n j:Nat)(rest:List Oper)(fr:Fr)(hp:Hp)(K:Fps→Fr→Hp→Prop):Prop:=
 ∃us st',RunY P ops sp C nx j rest ⟨fr,hp,nx,n⟩ us st'∧K (us.map fp) st'.fr st'.hp
section
variable {P:Program}{ops:Array Oper}{spf:Nat→Option AV}{C:Nat→(Nat→Option AV)→Prop}{nx n j:Nat}{rest:List Oper}{fr:Fr}{hp:Hp}{K:Fps→Fr→Hp→Prop}
variable {d:Nat}{op:Op}{ty:Nat}{pos:String}{after:Array Edge}{a:AV}{p q:Nat×Option ABlk}{rd:List Nat}
theorem AY.nil(h:K [] fr hp):AY P ops spf C nx n j [] fr hp K:=⟨[],_,⟨rfl,rfl⟩,h⟩
theorem AY.cons {dst:Option Nat} {guard:Option (Nat×Bool)} {u:Upd} {rd:List Nat}
    (hs1:∀x,spf j=some x→u=⟨x,[]⟩∧rd=[]∧C j (look fr)) (hs2:spf j=none→AStep P ops (nx+j) (look fr) (an hp) ⟨dst,op,ty,pos,after,guard⟩ u rd) (hd:(match dst with|some d=>Nat.blt d n|none=>true)=true)
    (h:AY P ops spf C nx n (j+1) rest (FI fr dst u.val) (u.blk.reverse++hp) fun fps f h=>K ((u.blk.map (·.1),rd)::fps) f h):AY P ops spf C nx n j (⟨dst,op,ty,pos,after,guard⟩::rest) fr hp K:=by
 obtain⟨us,b,h1,c⟩:=h;refine⟨(u,rd)::us,b,⟨u,rd,us,rfl,hs1,hs2,fun d a=>?_,h1⟩,c⟩;subst a;simp_all
theorem AY.op0 (hs:AEval P (nx+j) (evF (look fr)) (an hp) op ⟨a,[]⟩ rd) (hnd:bO op=true) (hd:Nat.blt d n=true)
    (h:AY P ops spf C nx n (j+1) rest ((d,a)::fr) hp fun fps f h=>K (([],rd)::fps) f h) (hsp:spf j=none:=by rfl):AY P ops spf C nx n j (⟨some d,op,ty,pos,after,none⟩::rest) fr hp K:=
 AY.cons (fun x e=>by grind) (fun _=>⟨bm hnd,hs⟩) hd h
theorem AY.op1 (hs:AEval P (nx+j) (evF (look fr)) (an hp) op ⟨a,[p]⟩ rd) (hnd:bO op=true) (hd:Nat.blt d n=true)
    (h:AY P ops spf C nx n (j+1) rest ((d,a)::fr) (p::hp) fun fps f h=>K (([p.1],rd)::fps) f h) (hsp:spf j=none:=by rfl):AY P ops spf C nx n j (⟨some d,op,ty,pos,after,none⟩::rest) fr hp K:=
 AY.cons (fun x e=>by grind) (fun _=>⟨bm hnd,hs⟩) hd h
theorem AY.on1 {u:AV} (hs:AEval P (nx+j) (evF (look fr)) (an hp) op ⟨u,[p]⟩ rd) (hnd:bO op=true)
    (h:AY P ops spf C nx n (j+1) rest fr (p::hp) fun fps f h=>K (([p.1],rd)::fps) f h) (hsp:spf j=none:=by rfl):AY P ops spf C nx n j (⟨none,op,ty,pos,after,none⟩::rest) fr hp K:=
 AY.cons (fun x e=>by grind) (fun _=>⟨bm hnd,hs⟩) rfl h
theorem AY.sp{x:AV}(hd:Nat.blt d n=true)(hsp:spf j=some x)(hC:C j (look fr))(h:AY P ops spf C nx n (j+1) rest ((d,x)::fr) hp fun fps f h=>K (([],[])::fps) f h):AY P ops spf C nx n j (⟨some d,op,ty,pos,after,none⟩::rest) fr hp K:=
 AY.cons (u:=⟨x,[]⟩) (rd:=[]) (fun z a=>by grind) (fun e=>by grind) hd h
end
theorem XSpecT.x{P:Program}{f:Nat}{args:List AV}{hp hp':Hp}{nx nx':Nat}{v:AV}(h:XSpecT P f args hp nx v hp' nx'):XSpec P f args hp nx v hp' nx':=
 ⟨h.enters,fun M g β vals h1 i k j=>(h.calls M g β vals h1 i k j).mono fun _ _ ⟨y,e,a,b,c,d,_⟩=>⟨y,e,a,b,c,d⟩⟩
def ArgsB(ev:Operand→Option AV)(t0:Nat)(v:AV):List Operand→List AV→Prop
 |[],as=>as=[]
 |x::xs,as=> ∃a as',as=a::as'∧((x= .tmp t0∧a=v)∨(ev x=some a∧Closed a))∧ArgsB ev t0 v xs as'
theorem ArgsB.nil{ev:Operand→Option AV}{t0:Nat}{v:AV}:ArgsB ev t0 v [] []:=rfl
theorem ArgsB.own{ev:Operand→Option AV}{t0:Nat}{v:AV}{xs:List Operand}{as:List AV}(h:ArgsB ev t0 v xs as):ArgsB ev t0 v (.tmp t0::xs) (v::as):=⟨_,_,rfl,.inl ⟨rfl,rfl⟩,h⟩
theorem ArgsB.clo{ev:Operand→Option AV}{t0:Nat}{v a:AV}{x:Operand}{xs:List Operand}{as:List AV}(h1:ev x=some a)(h2:Closed a)(h:ArgsB ev t0 v xs as):ArgsB ev t0 v (x::xs) (a::as):=⟨_,_,rfl,.inr ⟨h1,h2⟩,h⟩
theorem ArgsB.congr{ev ev':Operand→Option AV}{t0:Nat}{v:AV}:∀{xs:List Operand} {as:List AV},(∀x∈xs,ev' x=ev x)→ArgsB ev t0 v xs as→ArgsB ev' t0 v xs as
 |[],_,_,h=>h
 |x::xs,_,he,⟨a,as',e,h1,h2⟩=>⟨a,as',e,h1.imp id fun⟨c,b⟩=>⟨(he x (List.mem_cons_self ..)).trans c,b⟩,ArgsB.congr (fun z d=>he z (List.mem_cons_of_mem _ d)) h2⟩
theorem ArgsB.rvs{ev:Operand→Option AV}{t0:Nat}{v:AV}{M MB:Nat→Prop}{β βS:Nat→Option (Nat×Nat)}{w:World}{ρ:Operand→Value}(hv:RV MB βS w v (ρ (.tmp t0)))(hm:∀b N,aN w b=some N→MB b→M b):
    ∀{xs:List Operand} {as:List AV},(∀x∈xs,∀a,ev x=some a→RV M β w a (ρ x))→ArgsB ev t0 v xs as→RVs MB βS w as (xs.map ρ)
 |[],_,_,h=>by cases h;rfl
 |x::xs,_,he,⟨a,as',e,h1,h2⟩=>by
  subst e;refine⟨_,_,rfl,?_,ArgsB.rvs hv hm (fun z c=>he z (List.mem_cons_of_mem _ c)) h2⟩;rcases h1 with⟨rfl,rfl⟩|⟨f,d⟩
  exact hv;exact wK d (he x (List.mem_cons_self ..) a f) (fun _ _ _ _=>rfl) hm fun _ _ h=>h
structure PkgS (M00:Nat→Prop)(w00:Base)(hpA:Hp)(nxA:Nat)(v:AV)(t0:Nat)(βS:Nat→Option (Nat×Nat))(M0:Nat→Prop)(w0:Base)(M:Nat→Prop)(a:Act)(w:World):Prop where
 m:∀b,M0 b↔M00 b∨∃i s,βS i=some (b,s)
 k:∀b,w0.K b↔w00.K b∨∃i s,βS i=some (b,s)
 rng:∀i b s,βS i=some (b,s)→w00.w.heap.size≤b∧b< w.heap.size
 live:∀i x,βS i=some x→(an hpA i).isSome=true
 blk:∀i B,an hpA i=some B→∃b,βS i=some (b,B.sz)∧BlkAt M βS w b B
 inj:∀i j B B' b s s',an hpA i=some B→an hpA j=some B'→βS i=some (b,s)→βS j=some (b,s')→i=j
 free:∀i,nxA≤i→βS i=none∧i≠0
 zero:(an hpA 0).isSome=true→False
 val:RV M βS w v (a.tmps.getD t0 undef)
structure XP (jA jB t0:Nat)(v:AV)(hpA:Hp)(nxA:Nat)(M00:Nat→Prop)(w00:Base)(H:List Nat→Nat→Option ABlk)(σ:List Nat)(M0:Nat→Prop)(w0:Base)(β:Nat→Option (Nat×Nat))(a:Act)(w:World):Prop where
 kept:w00.Kept w
 m00:∀b,M00 b→w00.K b∧b≠GT
 pin:w0.pin=w00.pin
 dep:jB∈σ→jA∈σ
 no:jA∉σ∨jB∈σ→(∀b,M0 b↔M00 b)∧(∀b,w0.K b↔w00.K b)
 yes:jA∈σ→jB∉σ→∃βS,PkgS M00 w00 hpA nxA v t0 βS M0 w0 (MM M0 β (H σ)) a w
theorem Stab.size{M M':Nat→Prop}{β β':Nat→Option (Nat×Nat)}{w w':World}(st:Stab M M' β β' w w'):w.heap.size≤w'.heap.size:=by
 by_cases hw:w.heap.size=0;omega;obtain⟨k,b⟩:∃k,w.heap.size=k+1:=⟨w.heap.size- 1,by omega⟩;by_cases hs:∃N,aN w k=some N;obtain⟨N,hN⟩:=hs;have:=b4 (st.sz k N hN);omega
 have a:aN w k=none:=by
  cases hz:aN w k with
  |none=>rfl
  |some N=>grind
 have c:=st.oth k (by omega) a;grind
section
variable {P:Program}{jA jB t0 j id nxA:Nat}{v:AV}{hpA:Hp}{M00 M0:Nat→Prop}{w00 w0:Base}{H:List Nat→Nat→Option ABlk}{σ:List Nat}{β β':Nat→Option (Nat×Nat)}{a:Act}{w w':World}{u:Upd}{y:Value}
theorem XP.sub(hX:XP jA jB t0 v hpA nxA M00 w00 H σ M0 w0 β a w):(∀b,w00.K b→w0.K b)∧∀b,M00 b→M0 b:=by
 by_cases h:jA∈σ;by_cases h2:jB∈σ;obtain⟨d,c⟩:=hX.no (.inr h2);exact⟨fun b hb=>(c b).2 hb,fun b hb=>(d b).2 hb⟩;obtain⟨e,p⟩:=hX.yes h h2;exact⟨fun b hb=>(p.k b).2 (.inl hb),fun b hb=>(p.m b).2 (.inl hb)⟩;obtain⟨d,c⟩:=hX.no (.inl h);grind
theorem XP.ordinary {dst:Option Nat} (h1:j≠jA) (h2:j≠jB) (hd:∀d,dst=some d→d≠t0) (hH:H (σ++[j])=gT (H σ) u.blk)
    (hX:XP jA jB t0 v hpA nxA M00 w00 H σ M0 w0 β a w) (mem:Mem M0 w0 β (H σ) w) (haf:mM M0 w0 β (H σ) w id u y w' β'):XP jA jB t0 v hpA nxA M00 w00 H (σ++[j]) M0 w0 β' (a.put dst y) w':=by
 obtain⟨g,_,st,_⟩:=haf;have hA:jA∈σ++[j]↔jA∈σ:=⟨fun h=>jk h (Ne.symm h1),fun h=>List.mem_append_left _ h⟩;have hB:jB∈σ++[j]↔jB∈σ:=⟨fun h=>jk h (Ne.symm h2),fun h=>List.mem_append_left _ h⟩;have n:∀b,w0.K b→w'.heap[b]?=w.heap[b]?:=fun b hb=>(g.below.block b hb).trans (mem.below.block b hb).symm
 refine⟨⟨g.below.os.trans (mem.below.os.symm.trans hX.kept.os),g.below.tape.trans (mem.below.tape.symm.trans hX.kept.tape),g.below.output.trans (mem.below.output.symm.trans hX.kept.output),Nat.le_trans hX.kept.size st.size,fun b hb=>(n b (hX.sub.1 b hb)).trans (hX.kept.block b hb),fun b k hb=>st.sz b k (hX.kept.sizes b k hb)⟩,hX.m00,hX.pin,
  fun h=>hA.2 (hX.dep (hB.1 h)),fun h=>hX.no (h.imp (fun h x=>h (hA.2 x)) hB.1),fun h o=>?_⟩
 obtain⟨l,p⟩:=hX.yes (hA.1 h) fun x=>o (hB.2 x);have c:StabC (MM M0 β (H σ)) (MM M0 β' (H (σ++[j]))) l l w w':=⟨st.heap,by rw[hH];exact st.m,fun _ _ h=>h,st.sz⟩;refine⟨l,p.m,p.k,fun i b s f=>⟨(p.rng i b s f).1,Nat.lt_of_lt_of_le (p.rng i b s f).2 st.size⟩,p.live,fun i B f=>?_,p.inj,p.free,p.zero,?_⟩;obtain⟨b,e1,e2⟩:=p.blk i B f;exact⟨b,e1,e2.stab c (n b ((p.k b).2 (.inr ⟨i,_,e1⟩)))⟩
 have e:(a.put dst y).tmps.getD t0 undef=a.tmps.getD t0 undef:=by
  cases dst with
  |none=>rfl
  |some d=>exact oH (hd d rfl).symm
 rw[e];exact c.all p.val
theorem XP.make {g nx0:Nat} {as asA:List AV} {vals:List Value} (hX:XP jA jB t0 v hpA nxA M00 w00 H σ M0 w0 β a w) (mem:Mem M0 w0 β (H σ) w) (hj:jA∉σ) (hAB:jA≠jB) (hn:t0< a.tmps.size) (hH:H (σ++[jA])=H σ) (h0:1≤nx0)
    (X1:XSpecT P g asA [] nx0 v hpA nxA) (hargs:RVs (MM M0 β (H σ)) β w as vals) (hcl:∀x∈as,Closed x) (hco:as.map coe=asA):
    Calls P g vals.toArray w fun e w'=> ∃y M0' w0' β',e= .returned y∧Mem M0' w0' β' (H σ) w'∧w0'.gh=w0.gh∧RV (MM M0' β' (H σ)) β' w' .any y∧StabC (MM M0 β (H σ)) (MM M0' β' (H σ)) β β' w w'∧(∀i,i≠id→β' i=β i)∧(∀ds,DefOK ds w0 w→DefOK ds w0' w')∧
     XP jA jB t0 v hpA nxA M00 w00 H (σ++[jA]) M0' w0' β' (a.put (some t0) y) w':=by
 have e0:∀(M:Nat→Prop) (b:Nat→Option (Nat×Nat)),MM M b (an [])=M:=fun M b=>by funext c;simp[MM,an,look]
 let wc:Base:=⟨w,fun b=>b< w.heap.size,fun _ h=>h,none,fun _=>undef,mem.tab.lt,mem.tab⟩
 have t:Mem (MM M0 β (H σ)) wc (fun _=>none) (an []) w:=⟨⟨rfl,rfl,rfl,Nat.le_refl _,fun _ _=>rfl,fun _ _ h=>h⟩,fun b hb=>⟨mem.lt hb,fun e=>by
  rcases hb with hb|⟨i,B,s,_,d⟩
  exact(mem.m0 b hb).2 e;rw[e] at d;exact mem.gtn i s d⟩,(fun _ _ _ h=>by cases h),(fun h=>by cases h),(fun _ _ h=>by cases h),fun _ _ _ _ _ _ _ h=>by simp⟩
 refine(X1.calls (MM M0 β (H σ)) wc (fun _=>none) vals rfl t (fun i d=>⟨rfl,by omega⟩) (by rw[e0];exact hco▸fX (c7 hcl hargs))).mono ?_;rintro e w' ⟨y,o,rfl,m,V,q,n⟩;have j:∀b,b< w.heap.size→w'.heap[b]?=w.heap[b]?:=fun b hb=>m.below.block b hb;have r:w.heap.size≤w'.heap.size:=m.below.size;have f:∀i b s,o i=some (b,s)→w.heap.size≤b∧b< w'.heap.size:=fun i b s d=>⟨Nat.le_of_not_lt (m.rng i b s d).1,(m.rng i b s d).2⟩;obtain⟨O,J⟩:=hX.no (.inl hj);have U:∀b,w0.K b→b< w.heap.size:=fun b hb=>Nat.lt_of_lt_of_le (w0.lt b hb) mem.below.size;have Q:=mem.tab.lt
 let M0':Nat→Prop:=fun b=>M0 b∨∃i s,o i=some (b,s)
 let w0':Base:=⟨w',fun b=>w0.K b∨∃i s,o i=some (b,s),fun b hb=>by
  grind,w0.pin,w0.gh,.inl w0.kt,mem.tab.congr (j GT mem.tab.lt)⟩
 have st:StabC (MM M0 β (H σ)) (MM M0' β (H σ)) β β w w':=by
  refine⟨fun b N hb _=>j b (b4 hb),fun b N hb l=>?_,fun _ _ h=>h,fun b N hb=>(dW (j b (b4 hb))).trans hb⟩;rcases l with(l|⟨i,s,d⟩)|l
  exact .inl l;have:=b4 hb;have:=(f i b s d).1;omega;exact .inr l
 have G:StabC (MM (MM M0 β (H σ)) o (an hpA)) (MM M0' β (H (σ++[jA]))) o o w' w':=by
  refine⟨fun _ _ _ _=>rfl,fun b N _ l=>?_,fun _ _ h=>h,fun _ _ h=>h⟩;rw[hH] at l;rcases l with(l|⟨i,s,d⟩)|l
  exact .inl (.inl l);obtain⟨B,hB⟩:=Option.isSome_iff_exists.1 (n i _ d);exact .inr ⟨i,B,s,hB,d⟩;exact .inl (.inr l)
 have E:∀b,w00.K b→b< w.heap.size:=fun b hb=>U b ((J b).2 hb);refine⟨y,M0',w0',β,rfl,⟨⟨rfl,rfl,rfl,Nat.le_refl _,fun _ _=>rfl,fun _ _ h=>h⟩,fun b hb=>⟨hb.imp (fun h=>(mem.m0 b h).1) fun h=>h,fun e=>?_⟩,fun i b s d=>⟨fun p=>?_,Nat.lt_of_lt_of_le (mem.rng i b s d).2 r⟩,mem.pin,fun i B d=>?_,mem.inj⟩,rfl,trivial,st,fun _ _=>rfl,fun ds z=>?_,?_⟩;rcases hb with hb|⟨i,s,d⟩
 exact(mem.m0 b hb).2 e;have:=(f i b s d).1;omega;rcases p with p|⟨T,R,C⟩
 exact(mem.rng i b s d).1 p;have:=(f T b R C).1;have:=(mem.rng i b s d).2;omega;obtain⟨b,e1,e2⟩:=mem.blk i B d;exact⟨b,e1,e2.stab st (j b (mem.rng i b _ e1).2)⟩;obtain⟨W,d1,d2,L⟩:=z;refine⟨W,d1,d2,fun D S=>?_⟩;obtain⟨e1,e2⟩:=L D S;have A:=(Array.getElem?_eq_some_iff.1 e1).1;refine⟨by rw[j D A];exact e1,fun p=>?_⟩;rcases p with p|⟨i,s,d⟩
 exact e2 p;have:=(f i D s d).1;omega;have u:jB∉σ++[jA]:=fun h=>hj (hX.dep (jk h (Ne.symm hAB)));refine⟨⟨m.below.os.trans hX.kept.os,m.below.tape.trans hX.kept.tape,m.below.output.trans hX.kept.output,Nat.le_trans hX.kept.size r,fun b hb=>(j b (E b hb)).trans (hX.kept.block b hb),fun b k hb=>st.sz b k (hX.kept.sizes b k hb)⟩,hX.m00,hX.pin,fun _=>by simp,fun h=>?_,fun _ _=>?_⟩;rcases h with h|h
 exact absurd (by simp) h;exact absurd h u;refine⟨o,fun b=>or_congr (O b) Iff.rfl,fun b=>or_congr (J b) Iff.rfl,fun i b s d=>⟨Nat.le_trans hX.kept.size (f i b s d).1,(f i b s d).2⟩,n,fun i B d=>?_,m.inj,q,fun F=>?_,?_⟩;obtain⟨b,e1,e2⟩:=m.blk i B d;exact⟨b,e1,e2.stab G rfl⟩;obtain⟨B,hB⟩:=Option.isSome_iff_exists.1 F;obtain⟨b,e1,_⟩:=m.blk 0 B hB;have:=m.pin F;rw[e1] at this;cases this;rw[tp hn];exact G.all V
theorem XP.use {g nxB:Nat} {r:AV} {as asB:List AV} {xs:List Operand} {ev:Operand→Option AV} {dst:Option Nat} (hX:XP jA jB t0 v hpA nxA M00 w00 H σ M0 w0 β a w) (mem:Mem M0 w0 β (H σ) w) (hjA:jA∈σ) (hj:jB∉σ) (hH:H (σ++[jB])=H σ)
    (X2:XSpec P g asB hpA nxA r [] nxB) (hr:Closed r) (hev:∀x∈xs,∀z,ev x=some z→RV (MM M0 β (H σ)) β w z (a.eval x)) (hargs:ArgsB ev t0 v xs as) (hco:as.map coe=asB):
    Calls P g (xs.map a.eval).toArray w fun e w'=> ∃y M0' w0' β',e= .returned y∧Mem M0' w0' β' (H σ) w'∧w0'.gh=w0.gh∧RV (MM M0' β' (H σ)) β' w' r y∧StabC (MM M0 β (H σ)) (MM M0' β' (H σ)) β β' w w'∧(∀i,i≠id→β' i=β i)∧(∀ds,DefOK ds w0 w→DefOK ds w0' w')∧
     XP jA jB t0 v hpA nxA M00 w00 H (σ++[jB]) M0' w0' β' (a.put dst y) w':=by
 have e0:∀(M:Nat→Prop) (b:Nat→Option (Nat×Nat)),MM M b (an [])=M:=fun M b=>by funext c;simp[MM,an,look]
 obtain⟨j,p⟩:=hX.yes hjA hj
 let S:Nat→Prop:=fun b=> ∃i s,j i=some (b,s)
 let MB:Nat→Prop:=fun b=>MM M0 β (H σ) b∧¬S b
 have o:∀b,S b→M0 b:=fun b hb=>(p.m b).2 (.inr hb);have O:∀b,S b→w0.K b:=fun b hb=>(p.k b).2 (.inr hb);have J:¬S GT:=fun h=>(mem.m0 GT (o _ h)).2 rfl
 have Z:∀b,S b→∃i B s,an hpA i=some B∧j i=some (b,s):=fun b ⟨i,s,d⟩=>by
  obtain⟨B,hB⟩:=Option.isSome_iff_exists.1 (p.live i _ d);grind
 let wc:Base:=⟨w,fun b=>b< w.heap.size∧¬S b,fun _ h=>h.1,none,fun _=>undef,⟨mem.tab.lt,J⟩,mem.tab⟩
 have R:∀b,MM MB j (an hpA) b→MM M0 β (H σ) b:=by
  rintro b (hb|⟨i,B,s,_,d⟩);exact hb.1;exact .inl (o b ⟨i,s,d⟩)
 have Q:StabC (MM M0 β (H σ)) (MM MB j (an hpA)) j j w w:=⟨fun _ _ _ _=>rfl,fun b _ _ h=>R b h,fun _ _ h=>h,fun _ _ h=>h⟩
 have u:Mem MB wc j (an hpA) w:=⟨⟨rfl,rfl,rfl,Nat.le_refl _,fun _ _=>rfl,fun _ _ h=>h⟩,fun b hb=>⟨⟨mem.lt hb.1,hb.2⟩,fun e=>by
  rcases hb.1 with hb|⟨i,B,s,_,d⟩
  exact(mem.m0 b hb).2 e;rw[e] at d;exact mem.gtn i s d⟩,fun i b s d=>⟨fun F=>F.2 ⟨i,s,d⟩,(p.rng i b s d).2⟩,fun X=>(p.zero X).elim,fun i B d=>by
  obtain⟨b,e1,e2⟩:=p.blk i B d;exact⟨b,e1,e2.stab Q rfl⟩,p.inj⟩
 have hv:RVs (MM MB j (an hpA)) j w as (xs.map a.eval):=ArgsB.rvs (M:=MM M0 β (H σ)) (β:=β) (Q.all p.val) (fun b _ _ h=>R b h) hev hargs;refine(X2.calls MB wc j _ rfl u p.free (hco▸fX hv)).mono ?_;rintro e w' ⟨y,βB,rfl,q,T,_⟩;rw[e0] at T;have f:∀b,b< w.heap.size→¬S b→w'.heap[b]?=w.heap[b]?:=fun b h1 E=>q.below.block b ⟨h1,E⟩;have n:w.heap.size≤w'.heap.size:=q.below.size
 have C:∀b,w00.K b→¬S b:=fun b hb ⟨i,s,d⟩=>by
  have h1:=w00.lt b hb;have E:=(p.rng i b s d).1;omega
 have G:∀b,w00.K b→b< w.heap.size:=fun b hb=>Nat.lt_of_lt_of_le (w00.lt b hb) hX.kept.size;have l:∀i b s,β i=some (b,s)→¬S b:=fun i b s d h=>(mem.rng i b s d).1 (O b h)
 let w0':Base:=⟨w',w00.K,fun b hb=>Nat.lt_of_lt_of_le (G b hb) n,w0.pin,w0.gh,w00.kt,mem.tab.congr (f GT mem.tab.lt J)⟩
 have t:∀b,MM M00 β (H σ) b→MM M0 β (H σ) b∧¬S b:=by
  rintro b (hb|⟨i,B,s,h1,E⟩);exact⟨.inl ((p.m b).2 (.inl hb)),C b (hX.m00 b hb).1⟩;exact⟨.inr ⟨i,B,s,h1,E⟩,l i b s E⟩
 have st:StabC (MM M0 β (H σ)) (MM M00 β (H σ)) β β w w':=⟨fun b N hb A=>f b (b4 hb) fun h=>A (.inl (o b h)),fun b N _ A=>(t b A).1,fun _ _ h=>h,q.below.sizes⟩;refine⟨y,M00,w0',β,rfl,⟨⟨rfl,rfl,rfl,Nat.le_refl _,fun _ _=>rfl,fun _ _ h=>h⟩,hX.m00,fun i b s d=>⟨fun F=>(mem.rng i b s d).1 ((p.k b).2 (.inl F)),Nat.lt_of_lt_of_le (mem.rng i b s d).2 n⟩,mem.pin,fun i B d=>?_,mem.inj⟩,rfl,?_,st,fun _ _=>rfl,fun ds L=>?_,?_⟩;obtain⟨b,e1,e2⟩:=mem.blk i B d;exact⟨b,e1,e2.stab st (f b (mem.rng i b _ e1).2 (l i b _ e1))⟩;exact wK hr T (fun _ _ _ _=>rfl) (fun b _ _ A=>t b A) fun _ _ h=>h;obtain⟨Y,d1,d2,U⟩:=L;refine⟨Y,d1,d2,fun D W=>?_⟩;obtain⟨e1,e2⟩:=U D W;have V:=(Array.getElem?_eq_some_iff.1 e1).1;refine⟨by grind,fun F=>e2 ((p.k D).2 (.inl F))⟩;refine⟨⟨q.below.os.trans hX.kept.os,q.below.tape.trans hX.kept.tape,q.below.output.trans hX.kept.output,Nat.le_trans hX.kept.size n,fun b hb=>(f b (G b hb) (C b hb)).trans (hX.kept.block b hb),fun b k hb=>q.below.sizes b k (hX.kept.sizes b k hb)⟩,hX.m00,hX.pin,fun _=>List.mem_append_left _ hjA,fun _=>⟨fun _=>Iff.rfl,fun _=>Iff.rfl⟩,fun _ h=>absurd (by simp) h⟩
end
def Fi(jA jB:Nat)(r:AV)(j:Nat):Option AV:=cond (Nat.beq j jA) (some .any) (cond (Nat.beq j jB) (some r) none)
def kAB(jA jB t0:Nat)(v:AV)(gA gB:Nat)(asA asB:List AV)(fA fB:Operand)(xA xB:List Operand)(j:Nat)(fr:Nat→Option AV):Prop:=
 (j=jA→evF fr fA=some (.clos gA [] [])∧∃as,evs (evF fr) xA=some as∧(∀a∈as,Closed a)∧as.map coe=asA)∧(j=jB→evF fr fB=some (.clos gB [] [])∧∃as,ArgsB (evF fr) t0 v xB as∧as.map coe=asB)
theorem kAB.a{jA jB t0:Nat}{v:AV}{gA gB:Nat}{asA asB as:List AV}{fA fB:Operand}{xA xB:List Operand}{fr:Nat→Option AV}(hne:Nat.beq jA jB=false)(h1:evF fr fA=some (.clos gA [] []))(h2:evs (evF fr) xA=some as)(h3:∀a∈as,Closed a)(h4:as.map coe=asA):kAB jA jB t0 v gA gB asA asB fA fB xA xB jA fr:=
 ⟨fun _=>⟨h1,as,h2,h3,h4⟩,fun e=>by simp_all⟩
theorem kAB.b{jA jB t0:Nat}{v:AV}{gA gB:Nat}{asA asB as:List AV}{fA fB:Operand}{xA xB:List Operand}{fr:Nat→Option AV}(hne:Nat.beq jA jB=false)(h1:evF fr fB=some (.clos gB [] []))(h2:ArgsB (evF fr) t0 v xB as)(h4:as.map coe=asB):kAB jA jB t0 v gA gB asA asB fA fB xA xB jB fr:=
 ⟨(fun e=>by simp_all),fun _=>⟨h1,as,h2,h4⟩⟩
theorem AWp.regAB {P:Program} {ρ:Option Nat} {Q:Exit→AState→Prop} {ops:Array Oper} {rid nx n:Nat} {fr:Fr} {hp:Hp} (jA jB t0:Nat) {v r:AV} {hpA:Hp} {nx0 nxA nxB gA gB:Nat} {asA asB:List AV} {oA oB:Oper} {cA cB:Call} {fA fB:Operand} (hm:P.follows .mixedOrders=true)
    (XA:XSpecT P gA asA [] nx0 v hpA nxA) (XB:XSpec P gB asB hpA nxA r [] nxB) (hr:Closed r)
    (hoA:ops[jA]?=some oA) (hopA:oA.op= .call cA) (hgA:oA.guard=none) (hdA:oA.dst=some t0) (hfA:cA.callee= .value fA) (hoB:ops[jB]?=some oB) (hopB:oB.op= .call cB) (hgB:oB.guard=none) (hfB:cB.callee= .value fB)
    (hne:Nat.beq jA jB=false) (hAB:mL ops jA jB=true) (ht0:Nat.blt t0 n=true) (hw:(ops.toList.zipIdx.all fun p=>Nat.beq p.2 jA||(match p.1.dst with|some d=>!Nat.beq d t0|none=>true))=true) (hn0:Nat.ble 1 nx0=true)
    (h:AY P ops (Fi jA jB r) (kAB jA jB t0 v gA gB asA asB fA fB cA.args.toList cB.args.toList) nx n 0 ops.toList fr hp fun fps f h=>lK ops fps=true∧Q .normal ⟨f,h,nx+ops.size,n⟩):AWp ρ P (.region rid ops true) Q ⟨fr,hp,nx,n⟩:=by
 have Z:jA≠jB:=fun e=>by simp_all
 have ht1:t0< n:=Nat.le_of_ble_eq_true ht0;rintro J M a w ⟨β0,A,hn0',Y,C,F⟩;obtain⟨us,O,hrun,W,hq⟩:=h;obtain⟨h1,h2,h3,h4⟩:=ri ops.toList 0 _ O us [] (look fr) (an hp) hrun rfl (fun i o h=>by grind) rfl rfl;simp only[List.nil_append,Nat.zero_add,Array.length_toList] at h1 h2 h3
 have L:Ak ops=true:=by
  unfold lK at W;grind
 have hB1:jB< ops.size:=(Array.getElem?_eq_some_iff.1 hoB).1
 have G:∀(j:Nat) (u:Upd) (rd:List Nat) (σ:List Nat),us[j]?=some (u,rd)→stH us (an hp) (σ++[j])=gT (stH us (an hp) σ) u.blk:=fun j u rd σ T=>by
  rw[gX,show blk? us j=u.blk by simp[blk?,T]]
 refine FE (us:=us) (n:=n) (nx:=nx) (fr0:=look fr) (hp0:=an hp) (X:=fun σ K V β a w=>XP jA jB t0 v hpA nxA J M (fun σ=>stH us (an hp) σ) σ K V β a w) (gh:=M.gh) hm (ancOK L) (vj W) (fun j o U=>?_) (fun K V β k=>?_) ?_ (fun σ a' w' nd hall hlt hF=>?_);obtain⟨u,rd,T,s1,s2,hdst⟩:=h1 j o (by simpa using U);refine⟨u,rd,T,hdst,?_⟩;have l:∀σ,(∀t∈lQ ops o,stF ops us (look fr) σ t=stF ops us (look fr) (List.range j) t)→∀x∈o.op.operands,evF (stF ops us (look fr) σ) x=evF (stF ops us (look fr) (List.range j)) x:=fun σ B x q=>vP fun t e=>B t (by subst e;exact List.mem_append_left _ (sJ (Array.mem_toList_iff.2 q)));by_cases hjA:j=jA;subst hjA;rw[hoA] at U;cases U;obtain⟨rfl,rfl,hC⟩:=s1 .any (by unfold Fi;rw[Nat.beq_refl];rfl);obtain⟨c1,as,c2,c3,c4⟩:=hC.1 rfl;refine .inr ⟨hgA,(fun c hc=>by rw[hopA] at hc;cases hc),fun σ K V β a w hj hr B hn g m hid hid0 k=>?_⟩;have l:=l σ B;have o1:fA∈oA.op.operands:=by rw[hopA];simp[Op.operands,Call.operands,hfA]
 have o2:∀x∈cA.args.toList,x∈oA.op.operands:=fun x q=>by rw[hopA];simp[Op.operands,Call.operands,hfA];exact .inr (by simpa using q)
 have d1:=(l fA o1).trans c1;have d2:evs (evF (stF ops us (look fr) σ)) cA.args.toList=some as:=(qF fun x q=>l x (o2 x q)).trans c2;obtain⟨xs,ys,q,E,R⟩:=fm m fA _ d1;have N:xs= #[]:=Array.ext' E;have H:ys= #[]:=Array.ext' R;subst N H;refine⟨gA,_,fy hopA hfA q rfl XA.enters,?_⟩;rw[hdA];exact k.make g hj Z (by rw[hn];exact ht1) (G _ _ _ σ T) (Nat.le_of_ble_eq_true hn0) XA (im (fm m) d2) c3 c4;by_cases hjB:j=jB;subst hjB;rw[hoB] at U;cases U;obtain⟨rfl,rfl,hC⟩:=s1 r (by unfold Fi;rw[show Nat.beq j jA=false by cases hb:Nat.beq j jA with|false=>rfl|true=>exact absurd (vn hb) hjA,Nat.beq_refl];rfl);obtain⟨c1,as,c2,c4⟩:=hC.2 rfl;refine .inr ⟨hgB,(fun c hc=>by rw[hopB] at hc;cases hc),fun σ K V β a w hj hr' B hn g m hid hid0 k=>?_⟩;have l:=l σ B;have o1:fB∈oB.op.operands:=by rw[hopB];simp[Op.operands,Call.operands,hfB]
 have o2:∀x∈cB.args.toList,x∈oB.op.operands:=fun x q=>by rw[hopB];simp[Op.operands,Call.operands,hfB];exact .inr (by simpa using q)
 have d1:=(l fB o1).trans c1;obtain⟨xs,ys,q,E,R⟩:=fm m fB _ d1;have N:xs= #[]:=Array.ext' E;have H:ys= #[]:=Array.ext' R;subst N H;exact⟨gB,_,fy hopB hfB q rfl XB.enters,k.use g (hr' _ hAB) hj (G _ _ _ σ T) XB hr (fun x _ z hz=>fm m x z hz) (ArgsB.congr (fun x q=>l x (o2 x q)) c2) c4⟩
 have hs:Fi jA jB r j=none:=by
  unfold Fi;rw[show Nat.beq j jA=false by cases hb:Nat.beq j jA with|false=>rfl|true=>exact absurd (vn hb) hjA,show Nat.beq j jB=false by cases hb:Nat.beq j jB with|false=>rfl|true=>exact absurd (vn hb) hjB];rfl
 refine .inl ⟨s2 hs,fun σ K V β a w y w' β' hj hn k g haf=>k.ordinary hjA hjB (fun d hd=>?_) (G j u rd σ T) g haf⟩;have:=List.all_eq_true.1 hw (o,j) (by rw[List.mem_zipIdx_iff_getElem?];simpa using U);rw[hd,show Nat.beq j jA=false by cases hb:Nat.beq j jA with|false=>rfl|true=>exact absurd (vn hb) hjA] at this;exact CV (by simpa using this);exact⟨⟨k.kept.os,k.kept.tape,k.kept.output,k.kept.size,k.kept.block,k.kept.sizes⟩,k.m00,k.pin,k.dep,k.no,fun h=>by cases h⟩;exact⟨J,M,β0,A,rfl,hn0',Y,C,F,A.below,A.m0,rfl,(fun h=>by cases h),(fun _=>⟨fun _=>Iff.rfl,fun _=>Iff.rfl⟩),fun h=>by cases h⟩;obtain⟨K,V,β,g,hgh,hn,m,S,hdef,k⟩:=hF;obtain⟨n1,n2⟩:=k.no (.inr (hall jB hB1));have hM0:K=J:=funext fun b=>propext (n1 b);subst hM0;rw[←h2,←h3] at *
 refine⟨⟨O.fr,O.hp,nx+ops.size,n⟩,⟨β,⟨k.kept,k.m00,fun i b s hi=>⟨fun hk=>(g.rng i b s hi).1 ((n2 b).2 hk),(g.rng i b s hi).2⟩,fun hz=>(g.pin hz).trans k.pin,g.blk,g.inj⟩,hn,fun t x q=>by rw[←yl hgh];exact m t x q,S,?_⟩,hq⟩;obtain⟨Ds,d1,d2,d3⟩:=hdef;exact⟨Ds,d1,d2,fun D hD=>⟨(d3 D hD).1,fun hk=>(d3 D hD).2 ((n2 D).2 hk)⟩⟩
def mzH(sz TS TQ:Nat)(o:List (List AV))(L:List (List (List AV))):Hp:=(1,some ⟨TS,1,o⟩)::mxB TQ sz L 2
theorem c6{sz TS TQ k:Nat}{o:List (List AV)}{L:List (List (List AV))}{e:List (List AV)}(h:L[k]?=some e):an (mzH sz TS TQ o L) (k+2)=some ⟨TQ,sz,e⟩:=by
 unfold mzH;rw[cS];unfold upd;exact CX L 2 k e h
theorem F0{sz TS TQ k:Nat}(hz:sz≠0){o:List (List AV)}{L:List (List (List AV))}{e:List (List AV)}(h:L[k]?=some e):dm (an (mzH sz TS TQ o L)) (k+2)=some ⟨TQ,sz,e⟩:=dy (c6 h) hz
theorem SEntT.mz {sz:Nat} {fr fr':Fr} {hp:Hp} {nx N TS TQ:Nat} (s:Nat→Nat) (o o':List (List AV)) (L:List (List (List AV))) (hL:L.length≤30) (s0:s 0=0) (hinj:∀i j,1≤i→i< L.length+2→1≤j→j< L.length+2→s i=s j→i=j)
    (h1:an hp (s 1)=some ⟨TS,1,o'⟩) (ho:o'.length=o.length) (hr:∀i e,L[i]?=some e→an hp (s (i+2))=some ⟨TQ,sz,e⟩∧∀x∈e,∀c∈x,Closed c)
    (hO:Shr ⟨40,s⟩ (an hp) (an (mzH sz TS TQ o L))→CvLL ⟨40,s⟩ (an hp) (an (mzH sz TS TQ o L)) o' o)
    (hF:Shr ⟨40,s⟩ (an hp) (an (mzH sz TS TQ o L))→CvF ⟨40,s⟩ (an hp) (an (mzH sz TS TQ o L)) fr fr'):SEntT ⟨fr,hp,nx,N⟩ ⟨fr',mzH sz TS TQ o L,40,N⟩:=by
 have a:∀i B,(i,some B)∈mzH sz TS TQ o L→(i=1∧B=⟨TS,1,o⟩)∨∃k e,L[k]?=some e∧i=k+2∧B=⟨TQ,sz,e⟩:=fun i B h=>by
  rcases List.mem_cons.1 h with h|h
  cases h;exact .inl ⟨rfl,rfl⟩;obtain⟨k,e,b,m,k3⟩:=rQ L 2 i B h;grind
 have f:Shr ⟨40,s⟩ (an hp) (an (mzH sz TS TQ o L)):=⟨fun i B h=>by
  rcases a i B (ig h) with⟨rfl,rfl⟩|⟨k,e,b,rfl,rfl⟩
  exact⟨(show 1< 40 by decide),_,h1,rfl,rfl,ho⟩;grind⟩
 refine SEntT.intro (st:=⟨fr,hp,nx,N⟩) (st':=⟨fr',mzH sz TS TQ o L,40,N⟩) ⟨40,s⟩ rfl (show 0< 40 by decide) s0 (rZ _ fun i j d l e=>?_) rfl (hF f) (uM _ fun i B h=>?_)
 have g:∀i,i∈(mzH sz TS TQ o L).map (·.1)→1≤i∧i< L.length+2:=fun i d=>by
  rcases List.mem_cons.1 d with h|h
  have h:i=1:=h;omega;have:=rR L 2 i h;omega
 exact hinj i j (g i d).1 (g i d).2 (g j l).1 (g j l).2 e;rcases a i B h with⟨rfl,rfl⟩|⟨k,e,b,rfl,rfl⟩
 exact⟨(show 1< 40 by decide),_,h1,rfl,rfl,hO f⟩;exact⟨by grind,_,(hr k e b).1,rfl,rfl,bC f (hr k e b).2⟩
def mzO(sz:Nat)(w:Nat→Nat)(s:Nat→Nat)(n:Nat):List (List AV):=(List.range n).map fun i=>[.lsl (s (i+2)) 0 (w i) none sz]
@[simp] theorem nP (sz:Nat)(w:Nat→Nat)(s:Nat→Nat)(n:Nat):(mzO sz w s n).length=n:=by simp[mzO]
theorem xb{sz:Nat}{w:Nat→Nat}{s:Nat→Nat}{n i:Nat}(h:i< n):(mzO sz w s n)[i]?=some [.lsl (s (i+2)) 0 (w i) none sz]:=by simp[mzO,h]
theorem pQ{sz:Nat}{hp hp':Nat→Option ABlk}{s:Nat→Nat}{w:Nat→Nat}{n:Nat}(hn:n≤30)(hl:∀i,i< n→(hp' (i+2)).isSome=true):CvLL ⟨40,s⟩ hp hp' (mzO sz w s n) (mzO sz w (fun i=>i) n):=
 Ar _ _ _ fun i a=>by
  have:=List.mem_range.1 a;exact ah (Cv.sl (Nat.ble_eq_true_of_le (show i+2+1≤40 by omega)) rfl (hl i this)) av
theorem Cv.mzShut{r:Ren}{hp':Nat→Option ABlk}{cap:Option Nat}{sz TS TQ n:Nat}{w:Nat→Nat}(hz:sz≠0){L:List (List (List AV))}(h:Shr r (an (mzH sz TS TQ (mzO sz w (fun i=>i) n) L)) hp')(hd:∀i,hp' i=none)(hn:n=L.length)(hw:∀i e,L[i]?=some e→e.length=w i)(hc:∀e∈L,∀x∈e,∀c∈x,Closed c):
    Cv r (an (mzH sz TS TQ (mzO sz w (fun i=>i) n) L)) hp' (.lsl 1 0 n cap 1) (.arr (L.map fun e=>[.arr e])):=by
 have g:∀i,uL r hp' i:=fun i j B s=>by grind
 have b:(mzO sz w (fun i=>i) n).length=n:=nP _ _ _ _;have h1:dm (an (mzH sz TS TQ (mzO sz w (fun i=>i) n) L)) 1=some ⟨TS,1,mzO sz w (fun i=>i) n⟩:=rfl;refine Cv.trans_eq (Cv.shut (es:=L.map fun e=>[.arr e]) h h1 (g 1) (by grind) ?_) rfl;show CvLL r _ hp' (((mzO sz w (fun i=>i) n).drop 0).take n) _;rw[List.drop_zero,List.take_of_length_le (by omega)];subst hn
 have a:∀(l:List (List (List AV))) (k:Nat),(∀i e,l[i]?=some e→L[k+i]?=some e)→CvLL r (an (mzH sz TS TQ (mzO sz w (fun i=>i) L.length) L)) hp' ((List.range' k l.length).map fun i=>[.lsl (i+2) 0 (w i) none sz]) (l.map fun e=>[.arr e]):=by
  intro l
  induction l with
  |nil=>intro k _;exact CvLL.nil
  |cons e l o=>
   intro k f;have d:L[k]?=some e:=f 0 e rfl;have q:=List.mem_of_getElem? d
   refine CvLL.cons (ah ?_ av) (o (k+1) fun i p m=>by
    have:=f (i+1) p (by grind);grind)
   refine Cv.shut (es:=e) h (F0 hz d) (g _) (by grind) ?_;rw[List.take_of_length_le (by grind)];exact bC h (hc e q)
 have:=a L 0 fun i e m=>by grind
 rw[←List.range_eq_range'] at this;exact this
theorem XSpecT.shut{P:Program}{f nx nx':Nat}{args:List AV}{v r:AV}{hp':Hp}(h:XSpecT P f args [] nx v hp' nx')(h0:Nat.ble 1 nx=true)(hcl:∀a∈args,Closed a){rr:Ren}(hc:Cv rr (an hp') (fun _=>none) v r)(hr:Closed r):FSpec P f args r:=by
 have e0:∀(M:Nat→Prop) (b:Nat→Option (Nat×Nat)),MM M b (an [])=M:=fun M b=>by funext c;simp[MM,an,look]
 have e1:∀(M:Nat→Prop) (b:Nat→Option (Nat×Nat)),MM M b (fun _=>none)=M:=fun M b=>by funext c;simp[MM]
 refine⟨hcl,h.enters,fun M w vals g j=>((h.calls M (Base.of w g.tab) (fun _=>none) vals rfl ⟨⟨rfl,rfl,rfl,Nat.le_refl _,fun _ _=>rfl,fun _ _ h=>h⟩,(fun b hb=>⟨g.lt b hb,fun e=>g.nt (e▸hb)⟩),(fun _ _ _ h=>by cases h),(fun _=>rfl),(fun _ _ h=>by cases h),fun _ _ _ _ _ _ _ h=>by simp⟩ (fun i o=>⟨rfl,by have:=Nat.le_of_ble_eq_true h0;omega⟩) (by rw[e0];exact j)).mono ?_)⟩;rintro e m ⟨y,l,rfl,d,n,_,_⟩;have k:=hc M _ l m y d n;rw[e1] at k;exact⟨y,rfl,hr _ _ _ _ k,d.below.os,d.below.tape,d.below.output,d.below.size,d.below.block⟩
end Go.Abs
