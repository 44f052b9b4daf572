/- Part V11 of the proof. -/
import Derived.Test.YtdgbhlkabelmbaaGreatDoorV10
set_option linter.all false
namespace Go.Abs
open Go.RowKit
structure XSpecT (P:Program)(f:Nat)(args:List AV)(hp:Hp)(nx:Nat)(v:AV)(hp':Hp)(nx':Nat):Prop where
 enters:∀(xs:Array Value) (w:World),(callFunc f xs).run P w= .ok (.enter f xs) w
 calls:∀(M:Nat→Prop) (w0:Base) (β:Nat→Option (Nat×Nat)) (vals:List Value),w0.gh=(fun _=>undef)→Mem M w0 β (an hp) w0.w→(∀i,nx≤i→β i=none∧i≠0)→RVs (MM M β (an hp)) β w0.w args vals→
  Calls P f vals.toArray w0.w fun x w'=> ∃y β',x= .returned y∧Mem M w0 β' (an hp') w'∧RV (MM M β' (an hp')) β' w' v y∧(∀i,nx'≤i→β' i=none∧i≠0)∧∀i x,β' i=some x→(an hp' i).isSome=true
def FinXT(t:Nat)(v:AV)(hp':Hp)(nx' n:Nat)(x:Exit)(st:AState):Prop:=(x= .normal∨x= .ret)∧SEntT st ⟨[(t,v)],hp',nx',n⟩
theorem FinXT.of{fr:Fr}{hp hp':Hp}{nx nx' n t:Nat}{v:AV}(h:SEntT ⟨fr,hp,nx,n⟩ ⟨[(t,v)],hp',nx',n⟩):FinXT t v hp' nx' n .ret ⟨fr,hp,nx,n⟩:=⟨.inr rfl,h⟩
theorem XSpecT.enter {P:Program} {f:Nat} {fn:Func} {c:Code} {t nx nx':Nat} {v:AV} {hp hp':Hp} {args:List AV} (hf:P.funcs[f]?=some fn) (hb:fn.body=some c) (hname:(fn.name== "runtime.NumGoroutine")=false) (hrs:fn.results.toList=[.tmp t]) {m:Nat} (hm:fn.ntmps=m) (hn:Nat.ble args.length m=true)
    (ht:Nat.ble t 999=true) {fr:Fr} (hfr:da 0 args=fr) (h:AWp none P c (FinXT t v hp' nx' m) ⟨fr,hp,nx,m⟩):XSpecT P f args hp nx v hp' nx':=by
 subst hm hfr;have hn:=Nat.le_of_ble_eq_true hn;refine⟨fun xs w=>?_,fun M w0 β vals hgh mem hfree hargs=>?_⟩;have hname':¬fn.name= "runtime.NumGoroutine" :=by grind
 simp[callFunc,hf,hname',hb];refine(callsIn_wide (n:=0)).1 (callsIn_of_wp_marks (F:=Fence.wide) hf hb trivial ?_);have hlen:=hargs.length
 have hrel:iS M w0 ⟨da 0 args,hp,nx,fn.ntmps⟩ {tmps:=vals.toArray++Array.replicate (fn.ntmps- vals.toArray.size) undef,defers:=[]} w0.w:=by
  refine⟨β,mem,by grind,fun t x hx=>?_,hfree,⟨[],rfl,List.nodup_nil,by simp⟩⟩;rw[cg hgh]
  have key:∀{as:List AV} {vs:List Value} {i t:Nat} {x:AV},RVs (MM M β (an hp)) β w0.w as vs→look (da i as) t=some x→i≤t∧∃y,vs[t- i]?=some y∧RV (MM M β (an hp)) β w0.w x y:=by
   intro as
   induction as with
   |nil=>intro vs i t x _ h;cases h
   |cons a as ih=>
    rintro vs i t x ⟨y,ys,e,h1,h2⟩ h;subst e;simp only[da] at h;rw[cn] at h;unfold upd at h;grind
  obtain⟨_,y,h1,h2⟩:=key hargs hx
  have hy:(vals.toArray++Array.replicate (fn.ntmps- vals.toArray.size) undef).getD t undef=y:=by
   have hlt:t< vals.length:=by grind
   rw[Array.getD_eq_getD_getElem?,Array.getElem?_append_left (by grind)];grind
  grind
 refine wpIn_mono (h M w0 _ w0.w hrel) fun x a' w' ⟨st',hst,he,hent⟩=>?_;obtain⟨β',mem',hsz,hfr,hfree',⟨Ds,hds,hnd,hD⟩,hlive⟩:=hent M w0 a' w' hst;have hv:look ([(t,v)]:Fr) t=some v:=by rw[cn];exact a7 _ _ _
 have hres:lJ P fn.results.toList ⟨[(t,v)],hp',nx',fn.ntmps⟩ .any:=by
  rw[hrs];exact⟨[_],⟨_,[],rfl,hv,rfl⟩,fun _ _ _ _ _ _ _=>trivial⟩
 have hL:LeavesInM (FR none) 0 P fn a'.tmps (fun x w'=> ∃y β',x= .returned y∧Mem M w0 β' (an hp') w'∧RV (MM M β' (an hp')) β' w' v y∧(∀i,nx'≤i→β' i=none∧i≠0)∧∀i x,β' i=some x→(an hp' i).isSome=true) a'.defers .returning w':=by
  rw[hds];refine gS (st:=⟨[(t,v)],hp',nx',fn.ntmps⟩) hres (fun y w'' _ h2 h3 h4=>?_) Ds w' hnd hD mem' (fun t x hx=>by have:=hfr t x hx;rwa[cg hgh] at this)
  have hy:y=a'.tmps.getD t undef:=by
   have hm:(fn.results.mapM (gM a'.tmps)).run P w''= .ok #[a'.tmps.getD t undef] w'':=by
    rw[Array.mapM_eq_mapM_toList,hrs];rfl
   have he:results fn a'.tmps=(do let vs←fn.results.mapM (gM a'.tmps);pure (if h:vs.size=1 then vs[0] else .tuple vs)):=rfl;rw[he,Sem.run_bind,hm] at h4;have h5:(Result.ok (a'.tmps.getD t undef) w'':Result Value)= .ok y w'':=h4;cases h5;rfl
  exact⟨y,β',rfl,h2,by rw[hy];exact h3 t v hv,hfree',hlive⟩
 rcases he with rfl|rfl
 exact hL;exact hL
section
variable {P:Program}{ops:Array Oper}{us:List (Upd×List Nat)}{anc:Nat→Nat→Bool}{nx n:Nat}{fr0:Nat→Option AV}{hp0:Nat→Option ABlk}{ρ:Option Nat}{Q:Exit→Act→World→Prop}{rid:Nat}
variable {X:List Nat→(Nat→Prop)→Base→(Nat→Option (Nat×Nat))→Act→World→Prop}{gh:Nat→Value}
def YStep(P:Program)(ops:Array Oper)(us:List (Upd×List Nat))(anc:Nat→Nat→Bool)(nx n:Nat)(fr0:Nat→Option AV)(hp0:Nat→Option ABlk)(X:List Nat→(Nat→Prop)→Base→(Nat→Option (Nat×Nat))→Act→World→Prop)(j:Nat)(o:Oper)(u:Upd)(rd:List Nat):Prop:=
 (AStep P ops (nx+j) (stF ops us fr0 (List.range j)) (stH us hp0 (List.range j)) o u rd∧
  ∀σ M0 w0 β a w y w' β',j∉σ→a.tmps.size=n→X σ M0 w0 β a w→Mem M0 w0 β (stH us hp0 σ) w→mG M0 w0 β (stH us hp0 σ) w (nx+j) u y w' β'→X (σ++[j]) M0 w0 β' (a.put o.dst y) w')∨
 (o.guard=none∧(∀c,o.op≠ .defer c)∧∀σ M0 w0 β a w,j∉σ→(∀i,anc i j=true→i∈σ)→(∀t∈l8 ops o,stF ops us fr0 σ t=stF ops us fr0 (List.range j) t)→a.tmps.size=n→Mem M0 w0 β (stH us hp0 σ) w→
  (∀t x,stF ops us fr0 σ t=some x→RV (MM M0 β (stH us hp0 σ)) β w x (gG w0 a t))→β (nx+j)=none→nx+j≠0→X σ M0 w0 β a w→
  ∃f xs,(execOp a.eval o).run P w= .ok (.enter f xs) w∧Calls P f xs w fun e w'=> ∃y M0' w0' β',e= .returned y∧
   Mem M0' w0' β' (ig (stH us hp0 σ) u.blk) w'∧w0'.gh=w0.gh∧RV (MM M0' β' (ig (stH us hp0 σ) u.blk)) β' w' u.val y∧StabC (MM M0 β (stH us hp0 σ)) (MM M0' β' (ig (stH us hp0 σ) u.blk)) β β' w w'∧(∀i,i≠nx+j→β' i=β i)∧(∀ds,DefOK ds w0 w→DefOK ds w0' w')∧
   X (σ++[j]) M0' w0' β' (a.put o.dst y) w')
theorem Gp (hm:P.follows .mixedOrders=true) (hanc:AncOK ops anc) (hok:pe ops us anc=true)
    (hsteps:∀j o,ops[j]?=some o→∃u rd,us[j]?=some (u,rd)∧(∀d,o.dst=some d→d< n)∧YStep P ops us anc nx n fr0 hp0 X j o u rd)
    {a:Act} {w:World} (hdrew:∀M0 w0 β,X [] M0 w0 β a w→X [] M0 w0 β a w.drew)
    (hrel:FX gh fr0 hp0 (fun i=>nx≤i) n (X []) a w)
    (hQ:∀σ a' w',σ.Nodup→(∀j,j< ops.size→j∈σ)→(∀j∈σ,j< ops.size)→FX gh (stF ops us fr0 (List.range ops.size)) (stH us hp0 (List.range ops.size)) (fun i=>nx+ops.size≤i) n (X σ) a' w'→Q .normal a' w'):
    (Code.region rid ops true).wpIn (FR ρ) 0 P Q a w:=by
 refine wpIn_region_any hm ?_
 have main:∀(fuel:Nat) (σ:List Nat) (listed:Array Bool) (a:Act) (w:World),Topo anc ops.size σ→σ.Nodup→listed.size=ops.size→(∀j,j< ops.size→(listed.getD j true=true↔j∈σ)∧(listed.getD j false=true↔j∈σ))→
     ((List.range ops.size).filter fun j=>!σ.contains j).length≤fuel→FX gh (stF ops us fr0 σ) (stH us hp0 σ) (fun i=>nx≤i∧∀j∈σ,i≠nx+j) n (X σ) a w→
     wpAnyIn (FR ρ) 0 P .any ops Q fuel listed a w:=by
  have fin:∀(σ:List Nat) (a:Act) (w:World),Topo anc ops.size σ→σ.Nodup→(∀j,j< ops.size→j∈σ)→FX gh (stF ops us fr0 σ) (stH us hp0 σ) (fun i=>nx≤i∧∀j∈σ,i≠nx+j) n (X σ) a w→Q .normal a w:=by
   intro σ a w ht nd hall hr;refine hQ σ a w nd hall ht.lt ?_
   have e1:stF ops us fr0 σ=stF ops us fr0 (List.range ops.size):=by
    funext t;refine wY σ _ t (ht.filter nd (fun i hi _=>hall i hi) (fun i hi _ hiσ=>by have:=ht.lt i hiσ;omega) fun i k hik hk h1 h2=>lX hok hik hk (by simpa using h1) (by grind))
   have e2:stH us hp0 σ=stH us hp0 (List.range ops.size):=by
    funext t;refine wX σ _ t (ht.filter nd (fun i hi _=>hall i hi) (fun i hi _ hiσ=>by have:=ht.lt i hiσ;omega) fun i k hik hk h1 h2=>pc hok hik hk (by simpa using h1) (by simpa using h2))
   rw[←e1,←e2];obtain⟨M0,w0,β,h1,hg,h2,h3,h4,h5⟩:=hr;exact⟨M0,w0,β,h1,hg,h2,h3,fun i hi=>h4 i ⟨by omega,fun j hj=>by have:=ht.lt j hj;omega⟩,h5⟩
  have allIn:∀(σ:List Nat) (listed:Array Bool),(∀j,j< ops.size→(listed.getD j true=true↔j∈σ)∧(listed.getD j false=true↔j∈σ))→Region.ready .any ops listed=[]→∀j,j< ops.size→j∈σ:=by
   intro σ listed hl hr j
   induction j using Nat.strongRecOn with
   |_ j ih=>
    intro hj;by_cases hjσ:j∈σ;exact hjσ;exfalso
    have hmem:j∈Region.ready .any ops listed:=by
     refine mem_ready.2 ⟨?_,ops[j],Array.getElem?_eq_getElem hj,fun e he hb=>?_⟩;cases hh:listed.getD j true with
     |false=>rfl
     |true=>exact absurd ((hl j hj).1.1 hh) hjσ
     have hlt:=hanc.back j _ (Array.getElem?_eq_getElem hj) e he hb;exact(hl e.on (by omega)).2.2 (ih e.on hlt (by omega))
    rw[hr] at hmem;cases hmem
  intro fuel
  induction fuel with
  |zero=>
   intro σ listed a w ht nd hsz hl hf hr
   have hall:∀j,j< ops.size→j∈σ:=by
    intro j hj;by_cases hjσ:j∈σ;exact hjσ;exfalso;have:j∈(List.range ops.size).filter fun j=>!σ.contains j:=List.mem_filter.2 ⟨List.mem_range.2 hj,by simpa using hjσ⟩;rw[List.eq_nil_of_length_eq_zero (Nat.le_zero.1 hf)] at this;cases this
   refine⟨?_,fin σ a w ht nd hall hr⟩;rw[List.eq_nil_iff_forall_not_mem];intro j hj;obtain⟨h0,o,ho,_⟩:=mem_ready.1 hj;have hlt:j< ops.size:=(Array.getElem?_eq_some_iff.1 ho).1;rw[(hl j hlt).1.2 (hall j hlt)] at h0;cases h0
  |succ fuel ih=>
   intro σ listed a w ht nd hsz hl hf hr;refine⟨fun h0=>fin σ a w ht nd (allIn σ listed hl h0) hr,fun j hj=>?_⟩;obtain⟨h0,o,ho,hedges⟩:=mem_ready.1 hj;have hlt:j< ops.size:=(Array.getElem?_eq_some_iff.1 ho).1;have hjσ:j∉σ:=fun h=>by rw[(hl j hlt).1.2 h] at h0;cases h0
   have hready:∀i,anc i j=true→i∈σ:=hanc.ready σ j o ht.closed ho fun e he hb=>(hl e.on (by have:=hanc.back j o ho e he hb;omega)).2.1 (hedges e he hb);obtain⟨u,rd,hu,hdst,hstep⟩:=hsteps j o ho;have hd1:dst? ops j=o.dst:=by simp[dst?,ho]
   have hv1:val? us j=u.val:=by simp[val?,hu]
   have hb1:blk? us j=u.blk:=by simp[blk?,hu]
   have ht':Topo anc ops.size (σ++[j]):=by
    refine⟨fun x hx=>?_,List.pairwise_append.2 ⟨ht.pw,List.pairwise_singleton _ _,fun x hx y hy=>?_⟩,fun x hx b hb=>?_⟩;rcases List.mem_append.1 hx with h|h
    exact ht.lt x h;rw[List.mem_singleton.1 h];exact hlt;rw[List.mem_singleton.1 hy];cases hh:anc j x with
    |false=>rfl
    |true=>exact absurd (ht.closed x hx j hh) hjσ
    rcases List.mem_append.1 hx with h|h
    exact List.mem_append_left _ (ht.closed x h b hb);rw[List.mem_singleton.1 h] at hb;exact List.mem_append_left _ (hready b hb)
   have nd':(σ++[j]).Nodup:=List.nodup_append.2 ⟨nd,by simp,fun x hx y hy e=>by rw[List.mem_singleton.1 hy] at e;exact hjσ (e▸hx)⟩
   have hl':∀i,i< ops.size→((listed.setIfInBounds j true).getD i true=true↔i∈σ++[j])∧((listed.setIfInBounds j true).getD i false=true↔i∈σ++[j]):=by
    intro i hi;by_cases hij:j=i;subst hij;simp[Array.getD_eq_getD_getElem?,hsz,hlt];rw[getD_set_ne _ hij,getD_set_ne _ hij,List.mem_append,List.mem_singleton];have:=hl i hi;exact⟨this.1.trans ⟨.inl,fun h=>h.resolve_right fun e=>hij e.symm⟩,this.2.trans ⟨.inl,fun h=>h.resolve_right fun e=>hij e.symm⟩⟩
   have hf':((List.range ops.size).filter fun i=>!(σ++[j]).contains i).length≤fuel:=by
    have:=qT (p:=fun i=>!σ.contains i) (q:=fun i=>!(σ++[j]).contains i) (List.mem_range.2 hlt) (by simpa using hjσ) (by simp) (fun x hx=>by simp at hx⊢;exact hx.1);omega
   obtain⟨M0,w0,β,mem,hgh,hn,hfr,hfree,hdef,hX⟩:=hr
   obtain⟨hidn,hid0⟩:=hfree (nx+j) ⟨by omega,fun i hi e=>by have:j=i:=by omega
                                                            exact hjσ (this▸hi)⟩
   -- behind the operation
   have go:∀y w' M0' w0' β',Mem M0' w0' β' (ig (stH us hp0 σ) u.blk) w'→w0'.gh=w0.gh→RV (MM M0' β' (ig (stH us hp0 σ) u.blk)) β' w' u.val y→StabC (MM M0 β (stH us hp0 σ)) (MM M0' β' (ig (stH us hp0 σ) u.blk)) β β' w w'→(∀i,i≠nx+j→β' i=β i)→DefOK a.defers w0' w'→X (σ++[j]) M0' w0' β' (a.put o.dst y) w'→wpAnyIn (FR ρ) 0 P .any ops Q fuel (listed.setIfInBounds j true) (a.put o.dst y) w':=by
    intro y w' M0' w0' β' m' hg2 hy st hβ hd2 hX';refine ih (σ++[j]) _ _ w' ht' nd' (by simpa using hsz) hl' hf' ⟨M0',w0',β',?_,hg2.trans hgh,?_,fun t x hx=>?_,fun i hi=>?_,?_,hX'⟩;rw[ik,hb1];exact m';cases o.dst <;> simp[Act.put,hn];rw[k9,hd1,hv1] at hx;rw[ik,hb1,yT hg2];cases hdst2:o.dst with
    |none=>rw[hdst2] at hx;have e:gG w0 (a.put none y) t=gG w0 a t:=rfl
           rw[e];exact st.all (hfr t x hx)
    |some d=>
     rw[hdst2] at hx;rw[px (by rw[hn];exact hdst d hdst2)];simp only[zf,upd] at hx;split at hx
     ·rename_i htd;rw[if_pos htd];cases hx;exact hy
     ·rename_i htd;rw[if_neg htd];exact st.all (hfr t x hx)
    have hne:i≠nx+j:=hi.2 j (by simp);rw[hβ i hne];exact hfree i ⟨hi.1,fun k hk=>hi.2 k (List.mem_append_left _ hk)⟩;have:(a.put o.dst y).defers=a.defers:=by cases o.dst <;> rfl
    rw[this];exact hd2
   unfold wpOpIn;simp only[ho];rcases hstep with⟨hstep,hkeep⟩|⟨hg,hnd,hx⟩
   have hlk:lk? ops j=l8 ops o:=by simp[lk?,ho]
   have hrd:rd? us j=rd:=by simp[rd?,hu]
   have hstep':AStep P ops (nx+j) (stF ops us fr0 σ) (stH us hp0 σ) o u rd:=hstep.congr
    (fun t htl=>C3 hok ht nd hlt hjσ hready (fun i k t h1 h2 h3 h4=>lX hok h1 h2 h3 h4) (by rw[hlk];exact htl))
    (fun b hb=>ID hok ht nd hlt hjσ hready (fun i k b h1 h2 h3 h4=>pc hok h1 h2 h3 h4) (by rw[hrd];exact hb))
   exact hstep'.simF mem hfr hidn hid0 fun y w' β' haft=>go y w' M0 w0 β' haft.1 rfl haft.2.1 haft.2.2.1.toStabC haft.2.2.2 (hdef.stab haft.2.2.1) (hkeep σ M0 w0 β a w y w' β' hjσ hn hX mem haft);have hagree:∀t∈l8 ops o,stF ops us fr0 σ t=stF ops us fr0 (List.range j) t:=fun t htl=>C3 hok ht nd hlt hjσ hready (fun i k t h1 h2 h3 h4=>lX hok h1 h2 h3 h4) (by rw[show lk? ops j=l8 ops o by simp[lk?,ho]];exact htl);obtain⟨f,xs,hrun,hcalls⟩:=hx σ M0 w0 β a w hjσ hready hagree hn mem hfr hidn hid0 hX;rw[if_pos (by simp[Region.wanted,hg])];refine⟨fun _ _=>trivial,?_⟩;rw[Oper.semAt_eq _ _ _ hnd,hrun];refine⟨fun hh=>by simp[FR] at hh,sT (hcalls.mono ?_)⟩;rintro e w' ⟨y,M0',w0',β',rfl,x1,x2,x3,x4,x5,x6,hX'⟩;exact go y w' M0' w0' β' x1 x2 x3 x4 x5 (x6 _ hdef) hX'
 refine main ops.size [] _ a _ ⟨by simp,List.Pairwise.nil,by simp⟩ List.nodup_nil (by simp) ?_ ?_ ?_;intro j hj;simp[Array.getD_eq_getD_getElem?,hj];exact Nat.le_trans (List.length_filter_le _ _) (by simp);obtain⟨M0,w0,β,h1,hg,h2,h3,h4,h5,h6⟩:=hrel;have hmx:=h1.ext ((Below.refl w.heap.size w).drew);exact⟨M0,w0,β,hmx.1,hg,h2,fun t x hx=>hmx.2.all (h3 t x hx),fun i hi=>h4 i hi.1,h5.stab hmx.2,hdrew M0 w0 β h6⟩
end
def RunY(P:Program)(ops:Array Oper)(sp:Nat→Option AV)(C:Nat→(Nat→Option AV)→Prop)(nx:Nat):Nat→List Oper→AState→List (Upd×List Nat)→AState→Prop
 |_,[],st,us,st'=>us=[]∧st'=st
 |j,o::rest,st,us,st'=> ∃u rd us',us=(u,rd)::us'∧(∀x,sp j=some x→u=⟨x,[]⟩∧rd=[]∧C j (look st.fr))∧(sp j=none→AStep P ops (nx+j) (look st.fr) (an st.hp) o u rd)∧(∀d,o.dst=some d→d< st.n)∧RunY P ops sp C nx (j+1) rest (st.step o.dst u) us' st'
theorem rG{P:Program}{ops:Array Oper}{sp:Nat→Option AV}{C:Nat→(Nat→Option AV)→Prop}{nx:Nat}:∀(rest:List Oper) (j:Nat) (st st':AState) (us us0:List (Upd×List Nat)) (fr0:Nat→Option AV) (hp0:Nat→Option ABlk),
    RunY P ops sp C nx j rest st us st'→us0.length=j→(∀i o,rest[i]?=some o→ops[j+i]?=some o)→look st.fr=stF ops (us0++us) fr0 (List.range j)→an st.hp=stH (us0++us) hp0 (List.range j)→
    (∀i o,rest[i]?=some o→∃u rd,(us0++us)[j+i]?=some (u,rd)∧(∀x,sp (j+i)=some x→u=⟨x,[]⟩∧rd=[]∧C (j+i) (stF ops (us0++us) fr0 (List.range (j+i))))∧(sp (j+i)=none→AStep P ops (nx+(j+i)) (stF ops (us0++us) fr0 (List.range (j+i))) (stH (us0++us) hp0 (List.range (j+i))) o u rd)∧∀d,o.dst=some d→d< st.n)∧
    look st'.fr=stF ops (us0++us) fr0 (List.range (j+rest.length))∧an st'.hp=stH (us0++us) hp0 (List.range (j+rest.length))∧st'.n=st.n
 |[],j,st,st',us,us0,fr0,hp0,h,_,_,hF,hH=>by
  obtain⟨rfl,rfl⟩:=h;grind
 |o::rest,j,st,st',us,us0,fr0,hp0,h,hl,hops,hF,hH=>by
  obtain⟨u,rd,a,rfl,g,q,e,c⟩:=h;have b:us0++(u,rd)::a=(us0++[(u,rd)])++a:=by simp
  have l:(us0++(u,rd)::a)[j]?=some (u,rd):=by grind
  have A:ops[j]?=some o:=hops 0 o rfl
  have f:look (st.step o.dst u).fr=stF ops ((us0++[(u,rd)])++a) fr0 (List.range (j+1)):=by
   rw[←b,List.range_succ,k9,←hF];simp only[AState.step,mU,dst?,A,val?,l,Option.bind_some,Option.map_some,Option.getD_some]
  have r:an (st.step o.dst u).hp=stH ((us0++[(u,rd)])++a) hp0 (List.range (j+1)):=by
   rw[←b,List.range_succ,ik,←hH];simp only[AState.step,kH,blk?,l,Option.map_some,Option.getD_some]
  obtain⟨y,t,w,D⟩:=rG rest (j+1) (st.step o.dst u) st' a (us0++[(u,rd)]) fr0 hp0 c (by simp[hl]) (fun i m h=>by
   have:=hops (i+1) m (by simpa using h);rwa[show j+(i+1)=j+1+i by omega] at this) f r
  rw[←b] at y t w;refine⟨fun i m k=>?_,?_,?_,D⟩;cases i with
  |zero=>
   simp only[List.getElem?_cons_zero,Option.some.injEq] at k;subst k;refine⟨u,rd,by simpa using l,fun x h=>?_,fun h=>?_,e⟩;rw[Nat.add_zero,←hF];exact g x h;rw[Nat.add_zero,←hF,←hH];exact q h
  |succ i=>
   obtain⟨z,p,h1,v,s,B⟩:=y i m (by simpa using k);rw[show j+1+i=j+(i+1) by omega] at h1 v s;exact⟨z,p,h1,v,s,B⟩
  rw[t,show j+1+rest.length=j+(o::rest).length by simp;omega];rw[w,show j+1+rest.length=j+(o::rest).length by simp;omega]
def AY(P:Program)(ops:Array Oper)(sp:Nat→Option AV)(C:Nat→(Nat→Option AV)→Prop)(nx n j:Nat)(rest:List Oper)(fr:Fr)(hp:Hp)(K:Fps→Fr→Hp→Prop):Prop:=
 ∃us st',RunY P ops sp C nx j rest ⟨fr,hp,nx,n⟩ us st'∧K (us.map fp) st'.fr st'.hp
section
variable {P:Program}{ops:Array Oper}{spf:Nat→Option AV}{C:Nat→(Nat→Option AV)→Prop}{nx n j:Nat}{rest:List Oper}{fr:Fr}{hp:Hp}{K:Fps→Fr→Hp→Prop}
variable {d:Nat}{op:Op}{ty:Nat}{pos:String}{after:Array Edge}{a:AV}{p q:Nat×Option ABlk}{rd:List Nat}
theorem AY.nil(h:K [] fr hp):AY P ops spf C nx n j [] fr hp K:=⟨[],_,⟨rfl,rfl⟩,h⟩
theorem AY.cons {dst:Option Nat} {guard:Option (Nat×Bool)} {u:Upd} {rd:List Nat}
    (hs1:∀x,spf j=some x→u=⟨x,[]⟩∧rd=[]∧C j (look fr)) (hs2:spf j=none→AStep P ops (nx+j) (look fr) (an hp) ⟨dst,op,ty,pos,after,guard⟩ u rd) (hd:(match dst with|some d=>Nat.blt d n|none=>true)=true)
    (h:AY P ops spf C nx n (j+1) rest (Gy fr dst u.val) (u.blk.reverse++hp) fun fps f h=>K ((u.blk.map (·.1),rd)::fps) f h):AY P ops spf C nx n j (⟨dst,op,ty,pos,after,guard⟩::rest) fr hp K:=by
 obtain⟨us,a,h1,c⟩:=h;refine⟨(u,rd)::us,a,⟨u,rd,us,rfl,hs1,hs2,fun d b=>?_,h1⟩,c⟩;subst b;simp_all
theorem AY.op0 (hs:AEval P (nx+j) (evF (look fr)) (an hp) op ⟨a,[]⟩ rd) (hnd:bU op=true) (hd:Nat.blt d n=true)
    (h:AY P ops spf C nx n (j+1) rest ((d,a)::fr) hp fun fps f h=>K (([],rd)::fps) f h) (hsp:spf j=none:=by rfl):AY P ops spf C nx n j (⟨some d,op,ty,pos,after,none⟩::rest) fr hp K:=
 AY.cons (fun x e=>by grind) (fun _=>⟨bq hnd,hs⟩) hd h
theorem AY.op1 (hs:AEval P (nx+j) (evF (look fr)) (an hp) op ⟨a,[p]⟩ rd) (hnd:bU op=true) (hd:Nat.blt d n=true)
    (h:AY P ops spf C nx n (j+1) rest ((d,a)::fr) (p::hp) fun fps f h=>K (([p.1],rd)::fps) f h) (hsp:spf j=none:=by rfl):AY P ops spf C nx n j (⟨some d,op,ty,pos,after,none⟩::rest) fr hp K:=
 AY.cons (fun x e=>by grind) (fun _=>⟨bq hnd,hs⟩) hd h
theorem AY.on1 {u:AV} (hs:AEval P (nx+j) (evF (look fr)) (an hp) op ⟨u,[p]⟩ rd) (hnd:bU op=true)
    (h:AY P ops spf C nx n (j+1) rest fr (p::hp) fun fps f h=>K (([p.1],rd)::fps) f h) (hsp:spf j=none:=by rfl):AY P ops spf C nx n j (⟨none,op,ty,pos,after,none⟩::rest) fr hp K:=
 AY.cons (fun x e=>by grind) (fun _=>⟨bq hnd,hs⟩) rfl h
theorem AY.sp{x:AV}(hd:Nat.blt d n=true)(hsp:spf j=some x)(hC:C j (look fr))(h:AY P ops spf C nx n (j+1) rest ((d,x)::fr) hp fun fps f h=>K (([],[])::fps) f h):AY P ops spf C nx n j (⟨some d,op,ty,pos,after,none⟩::rest) fr hp K:=
 AY.cons (u:=⟨x,[]⟩) (rd:=[]) (fun z a=>by grind) (fun e=>by grind) hd h
end
theorem XSpecT.x{P:Program}{f:Nat}{args:List AV}{hp hp':Hp}{nx nx':Nat}{v:AV}(h:XSpecT P f args hp nx v hp' nx'):XSpec P f args hp nx v hp' nx':=
 ⟨h.enters,fun M e β vals h1 g j i=>(h.calls M e β vals h1 g j i).mono fun _ _ ⟨y,k,a,b,c,d,_⟩=>⟨y,k,a,b,c,d⟩⟩
def ArgsB(ev:Operand→Option AV)(t0:Nat)(v:AV):List Operand→List AV→Prop
 |[],as=>as=[]
 |x::xs,as=> ∃a as',as=a::as'∧((x= .tmp t0∧a=v)∨(ev x=some a∧Closed a))∧ArgsB ev t0 v xs as'
theorem ArgsB.nil{ev:Operand→Option AV}{t0:Nat}{v:AV}:ArgsB ev t0 v [] []:=rfl
theorem ArgsB.own{ev:Operand→Option AV}{t0:Nat}{v:AV}{xs:List Operand}{as:List AV}(h:ArgsB ev t0 v xs as):ArgsB ev t0 v (.tmp t0::xs) (v::as):=⟨_,_,rfl,.inl ⟨rfl,rfl⟩,h⟩
theorem ArgsB.clo{ev:Operand→Option AV}{t0:Nat}{v a:AV}{x:Operand}{xs:List Operand}{as:List AV}(h1:ev x=some a)(h2:Closed a)(h:ArgsB ev t0 v xs as):ArgsB ev t0 v (x::xs) (a::as):=⟨_,_,rfl,.inr ⟨h1,h2⟩,h⟩
theorem ArgsB.congr{ev ev':Operand→Option AV}{t0:Nat}{v:AV}:∀{xs:List Operand} {as:List AV},(∀x∈xs,ev' x=ev x)→ArgsB ev t0 v xs as→ArgsB ev' t0 v xs as
 |[],_,_,h=>h
 |x::xs,_,he,⟨a,as',e,h1,h2⟩=>⟨a,as',e,h1.imp id fun⟨c,b⟩=>⟨(he x (List.mem_cons_self ..)).trans c,b⟩,ArgsB.congr (fun z d=>he z (List.mem_cons_of_mem _ d)) h2⟩
theorem ArgsB.rvs{ev:Operand→Option AV}{t0:Nat}{v:AV}{M MB:Nat→Prop}{β βS:Nat→Option (Nat×Nat)}{w:World}{ρ:Operand→Value}(hv:RV MB βS w v (ρ (.tmp t0)))(hm:∀b N,aR w b=some N→MB b→M b):
    ∀{xs:List Operand} {as:List AV},(∀x∈xs,∀a,ev x=some a→RV M β w a (ρ x))→ArgsB ev t0 v xs as→RVs MB βS w as (xs.map ρ)
 |[],_,_,h=>by cases h;rfl
 |x::xs,_,he,⟨a,as',e,h1,h2⟩=>by
  subst e;refine⟨_,_,rfl,?_,ArgsB.rvs hv hm (fun z f=>he z (List.mem_cons_of_mem _ f)) h2⟩;rcases h1 with⟨rfl,rfl⟩|⟨d,c⟩
  exact hv;exact xf c (he x (List.mem_cons_self ..) a d) (fun _ _ _ _=>rfl) hm fun _ _ h=>h
structure PkgS (M00:Nat→Prop)(w00:Base)(hpA:Hp)(nxA:Nat)(v:AV)(t0:Nat)(βS:Nat→Option (Nat×Nat))(M0:Nat→Prop)(w0:Base)(M:Nat→Prop)(a:Act)(w:World):Prop where
 m:∀b,M0 b↔M00 b∨∃i s,βS i=some (b,s)
 k:∀b,w0.K b↔w00.K b∨∃i s,βS i=some (b,s)
 rng:∀i b s,βS i=some (b,s)→w00.w.heap.size≤b∧b< w.heap.size
 live:∀i x,βS i=some x→(an hpA i).isSome=true
 blk:∀i B,an hpA i=some B→∃b,βS i=some (b,B.sz)∧BlkAt M βS w b B
 inj:∀i j B B' b s s',an hpA i=some B→an hpA j=some B'→βS i=some (b,s)→βS j=some (b,s')→i=j
 free:∀i,nxA≤i→βS i=none∧i≠0
 zero:(an hpA 0).isSome=true→False
 val:RV M βS w v (a.tmps.getD t0 undef)
structure XP (jA jB t0:Nat)(v:AV)(hpA:Hp)(nxA:Nat)(M00:Nat→Prop)(w00:Base)(H:List Nat→Nat→Option ABlk)(σ:List Nat)(M0:Nat→Prop)(w0:Base)(β:Nat→Option (Nat×Nat))(a:Act)(w:World):Prop where
 kept:w00.Kept w
 m00:∀b,M00 b→w00.K b∧b≠GT
 pin:w0.pin=w00.pin
 dep:jB∈σ→jA∈σ
 no:jA∉σ∨jB∈σ→(∀b,M0 b↔M00 b)∧(∀b,w0.K b↔w00.K b)
 yes:jA∈σ→jB∉σ→∃βS,PkgS M00 w00 hpA nxA v t0 βS M0 w0 (MM M0 β (H σ)) a w
theorem Stab.size{M M':Nat→Prop}{β β':Nat→Option (Nat×Nat)}{w w':World}(st:Stab M M' β β' w w'):w.heap.size≤w'.heap.size:=by
 by_cases hw:w.heap.size=0;omega;obtain⟨k,b⟩:∃k,w.heap.size=k+1:=⟨w.heap.size- 1,by omega⟩;by_cases hs:∃N,aR w k=some N;obtain⟨N,hN⟩:=hs;have:=b7 (st.sz k N hN);omega
 have a:aR w k=none:=by
  cases hz:aR w k with
  |none=>rfl
  |some N=>grind
 have c:=st.oth k (by omega) a;grind
section
variable {P:Program}{jA jB t0 j id nxA:Nat}{v:AV}{hpA:Hp}{M00 M0:Nat→Prop}{w00 w0:Base}{H:List Nat→Nat→Option ABlk}{σ:List Nat}{β β':Nat→Option (Nat×Nat)}{a:Act}{w w':World}{u:Upd}{y:Value}
theorem XP.sub(hX:XP jA jB t0 v hpA nxA M00 w00 H σ M0 w0 β a w):(∀b,w00.K b→w0.K b)∧∀b,M00 b→M0 b:=by
 by_cases h:jA∈σ;by_cases h2:jB∈σ;obtain⟨d,c⟩:=hX.no (.inr h2);exact⟨fun b hb=>(c b).2 hb,fun b hb=>(d b).2 hb⟩;obtain⟨e,p⟩:=hX.yes h h2;exact⟨fun b hb=>(p.k b).2 (.inl hb),fun b hb=>(p.m b).2 (.inl hb)⟩;obtain⟨d,c⟩:=hX.no (.inl h);grind
theorem XP.ordinary {dst:Option Nat} (h1:j≠jA) (h2:j≠jB) (hd:∀d,dst=some d→d≠t0) (hH:H (σ++[j])=ig (H σ) u.blk)
    (hX:XP jA jB t0 v hpA nxA M00 w00 H σ M0 w0 β a w) (mem:Mem M0 w0 β (H σ) w) (haf:mG M0 w0 β (H σ) w id u y w' β'):XP jA jB t0 v hpA nxA M00 w00 H (σ++[j]) M0 w0 β' (a.put dst y) w':=by
 obtain⟨f,_,st,_⟩:=haf;have hA:jA∈σ++[j]↔jA∈σ:=⟨fun h=>jw h (Ne.symm h1),fun h=>List.mem_append_left _ h⟩;have hB:jB∈σ++[j]↔jB∈σ:=⟨fun h=>jw h (Ne.symm h2),fun h=>List.mem_append_left _ h⟩;have n:∀b,w0.K b→w'.heap[b]?=w.heap[b]?:=fun b hb=>(f.below.block b hb).trans (mem.below.block b hb).symm
 refine⟨⟨f.below.os.trans (mem.below.os.symm.trans hX.kept.os),f.below.tape.trans (mem.below.tape.symm.trans hX.kept.tape),f.below.output.trans (mem.below.output.symm.trans hX.kept.output),Nat.le_trans hX.kept.size st.size,fun b hb=>(n b (hX.sub.1 b hb)).trans (hX.kept.block b hb),fun b k hb=>st.sz b k (hX.kept.sizes b k hb)⟩,hX.m00,hX.pin,
  fun h=>hA.2 (hX.dep (hB.1 h)),fun h=>hX.no (h.imp (fun h x=>h (hA.2 x)) hB.1),fun h o=>?_⟩
 obtain⟨l,p⟩:=hX.yes (hA.1 h) fun x=>o (hB.2 x);have c:StabC (MM M0 β (H σ)) (MM M0 β' (H (σ++[j]))) l l w w':=⟨st.heap,by rw[hH];exact st.m,fun _ _ h=>h,st.sz⟩;refine⟨l,p.m,p.k,fun i b s g=>⟨(p.rng i b s g).1,Nat.lt_of_lt_of_le (p.rng i b s g).2 st.size⟩,p.live,fun i B g=>?_,p.inj,p.free,p.zero,?_⟩;obtain⟨b,e1,e2⟩:=p.blk i B g;exact⟨b,e1,e2.stab c (n b ((p.k b).2 (.inr ⟨i,_,e1⟩)))⟩
 have e:(a.put dst y).tmps.getD t0 undef=a.tmps.getD t0 undef:=by
  cases dst with
  |none=>rfl
  |some d=>exact o8 (hd d rfl).symm
 rw[e];exact c.all p.val
theorem XP.make {g nx0:Nat} {as asA:List AV} {vals:List Value} (hX:XP jA jB t0 v hpA nxA M00 w00 H σ M0 w0 β a w) (mem:Mem M0 w0 β (H σ) w) (hj:jA∉σ) (hAB:jA≠jB) (hn:t0< a.tmps.size) (hH:H (σ++[jA])=H σ) (h0:1≤nx0)
    (X1:XSpecT P g asA [] nx0 v hpA nxA) (hargs:RVs (MM M0 β (H σ)) β w as vals) (hcl:∀x∈as,Closed x) (hco:as.map coe=asA):
    Calls P g vals.toArray w fun e w'=> ∃y M0' w0' β',e= .returned y∧Mem M0' w0' β' (H σ) w'∧w0'.gh=w0.gh∧RV (MM M0' β' (H σ)) β' w' .any y∧StabC (MM M0 β (H σ)) (MM M0' β' (H σ)) β β' w w'∧(∀i,i≠id→β' i=β i)∧(∀ds,DefOK ds w0 w→DefOK ds w0' w')∧
     XP jA jB t0 v hpA nxA M00 w00 H (σ++[jA]) M0' w0' β' (a.put (some t0) y) w':=by
 have e0:∀(M:Nat→Prop) (b:Nat→Option (Nat×Nat)),MM M b (an [])=M:=fun M b=>by funext c;simp[MM,an,look]
 let wc:Base:=⟨w,fun b=>b< w.heap.size,fun _ h=>h,none,fun _=>undef,mem.tab.lt,mem.tab⟩
 have t:Mem (MM M0 β (H σ)) wc (fun _=>none) (an []) w:=⟨⟨rfl,rfl,rfl,Nat.le_refl _,fun _ _=>rfl,fun _ _ h=>h⟩,fun b hb=>⟨mem.lt hb,fun e=>by
  rcases hb with hb|⟨i,B,s,_,d⟩
  exact(mem.m0 b hb).2 e;rw[e] at d;exact mem.gtn i s d⟩,(fun _ _ _ h=>by cases h),(fun h=>by cases h),(fun _ _ h=>by cases h),fun _ _ _ _ _ _ _ h=>by simp⟩
 refine(X1.calls (MM M0 β (H σ)) wc (fun _=>none) vals rfl t (fun i d=>⟨rfl,by omega⟩) (by rw[e0];exact hco▸gq (df hcl hargs))).mono ?_;rintro e w' ⟨y,o,rfl,n,O,q,m⟩;have j:∀b,b< w.heap.size→w'.heap[b]?=w.heap[b]?:=fun b hb=>n.below.block b hb;have r:w.heap.size≤w'.heap.size:=n.below.size;have f:∀i b s,o i=some (b,s)→w.heap.size≤b∧b< w'.heap.size:=fun i b s d=>⟨Nat.le_of_not_lt (n.rng i b s d).1,(n.rng i b s d).2⟩;obtain⟨L,G⟩:=hX.no (.inl hj);have V:∀b,w0.K b→b< w.heap.size:=fun b hb=>Nat.lt_of_lt_of_le (w0.lt b hb) mem.below.size;have Q:=mem.tab.lt
 let M0':Nat→Prop:=fun b=>M0 b∨∃i s,o i=some (b,s)
 let w0':Base:=⟨w',fun b=>w0.K b∨∃i s,o i=some (b,s),fun b hb=>by
  grind,w0.pin,w0.gh,.inl w0.kt,mem.tab.congr (j GT mem.tab.lt)⟩
 have st:StabC (MM M0 β (H σ)) (MM M0' β (H σ)) β β w w':=by
  refine⟨fun b N hb _=>j b (b7 hb),fun b N hb l=>?_,fun _ _ h=>h,fun b N hb=>(ej (j b (b7 hb))).trans hb⟩;rcases l with(l|⟨i,s,d⟩)|l
  exact .inl l;have:=b7 hb;have:=(f i b s d).1;omega;exact .inr l
 have F:StabC (MM (MM M0 β (H σ)) o (an hpA)) (MM M0' β (H (σ++[jA]))) o o w' w':=by
  refine⟨fun _ _ _ _=>rfl,fun b N _ l=>?_,fun _ _ h=>h,fun _ _ h=>h⟩;rw[hH] at l;rcases l with(l|⟨i,s,d⟩)|l
  exact .inl (.inl l);obtain⟨B,hB⟩:=Option.isSome_iff_exists.1 (m i _ d);exact .inr ⟨i,B,s,hB,d⟩;exact .inl (.inr l)
 have u:∀b,w00.K b→b< w.heap.size:=fun b hb=>V b ((G b).2 hb);refine⟨y,M0',w0',β,rfl,⟨⟨rfl,rfl,rfl,Nat.le_refl _,fun _ _=>rfl,fun _ _ h=>h⟩,fun b hb=>⟨hb.imp (fun h=>(mem.m0 b h).1) fun h=>h,fun e=>?_⟩,fun i b s d=>⟨fun p=>?_,Nat.lt_of_lt_of_le (mem.rng i b s d).2 r⟩,mem.pin,fun i B d=>?_,mem.inj⟩,rfl,trivial,st,fun _ _=>rfl,fun ds A=>?_,?_⟩;rcases hb with hb|⟨i,s,d⟩
 exact(mem.m0 b hb).2 e;have:=(f i b s d).1;omega;rcases p with p|⟨U,T,C⟩
 exact(mem.rng i b s d).1 p;have:=(f U b T C).1;have:=(mem.rng i b s d).2;omega;obtain⟨b,e1,e2⟩:=mem.blk i B d;exact⟨b,e1,e2.stab st (j b (mem.rng i b _ e1).2)⟩;obtain⟨R,d1,d2,W⟩:=A;refine⟨R,d1,d2,fun D S=>?_⟩;obtain⟨e1,e2⟩:=W D S;have E:=(Array.getElem?_eq_some_iff.1 e1).1;refine⟨by rw[j D E];exact e1,fun p=>?_⟩;rcases p with p|⟨i,s,d⟩
 exact e2 p;have:=(f i D s d).1;omega;have z:jB∉σ++[jA]:=fun h=>hj (hX.dep (jw h (Ne.symm hAB)));refine⟨⟨n.below.os.trans hX.kept.os,n.below.tape.trans hX.kept.tape,n.below.output.trans hX.kept.output,Nat.le_trans hX.kept.size r,fun b hb=>(j b (u b hb)).trans (hX.kept.block b hb),fun b k hb=>st.sz b k (hX.kept.sizes b k hb)⟩,hX.m00,hX.pin,fun _=>by simp,fun h=>?_,fun _ _=>?_⟩;rcases h with h|h
 exact absurd (by simp) h;exact absurd h z;refine⟨o,fun b=>or_congr (L b) Iff.rfl,fun b=>or_congr (G b) Iff.rfl,fun i b s d=>⟨Nat.le_trans hX.kept.size (f i b s d).1,(f i b s d).2⟩,m,fun i B d=>?_,n.inj,q,fun J=>?_,?_⟩;obtain⟨b,e1,e2⟩:=n.blk i B d;exact⟨b,e1,e2.stab F rfl⟩;obtain⟨B,hB⟩:=Option.isSome_iff_exists.1 J;obtain⟨b,e1,_⟩:=n.blk 0 B hB;have:=n.pin J;rw[e1] at this;cases this;rw[tQ hn];exact F.all O
theorem XP.use {g nxB:Nat} {r:AV} {as asB:List AV} {xs:List Operand} {ev:Operand→Option AV} {dst:Option Nat} (hX:XP jA jB t0 v hpA nxA M00 w00 H σ M0 w0 β a w) (mem:Mem M0 w0 β (H σ) w) (hjA:jA∈σ) (hj:jB∉σ) (hH:H (σ++[jB])=H σ)
    (X2:XSpec P g asB hpA nxA r [] nxB) (hr:Closed r) (hev:∀x∈xs,∀z,ev x=some z→RV (MM M0 β (H σ)) β w z (a.eval x)) (hargs:ArgsB ev t0 v xs as) (hco:as.map coe=asB):
    Calls P g (xs.map a.eval).toArray w fun e w'=> ∃y M0' w0' β',e= .returned y∧Mem M0' w0' β' (H σ) w'∧w0'.gh=w0.gh∧RV (MM M0' β' (H σ)) β' w' r y∧StabC (MM M0 β (H σ)) (MM M0' β' (H σ)) β β' w w'∧(∀i,i≠id→β' i=β i)∧(∀ds,DefOK ds w0 w→DefOK ds w0' w')∧
     XP jA jB t0 v hpA nxA M00 w00 H (σ++[jB]) M0' w0' β' (a.put dst y) w':=by
 have e0:∀(M:Nat→Prop) (b:Nat→Option (Nat×Nat)),MM M b (an [])=M:=fun M b=>by funext c;simp[MM,an,look]
 obtain⟨j,p⟩:=hX.yes hjA hj
 let S:Nat→Prop:=fun b=> ∃i s,j i=some (b,s)
 let MB:Nat→Prop:=fun b=>MM M0 β (H σ) b∧¬S b
 have q:∀b,S b→M0 b:=fun b hb=>(p.m b).2 (.inr hb);have O:∀b,S b→w0.K b:=fun b hb=>(p.k b).2 (.inr hb);have A:¬S GT:=fun h=>(mem.m0 GT (q _ h)).2 rfl
 have X:∀b,S b→∃i B s,an hpA i=some B∧j i=some (b,s):=fun b ⟨i,s,d⟩=>by
  obtain⟨B,hB⟩:=Option.isSome_iff_exists.1 (p.live i _ d);grind
 let wc:Base:=⟨w,fun b=>b< w.heap.size∧¬S b,fun _ h=>h.1,none,fun _=>undef,⟨mem.tab.lt,A⟩,mem.tab⟩
 have R:∀b,MM MB j (an hpA) b→MM M0 β (H σ) b:=by
  rintro b (hb|⟨i,B,s,_,d⟩);exact hb.1;exact .inl (q b ⟨i,s,d⟩)
 have T:StabC (MM M0 β (H σ)) (MM MB j (an hpA)) j j w w:=⟨fun _ _ _ _=>rfl,fun b _ _ h=>R b h,fun _ _ h=>h,fun _ _ h=>h⟩
 have F:Mem MB wc j (an hpA) w:=⟨⟨rfl,rfl,rfl,Nat.le_refl _,fun _ _=>rfl,fun _ _ h=>h⟩,fun b hb=>⟨⟨mem.lt hb.1,hb.2⟩,fun e=>by
  rcases hb.1 with hb|⟨i,B,s,_,d⟩
  exact(mem.m0 b hb).2 e;rw[e] at d;exact mem.gtn i s d⟩,fun i b s d=>⟨fun u=>u.2 ⟨i,s,d⟩,(p.rng i b s d).2⟩,fun Z=>(p.zero Z).elim,fun i B d=>by
  obtain⟨b,e1,e2⟩:=p.blk i B d;exact⟨b,e1,e2.stab T rfl⟩,p.inj⟩
 have hv:RVs (MM MB j (an hpA)) j w as (xs.map a.eval):=ArgsB.rvs (M:=MM M0 β (H σ)) (β:=β) (T.all p.val) (fun b _ _ h=>R b h) hev hargs;refine(X2.calls MB wc j _ rfl F p.free (hco▸gq hv)).mono ?_;rintro e w' ⟨y,βB,rfl,o,Q,_⟩;rw[e0] at Q;have f:∀b,b< w.heap.size→¬S b→w'.heap[b]?=w.heap[b]?:=fun b h1 G=>o.below.block b ⟨h1,G⟩;have n:w.heap.size≤w'.heap.size:=o.below.size
 have C:∀b,w00.K b→¬S b:=fun b hb ⟨i,s,d⟩=>by
  have h1:=w00.lt b hb;have G:=(p.rng i b s d).1;omega
 have t:∀b,w00.K b→b< w.heap.size:=fun b hb=>Nat.lt_of_lt_of_le (w00.lt b hb) hX.kept.size;have l:∀i b s,β i=some (b,s)→¬S b:=fun i b s d h=>(mem.rng i b s d).1 (O b h)
 let w0':Base:=⟨w',w00.K,fun b hb=>Nat.lt_of_lt_of_le (t b hb) n,w0.pin,w0.gh,w00.kt,mem.tab.congr (f GT mem.tab.lt A)⟩
 have J:∀b,MM M00 β (H σ) b→MM M0 β (H σ) b∧¬S b:=by
  rintro b (hb|⟨i,B,s,h1,G⟩);exact⟨.inl ((p.m b).2 (.inl hb)),C b (hX.m00 b hb).1⟩;exact⟨.inr ⟨i,B,s,h1,G⟩,l i b s G⟩
 have st:StabC (MM M0 β (H σ)) (MM M00 β (H σ)) β β w w':=⟨fun b N hb E=>f b (b7 hb) fun h=>E (.inl (q b h)),fun b N _ E=>(J b E).1,fun _ _ h=>h,o.below.sizes⟩;refine⟨y,M00,w0',β,rfl,⟨⟨rfl,rfl,rfl,Nat.le_refl _,fun _ _=>rfl,fun _ _ h=>h⟩,hX.m00,fun i b s d=>⟨fun u=>(mem.rng i b s d).1 ((p.k b).2 (.inl u)),Nat.lt_of_lt_of_le (mem.rng i b s d).2 n⟩,mem.pin,fun i B d=>?_,mem.inj⟩,rfl,?_,st,fun _ _=>rfl,fun ds L=>?_,?_⟩;obtain⟨b,e1,e2⟩:=mem.blk i B d;exact⟨b,e1,e2.stab st (f b (mem.rng i b _ e1).2 (l i b _ e1))⟩;exact xf hr Q (fun _ _ _ _=>rfl) (fun b _ _ E=>J b E) fun _ _ h=>h;obtain⟨V,d1,d2,Y⟩:=L;refine⟨V,d1,d2,fun D W=>?_⟩;obtain⟨e1,e2⟩:=Y D W;have U:=(Array.getElem?_eq_some_iff.1 e1).1;refine⟨by grind,fun u=>e2 ((p.k D).2 (.inl u))⟩;refine⟨⟨o.below.os.trans hX.kept.os,o.below.tape.trans hX.kept.tape,o.below.output.trans hX.kept.output,Nat.le_trans hX.kept.size n,fun b hb=>(f b (t b hb) (C b hb)).trans (hX.kept.block b hb),fun b k hb=>o.below.sizes b k (hX.kept.sizes b k hb)⟩,hX.m00,hX.pin,fun _=>List.mem_append_left _ hjA,fun _=>⟨fun _=>Iff.rfl,fun _=>Iff.rfl⟩,fun _ h=>absurd (by simp) h⟩
end
def F3(jA jB:Nat)(r:AV)(j:Nat):Option AV:=cond (Nat.beq j jA) (some .any) (cond (Nat.beq j jB) (some r) none)
def kAB(jA jB t0:Nat)(v:AV)(gA gB:Nat)(asA asB:List AV)(fA fB:Operand)(xA xB:List Operand)(j:Nat)(fr:Nat→Option AV):Prop:=
 (j=jA→evF fr fA=some (.clos gA [] [])∧∃as,evs (evF fr) xA=some as∧(∀a∈as,Closed a)∧as.map coe=asA)∧(j=jB→evF fr fB=some (.clos gB [] [])∧∃as,ArgsB (evF fr) t0 v xB as∧as.map coe=asB)
theorem kAB.a{jA jB t0:Nat}{v:AV}{gA gB:Nat}{asA asB as:List AV}{fA fB:Operand}{xA xB:List Operand}{fr:Nat→Option AV}(hne:Nat.beq jA jB=false)(h1:evF fr fA=some (.clos gA [] []))(h2:evs (evF fr) xA=some as)(h3:∀a∈as,Closed a)(h4:as.map coe=asA):kAB jA jB t0 v gA gB asA asB fA fB xA xB jA fr:=
 ⟨fun _=>⟨h1,as,h2,h3,h4⟩,fun e=>by simp_all⟩
theorem kAB.b{jA jB t0:Nat}{v:AV}{gA gB:Nat}{asA asB as:List AV}{fA fB:Operand}{xA xB:List Operand}{fr:Nat→Option AV}(hne:Nat.beq jA jB=false)(h1:evF fr fB=some (.clos gB [] []))(h2:ArgsB (evF fr) t0 v xB as)(h4:as.map coe=asB):kAB jA jB t0 v gA gB asA asB fA fB xA xB jB fr:=
 ⟨(fun e=>by simp_all),fun _=>⟨h1,as,h2,h4⟩⟩
theorem AWp.regAB {P:Program} {ρ:Option Nat} {Q:Exit→AState→Prop} {ops:Array Oper} {rid nx n:Nat} {fr:Fr} {hp:Hp} (jA jB t0:Nat) {v r:AV} {hpA:Hp} {nx0 nxA nxB gA gB:Nat} {asA asB:List AV} {oA oB:Oper} {cA cB:Call} {fA fB:Operand} (hm:P.follows .mixedOrders=true)
    (XA:XSpecT P gA asA [] nx0 v hpA nxA) (XB:XSpec P gB asB hpA nxA r [] nxB) (hr:Closed r)
    (hoA:ops[jA]?=some oA) (hopA:oA.op= .call cA) (hgA:oA.guard=none) (hdA:oA.dst=some t0) (hfA:cA.callee= .value fA) (hoB:ops[jB]?=some oB) (hopB:oB.op= .call cB) (hgB:oB.guard=none) (hfB:cB.callee= .value fB)
    (hne:Nat.beq jA jB=false) (hAB:mF ops jA jB=true) (ht0:Nat.blt t0 n=true) (hw:(ops.toList.zipIdx.all fun p=>Nat.beq p.2 jA||(match p.1.dst with|some d=>!Nat.beq d t0|none=>true))=true) (hn0:Nat.ble 1 nx0=true)
    (h:AY P ops (F3 jA jB r) (kAB jA jB t0 v gA gB asA asB fA fB cA.args.toList cB.args.toList) nx n 0 ops.toList fr hp fun fps f h=>lW ops fps=true∧Q .normal ⟨f,h,nx+ops.size,n⟩):AWp ρ P (.region rid ops true) Q ⟨fr,hp,nx,n⟩:=by
 have hne':jA≠jB:=fun e=>by simp_all
 have ht1:t0< n:=Nat.le_of_ble_eq_true ht0;rintro F L a w ⟨β0,B,hn0',hfr0,C,K⟩;obtain⟨us,O,hrun,Z,hq⟩:=h;obtain⟨h1,h2,h3,h4⟩:=rG ops.toList 0 _ O us [] (look fr) (an hp) hrun rfl (fun i o h=>by grind) rfl rfl;simp only[List.nil_append,Nat.zero_add,Array.length_toList] at h1 h2 h3
 have H:AT ops=true:=by
  unfold lW at Z;grind
 have hB1:jB< ops.size:=(Array.getElem?_eq_some_iff.1 hoB).1
 have E:∀(j:Nat) (u:Upd) (rd:List Nat) (σ:List Nat),us[j]?=some (u,rd)→stH us (an hp) (σ++[j])=ig (stH us (an hp) σ) u.blk:=fun j u rd σ U=>by
  rw[ik,show blk? us j=u.blk by simp[blk?,U]]
 refine Gp (us:=us) (n:=n) (nx:=nx) (fr0:=look fr) (hp0:=an hp) (X:=fun σ G V β a w=>XP jA jB t0 v hpA nxA F L (fun σ=>stH us (an hp) σ) σ G V β a w) (gh:=L.gh) hm (ancOK H) (vQ Z) (fun j o T=>?_) (fun G V β k=>?_) ?_ (fun σ a' w' nd hall hlt hF=>?_);obtain⟨u,rd,U,s1,s2,hdst⟩:=h1 j o (by simpa using T);refine⟨u,rd,U,hdst,?_⟩;have l:∀σ,(∀t∈l8 ops o,stF ops us (look fr) σ t=stF ops us (look fr) (List.range j) t)→∀x∈o.op.operands,evF (stF ops us (look fr) σ) x=evF (stF ops us (look fr) (List.range j)) x:=fun σ A x q=>ww fun t e=>A t (by subst e;exact List.mem_append_left _ (tf (Array.mem_toList_iff.2 q)));by_cases hjA:j=jA;subst hjA;rw[hoA] at T;cases T;obtain⟨rfl,rfl,hC⟩:=s1 .any (by unfold F3;rw[Nat.beq_refl];rfl);obtain⟨c1,as,c2,c3,c4⟩:=hC.1 rfl;refine .inr ⟨hgA,(fun c hc=>by rw[hopA] at hc;cases hc),fun σ G V β a w hj hr A W g m hid hid0 k=>?_⟩;have l:=l σ A;have o1:fA∈oA.op.operands:=by rw[hopA];simp[Op.operands,Call.operands,hfA]
 have o2:∀x∈cA.args.toList,x∈oA.op.operands:=fun x q=>by rw[hopA];simp[Op.operands,Call.operands,hfA];exact .inr (by simpa using q)
 have d1:=(l fA o1).trans c1;have d2:evs (evF (stF ops us (look fr) σ)) cA.args.toList=some as:=(qV fun x q=>l x (o2 x q)).trans c2;obtain⟨xs,ys,q,M,R⟩:=fv m fA _ d1;have N:xs= #[]:=Array.ext' M;have J:ys= #[]:=Array.ext' R;subst N J;refine⟨gA,_,fG hopA hfA q rfl XA.enters,?_⟩;rw[hdA];exact k.make g hj hne' (by rw[W];exact ht1) (E _ _ _ σ U) (Nat.le_of_ble_eq_true hn0) XA (iz (fv m) d2) c3 c4;by_cases hjB:j=jB;subst hjB;rw[hoB] at T;cases T;obtain⟨rfl,rfl,hC⟩:=s1 r (by unfold F3;rw[show Nat.beq j jA=false by cases hb:Nat.beq j jA with|false=>rfl|true=>exact absurd (vW hb) hjA,Nat.beq_refl];rfl);obtain⟨c1,as,c2,c4⟩:=hC.2 rfl;refine .inr ⟨hgB,(fun c hc=>by rw[hopB] at hc;cases hc),fun σ G V β a w hj hr' A W g m hid hid0 k=>?_⟩;have l:=l σ A;have o1:fB∈oB.op.operands:=by rw[hopB];simp[Op.operands,Call.operands,hfB]
 have o2:∀x∈cB.args.toList,x∈oB.op.operands:=fun x q=>by rw[hopB];simp[Op.operands,Call.operands,hfB];exact .inr (by simpa using q)
 have d1:=(l fB o1).trans c1;obtain⟨xs,ys,q,M,R⟩:=fv m fB _ d1;have N:xs= #[]:=Array.ext' M;have J:ys= #[]:=Array.ext' R;subst N J;exact⟨gB,_,fG hopB hfB q rfl XB.enters,k.use g (hr' _ hAB) hj (E _ _ _ σ U) XB hr (fun x _ z hz=>fv m x z hz) (ArgsB.congr (fun x q=>l x (o2 x q)) c2) c4⟩
 have hs:F3 jA jB r j=none:=by
  unfold F3;rw[show Nat.beq j jA=false by cases hb:Nat.beq j jA with|false=>rfl|true=>exact absurd (vW hb) hjA,show Nat.beq j jB=false by cases hb:Nat.beq j jB with|false=>rfl|true=>exact absurd (vW hb) hjB];rfl
 refine .inl ⟨s2 hs,fun σ G V β a w y w' β' hj W k g haf=>k.ordinary hjA hjB (fun d hd=>?_) (E j u rd σ U) g haf⟩;have:=List.all_eq_true.1 hw (o,j) (by rw[List.mem_zipIdx_iff_getElem?];simpa using T);rw[hd,show Nat.beq j jA=false by cases hb:Nat.beq j jA with|false=>rfl|true=>exact absurd (vW hb) hjA] at this;exact DG (by simpa using this);exact⟨⟨k.kept.os,k.kept.tape,k.kept.output,k.kept.size,k.kept.block,k.kept.sizes⟩,k.m00,k.pin,k.dep,k.no,fun h=>by cases h⟩;exact⟨F,L,β0,B,rfl,hn0',hfr0,C,K,B.below,B.m0,rfl,(fun h=>by cases h),(fun _=>⟨fun _=>Iff.rfl,fun _=>Iff.rfl⟩),fun h=>by cases h⟩;obtain⟨G,V,β,g,hgh,W,m,S,Y,k⟩:=hF;obtain⟨n1,n2⟩:=k.no (.inr (hall jB hB1));have hM0:G=F:=funext fun b=>propext (n1 b);subst hM0;rw[←h2,←h3] at *
 refine⟨⟨O.fr,O.hp,nx+ops.size,n⟩,⟨β,⟨k.kept,k.m00,fun i b s hi=>⟨fun hk=>(g.rng i b s hi).1 ((n2 b).2 hk),(g.rng i b s hi).2⟩,fun hz=>(g.pin hz).trans k.pin,g.blk,g.inj⟩,W,fun t x q=>by rw[←yT hgh];exact m t x q,S,?_⟩,hq⟩;obtain⟨Ds,d1,d2,d3⟩:=Y;exact⟨Ds,d1,d2,fun D hD=>⟨(d3 D hD).1,fun hk=>(d3 D hD).2 ((n2 D).2 hk)⟩⟩
def mzH(sz TS TQ:Nat)(o:List (List AV))(L:List (List (List AV))):Hp:=(1,some ⟨TS,1,o⟩)::mxB TQ sz L 2
theorem dc{sz TS TQ k:Nat}{o:List (List AV)}{L:List (List (List AV))}{e:List (List AV)}(h:L[k]?=some e):an (mzH sz TS TQ o L) (k+2)=some ⟨TQ,sz,e⟩:=by
 unfold mzH;rw[cX];unfold upd;exact DI L 2 k e h
theorem GX{sz TS TQ k:Nat}(hz:sz≠0){o:List (List AV)}{L:List (List (List AV))}{e:List (List AV)}(h:L[k]?=some e):dB (an (mzH sz TS TQ o L)) (k+2)=some ⟨TQ,sz,e⟩:=dP (dc h) hz
theorem SEntT.mz {sz:Nat} {fr fr':Fr} {hp:Hp} {nx N TS TQ:Nat} (s:Nat→Nat) (o o':List (List AV)) (L:List (List (List AV))) (hL:L.length≤30) (s0:s 0=0) (hinj:∀i j,1≤i→i< L.length+2→1≤j→j< L.length+2→s i=s j→i=j)
    (h1:an hp (s 1)=some ⟨TS,1,o'⟩) (ho:o'.length=o.length) (hr:∀i e,L[i]?=some e→an hp (s (i+2))=some ⟨TQ,sz,e⟩∧∀x∈e,∀c∈x,Closed c)
    (hO:Shr ⟨40,s⟩ (an hp) (an (mzH sz TS TQ o L))→CvLL ⟨40,s⟩ (an hp) (an (mzH sz TS TQ o L)) o' o)
    (hF:Shr ⟨40,s⟩ (an hp) (an (mzH sz TS TQ o L))→CvF ⟨40,s⟩ (an hp) (an (mzH sz TS TQ o L)) fr fr'):SEntT ⟨fr,hp,nx,N⟩ ⟨fr',mzH sz TS TQ o L,40,N⟩:=by
 have a:∀i B,(i,some B)∈mzH sz TS TQ o L→(i=1∧B=⟨TS,1,o⟩)∨∃k e,L[k]?=some e∧i=k+2∧B=⟨TQ,sz,e⟩:=fun i B h=>by
  rcases List.mem_cons.1 h with h|h
  cases h;exact .inl ⟨rfl,rfl⟩;obtain⟨k,e,b,m,k3⟩:=sr L 2 i B h;grind
 have f:Shr ⟨40,s⟩ (an hp) (an (mzH sz TS TQ o L)):=⟨fun i B h=>by
  rcases a i B (iu h) with⟨rfl,rfl⟩|⟨k,e,b,rfl,rfl⟩
  exact⟨(show 1< 40 by decide),_,h1,rfl,rfl,ho⟩;grind⟩
 refine SEntT.intro (st:=⟨fr,hp,nx,N⟩) (st':=⟨fr',mzH sz TS TQ o L,40,N⟩) ⟨40,s⟩ rfl (show 0< 40 by decide) s0 (sE _ fun i j d l e=>?_) rfl (hF f) (vg _ fun i B h=>?_)
 have g:∀i,i∈(mzH sz TS TQ o L).map (·.1)→1≤i∧i< L.length+2:=fun i d=>by
  rcases List.mem_cons.1 d with h|h
  have h:i=1:=h;omega;have:=sv L 2 i h;omega
 exact hinj i j (g i d).1 (g i d).2 (g j l).1 (g j l).2 e;rcases a i B h with⟨rfl,rfl⟩|⟨k,e,b,rfl,rfl⟩
 exact⟨(show 1< 40 by decide),_,h1,rfl,rfl,hO f⟩;exact⟨by grind,_,(hr k e b).1,rfl,rfl,a8 f (hr k e b).2⟩
def mzO(sz:Nat)(w:Nat→Nat)(s:Nat→Nat)(n:Nat):List (List AV):=(List.range n).map fun i=>[.lsl (s (i+2)) 0 (w i) none sz]
@[simp] theorem nN (sz:Nat)(w:Nat→Nat)(s:Nat→Nat)(n:Nat):(mzO sz w s n).length=n:=by simp[mzO]
theorem xD{sz:Nat}{w:Nat→Nat}{s:Nat→Nat}{n i:Nat}(h:i< n):(mzO sz w s n)[i]?=some [.lsl (s (i+2)) 0 (w i) none sz]:=by simp[mzO,h]
theorem qj{sz:Nat}{hp hp':Nat→Option ABlk}{s:Nat→Nat}{w:Nat→Nat}{n:Nat}(hn:n≤30)(hl:∀i,i< n→(hp' (i+2)).isSome=true):CvLL ⟨40,s⟩ hp hp' (mzO sz w s n) (mzO sz w (fun i=>i) n):=
 A7 _ _ _ fun i a=>by
  have:=List.mem_range.1 a;exact ah (Cv.sl (Nat.ble_eq_true_of_le (show i+2+1≤40 by omega)) rfl (hl i this)) av
theorem Cv.mzShut{r:Ren}{hp':Nat→Option ABlk}{cap:Option Nat}{sz TS TQ n:Nat}{w:Nat→Nat}(hz:sz≠0){L:List (List (List AV))}(h:Shr r (an (mzH sz TS TQ (mzO sz w (fun i=>i) n) L)) hp')(hd:∀i,hp' i=none)(hn:n=L.length)(hw:∀i e,L[i]?=some e→e.length=w i)(hc:∀e∈L,∀x∈e,∀c∈x,Closed c):
    Cv r (an (mzH sz TS TQ (mzO sz w (fun i=>i) n) L)) hp' (.lsl 1 0 n cap 1) (.arr (L.map fun e=>[.arr e])):=by
 have g:∀i,vf r hp' i:=fun i j B s=>by grind
 have f:(mzO sz w (fun i=>i) n).length=n:=nN _ _ _ _;have h1:dB (an (mzH sz TS TQ (mzO sz w (fun i=>i) n) L)) 1=some ⟨TS,1,mzO sz w (fun i=>i) n⟩:=rfl;refine Cv.trans_eq (Cv.shut (es:=L.map fun e=>[.arr e]) h h1 (g 1) (by grind) ?_) rfl;show CvLL r _ hp' (((mzO sz w (fun i=>i) n).drop 0).take n) _;rw[List.drop_zero,List.take_of_length_le (by omega)];subst hn
 have a:∀(l:List (List (List AV))) (k:Nat),(∀i e,l[i]?=some e→L[k+i]?=some e)→CvLL r (an (mzH sz TS TQ (mzO sz w (fun i=>i) L.length) L)) hp' ((List.range' k l.length).map fun i=>[.lsl (i+2) 0 (w i) none sz]) (l.map fun e=>[.arr e]):=by
  intro l
  induction l with
  |nil=>intro k _;exact CvLL.nil
  |cons e l o=>
   intro k b;have d:L[k]?=some e:=b 0 e rfl;have p:=List.mem_of_getElem? d
   refine CvLL.cons (ah ?_ av) (o (k+1) fun i q m=>by
    have:=b (i+1) q (by grind);grind)
   refine Cv.shut (es:=e) h (GX hz d) (g _) (by grind) ?_;rw[List.take_of_length_le (by grind)];exact a8 h (hc e p)
 have:=a L 0 fun i e m=>by grind
 rw[←List.range_eq_range'] at this;exact this
theorem XSpecT.shut{P:Program}{f nx nx':Nat}{args:List AV}{v r:AV}{hp':Hp}(h:XSpecT P f args [] nx v hp' nx')(h0:Nat.ble 1 nx=true)(hcl:∀a∈args,Closed a){rr:Ren}(hc:Cv rr (an hp') (fun _=>none) v r)(hr:Closed r):FSpec P f args r:=by
 have e0:∀(M:Nat→Prop) (b:Nat→Option (Nat×Nat)),MM M b (an [])=M:=fun M b=>by funext c;simp[MM,an,look]
 have e1:∀(M:Nat→Prop) (b:Nat→Option (Nat×Nat)),MM M b (fun _=>none)=M:=fun M b=>by funext c;simp[MM]
 refine⟨hcl,h.enters,fun M w vals g j=>((h.calls M (Base.of w g.tab) (fun _=>none) vals rfl ⟨⟨rfl,rfl,rfl,Nat.le_refl _,fun _ _=>rfl,fun _ _ h=>h⟩,(fun b hb=>⟨g.lt b hb,fun e=>g.nt (e▸hb)⟩),(fun _ _ _ h=>by cases h),(fun _=>rfl),(fun _ _ h=>by cases h),fun _ _ _ _ _ _ _ h=>by simp⟩ (fun i o=>⟨rfl,by have:=Nat.le_of_ble_eq_true h0;omega⟩) (by rw[e0];exact j)).mono ?_)⟩;rintro e m ⟨y,n,rfl,d,l,_,_⟩;have k:=hc M _ n m y d l;rw[e1] at k;exact⟨y,rfl,hr _ _ _ _ k,d.below.os,d.below.tape,d.below.output,d.below.size,d.below.block⟩
end Go.Abs
