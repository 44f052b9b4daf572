/- Part W11 of the proof. -/
import Derived.Test.YtjkddcfoolilbaaGreatDoorW10
set_option linter.all false
namespace Go.Abs
open Go.RowKit
structure XSpecT (P:Program)(f:Nat)(args:List AV)(hp:Hp)(nx:Nat)(v:AV)(hp':Hp)(nx':Nat):Prop where
 enters:∀(xs:Array Value) (w:World),(callFunc f xs).run P w= .ok (.enter f xs) w
 calls:∀(M:Nat→Prop) (w0:Base) (β:Nat→Option (Nat×Nat)) (vals:List Value),w0.gh=(fun _=>undef)→Mem M w0 β (lookB hp) w0.w→(∀i,nx≤i→β i=none∧i≠0)→RVs (MM M β (lookB hp)) β w0.w args vals→
  Calls P f vals.toArray w0.w fun x w'=> ∃y β',x= .returned y∧Mem M w0 β' (lookB hp') w'∧RV (MM M β' (lookB hp')) β' w' v y∧(∀i,nx'≤i→β' i=none∧i≠0)∧∀i x,β' i=some x→(lookB hp' i).isSome=true
def FinXT(t:Nat)(v:AV)(hp':Hp)(nx' n:Nat)(x:Exit)(st:AState):Prop:=(x= .normal∨x= .ret)∧SEntT st ⟨[(t,v)],hp',nx',n⟩
theorem FinXT.of{fr:Fr}{hp hp':Hp}{nx nx' n t:Nat}{v:AV}(h:SEntT ⟨fr,hp,nx,n⟩ ⟨[(t,v)],hp',nx',n⟩):FinXT t v hp' nx' n .ret ⟨fr,hp,nx,n⟩:=⟨.inr rfl,h⟩
theorem XSpecT.enter {P:Program} {f:Nat} {fn:Func} {c:Code} {t nx nx':Nat} {v:AV} {hp hp':Hp} {args:List AV} (hf:P.funcs[f]?=some fn) (hb:fn.body=some c) (hname:(fn.name== "runtime.NumGoroutine")=false) (hrs:fn.results.toList=[.tmp t]) {m:Nat} (hm:fn.ntmps=m) (hn:Nat.ble args.length m=true)
    (ht:Nat.ble t 999=true) {fr:Fr} (hfr:argFr 0 args=fr) (h:AWp none P c (FinXT t v hp' nx' m) ⟨fr,hp,nx,m⟩):XSpecT P f args hp nx v hp' nx':=by
 subst hm hfr;have hn:=Nat.le_of_ble_eq_true hn;refine⟨fun xs w=>?_,fun M w0 β vals hgh mem hfree hargs=>?_⟩;have hname':¬fn.name= "runtime.NumGoroutine" :=by simpa using hname
 simp[callFunc,hf,hname',hb];refine(callsIn_wide (n:=0)).1 ?_;refine callsIn_of_wp_marks (F:=Fence.wide) hf hb trivial ?_;have hlen:=hargs.length
 have hrel:ARel M w0 ⟨argFr 0 args,hp,nx,fn.ntmps⟩ {tmps:=vals.toArray++Array.replicate (fn.ntmps- vals.toArray.size) undef,defers:=[]} w0.w:=by
  refine⟨β,mem,by simp;omega,fun t x hx=>?_,hfree,⟨[],rfl,List.nodup_nil,by simp⟩⟩;rw[bj_ hgh]
  have key:∀{as:List AV} {vs:List Value} {i t:Nat} {x:AV},RVs (MM M β (lookB hp)) β w0.w as vs→look (argFr i as) t=some x→i≤t∧∃y,vs[t- i]?=some y∧RV (MM M β (lookB hp)) β w0.w x y:=by
   intro as
   induction as with
   |nil=>intro vs i t x _ h;cases h
   |cons a as ih=>
    rintro vs i t x ⟨y,ys,e,h1,h2⟩ h;subst e;simp only[argFr] at h;rw[aZ_] at h;unfold upd at h;split at h
    ·rename_i e;subst e;cases h;exact⟨Nat.le_refl _,y,by simp,h1⟩
    obtain⟨h3,z,h4,h5⟩:=ih h2 h;exact⟨by omega,z,by rw[show t- i=(t- (i+1))+1 by omega,List.getElem?_cons_succ];exact h4,h5⟩
  obtain⟨_,y,h1,h2⟩:=key hargs hx
  have hy:(vals.toArray++Array.replicate (fn.ntmps- vals.toArray.size) undef).getD t undef=y:=by
   have hlt:t< vals.length:=by simpa using(List.getElem?_eq_some_iff.1 h1).1
   rw[Array.getD_eq_getD_getElem?,Array.getElem?_append_left (by simpa using hlt)];simp at h1⊢;rw[h1];rfl
  rw[hy];exact h2
 refine wpIn_mono (h M w0 _ w0.w hrel) fun x a' w' ⟨st',hst,he,hent⟩=>?_;obtain⟨β',mem',hsz,hfr,hfree',⟨Ds,hds,hnd,hD⟩,hlive⟩:=hent M w0 a' w' hst;have hv:look ([(t,v)]:Fr) t=some v:=by rw[aZ_];exact aL_ _ _ _
 have hres:ResOK P fn.results.toList ⟨[(t,v)],hp',nx',fn.ntmps⟩ .any:=by
  rw[hrs];exact⟨[_],⟨_,[],rfl,hv,rfl⟩,fun _ _ _ _ _ _ _=>trivial⟩
 have hL:LeavesInM (FR none) 0 P fn a'.tmps (fun x w'=> ∃y β',x= .returned y∧Mem M w0 β' (lookB hp') w'∧RV (MM M β' (lookB hp')) β' w' v y∧(∀i,nx'≤i→β' i=none∧i≠0)∧∀i x,β' i=some x→(lookB hp' i).isSome=true) a'.defers .returning w':=by
  rw[hds];refine ea_ (st:=⟨[(t,v)],hp',nx',fn.ntmps⟩) hres (fun y w'' _ h2 h3 h4=>?_) Ds w' hnd hD mem' (fun t x hx=>by have:=hfr t x hx;rwa[bj_ hgh] at this)
  have hy:y=a'.tmps.getD t undef:=by
   have hm:(fn.results.mapM (d3_ a'.tmps)).run P w''= .ok #[a'.tmps.getD t undef] w'':=by
    rw[Array.mapM_eq_mapM_toList,hrs];rfl
   have he:results fn a'.tmps=(do let vs←fn.results.mapM (d3_ a'.tmps);pure (if h:vs.size=1 then vs[0] else .tuple vs)):=rfl;rw[he,Sem.run_bind,hm] at h4;have h5:(Result.ok (a'.tmps.getD t undef) w'':Result Value)= .ok y w'':=h4;cases h5;rfl
  exact⟨y,β',rfl,h2,by rw[hy];exact h3 t v hv,hfree',hlive⟩
 rcases he with rfl|rfl
 exact hL;exact hL
section
variable {P:Program}{ops:Array Oper}{us:List (Upd×List Nat)}{anc:Nat→Nat→Bool}{nx n:Nat}{fr0:Nat→Option AV}{hp0:Nat→Option ABlk}{ρ:Option Nat}{Q:Exit→Act→World→Prop}{rid:Nat}
variable {X:List Nat→(Nat→Prop)→Base→(Nat→Option (Nat×Nat))→Act→World→Prop}{gh:Nat→Value}
def YStep(P:Program)(ops:Array Oper)(us:List (Upd×List Nat))(anc:Nat→Nat→Bool)(nx n:Nat)(fr0:Nat→Option AV)(hp0:Nat→Option ABlk)(X:List Nat→(Nat→Prop)→Base→(Nat→Option (Nat×Nat))→Act→World→Prop)(j:Nat)(o:Oper)(u:Upd)(rd:List Nat):Prop:=
 (AStep P ops (nx+j) (stF ops us fr0 (List.range j)) (stH us hp0 (List.range j)) o u rd∧
  ∀σ M0 w0 β a w y w' β',j∉σ→a.tmps.size=n→X σ M0 w0 β a w→Mem M0 w0 β (stH us hp0 σ) w→After M0 w0 β (stH us hp0 σ) w (nx+j) u y w' β'→X (σ++[j]) M0 w0 β' (a.put o.dst y) w')∨
 (o.guard=none∧(∀c,o.op≠ .defer c)∧∀σ M0 w0 β a w,j∉σ→(∀i,anc i j=true→i∈σ)→(∀t∈he_ ops o,stF ops us fr0 σ t=stF ops us fr0 (List.range j) t)→a.tmps.size=n→Mem M0 w0 β (stH us hp0 σ) w→
  (∀t x,stF ops us fr0 σ t=some x→RV (MM M0 β (stH us hp0 σ)) β w x (slot w0 a t))→β (nx+j)=none→nx+j≠0→X σ M0 w0 β a w→
  ∃f xs,(execOp a.eval o).run P w= .ok (.enter f xs) w∧Calls P f xs w fun e w'=> ∃y M0' w0' β',e= .returned y∧
   Mem M0' w0' β' (appB (stH us hp0 σ) u.blk) w'∧w0'.gh=w0.gh∧RV (MM M0' β' (appB (stH us hp0 σ) u.blk)) β' w' u.val y∧StabC (MM M0 β (stH us hp0 σ)) (MM M0' β' (appB (stH us hp0 σ) u.blk)) β β' w w'∧(∀i,i≠nx+j→β' i=β i)∧(∀ds,DefOK ds w0 w→DefOK ds w0' w')∧
   X (σ++[j]) M0' w0' β' (a.put o.dst y) w')
theorem nT_ (hm:P.follows .mixedOrders=true) (hanc:AncOK ops anc) (hok:okOrd ops us anc=true)
    (hsteps:∀j o,ops[j]?=some o→∃u rd,us[j]?=some (u,rd)∧(∀d,o.dst=some d→d< n)∧YStep P ops us anc nx n fr0 hp0 X j o u rd)
    {a:Act} {w:World} (hdrew:∀M0 w0 β,X [] M0 w0 β a w→X [] M0 w0 β a w.drew)
    (hrel:FX gh fr0 hp0 (fun i=>nx≤i) n (X []) a w)
    (hQ:∀σ a' w',σ.Nodup→(∀j,j< ops.size→j∈σ)→(∀j∈σ,j< ops.size)→FX gh (stF ops us fr0 (List.range ops.size)) (stH us hp0 (List.range ops.size)) (fun i=>nx+ops.size≤i) n (X σ) a' w'→Q .normal a' w'):
    (Code.region rid ops true).wpIn (FR ρ) 0 P Q a w:=by
 refine wpIn_region_any hm ?_
 have main:∀(fuel:Nat) (σ:List Nat) (listed:Array Bool) (a:Act) (w:World),Topo anc ops.size σ→σ.Nodup→listed.size=ops.size→(∀j,j< ops.size→(listed.getD j true=true↔j∈σ)∧(listed.getD j false=true↔j∈σ))→
     ((List.range ops.size).filter fun j=>!σ.contains j).length≤fuel→FX gh (stF ops us fr0 σ) (stH us hp0 σ) (fun i=>nx≤i∧∀j∈σ,i≠nx+j) n (X σ) a w→
     wpAnyIn (FR ρ) 0 P .any ops Q fuel listed a w:=by
  have fin:∀(σ:List Nat) (a:Act) (w:World),Topo anc ops.size σ→σ.Nodup→(∀j,j< ops.size→j∈σ)→FX gh (stF ops us fr0 σ) (stH us hp0 σ) (fun i=>nx≤i∧∀j∈σ,i≠nx+j) n (X σ) a w→Q .normal a w:=by
   intro σ a w ht nd hall hr;refine hQ σ a w nd hall ht.lt ?_
   have e1:stF ops us fr0 σ=stF ops us fr0 (List.range ops.size):=by
    funext t;refine mI_ σ _ t (ht.filter nd (fun i hi _=>hall i hi) (fun i hi _ hiσ=>by have:=ht.lt i hiσ;omega) fun i k hik hk h1 h2=>gc_ hok hik hk (by simpa using h1) (by simpa using h2))
   have e2:stH us hp0 σ=stH us hp0 (List.range ops.size):=by
    funext t;refine mH_ σ _ t (ht.filter nd (fun i hi _=>hall i hi) (fun i hi _ hiσ=>by have:=ht.lt i hiσ;omega) fun i k hik hk h1 h2=>hT_ hok hik hk (by simpa using h1) (by simpa using h2))
   rw[←e1,←e2];obtain⟨M0,w0,β,h1,hg,h2,h3,h4,h5⟩:=hr;exact⟨M0,w0,β,h1,hg,h2,h3,fun i hi=>h4 i ⟨by omega,fun j hj=>by have:=ht.lt j hj;omega⟩,h5⟩
  have allIn:∀(σ:List Nat) (listed:Array Bool),(∀j,j< ops.size→(listed.getD j true=true↔j∈σ)∧(listed.getD j false=true↔j∈σ))→Region.ready .any ops listed=[]→∀j,j< ops.size→j∈σ:=by
   intro σ listed hl hr j
   induction j using Nat.strongRecOn with
   |_ j ih=>
    intro hj;by_cases hjσ:j∈σ;exact hjσ;exfalso
    have hmem:j∈Region.ready .any ops listed:=by
     refine mem_ready.2 ⟨?_,ops[j],Array.getElem?_eq_getElem hj,fun e he hb=>?_⟩;cases hh:listed.getD j true with
     |false=>rfl
     |true=>exact absurd ((hl j hj).1.1 hh) hjσ
     have hlt:=hanc.back j _ (Array.getElem?_eq_getElem hj) e he hb;exact(hl e.on (by omega)).2.2 (ih e.on hlt (by omega))
    rw[hr] at hmem;cases hmem
  intro fuel
  induction fuel with
  |zero=>
   intro σ listed a w ht nd hsz hl hf hr
   have hall:∀j,j< ops.size→j∈σ:=by
    intro j hj;by_cases hjσ:j∈σ;exact hjσ;exfalso;have:j∈(List.range ops.size).filter fun j=>!σ.contains j:=List.mem_filter.2 ⟨List.mem_range.2 hj,by simpa using hjσ⟩;rw[List.eq_nil_of_length_eq_zero (Nat.le_zero.1 hf)] at this;cases this
   refine⟨?_,fin σ a w ht nd hall hr⟩;rw[List.eq_nil_iff_forall_not_mem];intro j hj;obtain⟨h0,o,ho,_⟩:=mem_ready.1 hj;have hlt:j< ops.size:=(Array.getElem?_eq_some_iff.1 ho).1;rw[(hl j hlt).1.2 (hall j hlt)] at h0;cases h0
  |succ fuel ih=>
   intro σ listed a w ht nd hsz hl hf hr;refine⟨fun h0=>fin σ a w ht nd (allIn σ listed hl h0) hr,fun j hj=>?_⟩;obtain⟨h0,o,ho,hedges⟩:=mem_ready.1 hj;have hlt:j< ops.size:=(Array.getElem?_eq_some_iff.1 ho).1;have hjσ:j∉σ:=fun h=>by rw[(hl j hlt).1.2 h] at h0;cases h0
   have hready:∀i,anc i j=true→i∈σ:=hanc.ready σ j o ht.closed ho fun e he hb=>(hl e.on (by have:=hanc.back j o ho e he hb;omega)).2.1 (hedges e he hb);obtain⟨u,rd,hu,hdst,hstep⟩:=hsteps j o ho;have hd1:dst? ops j=o.dst:=by simp[dst?,ho]
   have hv1:val? us j=u.val:=by simp[val?,hu]
   have hb1:blk? us j=u.blk:=by simp[blk?,hu]
   have ht':Topo anc ops.size (σ++[j]):=by
    refine⟨fun x hx=>?_,List.pairwise_append.2 ⟨ht.pw,List.pairwise_singleton _ _,fun x hx y hy=>?_⟩,fun x hx b hb=>?_⟩;rcases List.mem_append.1 hx with h|h
    exact ht.lt x h;rw[List.mem_singleton.1 h];exact hlt;rw[List.mem_singleton.1 hy];cases hh:anc j x with
    |false=>rfl
    |true=>exact absurd (ht.closed x hx j hh) hjσ
    rcases List.mem_append.1 hx with h|h
    exact List.mem_append_left _ (ht.closed x h b hb);rw[List.mem_singleton.1 h] at hb;exact List.mem_append_left _ (hready b hb)
   have nd':(σ++[j]).Nodup:=List.nodup_append.2 ⟨nd,by simp,fun x hx y hy e=>by rw[List.mem_singleton.1 hy] at e;exact hjσ (e▸hx)⟩
   have hl':∀i,i< ops.size→((listed.setIfInBounds j true).getD i true=true↔i∈σ++[j])∧((listed.setIfInBounds j true).getD i false=true↔i∈σ++[j]):=by
    intro i hi;by_cases hij:j=i;subst hij;simp[Array.getD_eq_getD_getElem?,hsz,hlt];rw[getD_set_ne _ hij,getD_set_ne _ hij,List.mem_append,List.mem_singleton];have:=hl i hi;exact⟨this.1.trans ⟨.inl,fun h=>h.resolve_right fun e=>hij e.symm⟩,this.2.trans ⟨.inl,fun h=>h.resolve_right fun e=>hij e.symm⟩⟩
   have hf':((List.range ops.size).filter fun i=>!(σ++[j]).contains i).length≤fuel:=by
    have:=i2_ (p:=fun i=>!σ.contains i) (q:=fun i=>!(σ++[j]).contains i) (List.mem_range.2 hlt) (by simpa using hjσ) (by simp) (fun x hx=>by simp at hx⊢;exact hx.1);omega
   obtain⟨M0,w0,β,mem,hgh,hn,hfr,hfree,hdef,hX⟩:=hr
   obtain⟨hidn,hid0⟩:=hfree (nx+j) ⟨by omega,fun i hi e=>by have:j=i:=by omega
                                                            exact hjσ (this▸hi)⟩
   -- behind the operation
   have go:∀y w' M0' w0' β',Mem M0' w0' β' (appB (stH us hp0 σ) u.blk) w'→w0'.gh=w0.gh→RV (MM M0' β' (appB (stH us hp0 σ) u.blk)) β' w' u.val y→StabC (MM M0 β (stH us hp0 σ)) (MM M0' β' (appB (stH us hp0 σ) u.blk)) β β' w w'→(∀i,i≠nx+j→β' i=β i)→DefOK a.defers w0' w'→X (σ++[j]) M0' w0' β' (a.put o.dst y) w'→wpAnyIn (FR ρ) 0 P .any ops Q fuel (listed.setIfInBounds j true) (a.put o.dst y) w':=by
    intro y w' M0' w0' β' m' hg2 hy st hβ hd2 hX';refine ih (σ++[j]) _ _ w' ht' nd' (by simpa using hsz) hl' hf' ⟨M0',w0',β',?_,hg2.trans hgh,?_,fun t x hx=>?_,fun i hi=>?_,?_,hX'⟩;rw[c9_,hb1];exact m';cases o.dst <;> simp[Act.put,hn];rw[fb_,hd1,hv1] at hx;rw[c9_,hb1,hJ_ hg2];cases hdst2:o.dst with
    |none=>rw[hdst2] at hx;have e:slot w0 (a.put none y) t=slot w0 a t:=rfl
           rw[e];exact st.all (hfr t x hx)
    |some d=>
     rw[hdst2] at hx;rw[hY_ (by rw[hn];exact hdst d hdst2)];simp only[putF,upd] at hx;split at hx
     ·rename_i htd;rw[if_pos htd];cases hx;exact hy
     ·rename_i htd;rw[if_neg htd];exact st.all (hfr t x hx)
    have hne:i≠nx+j:=hi.2 j (by simp);rw[hβ i hne];exact hfree i ⟨hi.1,fun k hk=>hi.2 k (List.mem_append_left _ hk)⟩;have:(a.put o.dst y).defers=a.defers:=by cases o.dst <;> rfl
    rw[this];exact hd2
   unfold wpOpIn;simp only[ho];rcases hstep with⟨hstep,hkeep⟩|⟨hg,hnd,hx⟩
   have hlk:lk? ops j=he_ ops o:=by simp[lk?,ho]
   have hrd:rd? us j=rd:=by simp[rd?,hu]
   have hstep':AStep P ops (nx+j) (stF ops us fr0 σ) (stH us hp0 σ) o u rd:=hstep.congr
    (fun t htl=>sD_ hok ht nd hlt hjσ hready (fun i k t h1 h2 h3 h4=>gc_ hok h1 h2 h3 h4) (by rw[hlk];exact htl))
    (fun b hb=>agreeH hok ht nd hlt hjσ hready (fun i k b h1 h2 h3 h4=>hT_ hok h1 h2 h3 h4) (by rw[hrd];exact hb))
   exact hstep'.simF mem hfr hidn hid0 fun y w' β' haft=>go y w' M0 w0 β' haft.1 rfl haft.2.1 haft.2.2.1.toStabC haft.2.2.2 (hdef.stab haft.2.2.1) (hkeep σ M0 w0 β a w y w' β' hjσ hn hX mem haft);have hagree:∀t∈he_ ops o,stF ops us fr0 σ t=stF ops us fr0 (List.range j) t:=fun t htl=>sD_ hok ht nd hlt hjσ hready (fun i k t h1 h2 h3 h4=>gc_ hok h1 h2 h3 h4) (by rw[show lk? ops j=he_ ops o by simp[lk?,ho]];exact htl);obtain⟨f,xs,hrun,hcalls⟩:=hx σ M0 w0 β a w hjσ hready hagree hn mem hfr hidn hid0 hX;rw[if_pos (by simp[Region.wanted,hg])];refine⟨fun _ _=>trivial,?_⟩;rw[Oper.semAt_eq _ _ _ hnd,hrun];refine⟨fun hh=>by simp[FR] at hh,k5_ (hcalls.mono ?_)⟩;rintro e w' ⟨y,M0',w0',β',rfl,x1,x2,x3,x4,x5,x6,hX'⟩;exact go y w' M0' w0' β' x1 x2 x3 x4 x5 (x6 _ hdef) hX'
 refine main ops.size [] _ a _ ⟨by simp,List.Pairwise.nil,by simp⟩ List.nodup_nil (by simp) ?_ ?_ ?_;intro j hj;simp[Array.getD_eq_getD_getElem?,hj];exact Nat.le_trans (List.length_filter_le _ _) (by simp);obtain⟨M0,w0,β,h1,hg,h2,h3,h4,h5,h6⟩:=hrel;have hmx:=h1.ext ((Below.refl w.heap.size w).drew);exact⟨M0,w0,β,hmx.1,hg,h2,fun t x hx=>hmx.2.all (h3 t x hx),fun i hi=>h4 i hi.1,h5.stab hmx.2,hdrew M0 w0 β h6⟩
end
def RunY(P:Program)(ops:Array Oper)(sp:Nat→Option AV)(C:Nat→(Nat→Option AV)→Prop)(nx:Nat):Nat→List Oper→AState→List (Upd×List Nat)→AState→Prop
 |_,[],st,us,st'=>us=[]∧st'=st
 |j,o::rest,st,us,st'=> ∃u rd us',us=(u,rd)::us'∧(∀x,sp j=some x→u=⟨x,[]⟩∧rd=[]∧C j (look st.fr))∧(sp j=none→AStep P ops (nx+j) (look st.fr) (lookB st.hp) o u rd)∧(∀d,o.dst=some d→d< st.n)∧RunY P ops sp C nx (j+1) rest (st.step o.dst u) us' st'
theorem fM_{P:Program}{ops:Array Oper}{sp:Nat→Option AV}{C:Nat→(Nat→Option AV)→Prop}{nx:Nat}:∀(rest:List Oper) (j:Nat) (st st':AState) (us us0:List (Upd×List Nat)) (fr0:Nat→Option AV) (hp0:Nat→Option ABlk),
    RunY P ops sp C nx j rest st us st'→us0.length=j→(∀i o,rest[i]?=some o→ops[j+i]?=some o)→look st.fr=stF ops (us0++us) fr0 (List.range j)→lookB st.hp=stH (us0++us) hp0 (List.range j)→
    (∀i o,rest[i]?=some o→∃u rd,(us0++us)[j+i]?=some (u,rd)∧(∀x,sp (j+i)=some x→u=⟨x,[]⟩∧rd=[]∧C (j+i) (stF ops (us0++us) fr0 (List.range (j+i))))∧(sp (j+i)=none→AStep P ops (nx+(j+i)) (stF ops (us0++us) fr0 (List.range (j+i))) (stH (us0++us) hp0 (List.range (j+i))) o u rd)∧∀d,o.dst=some d→d< st.n)∧
    look st'.fr=stF ops (us0++us) fr0 (List.range (j+rest.length))∧lookB st'.hp=stH (us0++us) hp0 (List.range (j+rest.length))∧st'.n=st.n
 |[],j,st,st',us,us0,fr0,hp0,h,_,_,hF,hH=>by
  obtain⟨rfl,rfl⟩:=h;exact⟨fun i o h=>by simp at h,by simpa using hF,by simpa using hH,rfl⟩
 |o::rest,j,st,st',us,us0,fr0,hp0,h,hl,hops,hF,hH=>by
  obtain⟨u,rd,us',rfl,hs1,hs2,hdst,hrun⟩:=h;have happ:us0++(u,rd)::us'=(us0++[(u,rd)])++us':=by simp
  have hu:(us0++(u,rd)::us')[j]?=some (u,rd):=by rw[←hl,List.getElem?_append_right (Nat.le_refl _)];simp
  have ho:ops[j]?=some o:=hops 0 o rfl
  have hF':look (st.step o.dst u).fr=stF ops ((us0++[(u,rd)])++us') fr0 (List.range (j+1)):=by
   rw[←happ,List.range_succ,fb_,←hF];simp only[AState.step,gi_,dst?,ho,val?,hu,Option.bind_some,Option.map_some,Option.getD_some]
  have hH':lookB (st.step o.dst u).hp=stH ((us0++[(u,rd)])++us') hp0 (List.range (j+1)):=by
   rw[←happ,List.range_succ,c9_,←hH];simp only[AState.step,e0_,blk?,hu,Option.map_some,Option.getD_some]
  obtain⟨r1,r2,r3,r4⟩:=fM_ rest (j+1) (st.step o.dst u) st' us' (us0++[(u,rd)]) fr0 hp0 hrun (by simp[hl]) (fun i o' h=>by
   have:=hops (i+1) o' (by simpa using h);rwa[show j+(i+1)=j+1+i by omega] at this) hF' hH'
  rw[←happ] at r1 r2 r3;refine⟨fun i o' hi=>?_,?_,?_,r4⟩;cases i with
  |zero=>
   simp only[List.getElem?_cons_zero,Option.some.injEq] at hi;subst hi;refine⟨u,rd,by simpa using hu,fun x h=>?_,fun h=>?_,hdst⟩;rw[Nat.add_zero,←hF];exact hs1 x h;rw[Nat.add_zero,←hF,←hH];exact hs2 h
  |succ i=>
   obtain⟨u',rd',h1,h2,h3,h4⟩:=r1 i o' (by simpa using hi);rw[show j+1+i=j+(i+1) by omega] at h1 h2 h3;exact⟨u',rd',h1,h2,h3,h4⟩
  rw[r2,show j+1+rest.length=j+(o::rest).length by simp;omega];rw[r3,show j+1+rest.length=j+(o::rest).length by simp;omega]
def AY(P:Program)(ops:Array Oper)(sp:Nat→Option AV)(C:Nat→(Nat→Option AV)→Prop)(nx n j:Nat)(rest:List Oper)(fr:Fr)(hp:Hp)(K:Fps→Fr→Hp→Prop):Prop:=
 ∃us st',RunY P ops sp C nx j rest ⟨fr,hp,nx,n⟩ us st'∧K (us.map fp) st'.fr st'.hp
section
variable {P:Program}{ops:Array Oper}{spf:Nat→Option AV}{C:Nat→(Nat→Option AV)→Prop}{nx n j:Nat}{rest:List Oper}{fr:Fr}{hp:Hp}{K:Fps→Fr→Hp→Prop}
variable {d:Nat}{op:Op}{ty:Nat}{pos:String}{after:Array Edge}{a:AV}{p q:Nat×Option ABlk}{rd:List Nat}
theorem AY.nil(h:K [] fr hp):AY P ops spf C nx n j [] fr hp K:=⟨[],_,⟨rfl,rfl⟩,h⟩
theorem AY.cons {dst:Option Nat} {guard:Option (Nat×Bool)} {u:Upd} {rd:List Nat}
    (hs1:∀x,spf j=some x→u=⟨x,[]⟩∧rd=[]∧C j (look fr)) (hs2:spf j=none→AStep P ops (nx+j) (look fr) (lookB hp) ⟨dst,op,ty,pos,after,guard⟩ u rd) (hd:(match dst with|some d=>Nat.blt d n|none=>true)=true)
    (h:AY P ops spf C nx n (j+1) rest (putL fr dst u.val) (u.blk.reverse++hp) fun fps f h=>K ((u.blk.map (·.1),rd)::fps) f h):AY P ops spf C nx n j (⟨dst,op,ty,pos,after,guard⟩::rest) fr hp K:=by
 obtain⟨us,st',h1,h2⟩:=h;refine⟨(u,rd)::us,st',⟨u,rd,us,rfl,hs1,hs2,fun d hd'=>?_,h1⟩,h2⟩;simp only at hd';subst hd';exact Nat.le_of_ble_eq_true hd
theorem AY.op0 (hs:AEval P (nx+j) (evF (look fr)) (lookB hp) op ⟨a,[]⟩ rd) (hnd:a8_ op=true) (hd:Nat.blt d n=true)
    (h:AY P ops spf C nx n (j+1) rest ((d,a)::fr) hp fun fps f h=>K (([],rd)::fps) f h) (hsp:spf j=none:=by rfl):AY P ops spf C nx n j (⟨some d,op,ty,pos,after,none⟩::rest) fr hp K:=
 AY.cons (fun x e=>by rw[hsp] at e;cases e) (fun _=>⟨aP_ hnd,hs⟩) hd h
theorem AY.op1 (hs:AEval P (nx+j) (evF (look fr)) (lookB hp) op ⟨a,[p]⟩ rd) (hnd:a8_ op=true) (hd:Nat.blt d n=true)
    (h:AY P ops spf C nx n (j+1) rest ((d,a)::fr) (p::hp) fun fps f h=>K (([p.1],rd)::fps) f h) (hsp:spf j=none:=by rfl):AY P ops spf C nx n j (⟨some d,op,ty,pos,after,none⟩::rest) fr hp K:=
 AY.cons (fun x e=>by rw[hsp] at e;cases e) (fun _=>⟨aP_ hnd,hs⟩) hd h
theorem AY.on1 {u:AV} (hs:AEval P (nx+j) (evF (look fr)) (lookB hp) op ⟨u,[p]⟩ rd) (hnd:a8_ op=true)
    (h:AY P ops spf C nx n (j+1) rest fr (p::hp) fun fps f h=>K (([p.1],rd)::fps) f h) (hsp:spf j=none:=by rfl):AY P ops spf C nx n j (⟨none,op,ty,pos,after,none⟩::rest) fr hp K:=
 AY.cons (fun x e=>by rw[hsp] at e;cases e) (fun _=>⟨aP_ hnd,hs⟩) rfl h
theorem AY.sp{x:AV}(hd:Nat.blt d n=true)(hsp:spf j=some x)(hC:C j (look fr))(h:AY P ops spf C nx n (j+1) rest ((d,x)::fr) hp fun fps f h=>K (([],[])::fps) f h):AY P ops spf C nx n j (⟨some d,op,ty,pos,after,none⟩::rest) fr hp K:=
 AY.cons (u:=⟨x,[]⟩) (rd:=[]) (fun z hz=>by rw[hsp] at hz;cases hz;exact⟨rfl,rfl,hC⟩) (fun e=>by rw[hsp] at e;cases e) hd h
end
theorem XSpecT.x{P:Program}{f:Nat}{args:List AV}{hp hp':Hp}{nx nx':Nat}{v:AV}(h:XSpecT P f args hp nx v hp' nx'):XSpec P f args hp nx v hp' nx':=
 ⟨h.enters,fun M w0 β vals h1 h2 h3 h4=>(h.calls M w0 β vals h1 h2 h3 h4).mono fun _ _ ⟨y,β',a,b,c,d,_⟩=>⟨y,β',a,b,c,d⟩⟩
def ArgsB(ev:Operand→Option AV)(t0:Nat)(v:AV):List Operand→List AV→Prop
 |[],as=>as=[]
 |x::xs,as=> ∃a as',as=a::as'∧((x= .tmp t0∧a=v)∨(ev x=some a∧Closed a))∧ArgsB ev t0 v xs as'
theorem ArgsB.nil{ev:Operand→Option AV}{t0:Nat}{v:AV}:ArgsB ev t0 v [] []:=rfl
theorem ArgsB.own{ev:Operand→Option AV}{t0:Nat}{v:AV}{xs:List Operand}{as:List AV}(h:ArgsB ev t0 v xs as):ArgsB ev t0 v (.tmp t0::xs) (v::as):=⟨_,_,rfl,.inl ⟨rfl,rfl⟩,h⟩
theorem ArgsB.clo{ev:Operand→Option AV}{t0:Nat}{v a:AV}{x:Operand}{xs:List Operand}{as:List AV}(h1:ev x=some a)(h2:Closed a)(h:ArgsB ev t0 v xs as):ArgsB ev t0 v (x::xs) (a::as):=⟨_,_,rfl,.inr ⟨h1,h2⟩,h⟩
theorem ArgsB.congr{ev ev':Operand→Option AV}{t0:Nat}{v:AV}:∀{xs:List Operand} {as:List AV},(∀x∈xs,ev' x=ev x)→ArgsB ev t0 v xs as→ArgsB ev' t0 v xs as
 |[],_,_,h=>h
 |x::xs,_,he,⟨a,as',e,h1,h2⟩=>⟨a,as',e,h1.imp id fun⟨h3,h4⟩=>⟨(he x (List.mem_cons_self ..)).trans h3,h4⟩,ArgsB.congr (fun z hz=>he z (List.mem_cons_of_mem _ hz)) h2⟩
theorem ArgsB.rvs{ev:Operand→Option AV}{t0:Nat}{v:AV}{M MB:Nat→Prop}{β βS:Nat→Option (Nat×Nat)}{w:World}{ρ:Operand→Value}(hv:RV MB βS w v (ρ (.tmp t0)))(hm:∀b N,aI_ w b=some N→MB b→M b):
    ∀{xs:List Operand} {as:List AV},(∀x∈xs,∀a,ev x=some a→RV M β w a (ρ x))→ArgsB ev t0 v xs as→RVs MB βS w as (xs.map ρ)
 |[],_,_,h=>by cases h;rfl
 |x::xs,_,he,⟨a,as',e,h1,h2⟩=>by
  subst e;refine⟨_,_,rfl,?_,ArgsB.rvs hv hm (fun z hz=>he z (List.mem_cons_of_mem _ hz)) h2⟩;rcases h1 with⟨rfl,rfl⟩|⟨h3,h4⟩
  exact hv;exact il_ h4 (he x (List.mem_cons_self ..) a h3) (fun _ _ _ _=>rfl) hm fun _ _ h=>h
structure PkgS (M00:Nat→Prop)(w00:Base)(hpA:Hp)(nxA:Nat)(v:AV)(t0:Nat)(βS:Nat→Option (Nat×Nat))(M0:Nat→Prop)(w0:Base)(M:Nat→Prop)(a:Act)(w:World):Prop where
 m:∀b,M0 b↔M00 b∨∃i s,βS i=some (b,s)
 k:∀b,w0.K b↔w00.K b∨∃i s,βS i=some (b,s)
 rng:∀i b s,βS i=some (b,s)→w00.w.heap.size≤b∧b< w.heap.size
 live:∀i x,βS i=some x→(lookB hpA i).isSome=true
 blk:∀i B,lookB hpA i=some B→∃b,βS i=some (b,B.sz)∧BlkAt M βS w b B
 inj:∀i j B B' b s s',lookB hpA i=some B→lookB hpA j=some B'→βS i=some (b,s)→βS j=some (b,s')→i=j
 free:∀i,nxA≤i→βS i=none∧i≠0
 zero:(lookB hpA 0).isSome=true→False
 val:RV M βS w v (a.tmps.getD t0 undef)
structure XP (jA jB t0:Nat)(v:AV)(hpA:Hp)(nxA:Nat)(M00:Nat→Prop)(w00:Base)(H:List Nat→Nat→Option ABlk)(σ:List Nat)(M0:Nat→Prop)(w0:Base)(β:Nat→Option (Nat×Nat))(a:Act)(w:World):Prop where
 kept:w00.Kept w
 m00:∀b,M00 b→w00.K b∧b≠GT
 pin:w0.pin=w00.pin
 dep:jB∈σ→jA∈σ
 no:jA∉σ∨jB∈σ→(∀b,M0 b↔M00 b)∧(∀b,w0.K b↔w00.K b)
 yes:jA∈σ→jB∉σ→∃βS,PkgS M00 w00 hpA nxA v t0 βS M0 w0 (MM M0 β (H σ)) a w
theorem Stab.size{M M':Nat→Prop}{β β':Nat→Option (Nat×Nat)}{w w':World}(st:Stab M M' β β' w w'):w.heap.size≤w'.heap.size:=by
 by_cases hw:w.heap.size=0;omega;obtain⟨k,hk⟩:∃k,w.heap.size=k+1:=⟨w.heap.size- 1,by omega⟩;by_cases hs:∃N,aI_ w k=some N;obtain⟨N,hN⟩:=hs;have:=bb_ (st.sz k N hN);omega
 have hsn:aI_ w k=none:=by
  cases hz:aI_ w k with
  |none=>rfl
  |some N=>exact absurd ⟨N,hz⟩ hs
 have h4:=st.oth k (by omega) hsn;by_cases hlt:k< w'.heap.size;omega;rw[Array.getElem?_eq_none (by omega),Array.getElem?_eq_getElem (by omega)] at h4;cases h4
section
variable {P:Program}{jA jB t0 j id nxA:Nat}{v:AV}{hpA:Hp}{M00 M0:Nat→Prop}{w00 w0:Base}{H:List Nat→Nat→Option ABlk}{σ:List Nat}{β β':Nat→Option (Nat×Nat)}{a:Act}{w w':World}{u:Upd}{y:Value}
theorem XP.sub(hX:XP jA jB t0 v hpA nxA M00 w00 H σ M0 w0 β a w):(∀b,w00.K b→w0.K b)∧∀b,M00 b→M0 b:=by
 by_cases h:jA∈σ;by_cases h2:jB∈σ;obtain⟨n1,n2⟩:=hX.no (.inr h2);exact⟨fun b hb=>(n2 b).2 hb,fun b hb=>(n1 b).2 hb⟩;obtain⟨βS,p⟩:=hX.yes h h2;exact⟨fun b hb=>(p.k b).2 (.inl hb),fun b hb=>(p.m b).2 (.inl hb)⟩;obtain⟨n1,n2⟩:=hX.no (.inl h);exact⟨fun b hb=>(n2 b).2 hb,fun b hb=>(n1 b).2 hb⟩
theorem XP.ordinary {dst:Option Nat} (h1:j≠jA) (h2:j≠jB) (hd:∀d,dst=some d→d≠t0) (hH:H (σ++[j])=appB (H σ) u.blk)
    (hX:XP jA jB t0 v hpA nxA M00 w00 H σ M0 w0 β a w) (mem:Mem M0 w0 β (H σ) w) (haf:After M0 w0 β (H σ) w id u y w' β'):XP jA jB t0 v hpA nxA M00 w00 H (σ++[j]) M0 w0 β' (a.put dst y) w':=by
 obtain⟨m',_,st,_⟩:=haf;have hA:jA∈σ++[j]↔jA∈σ:=⟨fun h=>d1_ h (Ne.symm h1),fun h=>List.mem_append_left _ h⟩;have hB:jB∈σ++[j]↔jB∈σ:=⟨fun h=>d1_ h (Ne.symm h2),fun h=>List.mem_append_left _ h⟩;have hK:∀b,w0.K b→w'.heap[b]?=w.heap[b]?:=fun b hb=>(m'.below.block b hb).trans (mem.below.block b hb).symm
 refine⟨⟨m'.below.os.trans (mem.below.os.symm.trans hX.kept.os),m'.below.tape.trans (mem.below.tape.symm.trans hX.kept.tape),m'.below.output.trans (mem.below.output.symm.trans hX.kept.output),Nat.le_trans hX.kept.size st.size,fun b hb=>(hK b (hX.sub.1 b hb)).trans (hX.kept.block b hb),fun b k hb=>st.sz b k (hX.kept.sizes b k hb)⟩,hX.m00,hX.pin,
  fun h=>hA.2 (hX.dep (hB.1 h)),fun h=>hX.no (h.imp (fun h x=>h (hA.2 x)) hB.1),fun h h'=>?_⟩
 obtain⟨βS,p⟩:=hX.yes (hA.1 h) fun x=>h' (hB.2 x);have st2:StabC (MM M0 β (H σ)) (MM M0 β' (H (σ++[j]))) βS βS w w':=⟨st.heap,by rw[hH];exact st.m,fun _ _ h=>h,st.sz⟩;refine⟨βS,p.m,p.k,fun i b s hi=>⟨(p.rng i b s hi).1,Nat.lt_of_lt_of_le (p.rng i b s hi).2 st.size⟩,p.live,fun i B hi=>?_,p.inj,p.free,p.zero,?_⟩;obtain⟨b,e1,e2⟩:=p.blk i B hi;exact⟨b,e1,e2.stab st2 (hK b ((p.k b).2 (.inr ⟨i,_,e1⟩)))⟩
 have e:(a.put dst y).tmps.getD t0 undef=a.tmps.getD t0 undef:=by
  cases dst with
  |none=>rfl
  |some d=>exact hS_ (hd d rfl).symm
 rw[e];exact st2.all p.val
theorem XP.make {g nx0:Nat} {as asA:List AV} {vals:List Value} (hX:XP jA jB t0 v hpA nxA M00 w00 H σ M0 w0 β a w) (mem:Mem M0 w0 β (H σ) w) (hj:jA∉σ) (hAB:jA≠jB) (hn:t0< a.tmps.size) (hH:H (σ++[jA])=H σ) (h0:1≤nx0)
    (X1:XSpecT P g asA [] nx0 v hpA nxA) (hargs:RVs (MM M0 β (H σ)) β w as vals) (hcl:∀x∈as,Closed x) (hco:as.map coe=asA):
    Calls P g vals.toArray w fun e w'=> ∃y M0' w0' β',e= .returned y∧Mem M0' w0' β' (H σ) w'∧w0'.gh=w0.gh∧RV (MM M0' β' (H σ)) β' w' .any y∧StabC (MM M0 β (H σ)) (MM M0' β' (H σ)) β β' w w'∧(∀i,i≠id→β' i=β i)∧(∀ds,DefOK ds w0 w→DefOK ds w0' w')∧
     XP jA jB t0 v hpA nxA M00 w00 H (σ++[jA]) M0' w0' β' (a.put (some t0) y) w':=by
 have e0:∀(M:Nat→Prop) (b:Nat→Option (Nat×Nat)),MM M b (lookB [])=M:=fun M b=>by funext c;simp[MM,lookB,look]
 let wc:Base:=⟨w,fun b=>b< w.heap.size,fun _ h=>h,none,fun _=>undef,mem.tab.lt,mem.tab⟩
 have memc:Mem (MM M0 β (H σ)) wc (fun _=>none) (lookB []) w:=⟨⟨rfl,rfl,rfl,Nat.le_refl _,fun _ _=>rfl,fun _ _ h=>h⟩,fun b hb=>⟨mem.lt hb,fun e=>by
  rcases hb with hb|⟨i,B,s,_,hi⟩
  exact(mem.m0 b hb).2 e;rw[e] at hi;exact mem.gtn i s hi⟩,(fun _ _ _ h=>by cases h),(fun h=>by cases h),(fun _ _ h=>by cases h),fun _ _ _ _ _ _ _ h=>by cases h⟩
 refine(X1.calls (MM M0 β (H σ)) wc (fun _=>none) vals rfl memc (fun i hi=>⟨rfl,by omega⟩) (by rw[e0];exact hco▸dw_ (bS_ hcl hargs))).mono ?_;rintro e w' ⟨y,βA,rfl,mA,hy,hfree,hlive⟩;have hold:∀b,b< w.heap.size→w'.heap[b]?=w.heap[b]?:=fun b hb=>mA.below.block b hb;have hsz:w.heap.size≤w'.heap.size:=mA.below.size;have hnew:∀i b s,βA i=some (b,s)→w.heap.size≤b∧b< w'.heap.size:=fun i b s hi=>⟨Nat.le_of_not_lt (mA.rng i b s hi).1,(mA.rng i b s hi).2⟩;obtain⟨n1,n2⟩:=hX.no (.inl hj);have hK:∀b,w0.K b→b< w.heap.size:=fun b hb=>Nat.lt_of_lt_of_le (w0.lt b hb) mem.below.size;have hgt:=mem.tab.lt
 let M0':Nat→Prop:=fun b=>M0 b∨∃i s,βA i=some (b,s)
 let w0':Base:=⟨w',fun b=>w0.K b∨∃i s,βA i=some (b,s),fun b hb=>by
  rcases hb with hb|⟨i,s,hi⟩
  exact Nat.lt_of_lt_of_le (hK b hb) hsz;exact(hnew i b s hi).2,w0.pin,w0.gh,.inl w0.kt,mem.tab.congr (hold GT mem.tab.lt)⟩
 have st:StabC (MM M0 β (H σ)) (MM M0' β (H σ)) β β w w':=by
  refine⟨fun b N hb _=>hold b (bb_ hb),fun b N hb hm=>?_,fun _ _ h=>h,fun b N hb=>(cc_ (hold b (bb_ hb))).trans hb⟩;rcases hm with(hm|⟨i,s,hi⟩)|hm
  exact .inl hm;have:=bb_ hb;have:=(hnew i b s hi).1;omega;exact .inr hm
 have sA:StabC (MM (MM M0 β (H σ)) βA (lookB hpA)) (MM M0' β (H (σ++[jA]))) βA βA w' w':=by
  refine⟨fun _ _ _ _=>rfl,fun b N _ hm=>?_,fun _ _ h=>h,fun _ _ h=>h⟩;rw[hH] at hm;rcases hm with(hm|⟨i,s,hi⟩)|hm
  exact .inl (.inl hm);obtain⟨B,hB⟩:=Option.isSome_iff_exists.1 (hlive i _ hi);exact .inr ⟨i,B,s,hB,hi⟩;exact .inl (.inr hm)
 have hK0:∀b,w00.K b→b< w.heap.size:=fun b hb=>hK b ((n2 b).2 hb);refine⟨y,M0',w0',β,rfl,⟨⟨rfl,rfl,rfl,Nat.le_refl _,fun _ _=>rfl,fun _ _ h=>h⟩,fun b hb=>⟨hb.imp (fun h=>(mem.m0 b h).1) fun h=>h,fun e=>?_⟩,fun i b s hi=>⟨fun hk=>?_,Nat.lt_of_lt_of_le (mem.rng i b s hi).2 hsz⟩,mem.pin,fun i B hi=>?_,mem.inj⟩,rfl,trivial,st,fun _ _=>rfl,fun ds hds=>?_,?_⟩;rcases hb with hb|⟨i,s,hi⟩
 exact(mem.m0 b hb).2 e;have:=(hnew i b s hi).1;omega;rcases hk with hk|⟨i',s',hi'⟩
 exact(mem.rng i b s hi).1 hk;have:=(hnew i' b s' hi').1;have:=(mem.rng i b s hi).2;omega;obtain⟨b,e1,e2⟩:=mem.blk i B hi;exact⟨b,e1,e2.stab st (hold b (mem.rng i b _ e1).2)⟩;obtain⟨Ds,d1,d2,d3⟩:=hds;refine⟨Ds,d1,d2,fun D hD=>?_⟩;obtain⟨e1,e2⟩:=d3 D hD;have hlt:=(Array.getElem?_eq_some_iff.1 e1).1;refine⟨by rw[hold D hlt];exact e1,fun hk=>?_⟩;rcases hk with hk|⟨i,s,hi⟩
 exact e2 hk;have:=(hnew i D s hi).1;omega;have hjB:jB∉σ++[jA]:=fun h=>hj (hX.dep (d1_ h (Ne.symm hAB)));refine⟨⟨mA.below.os.trans hX.kept.os,mA.below.tape.trans hX.kept.tape,mA.below.output.trans hX.kept.output,Nat.le_trans hX.kept.size hsz,fun b hb=>(hold b (hK0 b hb)).trans (hX.kept.block b hb),fun b k hb=>st.sz b k (hX.kept.sizes b k hb)⟩,hX.m00,hX.pin,fun _=>by simp,fun h=>?_,fun _ _=>?_⟩;rcases h with h|h
 exact absurd (by simp) h;exact absurd h hjB;refine⟨βA,fun b=>or_congr (n1 b) Iff.rfl,fun b=>or_congr (n2 b) Iff.rfl,fun i b s hi=>⟨Nat.le_trans hX.kept.size (hnew i b s hi).1,(hnew i b s hi).2⟩,hlive,fun i B hi=>?_,mA.inj,hfree,fun hz=>?_,?_⟩;obtain⟨b,e1,e2⟩:=mA.blk i B hi;exact⟨b,e1,e2.stab sA rfl⟩;obtain⟨B,hB⟩:=Option.isSome_iff_exists.1 hz;obtain⟨b,e1,_⟩:=mA.blk 0 B hB;have:=mA.pin hz;rw[e1] at this;cases this;rw[kl_ hn];exact sA.all hy
theorem XP.use {g nxB:Nat} {r:AV} {as asB:List AV} {xs:List Operand} {ev:Operand→Option AV} {dst:Option Nat} (hX:XP jA jB t0 v hpA nxA M00 w00 H σ M0 w0 β a w) (mem:Mem M0 w0 β (H σ) w) (hjA:jA∈σ) (hj:jB∉σ) (hH:H (σ++[jB])=H σ)
    (X2:XSpec P g asB hpA nxA r [] nxB) (hr:Closed r) (hev:∀x∈xs,∀z,ev x=some z→RV (MM M0 β (H σ)) β w z (a.eval x)) (hargs:ArgsB ev t0 v xs as) (hco:as.map coe=asB):
    Calls P g (xs.map a.eval).toArray w fun e w'=> ∃y M0' w0' β',e= .returned y∧Mem M0' w0' β' (H σ) w'∧w0'.gh=w0.gh∧RV (MM M0' β' (H σ)) β' w' r y∧StabC (MM M0 β (H σ)) (MM M0' β' (H σ)) β β' w w'∧(∀i,i≠id→β' i=β i)∧(∀ds,DefOK ds w0 w→DefOK ds w0' w')∧
     XP jA jB t0 v hpA nxA M00 w00 H (σ++[jB]) M0' w0' β' (a.put dst y) w':=by
 have e0:∀(M:Nat→Prop) (b:Nat→Option (Nat×Nat)),MM M b (lookB [])=M:=fun M b=>by funext c;simp[MM,lookB,look]
 obtain⟨βS,p⟩:=hX.yes hjA hj
 let S:Nat→Prop:=fun b=> ∃i s,βS i=some (b,s)
 let MB:Nat→Prop:=fun b=>MM M0 β (H σ) b∧¬S b
 have hSM:∀b,S b→M0 b:=fun b hb=>(p.m b).2 (.inr hb);have hSK:∀b,S b→w0.K b:=fun b hb=>(p.k b).2 (.inr hb);have hSG:¬S GT:=fun h=>(mem.m0 GT (hSM _ h)).2 rfl
 have hlv:∀b,S b→∃i B s,lookB hpA i=some B∧βS i=some (b,s):=fun b ⟨i,s,hi⟩=>by
  obtain⟨B,hB⟩:=Option.isSome_iff_exists.1 (p.live i _ hi);exact⟨i,B,s,hB,hi⟩
 let wc:Base:=⟨w,fun b=>b< w.heap.size∧¬S b,fun _ h=>h.1,none,fun _=>undef,⟨mem.tab.lt,hSG⟩,mem.tab⟩
 have hM:∀b,MM MB βS (lookB hpA) b→MM M0 β (H σ) b:=by
  rintro b (hb|⟨i,B,s,_,hi⟩);exact hb.1;exact .inl (hSM b ⟨i,s,hi⟩)
 have sB:StabC (MM M0 β (H σ)) (MM MB βS (lookB hpA)) βS βS w w:=⟨fun _ _ _ _=>rfl,fun b _ _ h=>hM b h,fun _ _ h=>h,fun _ _ h=>h⟩
 have memc:Mem MB wc βS (lookB hpA) w:=⟨⟨rfl,rfl,rfl,Nat.le_refl _,fun _ _=>rfl,fun _ _ h=>h⟩,fun b hb=>⟨⟨mem.lt hb.1,hb.2⟩,fun e=>by
  rcases hb.1 with hb|⟨i,B,s,_,hi⟩
  exact(mem.m0 b hb).2 e;rw[e] at hi;exact mem.gtn i s hi⟩,fun i b s hi=>⟨fun hk=>hk.2 ⟨i,s,hi⟩,(p.rng i b s hi).2⟩,fun hz=>(p.zero hz).elim,fun i B hi=>by
  obtain⟨b,e1,e2⟩:=p.blk i B hi;exact⟨b,e1,e2.stab sB rfl⟩,p.inj⟩
 have hv:RVs (MM MB βS (lookB hpA)) βS w as (xs.map a.eval):=ArgsB.rvs (M:=MM M0 β (H σ)) (β:=β) (sB.all p.val) (fun b _ _ h=>hM b h) hev hargs;refine(X2.calls MB wc βS _ rfl memc p.free (hco▸dw_ hv)).mono ?_;rintro e w' ⟨y,βB,rfl,mB,hy,_⟩;rw[e0] at hy;have hold:∀b,b< w.heap.size→¬S b→w'.heap[b]?=w.heap[b]?:=fun b h1 h2=>mB.below.block b ⟨h1,h2⟩;have hsz:w.heap.size≤w'.heap.size:=mB.below.size
 have hnS:∀b,w00.K b→¬S b:=fun b hb ⟨i,s,hi⟩=>by
  have h1:=w00.lt b hb;have h2:=(p.rng i b s hi).1;omega
 have hK0:∀b,w00.K b→b< w.heap.size:=fun b hb=>Nat.lt_of_lt_of_le (w00.lt b hb) hX.kept.size;have hown:∀i b s,β i=some (b,s)→¬S b:=fun i b s hi h=>(mem.rng i b s hi).1 (hSK b h)
 let w0':Base:=⟨w',w00.K,fun b hb=>Nat.lt_of_lt_of_le (hK0 b hb) hsz,w0.pin,w0.gh,w00.kt,mem.tab.congr (hold GT mem.tab.lt hSG)⟩
 have hMM:∀b,MM M00 β (H σ) b→MM M0 β (H σ) b∧¬S b:=by
  rintro b (hb|⟨i,B,s,h1,h2⟩);exact⟨.inl ((p.m b).2 (.inl hb)),hnS b (hX.m00 b hb).1⟩;exact⟨.inr ⟨i,B,s,h1,h2⟩,hown i b s h2⟩
 have st:StabC (MM M0 β (H σ)) (MM M00 β (H σ)) β β w w':=⟨fun b N hb hm=>hold b (bb_ hb) fun h=>hm (.inl (hSM b h)),fun b N _ hm=>(hMM b hm).1,fun _ _ h=>h,mB.below.sizes⟩;refine⟨y,M00,w0',β,rfl,⟨⟨rfl,rfl,rfl,Nat.le_refl _,fun _ _=>rfl,fun _ _ h=>h⟩,hX.m00,fun i b s hi=>⟨fun hk=>(mem.rng i b s hi).1 ((p.k b).2 (.inl hk)),Nat.lt_of_lt_of_le (mem.rng i b s hi).2 hsz⟩,mem.pin,fun i B hi=>?_,mem.inj⟩,rfl,?_,st,fun _ _=>rfl,fun ds hds=>?_,?_⟩;obtain⟨b,e1,e2⟩:=mem.blk i B hi;exact⟨b,e1,e2.stab st (hold b (mem.rng i b _ e1).2 (hown i b _ e1))⟩;exact il_ hr hy (fun _ _ _ _=>rfl) (fun b _ _ hm=>hMM b hm) fun _ _ h=>h;obtain⟨Ds,d1,d2,d3⟩:=hds;refine⟨Ds,d1,d2,fun D hD=>?_⟩;obtain⟨e1,e2⟩:=d3 D hD;have hlt:=(Array.getElem?_eq_some_iff.1 e1).1;refine⟨by rw[hold D hlt fun h=>e2 (hSK D h)];exact e1,fun hk=>e2 ((p.k D).2 (.inl hk))⟩;refine⟨⟨mB.below.os.trans hX.kept.os,mB.below.tape.trans hX.kept.tape,mB.below.output.trans hX.kept.output,Nat.le_trans hX.kept.size hsz,fun b hb=>(hold b (hK0 b hb) (hnS b hb)).trans (hX.kept.block b hb),fun b k hb=>mB.below.sizes b k (hX.kept.sizes b k hb)⟩,hX.m00,hX.pin,fun _=>List.mem_append_left _ hjA,fun _=>⟨fun _=>Iff.rfl,fun _=>Iff.rfl⟩,fun _ h=>absurd (by simp) h⟩
end
def spAB(jA jB:Nat)(r:AV)(j:Nat):Option AV:=cond (Nat.beq j jA) (some .any) (cond (Nat.beq j jB) (some r) none)
def kAB(jA jB t0:Nat)(v:AV)(gA gB:Nat)(asA asB:List AV)(fA fB:Operand)(xA xB:List Operand)(j:Nat)(fr:Nat→Option AV):Prop:=
 (j=jA→evF fr fA=some (.clos gA [] [])∧∃as,evs (evF fr) xA=some as∧(∀a∈as,Closed a)∧as.map coe=asA)∧(j=jB→evF fr fB=some (.clos gB [] [])∧∃as,ArgsB (evF fr) t0 v xB as∧as.map coe=asB)
theorem kAB.a{jA jB t0:Nat}{v:AV}{gA gB:Nat}{asA asB as:List AV}{fA fB:Operand}{xA xB:List Operand}{fr:Nat→Option AV}(hne:Nat.beq jA jB=false)(h1:evF fr fA=some (.clos gA [] []))(h2:evs (evF fr) xA=some as)(h3:∀a∈as,Closed a)(h4:as.map coe=asA):kAB jA jB t0 v gA gB asA asB fA fB xA xB jA fr:=
 ⟨fun _=>⟨h1,as,h2,h3,h4⟩,fun e=>by subst e;rw[Nat.beq_refl] at hne;cases hne⟩
theorem kAB.b{jA jB t0:Nat}{v:AV}{gA gB:Nat}{asA asB as:List AV}{fA fB:Operand}{xA xB:List Operand}{fr:Nat→Option AV}(hne:Nat.beq jA jB=false)(h1:evF fr fB=some (.clos gB [] []))(h2:ArgsB (evF fr) t0 v xB as)(h4:as.map coe=asB):kAB jA jB t0 v gA gB asA asB fA fB xA xB jB fr:=
 ⟨(fun e=>by subst e;rw[Nat.beq_refl] at hne;cases hne),fun _=>⟨h1,as,h2,h4⟩⟩
theorem AWp.regAB {P:Program} {ρ:Option Nat} {Q:Exit→AState→Prop} {ops:Array Oper} {rid nx n:Nat} {fr:Fr} {hp:Hp} (jA jB t0:Nat) {v r:AV} {hpA:Hp} {nx0 nxA nxB gA gB:Nat} {asA asB:List AV} {oA oB:Oper} {cA cB:Call} {fA fB:Operand} (hm:P.follows .mixedOrders=true)
    (XA:XSpecT P gA asA [] nx0 v hpA nxA) (XB:XSpec P gB asB hpA nxA r [] nxB) (hr:Closed r)
    (hoA:ops[jA]?=some oA) (hopA:oA.op= .call cA) (hgA:oA.guard=none) (hdA:oA.dst=some t0) (hfA:cA.callee= .value fA) (hoB:ops[jB]?=some oB) (hopB:oB.op= .call cB) (hgB:oB.guard=none) (hfB:cB.callee= .value fB)
    (hne:Nat.beq jA jB=false) (hAB:ancOf ops jA jB=true) (ht0:Nat.blt t0 n=true) (hw:(ops.toList.zipIdx.all fun p=>Nat.beq p.2 jA||(match p.1.dst with|some d=>!Nat.beq d t0|none=>true))=true) (hn0:Nat.ble 1 nx0=true)
    (h:AY P ops (spAB jA jB r) (kAB jA jB t0 v gA gB asA asB fA fB cA.args.toList cB.args.toList) nx n 0 ops.toList fr hp fun fps f h=>okReg ops fps=true∧Q .normal ⟨f,h,nx+ops.size,n⟩):AWp ρ P (.region rid ops true) Q ⟨fr,hp,nx,n⟩:=by
 have hne':jA≠jB:=fun e=>by subst e;rw[Nat.beq_refl] at hne;cases hne
 have ht1:t0< n:=Nat.le_of_ble_eq_true ht0;rintro M00 w00 a w ⟨β0,mem0,hn0',hfr0,hfree0,hdef0⟩;obtain⟨us,st',hrun,hok,hq⟩:=h;obtain⟨h1,h2,h3,h4⟩:=fM_ ops.toList 0 _ st' us [] (look fr) (lookB hp) hrun rfl (fun i o h=>by simpa using h) rfl rfl;simp only[List.nil_append,Nat.zero_add,Array.length_toList] at h1 h2 h3
 have hback:backB ops=true:=by
  unfold okReg at hok;simp only[Bool.and_eq_true] at hok;exact hok.1
 have hB1:jB< ops.size:=(Array.getElem?_eq_some_iff.1 hoB).1
 have hHs:∀(j:Nat) (u:Upd) (rd:List Nat) (σ:List Nat),us[j]?=some (u,rd)→stH us (lookB hp) (σ++[j])=appB (stH us (lookB hp) σ) u.blk:=fun j u rd σ hu=>by
  rw[c9_,show blk? us j=u.blk by simp[blk?,hu]]
 refine nT_ (us:=us) (n:=n) (nx:=nx) (fr0:=look fr) (hp0:=lookB hp) (X:=fun σ M0 w0 β a w=>XP jA jB t0 v hpA nxA M00 w00 (fun σ=>stH us (lookB hp) σ) σ M0 w0 β a w) (gh:=w00.gh) hm (ancOK hback) (iu_ hok) (fun j o ho=>?_) (fun M0 w0 β hX=>?_) ?_ (fun σ a' w' nd hall hlt hF=>?_);obtain⟨u,rd,hu,s1,s2,hdst⟩:=h1 j o (by simpa using ho);refine⟨u,rd,hu,hdst,?_⟩;have hcg:∀σ,(∀t∈he_ ops o,stF ops us (look fr) σ t=stF ops us (look fr) (List.range j) t)→∀x∈o.op.operands,evF (stF ops us (look fr) σ) x=evF (stF ops us (look fr) (List.range j)) x:=fun σ hag x hx=>i6_ fun t e=>hag t (by subst e;exact List.mem_append_left _ (gI_ (Array.mem_toList_iff.2 hx)));by_cases hjA:j=jA;subst hjA;rw[hoA] at ho;cases ho;obtain⟨rfl,rfl,hC⟩:=s1 .any (by unfold spAB;rw[Nat.beq_refl];rfl);obtain⟨c1,as,c2,c3,c4⟩:=hC.1 rfl;refine .inr ⟨hgA,(fun c hc=>by rw[hopA] at hc;cases hc),fun σ M0 w0 β a w hj hr hag hn mem hfr hid hid0 hX=>?_⟩;have hcg:=hcg σ hag;have o1:fA∈oA.op.operands:=by rw[hopA];simp[Op.operands,Call.operands,hfA]
 have o2:∀x∈cA.args.toList,x∈oA.op.operands:=fun x hx=>by rw[hopA];simp[Op.operands,Call.operands,hfA];exact .inr (by simpa using hx)
 have d1:=(hcg fA o1).trans c1;have d2:evs (evF (stF ops us (look fr) σ)) cA.args.toList=some as:=(i4_ fun x hx=>hcg x (o2 x hx)).trans c2;obtain⟨xs,ys,hx,hx1,hx2⟩:=c7_ hfr fA _ d1;have hxs:xs= #[]:=Array.ext' hx1;have hys:ys= #[]:=Array.ext' hx2;subst hxs hys;refine⟨gA,_,cN_ hopA hfA hx rfl XA.enters,?_⟩;rw[hdA];exact hX.make mem hj hne' (by rw[hn];exact ht1) (hHs _ _ _ σ hu) (Nat.le_of_ble_eq_true hn0) XA (ek_ (c7_ hfr) d2) c3 c4;by_cases hjB:j=jB;subst hjB;rw[hoB] at ho;cases ho;obtain⟨rfl,rfl,hC⟩:=s1 r (by unfold spAB;rw[show Nat.beq j jA=false by cases hb:Nat.beq j jA with|false=>rfl|true=>exact absurd (nbeqT hb) hjA,Nat.beq_refl];rfl);obtain⟨c1,as,c2,c4⟩:=hC.2 rfl;refine .inr ⟨hgB,(fun c hc=>by rw[hopB] at hc;cases hc),fun σ M0 w0 β a w hj hr' hag hn mem hfr hid hid0 hX=>?_⟩;have hcg:=hcg σ hag;have o1:fB∈oB.op.operands:=by rw[hopB];simp[Op.operands,Call.operands,hfB]
 have o2:∀x∈cB.args.toList,x∈oB.op.operands:=fun x hx=>by rw[hopB];simp[Op.operands,Call.operands,hfB];exact .inr (by simpa using hx)
 have d1:=(hcg fB o1).trans c1;obtain⟨xs,ys,hx,hx1,hx2⟩:=c7_ hfr fB _ d1;have hxs:xs= #[]:=Array.ext' hx1;have hys:ys= #[]:=Array.ext' hx2;subst hxs hys;refine⟨gB,_,cN_ hopB hfB hx rfl XB.enters,?_⟩;exact hX.use mem (hr' _ hAB) hj (hHs _ _ _ σ hu) XB hr (fun x _ z hz=>c7_ hfr x z hz) (ArgsB.congr (fun x hx=>hcg x (o2 x hx)) c2) c4
 have hs:spAB jA jB r j=none:=by
  unfold spAB;rw[show Nat.beq j jA=false by cases hb:Nat.beq j jA with|false=>rfl|true=>exact absurd (nbeqT hb) hjA,show Nat.beq j jB=false by cases hb:Nat.beq j jB with|false=>rfl|true=>exact absurd (nbeqT hb) hjB];rfl
 refine .inl ⟨s2 hs,fun σ M0 w0 β a w y w' β' hj hn hX mem haf=>hX.ordinary hjA hjB (fun d hd=>?_) (hHs j u rd σ hu) mem haf⟩;have:=List.all_eq_true.1 hw (o,j) (by rw[List.mem_zipIdx_iff_getElem?];simpa using ho);rw[hd,show Nat.beq j jA=false by cases hb:Nat.beq j jA with|false=>rfl|true=>exact absurd (nbeqT hb) hjA] at this;exact nbeqF (by simpa using this);exact⟨⟨hX.kept.os,hX.kept.tape,hX.kept.output,hX.kept.size,hX.kept.block,hX.kept.sizes⟩,hX.m00,hX.pin,hX.dep,hX.no,fun h=>by cases h⟩;exact⟨M00,w00,β0,mem0,rfl,hn0',hfr0,hfree0,hdef0,mem0.below,mem0.m0,rfl,(fun h=>by cases h),(fun _=>⟨fun _=>Iff.rfl,fun _=>Iff.rfl⟩),fun h=>by cases h⟩;obtain⟨M0,w0,β,mem,hgh,hn,hfr,hfree,hdef,hX⟩:=hF;obtain⟨n1,n2⟩:=hX.no (.inr (hall jB hB1));have hM0:M0=M00:=funext fun b=>propext (n1 b);subst hM0;rw[←h2,←h3] at *
 refine⟨⟨st'.fr,st'.hp,nx+ops.size,n⟩,⟨β,⟨hX.kept,hX.m00,fun i b s hi=>⟨fun hk=>(mem.rng i b s hi).1 ((n2 b).2 hk),(mem.rng i b s hi).2⟩,fun hz=>(mem.pin hz).trans hX.pin,mem.blk,mem.inj⟩,hn,fun t x hx=>by rw[←hJ_ hgh];exact hfr t x hx,hfree,?_⟩,hq⟩;obtain⟨Ds,d1,d2,d3⟩:=hdef;exact⟨Ds,d1,d2,fun D hD=>⟨(d3 D hD).1,fun hk=>(d3 D hD).2 ((n2 D).2 hk)⟩⟩
def mzH(sz TS TQ:Nat)(o:List (List AV))(L:List (List (List AV))):Hp:=(1,some ⟨TS,1,o⟩)::mxB TQ sz L 2
theorem bB_{sz TS TQ k:Nat}{o:List (List AV)}{L:List (List (List AV))}{e:List (List AV)}(h:L[k]?=some e):lookB (mzH sz TS TQ o L) (k+2)=some ⟨TQ,sz,e⟩:=by
 unfold mzH;rw[bk_];unfold upd;rw[if_neg (by omega)];exact mV_ L 2 k e h
theorem mzH_cell{sz TS TQ k:Nat}(hz:sz≠0){o:List (List AV)}{L:List (List (List AV))}{e:List (List AV)}(h:L[k]?=some e):cellF (lookB (mzH sz TS TQ o L)) (k+2)=some ⟨TQ,sz,e⟩:=b2_ (bB_ h) hz
theorem SEntT.mz {sz:Nat} {fr fr':Fr} {hp:Hp} {nx N TS TQ:Nat} (s:Nat→Nat) (o o':List (List AV)) (L:List (List (List AV))) (hL:L.length≤30) (s0:s 0=0) (hinj:∀i j,1≤i→i< L.length+2→1≤j→j< L.length+2→s i=s j→i=j)
    (h1:lookB hp (s 1)=some ⟨TS,1,o'⟩) (ho:o'.length=o.length) (hr:∀i e,L[i]?=some e→lookB hp (s (i+2))=some ⟨TQ,sz,e⟩∧∀x∈e,∀c∈x,Closed c)
    (hO:Shr ⟨40,s⟩ (lookB hp) (lookB (mzH sz TS TQ o L))→CvLL ⟨40,s⟩ (lookB hp) (lookB (mzH sz TS TQ o L)) o' o)
    (hF:Shr ⟨40,s⟩ (lookB hp) (lookB (mzH sz TS TQ o L))→CvF ⟨40,s⟩ (lookB hp) (lookB (mzH sz TS TQ o L)) fr fr'):SEntT ⟨fr,hp,nx,N⟩ ⟨fr',mzH sz TS TQ o L,40,N⟩:=by
 have key:∀i B,(i,some B)∈mzH sz TS TQ o L→(i=1∧B=⟨TS,1,o⟩)∨∃k e,L[k]?=some e∧i=k+2∧B=⟨TQ,sz,e⟩:=fun i B h=>by
  rcases List.mem_cons.1 h with h|h
  cases h;exact .inl ⟨rfl,rfl⟩;obtain⟨k,e,k1,k2,k3⟩:=iB_ L 2 i B h;exact .inr ⟨k,e,k1,by omega,k3⟩
 have hS:Shr ⟨40,s⟩ (lookB hp) (lookB (mzH sz TS TQ o L)):=⟨fun i B h=>by
  rcases key i B (c1_ h) with⟨rfl,rfl⟩|⟨k,e,k1,rfl,rfl⟩
  exact⟨(show 1< 40 by decide),_,h1,rfl,rfl,ho⟩;have hk:=(List.getElem?_eq_some_iff.1 k1).1;exact⟨by show k+2< 40;omega,_,(hr k e k1).1,rfl,rfl,rfl⟩⟩
 refine SEntT.intro (st:=⟨fr,hp,nx,N⟩) (st':=⟨fr',mzH sz TS TQ o L,40,N⟩) ⟨40,s⟩ rfl (show 0< 40 by decide) s0 (kx_ _ fun i j hi hj e=>?_) rfl (hF hS) (mF_ _ fun i B h=>?_)
 have g:∀i,i∈(mzH sz TS TQ o L).map (·.1)→1≤i∧i< L.length+2:=fun i hi=>by
  rcases List.mem_cons.1 hi with h|h
  have h:i=1:=h;omega;have:=iC_ L 2 i h;omega
 exact hinj i j (g i hi).1 (g i hi).2 (g j hj).1 (g j hj).2 e;rcases key i B h with⟨rfl,rfl⟩|⟨k,e,k1,rfl,rfl⟩
 exact⟨(show 1< 40 by decide),_,h1,rfl,rfl,hO hS⟩;have hk:=(List.getElem?_eq_some_iff.1 k1).1;exact⟨by show k+2< 40;omega,_,(hr k e k1).1,rfl,rfl,aU_ hS (hr k e k1).2⟩
def mzO(sz:Nat)(w:Nat→Nat)(s:Nat→Nat)(n:Nat):List (List AV):=(List.range n).map fun i=>[.lsl (s (i+2)) 0 (w i) none sz]
@[simp] theorem fe_ (sz:Nat)(w:Nat→Nat)(s:Nat→Nat)(n:Nat):(mzO sz w s n).length=n:=by simp[mzO]
theorem mU_{sz:Nat}{w:Nat→Nat}{s:Nat→Nat}{n i:Nat}(h:i< n):(mzO sz w s n)[i]?=some [.lsl (s (i+2)) 0 (w i) none sz]:=by simp[mzO,h]
theorem gF_{sz:Nat}{hp hp':Nat→Option ABlk}{s:Nat→Nat}{w:Nat→Nat}{n:Nat}(hn:n≤30)(hl:∀i,i< n→(hp' (i+2)).isSome=true):CvLL ⟨40,s⟩ hp hp' (mzO sz w s n) (mzO sz w (fun i=>i) n):=
 lc_ _ _ _ fun i hi=>by
  have:=List.mem_range.1 hi;exact ae_ (Cv.sl (Nat.ble_eq_true_of_le (show i+2+1≤40 by omega)) rfl (hl i this)) am_
theorem Cv.mzShut{r:Ren}{hp':Nat→Option ABlk}{cap:Option Nat}{sz TS TQ n:Nat}{w:Nat→Nat}(hz:sz≠0){L:List (List (List AV))}(h:Shr r (lookB (mzH sz TS TQ (mzO sz w (fun i=>i) n) L)) hp')(hd:∀i,hp' i=none)(hn:n=L.length)(hw:∀i e,L[i]?=some e→e.length=w i)(hc:∀e∈L,∀x∈e,∀c∈x,Closed c):
    Cv r (lookB (mzH sz TS TQ (mzO sz w (fun i=>i) n) L)) hp' (.lsl 1 0 n cap 1) (.arr (L.map fun e=>[.arr e])):=by
 have dd:∀i,Dead r hp' i:=fun i j B hj=>by rw[hd] at hj;cases hj
 have hlen:(mzO sz w (fun i=>i) n).length=n:=fe_ _ _ _ _;have h1:cellF (lookB (mzH sz TS TQ (mzO sz w (fun i=>i) n) L)) 1=some ⟨TS,1,mzO sz w (fun i=>i) n⟩:=rfl;refine Cv.trans_eq (Cv.shut (es:=L.map fun e=>[.arr e]) h h1 (dd 1) (by show 0+n≤(mzO sz w (fun i=>i) n).length;omega) ?_) rfl;show CvLL r _ hp' (((mzO sz w (fun i=>i) n).drop 0).take n) _;rw[List.drop_zero,List.take_of_length_le (by omega)];subst hn
 have key:∀(l:List (List (List AV))) (k:Nat),(∀i e,l[i]?=some e→L[k+i]?=some e)→CvLL r (lookB (mzH sz TS TQ (mzO sz w (fun i=>i) L.length) L)) hp' ((List.range' k l.length).map fun i=>[.lsl (i+2) 0 (w i) none sz]) (l.map fun e=>[.arr e]):=by
  intro l
  induction l with
  |nil=>intro k _;exact CvLL.nil
  |cons e l ih=>
   intro k hk;rw[List.length_cons,List.range'_succ];have he:L[k]?=some e:=hk 0 e rfl;have hm:=List.mem_of_getElem? he
   refine CvLL.cons (ae_ ?_ am_) (ih (k+1) fun i e' h'=>by
    have:=hk (i+1) e' (by simpa using h');rwa[show k+(i+1)=k+1+i by omega] at this)
   refine Cv.shut (es:=e) h (mzH_cell hz he) (dd _) (by show 0+w k≤e.length;rw[hw k e he];omega) ?_;show CvLL r _ hp' ((e.drop 0).take (w k)) e;rw[List.drop_zero,List.take_of_length_le (by rw[hw k e he];exact Nat.le_refl _)];exact aU_ h (hc e hm)
 have:=key L 0 fun i e h'=>by rw[Nat.zero_add];exact h'
 rw[←List.range_eq_range'] at this;exact this
theorem XSpecT.shut{P:Program}{f nx nx':Nat}{args:List AV}{v r:AV}{hp':Hp}(h:XSpecT P f args [] nx v hp' nx')(h0:Nat.ble 1 nx=true)(hcl:∀a∈args,Closed a){rr:Ren}(hc:Cv rr (lookB hp') (fun _=>none) v r)(hr:Closed r):FSpec P f args r:=by
 have e0:∀(M:Nat→Prop) (b:Nat→Option (Nat×Nat)),MM M b (lookB [])=M:=fun M b=>by funext c;simp[MM,lookB,look]
 have e1:∀(M:Nat→Prop) (b:Nat→Option (Nat×Nat)),MM M b (fun _=>none)=M:=fun M b=>by funext c;simp[MM]
 refine⟨hcl,h.enters,fun M w vals hfit hargs=>?_⟩;refine(h.calls M (Base.of w hfit.tab) (fun _=>none) vals rfl ⟨⟨rfl,rfl,rfl,Nat.le_refl _,fun _ _=>rfl,fun _ _ h=>h⟩,(fun b hb=>⟨hfit.lt b hb,fun e=>hfit.nt (e▸hb)⟩),(fun _ _ _ h=>by cases h),(fun _=>rfl),(fun _ _ h=>by cases h),fun _ _ _ _ _ _ _ h=>by cases h⟩ (fun i hi=>⟨rfl,by have:=Nat.le_of_ble_eq_true h0;omega⟩) (by rw[e0];exact hargs)).mono ?_;rintro e w' ⟨y,β',rfl,mem',hy,_,_⟩;have h5:=hc M _ β' w' y mem' hy;rw[e1] at h5;exact⟨y,rfl,hr _ _ _ _ h5,mem'.below.os,mem'.below.tape,mem'.below.output,mem'.below.size,mem'.below.block⟩
end Go.Abs
