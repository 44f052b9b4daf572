/- Part Y10 of the proof. -/
import Derived.Test.YtjmkjicckobojaaGreatDoorY09
set_option linter.all false
namespace Go.Abs
open Go.RowKit
section
variable {fr:Fr}{hp hp':Hp}{nx nx' t0 gA gB:Nat}{v:AV}{P:Program}{w:World}{dst:Option Nat}{ev:Operand->Option AV}{xs:List Operand}{as asA asB:La}{fA fB:Operand}
structure XSpecT (P:Program)(f:Nat)(args:La)(hp:Hp)(nx:Nat)(v:AV)(hp':Hp)(nx':Nat):Prop where
 enters:∀(xs:Array Value) (w:World),(callFunc f xs).run P w= .ok (.enter f xs) w
 calls:∀(M:Nat->Prop) (w0:Base) (β:Bq) (vals:List Value),w0.gh=(λ_=>undef)->Mem M w0 β (ap hp) w0.w->(∀i,nx<=i->β i=none/\i≠0)->RVs (MM M β (ap hp)) β w0.w args vals->
  Calls P f vals.toArray w0.w λx w'=> ∃y β',x= .returned y/\Mem M w0 β' (ap hp') w'/\RV (MM M β' (ap hp')) β' w' v y/\(∀i,nx'<=i->β' i=none/\i≠0)/\∀i x,β' i=some x->(ap hp' i).isSome=true
def FinXT(t:Nat)(v:AV)(hp':Hp)(nx' n:Nat)(x:Exit)(st:AState):Prop:=(x= .normal\/x= .ret)/\SEntT st ⟨[(t,v)],hp',nx',n⟩
theorem FinXT.of{n t:Nat}(h:SEntT ⟨fr,hp,nx,n⟩ ⟨[(t,v)],hp',nx',n⟩):FinXT t v hp' nx' n .ret ⟨fr,hp,nx,n⟩:=⟨.inr rfl,h⟩
theorem XSpecT.enter {f:Nat} {fn:Func} {c:Code} {t:Nat} {args:La} (hf:P.funcs[f]?=some fn) (hb:fn.body=some c) (hname:(fn.name== "runtime.NumGoroutine")=false) (hrs:fn.results.toList=[.tmp t]) {m:Nat} (hm:fn.ntmps=m) (hn:Nat.ble args.length m=true)
    (ht:Nat.ble t 999=true) (hfr:dA 0 args=fr) (h:AWp none P c (FinXT t v hp' nx' m) ⟨fr,hp,nx,m⟩):XSpecT P f args hp nx v hp' nx':=by
 subst hm hfr;have hn:=r9 hn;refine⟨λxs w=>?_,λM w0 β vals hgh mem hfree hargs=>?_⟩;have hname':¬fn.name= "runtime.NumGoroutine" :=φ
 simp[callFunc,hf,hname',hb];refine(callsIn_wide (n:=0)).1 (callsIn_of_wp_marks (F:=Fence.wide) hf hb trivial ?_);have hlen:=hargs.length
 have hrel:jT M w0 ⟨dA 0 args,hp,nx,fn.ntmps⟩ {tmps:=vals.toArray++Array.replicate (fn.ntmps- vals.toArray.size) undef,defers:=[]} w0.w:=by
  refine⟨β,mem,φ,λt x hx=>?_,hfree,⟨[],rfl,E9,ψ⟩⟩;rw[cN hgh]
  have key:∀{as:La} {vs:List Value} {i t:Nat} {x:AV},RVs (MM M β (ap hp)) β w0.w as vs->look (dA i as) t=some x->i<=t/\∃y,vs[t- i]?=some y/\RV (MM M β (ap hp)) β w0.w x y:=by
   intro as
   induction as with
   |nil=>intro vs i t x _ h;cases h
   |cons a as ih=>
    rintro vs i t x ⟨y,ys,e,h1,h2⟩ h;subst e;simp only[dA] at h;rw[b8] at h;unfold upd at h;grind
  obtain⟨_,y,h1,h2⟩:=key hargs hx
  have hy:(vals.toArray++Array.replicate (fn.ntmps- vals.toArray.size) undef).getD t undef=y:=by
   have hlt:t< vals.length:=φ
   rw[oj,zr φ];grind
  grind
 refine wpIn_mono (h M w0 _ w0.w hrel) λx a' w' ⟨st',hst,he,hent⟩=>?_;obtain⟨β',mem',hsz,hfr,hfree',⟨Ds,hds,hnd,hD⟩,hlive⟩:=hent M w0 a' w' hst;have hv:look ([(t,v)]:Fr) t=some v:=by rw[b8];exact bq _ _ _
 have hres:ni P fn.results.toList ⟨[(t,v)],hp',nx',fn.ntmps⟩ .any:=by
  rw[hrs];exact⟨[_],⟨_,[],rfl,hv,rfl⟩,λ_ _ _ _ _ _ _=>trivial⟩
 have hL:LeavesInM (FR none) 0 P fn a'.tmps (λx w'=> ∃y β',x= .returned y/\Mem M w0 β' (ap hp') w'/\RV (MM M β' (ap hp')) β' w' v y/\(∀i,nx'<=i->β' i=none/\i≠0)/\∀i x,β' i=some x->(ap hp' i).isSome=true) a'.defers .returning w':=by
  rw[hds];refine iN (st:=⟨[(t,v)],hp',nx',fn.ntmps⟩) hres (λy w'' _ h2 h3 h4=>?_) Ds w' hnd hD mem' (λt x hx=>by have:=hfr t x hx;rwa[cN hgh] at this)
  have hy:y=a'.tmps.getD t undef:=by
   have hm:(fn.results.mapM (iJ a'.tmps)).run P w''= .ok #[a'.tmps.getD t undef] w'':=by
    rw[KN,hrs];rfl
   have he:results fn a'.tmps=(do let vs<-fn.results.mapM (iJ a'.tmps);pure (if h:vs.size=1 then vs[0] else .tuple vs)):=rfl;rw[he,Sem.run_bind,hm] at h4;have h5:(Result.ok (a'.tmps.getD t undef) w'':Result Value)= .ok y w'':=h4;cases h5;rfl
  exact⟨y,β',rfl,h2,by rw[hy];exact h3 t v hv,hfree',hlive⟩
 rcases he with rfl|rfl
 exact hL;exact hL
section
variable {P:Program}{ops:Array Oper}{us:List (Upd×Ln)}{anc:Nat->Nat->Bool}{nx n:Nat}{fr0:Nat->Option AV}{hp0:Hq}{ρ:Option Nat}{Q:Exit->Act->World->Prop}{rid:Nat}
variable {X:Ln->(Nat->Prop)->Base->(Nat->Option (Nat×Nat))->Act->World->Prop}{gh:Nat->Value}
def YStep(P:Program)(ops:Array Oper)(us:List (Upd×Ln))(anc:Nat->Nat->Bool)(nx n:Nat)(fr0:Nat->Option AV)(hp0:Hq)(X:Ln->(Nat->Prop)->Base->(Nat->Option (Nat×Nat))->Act->World->Prop)(j:Nat)(o:Oper)(u:Upd)(rd:Ln):Prop:=
 (AStep P ops (nx+j) (stF ops us fr0 (List.range j)) (stH us hp0 (List.range j)) o u rd/\
  ∀σ M0 w0 β a w y w' β',j∉σ->a.tmps.size=n->X σ M0 w0 β a w->Mem M0 w0 β (stH us hp0 σ) w->nj M0 w0 β (stH us hp0 σ) w (nx+j) u y w' β'->X (σ++[j]) M0 w0 β' (a.put o.dst y) w')\/
 (o.guard=none/\(∀c,o.op≠ .defer c)/\∀σ M0 w0 β a w,j∉σ->(∀i,anc i j=true->i∈σ)->(∀t∈nI ops o,stF ops us fr0 σ t=stF ops us fr0 (List.range j) t)->a.tmps.size=n->Mem M0 w0 β (stH us hp0 σ) w->
  (∀t x,stF ops us fr0 σ t=some x->RV (MM M0 β (stH us hp0 σ)) β w x (fj w0 a t))->β (nx+j)=none->nx+j≠0->X σ M0 w0 β a w->
  ∃f xs,(execOp a.eval o).run P w= .ok (.enter f xs) w/\Calls P f xs w λe w'=> ∃y M0' w0' β',e= .returned y/\
   Mem M0' w0' β' (iF (stH us hp0 σ) u.blk) w'/\w0'.gh=w0.gh/\RV (MM M0' β' (iF (stH us hp0 σ) u.blk)) β' w' u.val y/\StabC (MM M0 β (stH us hp0 σ)) (MM M0' β' (iF (stH us hp0 σ) u.blk)) β β' w w'/\(∀i,i≠nx+j->β' i=β i)/\(∀ds,DefOK ds w0 w->DefOK ds w0' w')/\
   X (σ++[j]) M0' w0' β' (a.put o.dst y) w')
theorem BC (hm:P.follows .mixedOrders=true) (hanc:AncOK ops anc) (hok:qv ops us anc=true)
    (hsteps:∀j o,ops[j]?=some o->∃u rd,us[j]?=some (u,rd)/\(∀d,o.dst=some d->d< n)/\YStep P ops us anc nx n fr0 hp0 X j o u rd)
    {a:Act} (hdrew:∀M0 w0 β,X [] M0 w0 β a w->X [] M0 w0 β a w.drew)
    (hrel:FX gh fr0 hp0 (λi=>nx<=i) n (X []) a w)
    (hQ:∀σ a' w',σ.Nodup->(∀j,j< ops.size->j∈σ)->(∀j∈σ,j< ops.size)->FX gh (stF ops us fr0 (List.range ops.size)) (stH us hp0 (List.range ops.size)) (λi=>nx+ops.size<=i) n (X σ) a' w'->Q .normal a' w'):
    (Code.region rid ops true).wpIn (FR ρ) 0 P Q a w:=by
 refine wpIn_region_any hm ?_
 have main:∀(fuel:Nat) (σ:Ln) (listed:Array Bool) (a:Act) (w:World),Topo anc ops.size σ->σ.Nodup->listed.size=ops.size->(∀j,j< ops.size->(listed.getD j true=true↔j∈σ)/\(listed.getD j false=true↔j∈σ))->
     ((List.range ops.size).filter λj=>!σ.contains j).length<=fuel->FX gh (stF ops us fr0 σ) (stH us hp0 σ) (λi=>nx<=i/\∀j∈σ,i≠nx+j) n (X σ) a w->
     wpAnyIn (FR ρ) 0 P .any ops Q fuel listed a w:=by
  have fin:∀(σ:Ln) (a:Act) (w:World),Topo anc ops.size σ->σ.Nodup->(∀j,j< ops.size->j∈σ)->FX gh (stF ops us fr0 σ) (stH us hp0 σ) (λi=>nx<=i/\∀j∈σ,i≠nx+j) n (X σ) a w->Q .normal a w:=by
   intro σ a w ht nd hall hr;refine hQ σ a w nd hall ht.lt ?_
   have e1:stF ops us fr0 σ=stF ops us fr0 (List.range ops.size):=by
    funext t;refine y7 σ _ t (ht.filter nd (λi hi _=>hall i hi) (λi hi _ hiσ=>by have:=ht.lt i hiσ;omega) λi k hik hk h1 h2=>nC hok hik hk (by simpa using h1) φ)
   have e2:stH us hp0 σ=stH us hp0 (List.range ops.size):=by
    funext t;refine y6 σ _ t (ht.filter nd (λi hi _=>hall i hi) (λi hi _ hiσ=>by have:=ht.lt i hiσ;omega) λi k hik hk h1 h2=>qu hok hik hk (by simpa using h1) (by simpa using h2))
   rw[<-e1,<-e2];obtain⟨M0,w0,β,h1,hg,h2,h3,h4,h5⟩:=hr;exact⟨M0,w0,β,h1,hg,h2,h3,λi hi=>h4 i ⟨ω,λj hj=>by have:=ht.lt j hj;omega⟩,h5⟩
  have allIn:∀(σ:Ln) (listed:Array Bool),(∀j,j< ops.size->(listed.getD j true=true↔j∈σ)/\(listed.getD j false=true↔j∈σ))->Region.ready .any ops listed=[]->∀j,j< ops.size->j∈σ:=by
   intro σ listed hl hr j
   induction j using Nat.strongRecOn with
   |_ j ih=>
    intro hj;by_cases hjσ:j∈σ;exact hjσ;exfalso
    have hmem:j∈Region.ready .any ops listed:=by
     refine mem_ready.2 ⟨?_,ops[j],NJ hj,λe he hb=>?_⟩;cases hh:listed.getD j true with
     |false=>rfl
     |true=>exact absurd ((hl j hj).1.1 hh) hjσ
     have hlt:=hanc.back j _ (NJ hj) e he hb;exact(hl e.on ω).2.2 (ih e.on hlt ω)
    rw[hr] at hmem;cases hmem
  intro fuel
  induction fuel with
  |zero=>
   intro σ listed a w ht nd hsz hl hf hr
   have hall:∀j,j< ops.size->j∈σ:=by
    intro j hj;by_cases hjσ:j∈σ;exact hjσ;exfalso;have:j∈(List.range ops.size).filter λj=>!σ.contains j:=Pd.2 ⟨xd.2 hj,by simpa using hjσ⟩;rw[xi (Nat.le_zero.1 hf)] at this;cases this
   refine⟨?_,fin σ a w ht nd hall hr⟩;rw[List.eq_nil_iff_forall_not_mem];intro j hj;obtain⟨h0,o,ho,_⟩:=mem_ready.1 hj;have hlt:j< ops.size:=(sk.1 ho).1;rw[(hl j hlt).1.2 (hall j hlt)] at h0;cases h0
  |succ fuel ih=>
   intro σ listed a w ht nd hsz hl hf hr;refine⟨λh0=>fin σ a w ht nd (allIn σ listed hl h0) hr,λj hj=>?_⟩;obtain⟨h0,o,ho,hedges⟩:=mem_ready.1 hj;have hlt:j< ops.size:=(sk.1 ho).1;have hjσ:j∉σ:=λh=>by rw[(hl j hlt).1.2 h] at h0;cases h0
   have hready:∀i,anc i j=true->i∈σ:=hanc.ready σ j o ht.closed ho λe he hb=>(hl e.on (by have:=hanc.back j o ho e he hb;omega)).2.1 (hedges e he hb);obtain⟨u,rd,hu,hdst,hstep⟩:=hsteps j o ho;have hd1:dst? ops j=o.dst:=by simp[dst?,ho]
   have hv1:val? us j=u.val:=by simp[val?,hu]
   have hb1:blk? us j=u.blk:=by simp[blk?,hu]
   have ht':Topo anc ops.size (σ++[j]):=by
    refine⟨λx hx=>?_,LM.2 ⟨ht.pw,List.pairwise_singleton _ _,λx hx y hy=>?_⟩,λx hx b hb=>?_⟩;rcases n7.1 hx with h|h
    exact ht.lt x h;rw[kI.1 h];exact hlt;rw[kI.1 hy];cases hh:anc j x with
    |false=>rfl
    |true=>exact absurd (ht.closed x hx j hh) hjσ
    rcases n7.1 hx with h|h
    exact tE _ (ht.closed x h b hb);rw[kI.1 h] at hb;exact tE _ (hready b hb)
   have nd':(σ++[j]).Nodup:=List.nodup_append.2 ⟨nd,ψ,λx hx y hy e=>by rw[kI.1 hy] at e;exact hjσ (e▸hx)⟩
   have hl':∀i,i< ops.size->((listed.setIfInBounds j true).getD i true=true↔i∈σ++[j])/\((listed.setIfInBounds j true).getD i false=true↔i∈σ++[j]):=by
    intro i hi;by_cases hij:j=i;subst hij;simp[oj,hsz,hlt];rw[getD_set_ne _ hij,getD_set_ne _ hij,n7,kI];have:=hl i hi;exact⟨this.1.trans ⟨.inl,λh=>h.resolve_right λe=>hij e.symm⟩,this.2.trans ⟨.inl,λh=>h.resolve_right λe=>hij e.symm⟩⟩
   have hf':((List.range ops.size).filter λi=>!(σ++[j]).contains i).length<=fuel:=by
    have:=sT (p:=λi=>!σ.contains i) (q:=λi=>!(σ++[j]).contains i) (xd.2 hlt) (by simpa using hjσ) ψ (λx hx=>by simp at hx⊢;exact hx.1);omega
   obtain⟨M0,w0,β,mem,hgh,hn,hfr,hfree,hdef,hX⟩:=hr
   obtain⟨hidn,hid0⟩:=hfree (nx+j) ⟨ω,λi hi e=>by have:j=i:=ω
                                                  exact hjσ (this▸hi)⟩
   -- behind the operation
   have go:∀y w' M0' w0' β',Mem M0' w0' β' (iF (stH us hp0 σ) u.blk) w'->w0'.gh=w0.gh->RV (MM M0' β' (iF (stH us hp0 σ) u.blk)) β' w' u.val y->StabC (MM M0 β (stH us hp0 σ)) (MM M0' β' (iF (stH us hp0 σ) u.blk)) β β' w w'->(∀i,i≠nx+j->β' i=β i)->DefOK a.defers w0' w'->X (σ++[j]) M0' w0' β' (a.put o.dst y) w'->wpAnyIn (FR ρ) 0 P .any ops Q fuel (listed.setIfInBounds j true) (a.put o.dst y) w':=by
    intro y w' M0' w0' β' m' hg2 hy st hβ hd2 hX';refine ih (σ++[j]) _ _ w' ht' nd' (by simpa using hsz) hl' hf' ⟨M0',w0',β',?_,hg2.trans hgh,?_,λt x hx=>?_,λi hi=>?_,?_,hX'⟩;rw[ij,hb1];exact m';cases o.dst <;> simp[Act.put,hn];rw[mH,hd1,hv1] at hx;rw[ij,hb1,p9 hg2];cases hdst2:o.dst with
    |none=>rw[hdst2] at hx;have e:fj w0 (a.put none y) t=fj w0 a t:=rfl
           rw[e];exact st.all (hfr t x hx)
    |some d=>
     rw[hdst2] at hx;rw[qT (by rw[hn];exact hdst d hdst2)];simp only[BK,upd] at hx;split at hx
     ·rename_i htd;rw[if_pos htd];cases hx;exact hy
     ·rename_i htd;rw[if_neg htd];exact st.all (hfr t x hx)
    have hne:i≠nx+j:=hi.2 j ψ;rw[hβ i hne];exact hfree i ⟨hi.1,λk hk=>hi.2 k (tE _ hk)⟩;have:(a.put o.dst y).defers=a.defers:=by cases o.dst <;> rfl
    rw[this];exact hd2
   unfold wpOpIn;simp only[ho];rcases hstep with⟨hstep,hkeep⟩|⟨hg,hnd,hx⟩
   have hlk:lk? ops j=nI ops o:=by simp[lk?,ho]
   have hrd:rd? us j=rd:=by simp[rd?,hu]
   have hstep':AStep P ops (nx+j) (stF ops us fr0 σ) (stH us hp0 σ) o u rd:=hstep.congr
    (λt htl=>FK hok ht nd hlt hjσ hready (λi k t h1 h2 h3 h4=>nC hok h1 h2 h3 h4) (by rw[hlk];exact htl))
    (λb hb=>MK hok ht nd hlt hjσ hready (λi k b h1 h2 h3 h4=>qu hok h1 h2 h3 h4) (by rw[hrd];exact hb))
   exact hstep'.simF mem hfr hidn hid0 λy w' β' haft=>go y w' M0 w0 β' haft.1 rfl haft.2.1 haft.2.2.1.toStabC haft.2.2.2 (hdef.stab haft.2.2.1) (hkeep σ M0 w0 β a w y w' β' hjσ hn hX mem haft);have hagree:∀t∈nI ops o,stF ops us fr0 σ t=stF ops us fr0 (List.range j) t:=λt htl=>FK hok ht nd hlt hjσ hready (λi k t h1 h2 h3 h4=>nC hok h1 h2 h3 h4) (by rw[show lk? ops j=nI ops o by simp[lk?,ho]];exact htl);obtain⟨f,xs,hrun,hcalls⟩:=hx σ M0 w0 β a w hjσ hready hagree hn mem hfr hidn hid0 hX;rw[if_pos (by simp[Region.wanted,hg])];refine⟨λ_ _=>trivial,?_⟩;rw[Oper.semAt_eq _ _ _ hnd,hrun];refine⟨λhh=>by simp[FR] at hh,u7 (hcalls.mono ?_)⟩;rintro e w' ⟨y,M0',w0',β',rfl,x1,x2,x3,x4,x5,x6,hX'⟩;exact go y w' M0' w0' β' x1 x2 x3 x4 x5 (x6 _ hdef) hX'
 refine main ops.size [] _ a _ ⟨ψ,List.Pairwise.nil,ψ⟩ E9 ψ ?_ ?_ ?_;intro j hj;simp[oj,hj];exact fo (List.length_filter_le _ _) ψ;obtain⟨M0,w0,β,h1,hg,h2,h3,h4,h5,h6⟩:=hrel;have hmx:=h1.ext ((Below.refl w.heap.size w).drew);exact⟨M0,w0,β,hmx.1,hg,h2,λt x hx=>hmx.2.all (h3 t x hx),λi hi=>h4 i hi.1,h5.stab hmx.2,hdrew M0 w0 β h6⟩
end
def RunY(P:Program)(ops:Array Oper)(sp:Nat->Option AV)(C:Nat->(Nat->Option AV)->Prop)(nx:Nat):Nat->List Oper->AState->List (Upd×Ln)->AState->Prop
 |_,[],st,us,st'=>us=[]/\st'=st
 |j,o::rest,st,us,st'=> ∃u rd us',us=(u,rd)::us'/\(∀x,sp j=some x->u=⟨x,[]⟩/\rd=[]/\C j (look st.fr))/\(sp j=none->AStep P ops (nx+j) (look st.fr) (ap st.hp) o u rd)/\(∀d,o.dst=some d->d< st.n)/\RunY P ops sp C nx (j+1) rest (st.step o.dst u) us' st'
theorem nv{P:Program}{ops:Array Oper}{sp:Nat->Option AV}{C:Nat->(Nat->Option AV)->Prop}{nx:Nat}:∀(rest:List Oper) (j:Nat) (st st':AState) (us us0:List (Upd×Ln)) (fr0:Nat->Option AV) (hp0:Hq),
    RunY P ops sp C nx j rest st us st'->us0.length=j->(∀i o,rest[i]?=some o->ops[j+i]?=some o)->look st.fr=stF ops (us0++us) fr0 (List.range j)->ap st.hp=stH (us0++us) hp0 (List.range j)->
    (∀i o,rest[i]?=some o->∃u rd,(us0++us)[j+i]?=some (u,rd)/\(∀x,sp (j+i)=some x->u=⟨x,[]⟩/\rd=[]/\C (j+i) (stF ops (us0++us) fr0 (List.range (j+i))))/\(sp (j+i)=none->AStep P ops (nx+(j+i)) (stF ops (us0++us) fr0 (List.range (j+i))) (stH (us0++us) hp0 (List.range (j+i))) o u rd)/\∀d,o.dst=some d->d< st.n)/\
    look st'.fr=stF ops (us0++us) fr0 (List.range (j+rest.length))/\ap st'.hp=stH (us0++us) hp0 (List.range (j+rest.length))/\st'.n=st.n
 |[],j,st,st',us,us0,fr0,hp0,h,_,_,hF,hH=>by
  obtain⟨rfl,rfl⟩:=h;grind
 |o::rest,j,st,st',us,us0,fr0,hp0,h,hl,hops,hF,hH=>by
  obtain⟨u,rd,a,rfl,k,m,c,e⟩:=h;have b:us0++(u,rd)::a=(us0++[(u,rd)])++a:=ψ
  have l:(us0++(u,rd)::a)[j]?=some (u,rd):=φ
  have E:ops[j]?=some o:=hops 0 o rfl
  have f:look (st.step o.dst u).fr=stF ops ((us0++[(u,rd)])++a) fr0 (List.range (j+1)):=by
   rw[<-b,FI,mH,<-hF];simp only[AState.step,oE,dst?,E,val?,l,zL,DS,M8]
  have p:ap (st.step o.dst u).hp=stH ((us0++[(u,rd)])++a) hp0 (List.range (j+1)):=by
   rw[<-b,FI,ij,<-hH];simp only[AState.step,lZ,blk?,l,DS,M8]
  obtain⟨v,z,s,A⟩:=nv rest (j+1) (st.step o.dst u) st' a (us0++[(u,rd)]) fr0 hp0 e (by simp[hl]) (λi r h=>by
   have:=hops (i+1) r (by simpa using h);rwa[show j+(i+1)=j+1+i by omega] at this) f p
  rw[<-b] at v z s;refine⟨λi r q=>?_,?_,?_,A⟩;cases i with
  |zero=>
   simp only[xg,Option.some.injEq] at q;subst q;refine⟨u,rd,by simpa using l,λx h=>?_,λh=>?_,c⟩;rw[M6,<-hF];exact k x h;rw[M6,<-hF,<-hH];exact m h
  |succ i=>
   obtain⟨D,g,w,t,y,B⟩:=v i r (by simpa using q);rw[show j+1+i=j+(i+1) by omega] at w t y;exact⟨D,g,w,t,y,B⟩
  rw[z,show j+1+rest.length=j+(o::rest).length by simp;omega];rw[s,show j+1+rest.length=j+(o::rest).length by simp;omega]
def AY(P:Program)(ops:Array Oper)(sp:Nat->Option AV)(C:Nat->(Nat->Option AV)->Prop)(nx n j:Nat)(rest:List Oper)(fr:Fr)(hp:Hp)(K:Fps->Fr->Hp->Prop):Prop:=
 ∃us st',RunY P ops sp C nx j rest ⟨fr,hp,nx,n⟩ us st'/\K (us.map fp) st'.fr st'.hp
section
variable {P:Program}{ops:Array Oper}{spf:Nat->Option AV}{C:Nat->(Nat->Option AV)->Prop}{nx n j:Nat}{rest:List Oper}{fr:Fr}{hp:Hp}{K:Fps->Fr->Hp->Prop}
variable {d:Nat}{op:Op}{ty:Nat}{pos:String}{after:Array Edge}{a:AV}{p q:Nat×Option ABlk}{rd:Ln}
theorem AY.nil(h:K [] fr hp):AY P ops spf C nx n j [] fr hp K:=⟨[],_,⟨rfl,rfl⟩,h⟩
theorem AY.cons {guard:Option (Nat×Bool)} {u:Upd} {rd:Ln}
    (hs1:∀x,spf j=some x->u=⟨x,[]⟩/\rd=[]/\C j (look fr)) (hs2:spf j=none->AStep P ops (nx+j) (look fr) (ap hp) ⟨dst,op,ty,pos,after,guard⟩ u rd) (hd:(match dst with|some d=>Nat.blt d n|none=>true)=true)
    (h:AY P ops spf C nx n (j+1) rest (JV fr dst u.val) (u.blk.reverse++hp) λfps f h=>K ((u.blk.map (·.1),rd)::fps) f h):AY P ops spf C nx n j (⟨dst,op,ty,pos,after,guard⟩::rest) fr hp K:=by
 obtain⟨us,b,e,c⟩:=h;refine⟨(u,rd)::us,b,⟨u,rd,us,rfl,hs1,hs2,λd a=>?_,e⟩,c⟩;subst a;simp_all
theorem AY.op0 (hs:AEval P (nx+j) (evF (look fr)) (ap hp) op ⟨a,[]⟩ rd) (hnd:ct op=true) (hd:Nat.blt d n=true)
    (h:AY P ops spf C nx n (j+1) rest ((d,a)::fr) hp λfps f h=>K (([],rd)::fps) f h) (hsp:spf j=none:=by rfl):AY P ops spf C nx n j (⟨some d,op,ty,pos,after,none⟩::rest) fr hp K:=
 AY.cons (λx e=>φ) (λ_=>⟨bH hnd,hs⟩) hd h
theorem AY.op1 (hs:AEval P (nx+j) (evF (look fr)) (ap hp) op ⟨a,[p]⟩ rd) (hnd:ct op=true) (hd:Nat.blt d n=true)
    (h:AY P ops spf C nx n (j+1) rest ((d,a)::fr) (p::hp) λfps f h=>K (([p.1],rd)::fps) f h) (hsp:spf j=none:=by rfl):AY P ops spf C nx n j (⟨some d,op,ty,pos,after,none⟩::rest) fr hp K:=
 AY.cons (λx e=>φ) (λ_=>⟨bH hnd,hs⟩) hd h
theorem AY.on1 {u:AV} (hs:AEval P (nx+j) (evF (look fr)) (ap hp) op ⟨u,[p]⟩ rd) (hnd:ct op=true)
    (h:AY P ops spf C nx n (j+1) rest fr (p::hp) λfps f h=>K (([p.1],rd)::fps) f h) (hsp:spf j=none:=by rfl):AY P ops spf C nx n j (⟨none,op,ty,pos,after,none⟩::rest) fr hp K:=
 AY.cons (λx e=>φ) (λ_=>⟨bH hnd,hs⟩) rfl h
theorem AY.sp{x:AV}(hd:Nat.blt d n=true)(hsp:spf j=some x)(hC:C j (look fr))(h:AY P ops spf C nx n (j+1) rest ((d,x)::fr) hp λfps f h=>K (([],[])::fps) f h):AY P ops spf C nx n j (⟨some d,op,ty,pos,after,none⟩::rest) fr hp K:=
 AY.cons (u:=⟨x,[]⟩) (rd:=[]) (λz a=>φ) (λe=>φ) hd h
end
theorem XSpecT.x{f:Nat}{args:La}(h:XSpecT P f args hp nx v hp' nx'):XSpec P f args hp nx v hp' nx':=
 ⟨h.enters,λM j β vals i e k g=>(h.calls M j β vals i e k g).mono λ_ _ ⟨y,l,a,b,c,d,_⟩=>⟨y,l,a,b,c,d⟩⟩
def ArgsB(ev:Operand->Option AV)(t0:Nat)(v:AV):List Operand->La->Prop
 |[],as=>as=[]
 |x::xs,as=> ∃a as',as=a::as'/\((x= .tmp t0/\a=v)\/(ev x=some a/\Closed a))/\ArgsB ev t0 v xs as'
theorem ArgsB.nil:ArgsB ev t0 v [] []:=rfl
theorem ArgsB.own(h:ArgsB ev t0 v xs as):ArgsB ev t0 v (.tmp t0::xs) (v::as):=⟨_,_,rfl,.inl ⟨rfl,rfl⟩,h⟩
theorem ArgsB.clo{a:AV}{x:Operand}(h1:ev x=some a)(h2:Closed a)(h:ArgsB ev t0 v xs as):ArgsB ev t0 v (x::xs) (a::as):=⟨_,_,rfl,.inr ⟨h1,h2⟩,h⟩
theorem ArgsB.congr{ev':Operand->Option AV}:∀{xs:List Operand} {as:La},(∀x∈xs,ev' x=ev x)->ArgsB ev t0 v xs as->ArgsB ev' t0 v xs as
 |[],_,_,h=>h
 |x::xs,_,he,⟨a,as',e,h1,h2⟩=>⟨a,as',e,h1.imp id fun⟨c,b⟩=>⟨(he x (mu ..)).trans c,b⟩,ArgsB.congr (λz d=>he z (lQ _ d)) h2⟩
theorem ArgsB.rvs{M MB:Nat->Prop}{β βS:Bq}{ρ:Operand->Value}(hv:RV MB βS w v (ρ (.tmp t0)))(hm:∀b N,aY w b=some N->MB b->M b):
    ∀{xs:List Operand} {as:La},(∀x∈xs,∀a,ev x=some a->RV M β w a (ρ x))->ArgsB ev t0 v xs as->RVs MB βS w as (xs.map ρ)
 |[],_,_,h=>by cases h;rfl
 |x::xs,_,he,⟨a,as',e,h1,h2⟩=>by
  subst e;refine⟨_,_,rfl,?_,ArgsB.rvs hv hm (λz f=>he z (lQ _ f)) h2⟩;rcases h1 with⟨rfl,rfl⟩|⟨d,c⟩
  exact hv;exact pm c (he x (mu ..) a d) (λ_ _ _ _=>rfl) hm λ_ _ h=>h
structure PkgS (M00:Nat->Prop)(w00:Base)(hpA:Hp)(nxA:Nat)(v:AV)(t0:Nat)(βS:Bq)(M0:Nat->Prop)(w0:Base)(M:Nat->Prop)(a:Act)(w:World):Prop where
 m:∀b,M0 b↔M00 b\/∃i s,βS i=some (b,s)
 k:∀b,w0.K b↔w00.K b\/∃i s,βS i=some (b,s)
 rng:∀i b s,βS i=some (b,s)->w00.w.heap.size<=b/\b< w.heap.size
 live:∀i x,βS i=some x->(ap hpA i).isSome=true
 blk:∀i B,ap hpA i=some B->∃b,βS i=some (b,B.sz)/\BlkAt M βS w b B
 inj:∀i j B B' b s s',ap hpA i=some B->ap hpA j=some B'->βS i=some (b,s)->βS j=some (b,s')->i=j
 free:∀i,nxA<=i->βS i=none/\i≠0
 zero:(ap hpA 0).isSome=true->False
 val:RV M βS w v (a.tmps.getD t0 undef)
structure XP (jA jB t0:Nat)(v:AV)(hpA:Hp)(nxA:Nat)(M00:Nat->Prop)(w00:Base)(H:Ln->Nat->Option ABlk)(σ:Ln)(M0:Nat->Prop)(w0:Base)(β:Bq)(a:Act)(w:World):Prop where
 kept:w00.Kept w
 m00:∀b,M00 b->w00.K b/\b≠GT
 pin:w0.pin=w00.pin
 dep:jB∈σ->jA∈σ
 no:jA∉σ\/jB∈σ->(∀b,M0 b↔M00 b)/\(∀b,w0.K b↔w00.K b)
 yes:jA∈σ->jB∉σ->∃βS,PkgS M00 w00 hpA nxA v t0 βS M0 w0 (MM M0 β (H σ)) a w
theorem Stab.size{M M':Nat->Prop}{β β':Bq}{w':World}(st:Stab M M' β β' w w'):w.heap.size<=w'.heap.size:=by
 by_cases hw:w.heap.size=0;omega;obtain⟨k,b⟩:∃k,w.heap.size=k+1:=⟨w.heap.size- 1,ω⟩;by_cases hs:∃N,aY w k=some N;obtain⟨N,hN⟩:=hs;have:=cy (st.sz k N hN);omega
 have a:aY w k=none:=by
  cases hz:aY w k with
  |none=>rfl
  |some N=>grind
 have c:=st.oth k ω a;grind
section
variable {P:Program}{jA jB t0 j id nxA:Nat}{v:AV}{hpA:Hp}{M00 M0:Nat->Prop}{w00 w0:Base}{H:Ln->Nat->Option ABlk}{σ:Ln}{β β':Bq}{a:Act}{w w':World}{u:Upd}{y:Value}
theorem XP.sub(hX:XP jA jB t0 v hpA nxA M00 w00 H σ M0 w0 β a w):(∀b,w00.K b->w0.K b)/\∀b,M00 b->M0 b:=by
 by_cases h:jA∈σ;by_cases h2:jB∈σ;obtain⟨c,d⟩:=hX.no (.inr h2);exact⟨λb hb=>(d b).2 hb,λb hb=>(c b).2 hb⟩;obtain⟨e,p⟩:=hX.yes h h2;exact⟨λb hb=>(p.k b).2 (.inl hb),λb hb=>(p.m b).2 (.inl hb)⟩;obtain⟨c,d⟩:=hX.no (.inl h);grind
theorem XP.ordinary (h1:j≠jA) (h2:j≠jB) (hd:∀d,dst=some d->d≠t0) (hH:H (σ++[j])=iF (H σ) u.blk)
    (hX:XP jA jB t0 v hpA nxA M00 w00 H σ M0 w0 β a w) (mem:Mem M0 w0 β (H σ) w) (haf:nj M0 w0 β (H σ) w id u y w' β'):XP jA jB t0 v hpA nxA M00 w00 H (σ++[j]) M0 w0 β' (a.put dst y) w':=by
 obtain⟨g,_,st,_⟩:=haf;have n:jA∈σ++[j]↔jA∈σ:=⟨λh=>jG h (Nz h1),λh=>tE _ h⟩;have o:jB∈σ++[j]↔jB∈σ:=⟨λh=>jG h (Nz h2),λh=>tE _ h⟩;have q:∀b,w0.K b->w'.heap[b]?=w.heap[b]?:=λb hb=>(g.below.block b hb).trans (mem.below.block b hb).symm
 refine⟨⟨g.below.os.trans (mem.below.os.symm.trans hX.kept.os),g.below.tape.trans (mem.below.tape.symm.trans hX.kept.tape),g.below.output.trans (mem.below.output.symm.trans hX.kept.output),fo hX.kept.size st.size,λb hb=>(q b (hX.sub.1 b hb)).trans (hX.kept.block b hb),λb k hb=>st.sz b k (hX.kept.sizes b k hb)⟩,hX.m00,hX.pin,
  λh=>n.2 (hX.dep (o.1 h)),λh=>hX.no (h.imp (λh x=>h (n.2 x)) o.1),λh r=>?_⟩
 obtain⟨l,p⟩:=hX.yes (n.1 h) λx=>r (o.2 x);have c:StabC (MM M0 β (H σ)) (MM M0 β' (H (σ++[j]))) l l w w':=⟨st.heap,by rw[hH];exact st.m,λ_ _ h=>h,st.sz⟩;refine⟨l,p.m,p.k,λi b s f=>⟨(p.rng i b s f).1,ns (p.rng i b s f).2 st.size⟩,p.live,λi B f=>?_,p.inj,p.free,p.zero,?_⟩;obtain⟨b,e1,e2⟩:=p.blk i B f;exact⟨b,e1,e2.stab c (q b ((p.k b).2 (.inr ⟨i,_,e1⟩)))⟩
 have e:(a.put dst y).tmps.getD t0 undef=a.tmps.getD t0 undef:=by
  cases dst with
  |none=>rfl
  |some d=>exact qn (hd d rfl).symm
 rw[e];exact c.all p.val
theorem XP.make {g nx0:Nat} {vals:List Value} (hX:XP jA jB t0 v hpA nxA M00 w00 H σ M0 w0 β a w) (mem:Mem M0 w0 β (H σ) w) (hj:jA∉σ) (hAB:jA≠jB) (hn:t0< a.tmps.size) (hH:H (σ++[jA])=H σ) (h0:1<=nx0)
    (X1:XSpecT P g asA [] nx0 v hpA nxA) (hargs:RVs (MM M0 β (H σ)) β w as vals) (hcl:∀x∈as,Closed x) (hco:as.map coe=asA):
    Calls P g vals.toArray w λe w'=> ∃y M0' w0' β',e= .returned y/\Mem M0' w0' β' (H σ) w'/\w0'.gh=w0.gh/\RV (MM M0' β' (H σ)) β' w' .any y/\StabC (MM M0 β (H σ)) (MM M0' β' (H σ)) β β' w w'/\(∀i,i≠id->β' i=β i)/\(∀ds,DefOK ds w0 w->DefOK ds w0' w')/\
     XP jA jB t0 v hpA nxA M00 w00 H (σ++[jA]) M0' w0' β' (a.put (some t0) y) w':=by
 have e0:∀(M:Nat->Prop) (b:Bq),MM M b (ap [])=M:=λM b=>by funext c;simp[MM,ap,look]
 let wc:Base:=⟨w,λb=>b< w.heap.size,λ_ h=>h,none,λ_=>undef,mem.tab.lt,mem.tab⟩
 have t:Mem (MM M0 β (H σ)) wc (λ_=>none) (ap []) w:=⟨⟨rfl,rfl,rfl,ir _,λ_ _=>rfl,λ_ _ h=>h⟩,λb hb=>⟨mem.lt hb,λe=>by
  rcases hb with hb|⟨i,B,s,_,d⟩
  exact(mem.m0 b hb).2 e;rw[e] at d;exact mem.gtn i s d⟩,(λ_ _ _ h=>by cases h),(λh=>by cases h),(λ_ _ h=>by cases h),λ_ _ _ _ _ _ _ h=>by simp⟩
 refine(X1.calls (MM M0 β (H σ)) wc (λ_=>none) vals rfl t (λi d=>⟨rfl,ω⟩) (by rw[e0];exact hco▸gF (dG hcl hargs))).mono ?_;rintro e w' ⟨y,q,rfl,n,U,o,m⟩;have f:∀b,b< w.heap.size->w'.heap[b]?=w.heap[b]?:=λb hb=>n.below.block b hb;have r:w.heap.size<=w'.heap.size:=n.below.size;have j:∀i b s,q i=some (b,s)->w.heap.size<=b/\b< w'.heap.size:=λi b s d=>⟨Ez (n.rng i b s d).1,(n.rng i b s d).2⟩;obtain⟨W,L⟩:=hX.no (.inl hj);have T:∀b,w0.K b->b< w.heap.size:=λb hb=>ns (w0.lt b hb) mem.below.size;have S:=mem.tab.lt
 let M0':Nat->Prop:=λb=>M0 b\/∃i s,q i=some (b,s)
 let w0':Base:=⟨w',λb=>w0.K b\/∃i s,q i=some (b,s),λb hb=>by
  grind,w0.pin,w0.gh,.inl w0.kt,mem.tab.congr (f GT mem.tab.lt)⟩
 have st:StabC (MM M0 β (H σ)) (MM M0' β (H σ)) β β w w':=by
  refine⟨λb N hb _=>f b (cy hb),λb N hb l=>?_,λ_ _ h=>h,λb N hb=>(eW (f b (cy hb))).trans hb⟩;rcases l with(l|⟨i,s,d⟩)|l
  exact .inl l;have:=cy hb;have:=(j i b s d).1;omega;exact .inr l
 have G:StabC (MM (MM M0 β (H σ)) q (ap hpA)) (MM M0' β (H (σ++[jA]))) q q w' w':=by
  refine⟨λ_ _ _ _=>rfl,λb N _ l=>?_,λ_ _ h=>h,λ_ _ h=>h⟩;rw[hH] at l;rcases l with(l|⟨i,s,d⟩)|l
  exact .inl (.inl l);obtain⟨B,F⟩:=xa.1 (m i _ d);exact .inr ⟨i,B,s,F,d⟩;exact .inl (.inr l)
 have C:∀b,w00.K b->b< w.heap.size:=λb hb=>T b ((L b).2 hb);refine⟨y,M0',w0',β,rfl,⟨⟨rfl,rfl,rfl,ir _,λ_ _=>rfl,λ_ _ h=>h⟩,λb hb=>⟨hb.imp (λh=>(mem.m0 b h).1) λh=>h,λe=>?_⟩,λi b s d=>⟨λp=>?_,ns (mem.rng i b s d).2 r⟩,mem.pin,λi B d=>?_,mem.inj⟩,rfl,trivial,st,λ_ _=>rfl,λds z=>?_,?_⟩;rcases hb with hb|⟨i,s,d⟩
 exact(mem.m0 b hb).2 e;have:=(j i b s d).1;omega;rcases p with p|⟨X,Q,A⟩
 exact(mem.rng i b s d).1 p;have:=(j X b Q A).1;have:=(mem.rng i b s d).2;omega;obtain⟨b,e1,e2⟩:=mem.blk i B d;exact⟨b,e1,e2.stab st (f b (mem.rng i b _ e1).2)⟩;obtain⟨V,d1,d2,O⟩:=z;refine⟨V,d1,d2,λD R=>?_⟩;obtain⟨e1,e2⟩:=O D R;have u:=(sk.1 e1).1;refine⟨by rw[f D u];exact e1,λp=>?_⟩;rcases p with p|⟨i,s,d⟩
 exact e2 p;have:=(j i D s d).1;omega;have E:jB∉σ++[jA]:=λh=>hj (hX.dep (jG h (Nz hAB)));refine⟨⟨n.below.os.trans hX.kept.os,n.below.tape.trans hX.kept.tape,n.below.output.trans hX.kept.output,fo hX.kept.size r,λb hb=>(f b (C b hb)).trans (hX.kept.block b hb),λb k hb=>st.sz b k (hX.kept.sizes b k hb)⟩,hX.m00,hX.pin,λ_=>by simp,λh=>?_,λ_ _=>?_⟩;rcases h with h|h
 exact absurd ψ h;exact absurd h E;refine⟨q,λb=>or_congr (W b) No,λb=>or_congr (L b) No,λi b s d=>⟨fo hX.kept.size (j i b s d).1,(j i b s d).2⟩,m,λi B d=>?_,n.inj,o,λJ=>?_,?_⟩;obtain⟨b,e1,e2⟩:=n.blk i B d;exact⟨b,e1,e2.stab G rfl⟩;obtain⟨B,F⟩:=xa.1 J;obtain⟨b,e1,_⟩:=n.blk 0 B F;have:=n.pin J;rw[e1] at this;cases this;rw[vS hn];exact G.all U
theorem XP.use {g nxB:Nat} {r:AV} (hX:XP jA jB t0 v hpA nxA M00 w00 H σ M0 w0 β a w) (mem:Mem M0 w0 β (H σ) w) (hjA:jA∈σ) (hj:jB∉σ) (hH:H (σ++[jB])=H σ)
    (X2:XSpec P g asB hpA nxA r [] nxB) (hr:Closed r) (hev:∀x∈xs,∀z,ev x=some z->RV (MM M0 β (H σ)) β w z (a.eval x)) (hargs:ArgsB ev t0 v xs as) (hco:as.map coe=asB):
    Calls P g (xs.map a.eval).toArray w λe w'=> ∃y M0' w0' β',e= .returned y/\Mem M0' w0' β' (H σ) w'/\w0'.gh=w0.gh/\RV (MM M0' β' (H σ)) β' w' r y/\StabC (MM M0 β (H σ)) (MM M0' β' (H σ)) β β' w w'/\(∀i,i≠id->β' i=β i)/\(∀ds,DefOK ds w0 w->DefOK ds w0' w')/\
     XP jA jB t0 v hpA nxA M00 w00 H (σ++[jB]) M0' w0' β' (a.put dst y) w':=by
 have e0:∀(M:Nat->Prop) (b:Bq),MM M b (ap [])=M:=λM b=>by funext c;simp[MM,ap,look]
 obtain⟨j,p⟩:=hX.yes hjA hj
 let S:Nat->Prop:=λb=> ∃i s,j i=some (b,s)
 let MB:Nat->Prop:=λb=>MM M0 β (H σ) b/\¬S b
 have n:∀b,S b->M0 b:=λb hb=>(p.m b).2 (.inr hb);have O:∀b,S b->w0.K b:=λb hb=>(p.k b).2 (.inr hb);have u:¬S GT:=λh=>(mem.m0 GT (n _ h)).2 rfl
 have hlv:∀b,S b->∃i B s,ap hpA i=some B/\j i=some (b,s):=λb ⟨i,s,d⟩=>by
  obtain⟨B,hB⟩:=xa.1 (p.live i _ d);grind
 let wc:Base:=⟨w,λb=>b< w.heap.size/\¬S b,λ_ h=>h.1,none,λ_=>undef,⟨mem.tab.lt,u⟩,mem.tab⟩
 have R:∀b,MM MB j (ap hpA) b->MM M0 β (H σ) b:=by
  rintro b (hb|⟨i,B,s,_,d⟩);exact hb.1;exact .inl (n b ⟨i,s,d⟩)
 have T:StabC (MM M0 β (H σ)) (MM MB j (ap hpA)) j j w w:=⟨λ_ _ _ _=>rfl,λb _ _ h=>R b h,λ_ _ h=>h,λ_ _ h=>h⟩
 have E:Mem MB wc j (ap hpA) w:=⟨⟨rfl,rfl,rfl,ir _,λ_ _=>rfl,λ_ _ h=>h⟩,λb hb=>⟨⟨mem.lt hb.1,hb.2⟩,λe=>by
  rcases hb.1 with hb|⟨i,B,s,_,d⟩
  exact(mem.m0 b hb).2 e;rw[e] at d;exact mem.gtn i s d⟩,λi b s d=>⟨λA=>A.2 ⟨i,s,d⟩,(p.rng i b s d).2⟩,λY=>(p.zero Y).elim,λi B d=>by
  obtain⟨b,e1,e2⟩:=p.blk i B d;exact⟨b,e1,e2.stab T rfl⟩,p.inj⟩
 have hv:RVs (MM MB j (ap hpA)) j w as (xs.map a.eval):=ArgsB.rvs (M:=MM M0 β (H σ)) (β:=β) (T.all p.val) (λb _ _ h=>R b h) hev hargs;refine(X2.calls MB wc j _ rfl E p.free (hco▸gF hv)).mono ?_;rintro e w' ⟨y,βB,rfl,o,U,_⟩;rw[e0] at U;have f:∀b,b< w.heap.size->¬S b->w'.heap[b]?=w.heap[b]?:=λb L t=>o.below.block b ⟨L,t⟩;have q:w.heap.size<=w'.heap.size:=o.below.size
 have C:∀b,w00.K b->¬S b:=λb hb ⟨i,s,d⟩=>by
  have L:=w00.lt b hb;have t:=(p.rng i b s d).1;omega
 have F:∀b,w00.K b->b< w.heap.size:=λb hb=>ns (w00.lt b hb) hX.kept.size;have l:∀i b s,β i=some (b,s)->¬S b:=λi b s d h=>(mem.rng i b s d).1 (O b h)
 let w0':Base:=⟨w',w00.K,λb hb=>ns (F b hb) q,w0.pin,w0.gh,w00.kt,mem.tab.congr (f GT mem.tab.lt u)⟩
 have G:∀b,MM M00 β (H σ) b->MM M0 β (H σ) b/\¬S b:=by
  rintro b (hb|⟨i,B,s,L,t⟩);exact⟨.inl ((p.m b).2 (.inl hb)),C b (hX.m00 b hb).1⟩;exact⟨.inr ⟨i,B,s,L,t⟩,l i b s t⟩
 have st:StabC (MM M0 β (H σ)) (MM M00 β (H σ)) β β w w':=⟨λb N hb J=>f b (cy hb) λh=>J (.inl (n b h)),λb N _ J=>(G b J).1,λ_ _ h=>h,o.below.sizes⟩;refine⟨y,M00,w0',β,rfl,⟨⟨rfl,rfl,rfl,ir _,λ_ _=>rfl,λ_ _ h=>h⟩,hX.m00,λi b s d=>⟨λA=>(mem.rng i b s d).1 ((p.k b).2 (.inl A)),ns (mem.rng i b s d).2 q⟩,mem.pin,λi B d=>?_,mem.inj⟩,rfl,?_,st,λ_ _=>rfl,λds Q=>?_,?_⟩;obtain⟨b,e1,e2⟩:=mem.blk i B d;exact⟨b,e1,e2.stab st (f b (mem.rng i b _ e1).2 (l i b _ e1))⟩;exact pm hr U (λ_ _ _ _=>rfl) (λb _ _ J=>G b J) λ_ _ h=>h;obtain⟨Z,d1,d2,W⟩:=Q;refine⟨Z,d1,d2,λD X=>?_⟩;obtain⟨e1,e2⟩:=W D X;have V:=(sk.1 e1).1;refine⟨φ,λA=>e2 ((p.k D).2 (.inl A))⟩;refine⟨⟨o.below.os.trans hX.kept.os,o.below.tape.trans hX.kept.tape,o.below.output.trans hX.kept.output,fo hX.kept.size q,λb hb=>(f b (F b hb) (C b hb)).trans (hX.kept.block b hb),λb k hb=>o.below.sizes b k (hX.kept.sizes b k hb)⟩,hX.m00,hX.pin,λ_=>tE _ hjA,λ_=>⟨λ_=>No,λ_=>No⟩,λ_ h=>absurd ψ h⟩
end
def Js(jA jB:Nat)(r:AV)(j:Nat):Option AV:=cond (Nat.beq j jA) (some .any) (cond (Nat.beq j jB) (some r) none)
def kAB(jA jB t0:Nat)(v:AV)(gA gB:Nat)(asA asB:La)(fA fB:Operand)(xA xB:List Operand)(j:Nat)(fr:Nat->Option AV):Prop:=
 (j=jA->evF fr fA=some (.clos gA [] [])/\∃as,evs (evF fr) xA=some as/\(∀a∈as,Closed a)/\as.map coe=asA)/\(j=jB->evF fr fB=some (.clos gB [] [])/\∃as,ArgsB (evF fr) t0 v xB as/\as.map coe=asB)
theorem kAB.a{jA jB:Nat}{xA xB:List Operand}{fr:Nat->Option AV}(hne:Nat.beq jA jB=false)(h1:evF fr fA=some (.clos gA [] []))(h2:evs (evF fr) xA=some as)(h3:∀a∈as,Closed a)(h4:as.map coe=asA):kAB jA jB t0 v gA gB asA asB fA fB xA xB jA fr:=
 ⟨λ_=>⟨h1,as,h2,h3,h4⟩,λe=>by simp_all⟩
theorem kAB.b{jA jB:Nat}{xA xB:List Operand}{fr:Nat->Option AV}(hne:Nat.beq jA jB=false)(h1:evF fr fB=some (.clos gB [] []))(h2:ArgsB (evF fr) t0 v xB as)(h4:as.map coe=asB):kAB jA jB t0 v gA gB asA asB fA fB xA xB jB fr:=
 ⟨(λe=>by simp_all),λ_=>⟨h1,as,h2,h4⟩⟩
theorem AWp.regAB {ρ:Option Nat} {Q:Exit->AState->Prop} {ops:Array Oper} {rid n:Nat} (jA jB t0:Nat) {r:AV} {hpA:Hp} {nx0 nxA nxB:Nat} {oA oB:Oper} {cA cB:Call} (hm:P.follows .mixedOrders=true)
    (XA:XSpecT P gA asA [] nx0 v hpA nxA) (XB:XSpec P gB asB hpA nxA r [] nxB) (hr:Closed r)
    (hoA:ops[jA]?=some oA) (hopA:oA.op= .call cA) (hgA:oA.guard=none) (hdA:oA.dst=some t0) (hfA:cA.callee= .value fA) (hoB:ops[jB]?=some oB) (hopB:oB.op= .call cB) (hgB:oB.guard=none) (hfB:cB.callee= .value fB)
    (hne:Nat.beq jA jB=false) (hAB:od ops jA jB=true) (ht0:Nat.blt t0 n=true) (hw:(ops.toList.zipIdx.all λp=>Nat.beq p.2 jA||(match p.1.dst with|some d=>!Nat.beq d t0|none=>true))=true) (hn0:Nat.ble 1 nx0=true)
    (h:AY P ops (Js jA jB r) (kAB jA jB t0 v gA gB asA asB fA fB cA.args.toList cB.args.toList) nx n 0 ops.toList fr hp λfps f h=>lR ops fps=true/\Q .normal ⟨f,h,nx+ops.size,n⟩):AWp ρ P (.region rid ops true) Q ⟨fr,hp,nx,n⟩:=by
 have hne':jA≠jB:=λe=>by simp_all
 have ht1:t0< n:=r9 ht0;rintro K F a w ⟨β0,B,Z,W,C,L⟩;obtain⟨us,J,hrun,hok,hq⟩:=h;obtain⟨h1,h2,h3,h4⟩:=nv ops.toList 0 _ J us [] (look fr) (ap hp) hrun rfl (λi o h=>φ) rfl rfl;simp only[Nf,vY,zK] at h1 h2 h3
 have N:yM ops=true:=by
  unfold lR at hok;grind
 have hB1:jB< ops.size:=(sk.1 hoB).1
 have O:∀(j:Nat) (u:Upd) (rd:Ln) (σ:Ln),us[j]?=some (u,rd)->stH us (ap hp) (σ++[j])=iF (stH us (ap hp) σ) u.blk:=λj u rd σ U=>by
  rw[ij,show blk? us j=u.blk by simp[blk?,U]]
 refine BC (us:=us) (n:=n) (nx:=nx) (fr0:=look fr) (hp0:=ap hp) (X:=λσ G V β a w=>XP jA jB t0 v hpA nxA K F (λσ=>stH us (ap hp) σ) σ G V β a w) (gh:=F.gh) hm (MI N) (sw hok) (λj o T=>?_) (λG V β k=>?_) ?_ (λσ a' w' nd hall hlt hF=>?_);obtain⟨u,rd,U,s1,s2,Y⟩:=h1 j o (by simpa using T);refine⟨u,rd,U,Y,?_⟩;have l:∀σ,(∀t∈nI ops o,stF ops us (look fr) σ t=stF ops us (look fr) (List.range j) t)->∀x∈o.op.operands,evF (stF ops us (look fr) σ) x=evF (stF ops us (look fr) (List.range j)) x:=λσ A x m=>s8 λt e=>A t (by subst e;exact tE _ (pg (Eh.2 m)));by_cases hjA:j=jA;subst hjA;rw[hoA] at T;cases T;obtain⟨rfl,rfl,hC⟩:=s1 .any (by unfold Js;rw[Of];rfl);obtain⟨c1,as,c2,c3,c4⟩:=hC.1 rfl;refine .inr ⟨hgA,(λc hc=>by rw[hopA] at hc;cases hc),λσ G V β a w hj hr A hn g q hid hid0 k=>?_⟩;have l:=l σ A;have o1:fA∈oA.op.operands:=by rw[hopA];simp[Op.operands,Call.operands,hfA]
 have o2:∀x∈cA.args.toList,x∈oA.op.operands:=λx m=>by rw[hopA];simp[Op.operands,Call.operands,hfA];exact .inr (by simpa using m)
 have d1:=(l fA o1).trans c1;have d2:evs (evF (stF ops us (look fr) σ)) cA.args.toList=some as:=(sV λx m=>l x (o2 x m)).trans c2;obtain⟨xs,ys,m,S,E⟩:=fG q fA _ d1;have R:xs= #[]:=AD S;have M:ys= #[]:=AD E;subst R M;refine⟨gA,_,fP hopA hfA m rfl XA.enters,?_⟩;rw[hdA];exact k.make g hj hne' (by rw[hn];exact ht1) (O _ _ _ σ U) (r9 hn0) XA (jq (fG q) d2) c3 c4;by_cases hjB:j=jB;subst hjB;rw[hoB] at T;cases T;obtain⟨rfl,rfl,hC⟩:=s1 r (by unfold Js;rw[show Nat.beq j jA=false by cases hb:Nat.beq j jA with|false=>rfl|true=>exact absurd (wg hb) hjA,Of];rfl);obtain⟨c1,as,c2,c4⟩:=hC.2 rfl;refine .inr ⟨hgB,(λc hc=>by rw[hopB] at hc;cases hc),λσ G V β a w hj hr' A hn g q hid hid0 k=>?_⟩;have l:=l σ A;have o1:fB∈oB.op.operands:=by rw[hopB];simp[Op.operands,Call.operands,hfB]
 have o2:∀x∈cB.args.toList,x∈oB.op.operands:=λx m=>by rw[hopB];simp[Op.operands,Call.operands,hfB];exact .inr (by simpa using m)
 have d1:=(l fB o1).trans c1;obtain⟨xs,ys,m,S,E⟩:=fG q fB _ d1;have R:xs= #[]:=AD S;have M:ys= #[]:=AD E;subst R M;exact⟨gB,_,fP hopB hfB m rfl XB.enters,k.use g (hr' _ hAB) hj (O _ _ _ σ U) XB hr (λx _ z hz=>fG q x z hz) (ArgsB.congr (λx m=>l x (o2 x m)) c2) c4⟩
 have hs:Js jA jB r j=none:=by
  unfold Js;rw[show Nat.beq j jA=false by cases hb:Nat.beq j jA with|false=>rfl|true=>exact absurd (wg hb) hjA,show Nat.beq j jB=false by cases hb:Nat.beq j jB with|false=>rfl|true=>exact absurd (wg hb) hjB];rfl
 refine .inl ⟨s2 hs,λσ G V β a w y w' β' hj hn k g haf=>k.ordinary hjA hjB (λd hd=>?_) (O j u rd σ U) g haf⟩;have:=pZ.1 hw (o,j) (by rw[List.mem_zipIdx_iff_getElem?];simpa using T);rw[hd,show Nat.beq j jA=false by cases hb:Nat.beq j jA with|false=>rfl|true=>exact absurd (wg hb) hjA] at this;exact GA (by simpa using this);exact⟨⟨k.kept.os,k.kept.tape,k.kept.output,k.kept.size,k.kept.block,k.kept.sizes⟩,k.m00,k.pin,k.dep,k.no,λh=>by cases h⟩;exact⟨K,F,β0,B,rfl,Z,W,C,L,B.below,B.m0,rfl,(λh=>by cases h),(λ_=>⟨λ_=>No,λ_=>No⟩),λh=>by cases h⟩;obtain⟨G,V,β,g,hgh,hn,q,H,hdef,k⟩:=hF;obtain⟨n1,n2⟩:=k.no (.inr (hall jB hB1));have hM0:G=K:=funext λb=>propext (n1 b);subst hM0;rw[<-h2,<-h3] at *
 refine⟨⟨J.fr,J.hp,nx+ops.size,n⟩,⟨β,⟨k.kept,k.m00,λi b s hi=>⟨λhk=>(g.rng i b s hi).1 ((n2 b).2 hk),(g.rng i b s hi).2⟩,λhz=>(g.pin hz).trans k.pin,g.blk,g.inj⟩,hn,λt x m=>by rw[<-p9 hgh];exact q t x m,H,?_⟩,hq⟩;obtain⟨Ds,d1,d2,d3⟩:=hdef;exact⟨Ds,d1,d2,λD hD=>⟨(d3 D hD).1,λhk=>(d3 D hD).2 ((n2 D).2 hk)⟩⟩
end
section
variable {sz TS TQ n:Nat}{L:List Lc}{w:Nat->Nat}
def mzH(sz TS TQ:Nat)(o:Lc)(L:List Lc):Hp:=(1,some ⟨TS,1,o⟩)::mxB TQ sz L 2
theorem dq{k:Nat}{o:Lc}{e:Lc}(h:L[k]?=some e):ap (mzH sz TS TQ o L) (k+2)=some ⟨TQ,sz,e⟩:=by
 unfold mzH;rw[dw];unfold upd;exact GC L 2 k e h
theorem Kt{k:Nat}(hz:sz≠0){o:Lc}{e:Lc}(h:L[k]?=some e):dS (ap (mzH sz TS TQ o L)) (k+2)=some ⟨TQ,sz,e⟩:=ez (dq h) hz
theorem SEntT.mz {fr fr':Fr} {hp:Hp} {nx N:Nat} (s:Nat->Nat) (o o':Lc) (L:List Lc) (hL:L.length<=30) (s0:s 0=0) (hinj:∀i j,1<=i->i< L.length+2->1<=j->j< L.length+2->s i=s j->i=j)
    (h1:ap hp (s 1)=some ⟨TS,1,o'⟩) (ho:o'.length=o.length) (hr:∀i e,L[i]?=some e->ap hp (s (i+2))=some ⟨TQ,sz,e⟩/\∀x∈e,∀c∈x,Closed c)
    (hO:Shr ⟨40,s⟩ (ap hp) (ap (mzH sz TS TQ o L))->CvLL ⟨40,s⟩ (ap hp) (ap (mzH sz TS TQ o L)) o' o)
    (hF:Shr ⟨40,s⟩ (ap hp) (ap (mzH sz TS TQ o L))->CvF ⟨40,s⟩ (ap hp) (ap (mzH sz TS TQ o L)) fr fr'):SEntT ⟨fr,hp,nx,N⟩ ⟨fr',mzH sz TS TQ o L,40,N⟩:=by
 have a:∀i B,(i,some B)∈mzH sz TS TQ o L->(i=1/\B=⟨TS,1,o⟩)\/∃k e,L[k]?=some e/\i=k+2/\B=⟨TQ,sz,e⟩:=λi B h=>by
  rcases pY.1 h with h|h
  cases h;exact .inl ⟨rfl,rfl⟩;obtain⟨k,e,b,m,n⟩:=qE L 2 i B h;grind
 have f:Shr ⟨40,s⟩ (ap hp) (ap (mzH sz TS TQ o L)):=⟨λi B h=>by
  rcases a i B (iA h) with⟨rfl,rfl⟩|⟨k,e,b,rfl,rfl⟩
  exact⟨(show 1< 40 by decide),_,h1,rfl,rfl,ho⟩;grind⟩
 refine SEntT.intro (st:=⟨fr,hp,nx,N⟩) (st':=⟨fr',mzH sz TS TQ o L,40,N⟩) ⟨40,s⟩ rfl (show 0< 40 by decide) s0 (uN _ λi j d l e=>?_) rfl (hF f) (xm _ λi B h=>?_)
 have g:∀i,i∈(mzH sz TS TQ o L).map (·.1)->1<=i/\i< L.length+2:=λi d=>by
  rcases pY.1 d with h|h
  have h:i=1:=h;omega;have:=uG L 2 i h;omega
 exact hinj i j (g i d).1 (g i d).2 (g j l).1 (g j l).2 e;rcases a i B h with⟨rfl,rfl⟩|⟨k,e,b,rfl,rfl⟩
 exact⟨(show 1< 40 by decide),_,h1,rfl,rfl,hO f⟩;exact⟨φ,_,(hr k e b).1,rfl,rfl,bv f (hr k e b).2⟩
def mzO(sz:Nat)(w:Nat->Nat)(s:Nat->Nat)(n:Nat):Lc:=(List.range n).map λi=>[.lsl (s (i+2)) 0 (w i) none sz]
@[simp] theorem pq (sz:Nat)(w:Nat->Nat)(s:Nat->Nat)(n:Nat):(mzO sz w s n).length=n:=by simp[mzO]
theorem zV{s:Nat->Nat}{i:Nat}(h:i< n):(mzO sz w s n)[i]?=some [.lsl (s (i+2)) 0 (w i) none sz]:=by simp[mzO,h]
theorem og{hp hp':Hq}{s:Nat->Nat}(hn:n<=30)(hl:∀i,i< n->(hp' (i+2)).isSome=true):CvLL ⟨40,s⟩ hp hp' (mzO sz w s n) (mzO sz w (λi=>i) n):=
 Dy _ _ _ λi a=>by
  have:=xd.1 a;exact ai (Cv.sl (OE (show i+2+1<=40 by omega)) rfl (hl i this)) av
theorem Cv.mzShut{r:Ren}{hp':Hq}{cap:Option Nat}(hz:sz≠0)(h:Shr r (ap (mzH sz TS TQ (mzO sz w (λi=>i) n) L)) hp')(hd:∀i,hp' i=none)(hn:n=L.length)(hw:∀i e,L[i]?=some e->e.length=w i)(hc:∀e∈L,∀x∈e,∀c∈x,Closed c):
    Cv r (ap (mzH sz TS TQ (mzO sz w (λi=>i) n) L)) hp' (.lsl 1 0 n cap 1) (.arr (L.map λe=>[.arr e])):=by
 have g:∀i,ux r hp' i:=λi j B t=>by grind
 have f:(mzO sz w (λi=>i) n).length=n:=pq _ _ _ _;have q:dS (ap (mzH sz TS TQ (mzO sz w (λi=>i) n) L)) 1=some ⟨TS,1,mzO sz w (λi=>i) n⟩:=rfl;refine Cv.trans_eq (Cv.shut (es:=L.map λe=>[.arr e]) h q (g 1) φ ?_) rfl;show CvLL r _ hp' (((mzO sz w (λi=>i) n).drop 0).take n) _;rw[sr,nk ω];subst hn
 have a:∀(l:List Lc) (k:Nat),(∀i e,l[i]?=some e->L[k+i]?=some e)->CvLL r (ap (mzH sz TS TQ (mzO sz w (λi=>i) L.length) L)) hp' ((List.range' k l.length).map λi=>[.lsl (i+2) 0 (w i) none sz]) (l.map λe=>[.arr e]):=by
  intro l
  induction l with
  |nil=>intro k _;exact CvLL.nil
  |cons e l p=>
   intro k b;have d:L[k]?=some e:=b 0 e rfl;have m:=mc d
   refine CvLL.cons (ai ?_ av) (p (k+1) λi s o=>by
    have:=b (i+1) s φ;grind)
   refine Cv.shut (es:=e) h (Kt hz d) (g _) φ ?_;rw[nk φ];exact bv h (hc e m)
 have:=a L 0 λi e o=>by grind
 rw[<-NC] at this;exact this
theorem XSpecT.shut{P:Program}{f nx nx':Nat}{args:La}{v r:AV}{hp':Hp}(h:XSpecT P f args [] nx v hp' nx')(h0:Nat.ble 1 nx=true)(hcl:∀a∈args,Closed a){rr:Ren}(hc:Cv rr (ap hp') (λ_=>none) v r)(hr:Closed r):FSpec P f args r:=by
 have e0:∀(M:Nat->Prop) (b:Bq),MM M b (ap [])=M:=λM b=>by funext c;simp[MM,ap,look]
 have e1:∀(M:Nat->Prop) (b:Bq),MM M b (λ_=>none)=M:=λM b=>by funext c;simp[MM]
 refine⟨hcl,h.enters,λM w vals g j=>((h.calls M (Base.of w g.tab) (λ_=>none) vals rfl ⟨⟨rfl,rfl,rfl,ir _,λ_ _=>rfl,λ_ _ h=>h⟩,(λb hb=>⟨g.lt b hb,λe=>g.nt (e▸hb)⟩),(λ_ _ _ h=>by cases h),(λ_=>rfl),(λ_ _ h=>by cases h),λ_ _ _ _ _ _ _ h=>by simp⟩ (λi o=>⟨rfl,by have:=r9 h0;omega⟩) (by rw[e0];exact j)).mono ?_)⟩;rintro e l ⟨y,n,rfl,d,m,_,_⟩;have k:=hc M _ n l y d m;rw[e1] at k;exact⟨y,rfl,hr _ _ _ _ k,d.below.os,d.below.tape,d.below.output,d.below.size,d.below.block⟩
end
section
variable {hp:Hq}
theorem AEval.callV {P:Program} {id:Nat} {ev:Operand->Option AV} {c:Call} {callee:Operand} {f:Nat} {as as':La} {r:Value} {rd:Ln} {rr:Ren} (h1:c.callee= .value callee) (h2:ev callee=some (.clos f [] [])) (h3:evs ev c.args.toList=some as)
    (h4:∀hp':Nat->Option ABlk,(∀i∈rd,hp' i=hp i)->CvL rr hp' (λ_=>none) as as') (h5:FSpec P f as' (.v r)):AEval P id ev hp (.call c) ⟨.v r,[]⟩ rd:=by
 refine .sem λj D β hp' w ρ o B a g u t F A s=>?_
 have d:∀x,x∈(Op.call c).operands↔x=callee\/x∈c.args.toList:=by
  simp[Op.operands,Call.operands,h1]
 obtain⟨xs,E,n,p,k⟩:=g callee ((d _).2 (.inl rfl)) _ h2;have l:xs= #[]:=AD p;have m:E= #[]:=AD k;subst l m;have q:RVs (MM j β hp') β w as (c.args.toList.map ρ):=AA (λx n=>g x ((d _).2 (.inr n))) h3;have z:=CvL.rvs a (h4 hp' s) q;have e1:∀b:Nat->Option (Nat×Nat),MM j b (λ_=>none)=j:=λb=>by funext c;simp[MM]
 rw[e1] at z;refine .inr ⟨f,_,fP B h1 n rfl h5.enters,(h5.calls j w _ ⟨λb hb=>ns (D.lt b (a.m0 b hb).1) a.below.size,λhb=>(a.m0 GT hb).2 rfl,a.tab⟩ (dG h5.cl z)).mono ?_⟩;rintro e G ⟨y,rfl,C,hb⟩;have h:=a.ext hb;exact⟨y,rfl,β,h.1,C,h.2,λ_ _=>rfl⟩
theorem yV{r:Ren}{hp hp':Hq}:∀(k:Nat) {a b:Lc},CvLL r hp hp' a b->CvLL r hp hp' (a.drop k) (b.drop k)
 |0,_,_,h=>h
 |k+1,[],_,h=>by cases (h:_=[]);exact CvLL.nil
 |k+1,x::xs,_,⟨y,ys,e,_,h2⟩=>by subst e;exact yV k h2
theorem yT{r:Ren}{hp hp':Hq}:∀(k:Nat) {a b:Lc},CvLL r hp hp' a b->CvLL r hp hp' (a.take k) (b.take k)
 |0,_,_,_=>CvLL.nil
 |k+1,[],_,h=>by cases (h:_=[]);exact CvLL.nil
 |k+1,x::xs,_,⟨y,ys,e,h1,h2⟩=>by subst e;exact CvLL.cons h1 (yT k h2)
theorem I3{r:Ren}{sz TQ:Nat}{w:Nat->Nat}{L:List Lc}(hz:sz≠0)(hr:∀i e,L[i]?=some e->hp (i+2)=some ⟨TQ,sz,e⟩)(hw:∀i e,L[i]?=some e->e.length=w i)(hc:∀e∈L,∀x∈e,∀c∈x,Closed c):
    CvLL r hp (λ_=>none) (mzO sz w (λx=>x) L.length) (L.map λe=>[.arr e]):=by
 have a:∀(l:List Lc) (k:Nat),(∀i e,l[i]?=some e->L[k+i]?=some e)->CvLL r hp (λ_=>none) ((List.range' k l.length).map λi=>[.lsl (i+2) 0 (w i) none sz]) (l.map λe=>[.arr e]):=by
  intro l
  induction l with
  |nil=>intro k _;exact CvLL.nil
  |cons e l h=>
   intro k b;have d:L[k]?=some e:=b 0 e rfl;have f:=mc d
   refine CvLL.cons (ai ?_ av) (h (k+1) λi m g=>by
    have:=b (i+1) m φ;grind)
   refine Cv.shut (es:=e) aE (ez (hr k e d) hz) (λj B n=>φ) φ ?_;rw[nk φ];exact bv aE (hc e f)
 have:=a L 0 λi e g=>by grind
 rw[<-NC] at this;exact this
theorem Cv.mzV {r:Ren} {cap:Option Nat} {sz TS TQ a m:Nat} {w:Nat->Nat} {L:List Lc} (hz:sz≠0) (h1:hp 1=some ⟨TS,1,mzO sz w (λx=>x) L.length⟩) (hr:∀i e,L[i]?=some e->hp (i+2)=some ⟨TQ,sz,e⟩) (hw:∀i e,L[i]?=some e->e.length=w i)
    (hc:∀e∈L,∀x∈e,∀c∈x,Closed c) (ham:a+m<=L.length):Cv r hp (λ_=>none) (.lsl 1 a m cap 1) (.arr (((L.map λe=>[.arr e]).drop a).take m)):=
 Cv.shut (es:=((L.map λe=>[.arr e]).drop a).take m) aE (ez h1 (show(1:Nat)≠0 by decide)) (λj B b=>φ) (by simp_all) (yT m (yV a (I3 hz hr hw hc)))
end
end Go.Abs
