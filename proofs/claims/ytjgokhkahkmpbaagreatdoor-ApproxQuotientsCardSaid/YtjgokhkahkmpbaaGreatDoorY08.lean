/- Part Y08 of the proof. -/
import Derived.Test.YtjgokhkahkmpbaaGreatDoorY07
set_option linter.all false
namespace Go.Abs
open Go.RowKit
section
variable {P:Program}{M0:Nat->Prop}{w0:Base}{w:World}{ops:Array Oper}{id n:Nat}{fr:Nat->Option AV}{hp:Hq}{o:Oper}{u:Upd}{rd:Ln}{a:Act}{ρ:Option Nat}{Q:Exit->Act->World->Prop}{β:Bq}
theorem AStep.simF (h:AStep P ops id fr hp o u rd) (mem:Mem M0 w0 β hp w) (hfr:∀t x,fr t=some x->RV (MM M0 β hp) β w x (fU w0 a t)) (hidn:β id=none) (hid0:id≠0) {K:Act->World->Prop}
    (fin:∀y w' β',mS M0 w0 β hp w id u y w' β'->K (a.put o.dst y) w'):
    if Region.wanted o (yielded ops a.tmps) then o.wpIn (FR ρ) 0 P a w K Q else(∀f,o.about P w a.eval=some f->(FR ρ).fn f)/\K (a.put o.dst undef) w:=by
 have hidh:hp id=none:=by
  cases hh:hp id with
  |none=>rfl
  |some B=>obtain⟨b,hb,_⟩:=mem.blk id B hh;rw[hidn] at hb;cases hb
 have run:AEval P id (evF fr) hp o.op u rd->o.wpIn (FR ρ) 0 P a w K Q:=by
  intro he;refine⟨λ_ _=>trivial,?_⟩;rw[Oper.semAt_eq _ _ _ h.1];rcases he.good (ρ:=a.eval) (o:=o) mem (iW hfr) (λ_=>rfl) hid0 hidn hidh rfl with⟨y,w',β',hrun,haft⟩|⟨f,args,hrun,hcalls⟩
  rcases hrun with hrun|⟨hrun,rfl⟩
  rw[hrun];exact fin y w' β' haft;rw[hrun];exact fin undef w' β' haft;rw[hrun];refine⟨λhh=>by simp[FR] at hh,yq (hcalls.mono ?_)⟩;rintro e w' ⟨y,rfl,β',haft⟩;exact fin y w' β' haft
 have skip:u=⟨.v undef,[]⟩->K (a.put o.dst undef) w:=by
  rintro rfl;exact fin undef w β ⟨mem,rfl,.refl,λ_ _=>rfl⟩
 have h2:=h.2;cases hg:o.guard with
 |none=>
  rw[hg] at h2;rw[if_pos (by simp[Region.wanted,hg])];exact run h2
 |some gw=>
  obtain⟨g,want⟩:=gw;rw[hg] at h2;obtain⟨t,x,ht,hx,hc⟩:=h2;have hval:a.tmps.getD t undef=x:=iW hfr (.tmp t) _ hx
  have hyl:yielded ops a.tmps g=aQ x:=by
   simp only[yielded,ht,Option.bind_some];cases htt:a.tmps[t]? with
   |none=>
    rw[Array.getD_eq_getD_getElem?,htt] at hval;subst hval;rfl
   |some y=>
    rw[Array.getD_eq_getD_getElem?,htt] at hval;simp only[Option.getD_some] at hval;subst hval;cases y <;> rfl
  have hw:Region.wanted o (yielded ops a.tmps)=true↔aQ x=some want:=by
   simp only[Region.wanted,hg,hyl,beq_iff_eq]
  rcases hc with⟨hx1,he⟩|⟨hx1,hu,_⟩
  rw[if_pos (hw.2 hx1)];exact run he;rw[if_neg (λhh=>hx1 (hw.1 hh))];exact⟨λ_ _=>trivial,skip hu⟩
end
section
variable {P:Program}{ops:Array Oper}{us:List (Upd×Ln)}{anc:Nat->Nat->Bool}{nx n:Nat}{fr0:Nat->Option AV}{hp0:Hq}{ρ:Option Nat}{Q:Exit->Act->World->Prop}{rid:Nat}
variable {X:Ln->(Nat->Prop)->Base->(Nat->Option (Nat×Nat))->Act->World->Prop}{gh:Nat->Value}
def FX(gh:Nat->Value)(fr:Nat->Option AV)(hp:Hq)(free:Nat->Prop)(n:Nat)(X:(Nat->Prop)->Base->(Nat->Option (Nat×Nat))->Act->World->Prop)(a:Act)(w:World):Prop:=
 ∃M0 w0 β,Mem M0 w0 β hp w/\w0.gh=gh/\a.tmps.size=n/\(∀t x,fr t=some x->RV (MM M0 β hp) β w x (fU w0 a t))/\(∀i,free i->β i=none/\i≠0)/\DefOK a.defers w0 w/\X M0 w0 β a w
def XStep(P:Program)(ops:Array Oper)(us:List (Upd×Ln))(anc:Nat->Nat->Bool)(nx n:Nat)(fr0:Nat->Option AV)(hp0:Hq)(X:Ln->(Nat->Prop)->Base->(Nat->Option (Nat×Nat))->Act->World->Prop)(j:Nat)(o:Oper)(u:Upd)(rd:Ln):Prop:=
 (AStep P ops (nx+j) (stF ops us fr0 (List.range j)) (stH us hp0 (List.range j)) o u rd/\
  ∀σ M0 w0 β a w y w' β',j∉σ->a.tmps.size=n->X σ M0 w0 β a w->Mem M0 w0 β (stH us hp0 σ) w->mS M0 w0 β (stH us hp0 σ) w (nx+j) u y w' β'->X (σ++[j]) M0 w0 β' (a.put o.dst y) w')\/
 (o.guard=none/\(∀c,o.op≠ .defer c)/\∀σ M0 w0 β a w,j∉σ->(∀i,anc i j=true->i∈σ)->a.tmps.size=n->Mem M0 w0 β (stH us hp0 σ) w->
  (∀t x,stF ops us fr0 σ t=some x->RV (MM M0 β (stH us hp0 σ)) β w x (fU w0 a t))->β (nx+j)=none->nx+j≠0->X σ M0 w0 β a w->
  ∃y w' M0' w0' β',((execOp a.eval o).run P w= .ok (.value y) w'\/((execOp a.eval o).run P w= .ok .skip w'/\y=undef))/\
   Mem M0' w0' β' (iM (stH us hp0 σ) u.blk) w'/\w0'.gh=w0.gh/\RV (MM M0' β' (iM (stH us hp0 σ) u.blk)) β' w' u.val y/\StabC (MM M0 β (stH us hp0 σ)) (MM M0' β' (iM (stH us hp0 σ) u.blk)) β β' w w'/\(∀i,i≠nx+j->β' i=β i)/\(∀ds,DefOK ds w0 w->DefOK ds w0' w')/\
   X (σ++[j]) M0' w0' β' (a.put o.dst y) w')
theorem FN{w0 w1:Base}(h:w1.gh=w0.gh)(a:Act)(t:Nat):fU w1 a t=fU w0 a t:=by unfold fU;rw[h]
theorem Gc (hm:P.follows .mixedOrders=true) (hanc:AncOK ops anc) (hok:pu ops us anc=true)
    (hsteps:∀j o,ops[j]?=some o->∃u rd,us[j]?=some (u,rd)/\(∀d,o.dst=some d->d< n)/\XStep P ops us anc nx n fr0 hp0 X j o u rd)
    {a:Act} {w:World} (hdrew:∀M0 w0 β,X [] M0 w0 β a w->X [] M0 w0 β a w.drew)
    (hrel:FX gh fr0 hp0 (λi=>nx<=i) n (X []) a w)
    (hQ:∀σ a' w',σ.Nodup->(∀j,j< ops.size->j∈σ)->(∀j∈σ,j< ops.size)->FX gh (stF ops us fr0 (List.range ops.size)) (stH us hp0 (List.range ops.size)) (λi=>nx+ops.size<=i) n (X σ) a' w'->Q .normal a' w'):
    (Code.region rid ops true).wpIn (FR ρ) 0 P Q a w:=by
 refine wpIn_region_any hm ?_
 have main:∀(fuel:Nat) (σ:Ln) (listed:Array Bool) (a:Act) (w:World),Topo anc ops.size σ->σ.Nodup->listed.size=ops.size->(∀j,j< ops.size->(listed.getD j true=true↔j∈σ)/\(listed.getD j false=true↔j∈σ))->
     ((List.range ops.size).filter λj=>!σ.contains j).length<=fuel->FX gh (stF ops us fr0 σ) (stH us hp0 σ) (λi=>nx<=i/\∀j∈σ,i≠nx+j) n (X σ) a w->
     wpAnyIn (FR ρ) 0 P .any ops Q fuel listed a w:=by
  have fin:∀(σ:Ln) (a:Act) (w:World),Topo anc ops.size σ->σ.Nodup->(∀j,j< ops.size->j∈σ)->FX gh (stF ops us fr0 σ) (stH us hp0 σ) (λi=>nx<=i/\∀j∈σ,i≠nx+j) n (X σ) a w->Q .normal a w:=by
   intro σ a w ht nd hall hr;refine hQ σ a w nd hall ht.lt ?_
   have e1:stF ops us fr0 σ=stF ops us fr0 (List.range ops.size):=by
    funext t;refine wS σ _ t (ht.filter nd (λi hi _=>hall i hi) (λi hi _ hiσ=>by have:=ht.lt i hiσ;omega) λi k hik hk h1 h2=>pr hok hik hk (by simpa using h1) (by simpa using h2))
   have e2:stH us hp0 σ=stH us hp0 (List.range ops.size):=by
    funext t;refine wR σ _ t (ht.filter nd (λi hi _=>hall i hi) (λi hi _ hiσ=>by have:=ht.lt i hiσ;omega) λi k hik hk h1 h2=>pt hok hik hk (by simpa using h1) (by simpa using h2))
   rw[<-e1,<-e2];obtain⟨M0,w0,β,h1,hg,h2,h3,h4,h5⟩:=hr;exact⟨M0,w0,β,h1,hg,h2,h3,λi hi=>h4 i ⟨ω,λj hj=>by have:=ht.lt j hj;omega⟩,h5⟩
  have allIn:∀(σ:Ln) (listed:Array Bool),(∀j,j< ops.size->(listed.getD j true=true↔j∈σ)/\(listed.getD j false=true↔j∈σ))->Region.ready .any ops listed=[]->∀j,j< ops.size->j∈σ:=by
   intro σ listed hl hr j
   induction j using Nat.strongRecOn with
   |_ j ih=>
    intro hj;by_cases hjσ:j∈σ;exact hjσ;exfalso
    have hmem:j∈Region.ready .any ops listed:=by
     refine mem_ready.2 ⟨?_,ops[j],Array.getElem?_eq_getElem hj,λe he hb=>?_⟩;cases hh:listed.getD j true with
     |false=>rfl
     |true=>exact absurd ((hl j hj).1.1 hh) hjσ
     have hlt:=hanc.back j _ (Array.getElem?_eq_getElem hj) e he hb;exact(hl e.on ω).2.2 (ih e.on hlt ω)
    rw[hr] at hmem;cases hmem
  intro fuel
  induction fuel with
  |zero=>
   intro σ listed a w ht nd hsz hl hf hr
   have hall:∀j,j< ops.size->j∈σ:=by
    intro j hj;by_cases hjσ:j∈σ;exact hjσ;exfalso;have:j∈(List.range ops.size).filter λj=>!σ.contains j:=List.mem_filter.2 ⟨List.mem_range.2 hj,by simpa using hjσ⟩;rw[List.eq_nil_of_length_eq_zero (Nat.le_zero.1 hf)] at this;cases this
   refine⟨?_,fin σ a w ht nd hall hr⟩;rw[List.eq_nil_iff_forall_not_mem];intro j hj;obtain⟨h0,o,ho,_⟩:=mem_ready.1 hj;have hlt:j< ops.size:=(Array.getElem?_eq_some_iff.1 ho).1;rw[(hl j hlt).1.2 (hall j hlt)] at h0;cases h0
  |succ fuel ih=>
   intro σ listed a w ht nd hsz hl hf hr;refine⟨λh0=>fin σ a w ht nd (allIn σ listed hl h0) hr,λj hj=>?_⟩;obtain⟨h0,o,ho,hedges⟩:=mem_ready.1 hj;have hlt:j< ops.size:=(Array.getElem?_eq_some_iff.1 ho).1;have hjσ:j∉σ:=λh=>by rw[(hl j hlt).1.2 h] at h0;cases h0
   have hready:∀i,anc i j=true->i∈σ:=hanc.ready σ j o ht.closed ho λe he hb=>(hl e.on (by have:=hanc.back j o ho e he hb;omega)).2.1 (hedges e he hb);obtain⟨u,rd,hu,hdst,hstep⟩:=hsteps j o ho;have hd1:dst? ops j=o.dst:=by simp[dst?,ho]
   have hv1:val? us j=u.val:=by simp[val?,hu]
   have hb1:blk? us j=u.blk:=by simp[blk?,hu]
   have ht':Topo anc ops.size (σ++[j]):=by
    refine⟨λx hx=>?_,List.pairwise_append.2 ⟨ht.pw,List.pairwise_singleton _ _,λx hx y hy=>?_⟩,λx hx b hb=>?_⟩;rcases List.mem_append.1 hx with h|h
    exact ht.lt x h;rw[List.mem_singleton.1 h];exact hlt;rw[List.mem_singleton.1 hy];cases hh:anc j x with
    |false=>rfl
    |true=>exact absurd (ht.closed x hx j hh) hjσ
    rcases List.mem_append.1 hx with h|h
    exact List.mem_append_left _ (ht.closed x h b hb);rw[List.mem_singleton.1 h] at hb;exact List.mem_append_left _ (hready b hb)
   have nd':(σ++[j]).Nodup:=List.nodup_append.2 ⟨nd,ψ,λx hx y hy e=>by rw[List.mem_singleton.1 hy] at e;exact hjσ (e▸hx)⟩
   have hl':∀i,i< ops.size->((listed.setIfInBounds j true).getD i true=true↔i∈σ++[j])/\((listed.setIfInBounds j true).getD i false=true↔i∈σ++[j]):=by
    intro i hi;by_cases hij:j=i;subst hij;simp[Array.getD_eq_getD_getElem?,hsz,hlt];rw[getD_set_ne _ hij,getD_set_ne _ hij,List.mem_append,List.mem_singleton];have:=hl i hi;exact⟨this.1.trans ⟨.inl,λh=>h.resolve_right λe=>hij e.symm⟩,this.2.trans ⟨.inl,λh=>h.resolve_right λe=>hij e.symm⟩⟩
   have hf':((List.range ops.size).filter λi=>!(σ++[j]).contains i).length<=fuel:=by
    have:=ra (p:=λi=>!σ.contains i) (q:=λi=>!(σ++[j]).contains i) (List.mem_range.2 hlt) (by simpa using hjσ) ψ (λx hx=>by simp at hx⊢;exact hx.1);omega
   obtain⟨M0,w0,β,mem,hgh,hn,hfr,hfree,hdef,hX⟩:=hr
   obtain⟨hidn,hid0⟩:=hfree (nx+j) ⟨ω,λi hi e=>by have:j=i:=ω
                                                  exact hjσ (this▸hi)⟩
   -- behind the operation
   have go:∀y w' M0' w0' β',Mem M0' w0' β' (iM (stH us hp0 σ) u.blk) w'->w0'.gh=w0.gh->RV (MM M0' β' (iM (stH us hp0 σ) u.blk)) β' w' u.val y->StabC (MM M0 β (stH us hp0 σ)) (MM M0' β' (iM (stH us hp0 σ) u.blk)) β β' w w'->(∀i,i≠nx+j->β' i=β i)->DefOK a.defers w0' w'->X (σ++[j]) M0' w0' β' (a.put o.dst y) w'->wpAnyIn (FR ρ) 0 P .any ops Q fuel (listed.setIfInBounds j true) (a.put o.dst y) w':=by
    intro y w' M0' w0' β' m' hg2 hy st hβ hd2 hX';refine ih (σ++[j]) _ _ w' ht' nd' (by simpa using hsz) hl' hf' ⟨M0',w0',β',?_,hg2.trans hgh,?_,λt x hx=>?_,λi hi=>?_,?_,hX'⟩;rw[jx,hb1];exact m';cases o.dst <;> simp[Act.put,hn];rw[lc,hd1,hv1] at hx;rw[jx,hb1,FN hg2];cases hdst2:o.dst with
    |none=>rw[hdst2] at hx;have e:fU w0 (a.put none y) t=fU w0 a t:=rfl
           rw[e];exact st.all (hfr t x hx)
    |some d=>
     rw[hdst2] at hx;rw[pM (by rw[hn];exact hdst d hdst2)];simp only[zg,upd] at hx;split at hx
     ·rename_i htd;rw[if_pos htd];cases hx;exact hy
     ·rename_i htd;rw[if_neg htd];exact st.all (hfr t x hx)
    have hne:i≠nx+j:=hi.2 j ψ;rw[hβ i hne];exact hfree i ⟨hi.1,λk hk=>hi.2 k (List.mem_append_left _ hk)⟩;have:(a.put o.dst y).defers=a.defers:=by cases o.dst <;> rfl
    rw[this];exact hd2
   unfold wpOpIn;simp only[ho];rcases hstep with⟨hstep,hkeep⟩|⟨hg,hnd,hx⟩
   have hlk:lk? ops j=xu ops o:=by simp[lk?,ho]
   have hrd:rd? us j=rd:=by simp[rd?,hu]
   have hstep':AStep P ops (nx+j) (stF ops us fr0 σ) (stH us hp0 σ) o u rd:=hstep.congr
    (λt htl=>Ig hok ht nd hlt hjσ hready (λi k t h1 h2 h3 h4=>pr hok h1 h2 h3 h4) (by rw[hlk];exact htl))
    (λb hb=>If hok ht nd hlt hjσ hready (λi k b h1 h2 h3 h4=>pt hok h1 h2 h3 h4) (by rw[hrd];exact hb))
   exact hstep'.simF mem hfr hidn hid0 λy w' β' haft=>go y w' M0 w0 β' haft.1 rfl haft.2.1 haft.2.2.1.toStabC haft.2.2.2 (hdef.stab haft.2.2.1) (hkeep σ M0 w0 β a w y w' β' hjσ hn hX mem haft);obtain⟨y,w',M0',w0',β',hrun,x1,x2,x3,x4,x5,x6,hX'⟩:=hx σ M0 w0 β a w hjσ hready hn mem hfr hidn hid0 hX;have go:=go y w' M0' w0' β' x1 x2 x3 x4 x5 (x6 _ hdef) hX';rw[if_pos (by simp[Region.wanted,hg])];refine⟨λ_ _=>trivial,?_⟩;rw[Oper.semAt_eq _ _ _ hnd];rcases hrun with hrun|⟨hrun,rfl⟩
   rw[hrun];exact go;rw[hrun];exact go
 refine main ops.size [] _ a _ ⟨ψ,List.Pairwise.nil,ψ⟩ List.nodup_nil ψ ?_ ?_ ?_;intro j hj;simp[Array.getD_eq_getD_getElem?,hj];exact Nat.le_trans (List.length_filter_le _ _) ψ;obtain⟨M0,w0,β,h1,hg,h2,h3,h4,h5,h6⟩:=hrel;have hmx:=h1.ext ((Below.refl w.heap.size w).drew);exact⟨M0,w0,β,hmx.1,hg,h2,λt x hx=>hmx.2.all (h3 t x hx),λi hi=>h4 i hi.1,h5.stab hmx.2,hdrew M0 w0 β h6⟩
end
section
variable {d:Nat}{q:Nat×Int×Nat×Nat}{fr:Fr}{hp:Hp}
theorem xg{α γ:Type}{f:α->γ}{M N:List γ}(h:M.Perm N):∀{L:List α},L.map f=M->∃l:List α,l.Perm L/\l.map f=N:=by
 induction h with
 |nil=>intro L hL;exact⟨L,List.Perm.refl _,hL⟩
 |cons x _ ih=>
  intro L hL;cases L with
  |nil=>cases hL
  |cons y L=>
   rw[List.map_cons] at hL;obtain⟨h1,h2⟩:=List.cons.inj hL;obtain⟨l,h3,h4⟩:=ih h2;exact⟨y::l,h3.cons y,by rw[List.map_cons,h1,h4]⟩
 |swap x y l=>
  intro L hL
  match L,hL with
  |a::b::L,hL=>
   simp only[List.map_cons,List.cons.injEq] at hL;obtain⟨h1,h2,h3⟩:=hL;exact⟨b::a::L,List.Perm.swap a b L,by simp[h1,h2,h3]⟩
 |trans _ _ ih1 ih2=>
  intro L hL;obtain⟨l1,h1,h2⟩:=ih1 hL;obtain⟨l2,h3,h4⟩:=ih2 h2;exact⟨l2,h3.trans h1,h4⟩
structure MapTab where
 T:Nat
 kd:IntKind
 mi:Nat
 tm:Nat
 tab:List (Nat×Int×Nat×Nat)
 cp:List (Nat×Nat)
def isMapOp(o:Oper):Bool:=match o.op with| .makeMap .. =>true| .insert .. =>true|_=>false
def vz(ops:Array Oper)(m:MapTab)(j:Nat)(o:Oper):Bool:=
 cond (Nat.beq j m.mi) (match o.op,o.dst,o.guard with| .makeMap T none,some d,none=>Nat.beq T m.T && Nat.beq d m.tm|_,_,_=>false)
 (match m.tab.find? λq=>Nat.beq q.1 j with
 |some q=>(match o.op,o.dst,o.guard with| .insert T (.tmp t) (.const (.int kd k)) (.tmp s),none,none=>Nat.beq T m.T && Nat.beq t m.tm && decide (kd=m.kd) && decide (k=q.2.1) && Nat.beq s q.2.2.1 && jd ops m.mi j && jd ops q.2.2.2 j|_,_,_=>false)
 |none=>match m.cp.find? λc=>Nat.beq c.1 j with
  |some c=>(match o.op,o.dst,o.guard with| .move (.tmp s),some d,none=>Nat.beq d c.2 && jd ops m.mi j && (Nat.beq s m.tm||m.cp.any λe=>Nat.beq e.2 s && jd ops e.1 j)| .assign (.tmp s),some d,none=>Nat.beq d c.2 && jd ops m.mi j && (Nat.beq s m.tm||m.cp.any λe=>Nat.beq e.2 s && jd ops e.1 j)|_,_,_=>false)
  |none=>!isMapOp o && (match o.dst with|none=>true|some d=>!Nat.beq d m.tm && (m.cp.all λc=>!Nat.beq c.2 d) && m.tab.all λq=>!Nat.beq q.2.2.1 d||Nat.beq q.2.2.2 j))
def ru(ops:Array Oper)(m:MapTab):Bool:=
 (ops.toList.zipIdx.all λp=>vz ops m p.2 p.1) && (m.tab.all λq=>!Nat.beq q.2.2.1 m.tm && m.cp.all λc=>!Nat.beq c.2 q.2.2.1) && (m.cp.all λc=>!Nat.beq c.2 m.tm) && decide ((m.cp.map (·.2)).Nodup) && decide ((m.tab.map (·.2.1)).Nodup) && decide ((m.tab.map (·.1)).Nodup)
def qP(m:MapTab)(j:Nat):Option (Int×Nat):=(m.tab.find? λq=>Nat.beq q.1 j).map λq=>(q.2.1,q.2.2.1)
structure XM (m:MapTab)(M00:Nat->Prop)(w00:Base)(σ:Ln)(M0:Nat->Prop)(w0:Base)(a:Act)(w:World):Prop where
 kept:w00.Kept w
 m00:∀b,M00 b->w00.K b/\b≠GT
 pin:w0.pin=w00.pin
 dep:∀q∈m.tab,q.1∈σ->m.mi∈σ/\q.2.2.2∈σ
 dep2:∀c∈m.cp,c.1∈σ->m.mi∈σ
 no:m.mi∉σ->(∀b,M0 b↔M00 b)/\(∀b,w0.K b↔w00.K b)
 yes:m.mi∈σ->∃r ens ck,a.tmps.getD m.tm undef= .map (some r)/\w.heap[r]?=some (.map ens ck)/\w00.w.heap.size<=r/\(∀b,M0 b↔M00 b\/b=r)/\(∀b,w0.K b↔w00.K b\/b=r)/\
  (ens.toList.map λe=>(e.key,e.val))=(σ.filterMap (qP m)).map (λq=>(Value.int m.kd q.1,a.tmps.getD q.2 undef))/\∀c∈m.cp,c.1∈σ->a.tmps.getD c.2 undef= .map (some r)
theorem pp{a:Act}{t:Nat}{y:Value}(h:t≠d):(a.put (some d) y).tmps.getD t undef=a.tmps.getD t undef:=by
 simp only[Act.put,Array.getD_eq_getD_getElem?];grind
theorem tU{a:Act}{y:Value}(h:d< a.tmps.size):(a.put (some d) y).tmps.getD d undef=y:=by
 simp[Act.put,h]
theorem rY{a b:Nat}(h:(!Nat.beq a b)=true):a≠b:=Et h
theorem fJ{a b:Nat}(h:Nat.beq a b=true):a=b:=by simp_all
section
variable {P:Program}{ops:Array Oper}{m:MapTab}{j:Nat}{o:Oper}
theorem chk_cls(h:ru ops m=true)(ho:ops[j]?=some o):vz ops m j o=true:=by
 unfold ru at h;simp only[Bool.and_eq_true,List.all_eq_true] at h;exact h.1.1.1.1.1 (o,j) φ
theorem chk_tab(h:ru ops m=true)(hq:q∈m.tab):q.2.2.1≠m.tm/\∀c∈m.cp,c.2≠q.2.2.1:=by
 unfold ru at h;simp only[Bool.and_eq_true,List.all_eq_true] at h;have:=h.1.1.1.1.2 q hq;exact⟨rY this.1,λc hc=>rY (this.2 c hc)⟩
theorem chk_cp(h:ru ops m=true){c:Nat×Nat}(hc:c∈m.cp):c.2≠m.tm:=by
 unfold ru at h;simp only[Bool.and_eq_true,List.all_eq_true] at h;exact rY (h.1.1.1.2 c hc)
theorem gj{α γ:Type}{f:α->γ}:∀{l:List α},(l.map f).Nodup->∀{x y:α},x∈l->y∈l->f x=f y->x=y
 |[],_,_,_,hx,_,_=>by grind
 |a::l,h,x,y,hx,hy,e=>by
  rw[List.map_cons,List.nodup_cons] at h;rcases List.mem_cons.1 hx with h1|h1 <;> rcases List.mem_cons.1 hy with h2|h2
  rw[h1,h2];rw[h1] at e;exact absurd (e▸List.mem_map_of_mem (f:=f) h2) h.1;rw[h2] at e;exact absurd (e▸List.mem_map_of_mem (f:=f) h1) h.1;exact gj h.2 h1 h2 e
theorem CC(h:ru ops m=true):(m.cp.map (·.2)).Nodup/\(m.tab.map (·.2.1)).Nodup/\(m.tab.map (·.1)).Nodup:=by
 unfold ru at h;grind
theorem nu{j:Nat}{q:Int×Nat}(h:qP m j=some q):∃x∈m.tab,x.1=j/\q=(x.2.1,x.2.2.1):=by
 obtain⟨x,h1,rfl⟩:=Option.map_eq_some_iff.1 h;exact⟨x,List.mem_of_find?_eq_some h1,fJ φ,rfl⟩
theorem qO{j:Nat}(h:∀x∈m.tab,x.1≠j):qP m j=none:=by
 unfold qP;rw[List.find?_eq_none.2 λx hx hb=>h x hx (fJ φ)];rfl
theorem wt{kd kd0:IntKind}{k:Int}:∀{l:List MapEntry} (i:Nat),(∀e∈l,∃n,e.key= .int kd n/\n≠k)->Instr.findNow (.int kd0) (.int kd k) l i=some none
 |[],_,_=>rfl
 |e::l,i,h=>by
  obtain⟨n,h1,h2⟩:=h e (List.mem_cons_self ..);have hs:Instr.sameNow (.int kd0) (.int kd k) e.key=some false:=by rw[h1];simp[Instr.sameNow,Ne.symm h2]
  simp only[Instr.findNow,hs];exact wt (i+1) λe' he'=>h e' (List.mem_cons_of_mem _ he')
end
section
variable {P:Program}{ops:Array Oper}{m:MapTab}{j n nx:Nat}{o:Oper}{M00 M0:Nat->Prop}{w00 w0:Base}{σ:Ln}{β β':Bq}{hp hp':Hq}{a:Act}{w w':World}{u:Upd}{y:Value}
theorem fg{i:Nat}(h:i∈σ++[j])(hne:i≠j):i∈σ:=φ
theorem XM.ordinary (hc:ru ops m=true) (ho:ops[j]?=some o) (hj:j∉σ) (h1:j≠m.mi) (h2:∀q∈m.tab,q.1≠j) (h3:∀c∈m.cp,c.1≠j) (hd:∀d,o.dst=some d->d≠m.tm/\(∀c∈m.cp,c.2≠d)/\∀q∈m.tab,q.2.2.1=d->q.2.2.2=j)
    (hX:XM m M00 w00 σ M0 w0 a w) (mem:Mem M0 w0 β hp w) (haf:mS M0 w0 β hp w (nx+j) u y w' β'):XM m M00 w00 (σ++[j]) M0 w0 (a.put o.dst y) w':=by
 obtain⟨m',_,st,_⟩:=haf;have hmi:m.mi∈σ++[j]↔m.mi∈σ:=⟨λh=>fg h (Ne.symm h1),λh=>List.mem_append_left _ h⟩;have hK:∀b,w0.K b->w'.heap[b]?=w.heap[b]?:=λb hb=>(m'.below.block b hb).trans (mem.below.block b hb).symm
 have hK00:∀b,w00.K b->w0.K b:=by
  intro b hb;by_cases hm:m.mi∈σ;obtain⟨r,ens,ck,_,_,_,_,k5,_⟩:=hX.yes hm;exact(k5 b).2 (.inl hb);exact((hX.no hm).2 b).2 hb
 have hslot:∀t,(∀d,o.dst=some d->t≠d)->(a.put o.dst y).tmps.getD t undef=a.tmps.getD t undef:=by
  intro t ht;cases hdst:o.dst with
  |none=>rfl
  |some d=>exact pp (ht d hdst)
 refine⟨⟨m'.below.os.trans (mem.below.os.symm.trans hX.kept.os),m'.below.tape.trans (mem.below.tape.symm.trans hX.kept.tape),m'.below.output.trans (mem.below.output.symm.trans hX.kept.output),?_,λb hb=>(hK b (hK00 b hb)).trans (hX.kept.block b hb),λb k hb=>st.sz b k (hX.kept.sizes b k hb)⟩,hX.m00,hX.pin,λq hq hi=>?_,λc hcp hi=>?_,λhn=>hX.no λhm=>hn (hmi.2 hm),λhm=>?_⟩
 -- sizes grow
 refine Nat.le_trans hX.kept.size ?_;by_cases hw:w.heap.size=0;omega;obtain⟨k,hk⟩:∃k,w.heap.size=k+1:=⟨w.heap.size- 1,ω⟩;by_cases hs:∃N,aL w k=some N;obtain⟨N,hN⟩:=hs;have:=ci (st.sz k N hN);omega
 have hsn:aL w k=none:=by
  cases hz:aL w k with
  |none=>rfl
  |some N=>exact absurd ⟨N,hz⟩ hs
 have h4:=st.oth k ω hsn;by_cases hlt:k< w'.heap.size;omega;rw[Array.getElem?_eq_none ω,Array.getElem?_eq_getElem ω] at h4;cases h4;obtain⟨x1,x2⟩:=hX.dep q hq (fg hi (h2 q hq));exact⟨List.mem_append_left _ x1,List.mem_append_left _ x2⟩;exact List.mem_append_left _ (hX.dep2 c hcp (fg hi (h3 c hcp)));obtain⟨r,ens,ck,k1,k2,k3,k4,k5,k6,k7⟩:=hX.yes (hmi.1 hm);refine⟨r,ens,ck,?_,?_,k3,k4,k5,?_,λc hcp hi=>?_⟩;rw[hslot _ λd hdd=>(hd d hdd).1.symm];exact k1;rw[hK r ((k5 r).2 (.inr rfl))];exact k2;rw[List.filterMap_append,show [j].filterMap (qP m)=[] by simp[qO h2],List.append_nil,k6];refine List.map_congr_left λq hq=>?_;obtain⟨i,hi,hq'⟩:=List.mem_filterMap.1 hq;obtain⟨x,hx1,hx2,hx3⟩:=nu hq';have hxp:=(hX.dep x hx1 (by rw[hx2];exact hi)).2;rw[hslot q.2 λd hdd e=>?_];have:=(hd d hdd).2.2 x hx1 (by rw[hx3] at e;exact e);rw[this] at hxp;exact hj hxp;rw[hslot _ λd hdd=>(hd d hdd).2.1 c hcp];exact k7 c hcp (fg hi (h3 c hcp))
theorem XM.make(hc:ru ops m=true)(ho:ops[m.mi]?=some o)(hop:o.op= .makeMap m.T none)(hdst:o.dst=some m.tm)(hn:m.tm< a.tmps.size)(hj:m.mi∉σ)(hti:∀q∈m.tab,q.1≠m.mi)(htc:∀c∈m.cp,c.1≠m.mi)(hX:XM m M00 w00 σ M0 w0 a w)(mem:Mem M0 w0 β hp w):
    ∃y w' M0' w0',((execOp a.eval o).run P w= .ok (.value y) w')/\Mem M0' w0' β hp w'/\w0'.gh=w0.gh/\RV (MM M0' β hp) β w' .any y/\StabC (MM M0 β hp) (MM M0' β hp) β β w w'/\(∀ds,DefOK ds w0 w->DefOK ds w0' w')/\
     XM m M00 w00 (σ++[m.mi]) M0' w0' (a.put o.dst y) w':=by
 obtain⟨n1,n2⟩:=hX.no hj;obtain⟨w',hw'⟩:∃w',w'=w.alloc (.map #[] 0):=⟨_,rfl⟩;have hold:∀b,b< w.heap.size->w'.heap[b]?=w.heap[b]?:=λb hb=>by rw[hw'];exact Below.heap_alloc _ _ _ hb
 have hnew:w'.heap[w.heap.size]?=some (.map #[] 0):=by rw[hw'];exact heap_alloc_new' _ _
 have hsz:w'.heap.size=w.heap.size+1:=by simp_all
 have hK:∀b,w0.K b->b< w.heap.size:=λb hb=>Nat.lt_of_lt_of_le (w0.lt b hb) mem.below.size
 let M0':Nat->Prop:=λb=>M0 b\/b=w.heap.size
 let w0':Base:=⟨w',λb=>w0.K b\/b=w.heap.size,λb hb=>by grind,w0.pin,w0.gh,.inl w0.kt,mem.tab.congr (hold GT mem.tab.lt)⟩
 have st:StabC (MM M0 β hp) (MM M0' β hp) β β w w':=by
  refine⟨λb N hb _=>hold b (ci hb),λb N hb hm=>?_,λ_ _ h=>h,λb N hb=>(dZ (hold b (ci hb))).trans hb⟩;rcases hm with(hm|rfl)|hm
  exact .inl hm;have:=ci hb;omega;exact .inr hm
 refine⟨.map (some w.heap.size),w',M0',w0',?_,⟨⟨rfl,rfl,rfl,Nat.le_refl _,λ_ _=>rfl,λ_ _ h=>h⟩,λb hb=>⟨hb.imp (λh=>(mem.m0 b h).1) id,λe=>by
  rcases hb with hb|hb
  exact(mem.m0 b hb).2 e;have:=mem.tab.lt;omega⟩,λi b s hi=>⟨λhk=>?_,?_⟩,mem.pin,λi B hi=>?_,mem.inj⟩,rfl,trivial,st,λds hds=>?_,?_⟩
 rw[hw'];simp[execOp,hop,Instr.makeMap];rcases hk with hk|rfl
 exact(mem.rng i b s hi).1 hk;have:=(mem.rng i _ s hi).2;omega;have:=(mem.rng i b s hi).2;omega;obtain⟨b,e1,e2⟩:=mem.blk i B hi;exact⟨b,e1,e2.stab st (hold b (mem.rng i b _ e1).2)⟩;obtain⟨Ds,d1,d2,d3⟩:=hds;refine⟨Ds,d1,d2,λD hD=>?_⟩;obtain⟨e1,e2⟩:=d3 D hD;have hlt:=(Array.getElem?_eq_some_iff.1 e1).1;refine⟨by rw[hold D hlt];exact e1,λhk=>?_⟩;rcases hk with hk|rfl
 exact e2 hk;omega;have hni:∀q∈m.tab,q.1∉σ++[m.mi]:=λq hq hi=>hj (hX.dep q hq (fg hi (hti q hq))).1;refine⟨⟨by rw[hw'];exact hX.kept.os,by rw[hw'];exact hX.kept.tape,by rw[hw'];exact hX.kept.output,by have:=hX.kept.size;omega,λb hb=>(hold b (hK b ((n2 b).2 hb))).trans (hX.kept.block b hb),λb k hb=>st.sz b k (hX.kept.sizes b k hb)⟩,hX.m00,hX.pin,λq hq hi=>absurd hi (hni q hq),λc hcp hi=>List.mem_append_left _ (hX.dep2 c hcp (fg hi (htc c hcp))),λhn=>absurd ψ hn,λ_=>⟨w.heap.size, #[],0,?_,hnew,hX.kept.size,λb=>or_congr (n1 b) Iff.rfl,λb=>or_congr (n2 b) Iff.rfl,?_,λc hcp hi=>absurd (hX.dep2 c hcp (fg hi (htc c hcp))) hj⟩⟩;rw[hdst];exact tU hn
 have:(σ++[m.mi]).filterMap (qP m)=[]:=by
  rw[List.filterMap_eq_nil_iff];intro i hi;exact qO λx hx e=>hni x hx (e▸hi)
 grind
theorem XM.ins {kt e:Nat} (hc:ru ops m=true) (hT:P.underlying m.T=some (.map kt e)) (hkt:P.underlying kt=some (.int m.kd)) (hq:q∈m.tab) (hop:o.op= .insert m.T (.tmp m.tm) (.const (.int m.kd q.2.1)) (.tmp q.2.2.1)) (hdst:o.dst=none) (hj:q.1∉σ) (hmi:m.mi∈σ) (hp1:q.2.2.2∈σ) (hmq:q.1≠m.mi) (htc:∀c∈m.cp,c.1≠q.1)
    (hX:XM m M00 w00 σ M0 w0 a w) (mem:Mem M0 w0 β hp w):
    ∃w' M0' w0',((execOp a.eval o).run P w= .ok .skip w')/\Mem M0' w0' β hp w'/\w0'.gh=w0.gh/\StabC (MM M0 β hp) (MM M0' β hp) β β w w'/\(∀ds,DefOK ds w0 w->DefOK ds w0' w')/\
     XM m M00 w00 (σ++[q.1]) M0' w0' (a.put o.dst undef) w':=by
 obtain⟨r,ens,ck,k1,k2,k3,k4,k5,k6,k7⟩:=hX.yes hmi;obtain⟨c1,c2,c3⟩:=CC hc;have hlt:r< w.heap.size:=(Array.getElem?_eq_some_iff.1 k2).1;obtain⟨v,hv⟩:∃v,v=a.tmps.getD q.2.2.1 undef:=⟨_,rfl⟩;obtain⟨w',hw'⟩:∃w',w'={w with heap:=w.heap.setIfInBounds r (.map (ens.push {key:= .int m.kd q.2.1,val:=v,born:=ck}) (ck+1))}:=⟨_,rfl⟩;have hnew:w'.heap[r]?=some (.map (ens.push {key:= .int m.kd q.2.1,val:=v,born:=ck}) (ck+1)):=by rw[hw'];simp[hlt]
 have hold:∀b,b≠r->w'.heap[b]?=w.heap[b]?:=λb hb=>by rw[hw'];simp[Ne.symm hb]
 have hsz:w'.heap.size=w.heap.size:=by rw[hw'];simp
 have hszs:∀b N,aL w b=some N->aL w' b=some N:=λb N hb=>by
  by_cases hbr:b=r;subst hbr;simp[aL,k2] at hb;subst hb;simp[aL,hnew];exact(dZ (hold b hbr)).trans hb
 have hown:∀i b s,β i=some (b,s)->b≠r:=λi b s hi e=>(mem.rng i b s hi).1 (by rw[e];exact(k5 r).2 (.inr rfl))
 let w0':Base:=⟨w',w0.K,λb hb=>by have:=w0.lt b hb;have:=mem.below.size;omega,w0.pin,w0.gh,w0.kt,mem.tab.congr (hold GT λe=>(mem.m0 r ((k4 r).2 (.inr rfl))).2 e.symm)⟩
 have st:StabC (MM M0 β hp) (MM M0 β hp) β β w w':=⟨λb N hb hm=>hold b λe=>hm (.inl (by rw[e];exact(k4 r).2 (.inr rfl))),λ_ _ _ h=>h,λ_ _ h=>h,hszs⟩
 have hfind:Instr.findNow (.int m.kd) (.int m.kd q.2.1) ens.toList 0=some none:=by
  refine wt 0 λe he=>?_;have h1:(e.key,e.val)∈(σ.filterMap (qP m)).map (λq=>(Value.int m.kd q.1,a.tmps.getD q.2 undef)):=by rw[<-k6];exact List.mem_map_of_mem (f:=λe:MapEntry=>(e.key,e.val)) he
  obtain⟨z,hz1,hz2⟩:=List.mem_map.1 h1;obtain⟨i,hi,hz3⟩:=List.mem_filterMap.1 hz1;obtain⟨x,hx1,hx2,rfl⟩:=nu hz3;refine⟨x.2.1,(Prod.mk.inj hz2).1.symm,λek=>?_⟩;have:=gj c2 hx1 hq ek;subst this;rw[hx2] at hj;exact hj hi
 have hrun:(Instr.mapUpdate m.T (.map (some r)) (.int m.kd q.2.1) v).run P w= .ok () w':=by
  rw[hw'];simp[Instr.mapUpdate,run_underlying hT,MapKept.run_getObj_map k2,MapKept.run_checkKey (k:= .int m.kd q.2.1) hkt (by simp[MapKept.IsKey]),MapKept.run_findKey hkt hfind,MapKept.run_setObj_map _ k2,Result.andThen]
 refine⟨w',M0,w0',?_,⟨⟨rfl,rfl,rfl,Nat.le_refl _,λ_ _=>rfl,λ_ _ h=>h⟩,mem.m0,λi b s hi=>⟨(mem.rng i b s hi).1,by rw[hsz];exact(mem.rng i b s hi).2⟩,mem.pin,λi B hi=>?_,mem.inj⟩,rfl,st,λds hds=>?_,?_⟩;have e1:a.eval (.tmp m.tm)= .map (some r):=k1;have e2:a.eval (.tmp q.2.2.1)=v:=hv.symm;have e3:a.eval (.const (.int m.kd q.2.1))= .int m.kd q.2.1:=rfl;simp only[execOp,hop,e1,e2,e3];simp[hrun];obtain⟨b,e1,e2⟩:=mem.blk i B hi;exact⟨b,e1,e2.stab st (hold b (hown i b _ e1))⟩;obtain⟨Ds,d1,d2,d3⟩:=hds;refine⟨Ds,d1,d2,λD hD=>?_⟩;obtain⟨e1,e2⟩:=d3 D hD;exact⟨by rw[hold D (λe=>by subst e;rw[k2] at e1;cases e1)];exact e1,e2⟩;have hput:∀t,(a.put o.dst undef).tmps.getD t undef=a.tmps.getD t undef:=λt=>by rw[hdst];rfl
 refine⟨⟨by rw[hw'];exact hX.kept.os,by rw[hw'];exact hX.kept.tape,by rw[hw'];exact hX.kept.output,by rw[hsz];exact hX.kept.size,λb hb=>(hold b λe=>by have:=w00.lt b hb;omega).trans (hX.kept.block b hb),λb k hb=>hszs b k (hX.kept.sizes b k hb)⟩,hX.m00,hX.pin,λx hx hi=>?_,λc hcp hi=>List.mem_append_left _ (hX.dep2 c hcp (fg hi (htc c hcp))),λhn=>absurd (List.mem_append_left _ hmi) hn,λ_=>?_⟩;by_cases hxi:x.1=q.1;have:=gj c3 hx hq hxi;subst this;exact⟨List.mem_append_left _ hmi,List.mem_append_left _ hp1⟩;obtain⟨x1,x2⟩:=hX.dep x hx (fg hi hxi);exact⟨List.mem_append_left _ x1,List.mem_append_left _ x2⟩;refine⟨r,_,_,by rw[hput];exact k1,hnew,k3,k4,k5,?_,λc hcp hi=>by rw[hput];exact k7 c hcp (fg hi (htc c hcp))⟩
 have hins:qP m q.1=some (q.2.1,q.2.2.1):=by
  cases hi:qP m q.1 with
  |none=>
   unfold qP at hi;rw[Option.map_eq_none_iff,List.find?_eq_none] at hi;exact absurd (hi q hq) ψ
  |some z=>
   obtain⟨x,hx1,hx2,rfl⟩:=nu hi;have:=gj c3 hx1 hq hx2;subst this;rfl
 rw[Array.toList_push,List.map_append,k6,List.filterMap_append,List.map_append];simp only[hput,List.filterMap_cons,hins,List.filterMap_nil,List.map_cons,List.map_nil];rw[hv]
theorem XM.copy (hc:ru ops m=true) {s:Nat} (hcp:(j,d)∈m.cp) (hop:o.op= .move (.tmp s)\/o.op= .assign (.tmp s)) (hdst:o.dst=some d) (hn:d< a.tmps.size) (hj:j∉σ) (hmi:m.mi∈σ) (hs:s=m.tm\/∃c∈m.cp,c.2=s/\c.1∈σ) (hmq:j≠m.mi) (hti:∀q∈m.tab,q.1≠j) (hcd:(m.cp.map (·.1)).Nodup)
    (hX:XM m M00 w00 σ M0 w0 a w):∃y,((execOp a.eval o).run P w= .ok (.value y) w)/\XM m M00 w00 (σ++[j]) M0 w0 (a.put o.dst y) w:=by
 obtain⟨r,ens,ck,k1,k2,k3,k4,k5,k6,k7⟩:=hX.yes hmi
 have hval:a.eval (.tmp s)= .map (some r):=by
  rcases hs with rfl|⟨c,h1,rfl,h3⟩
  exact k1;exact k7 c h1 h3
 refine⟨.map (some r),?_,hX.kept,hX.m00,hX.pin,λq hq hi=>?_,λc hcc hi=>List.mem_append_left _ hmi,λhn=>absurd (List.mem_append_left _ hmi) hn,λ_=>?_⟩;rcases hop with hop|hop <;> simp[execOp,hop,hval]
 obtain⟨x1,x2⟩:=hX.dep q hq (fg hi (hti q hq));exact⟨List.mem_append_left _ x1,List.mem_append_left _ x2⟩;refine⟨r,ens,ck,?_,k2,k3,k4,k5,?_,λc hcc hi=>?_⟩;rw[hdst,pp (Ne.symm (chk_cp hc hcp))];exact k1;rw[List.filterMap_append,show [j].filterMap (qP m)=[] by simp[qO hti],List.append_nil,k6];refine List.map_congr_left λq hq=>?_;obtain⟨i,hi,hq'⟩:=List.mem_filterMap.1 hq;obtain⟨x,hx1,hx2,rfl⟩:=nu hq';rw[hdst,pp (Ne.symm ((chk_tab hc hx1).2 (j,d) hcp))];by_cases hcj:c=(j,d);subst hcj;rw[hdst];exact tU hn;have h1:c.1≠j:=λe=>hcj (gj hcd hcc hcp e);have h2:c.2≠d:=λe=>hcj (gj (CC hc).1 hcc hcp e);rw[hdst,pp h2];grind
end
def spB(m:MapTab)(j:Nat):Bool:=Nat.beq j m.mi||(m.tab.any λq=>Nat.beq q.1 j)||m.cp.any λc=>Nat.beq c.1 j
def chk2(ops:Array Oper)(m:MapTab)(n:Nat):Bool:=
 (m.tab.all λq=>!Nat.beq q.1 m.mi && (m.cp.all λc=>!Nat.beq c.1 q.1) && Nat.ble q.2.2.1 999) && (m.cp.all λc=>!Nat.beq c.1 m.mi && Nat.blt c.2 n) && decide ((m.cp.map (·.1)).Nodup) && Nat.blt m.mi ops.size && Nat.blt m.tm n
def RunX(P:Program)(ops:Array Oper)(sp:Nat->Bool)(nx:Nat):Nat->List Oper->AState->List (Upd×Ln)->AState->Prop
 |_,[],st,us,st'=>us=[]/\st'=st
 |j,o::rest,st,us,st'=> ∃u rd us',us=(u,rd)::us'/\(sp j=true->u=⟨.any,[]⟩/\rd=[])/\(sp j=false->AStep P ops (nx+j) (look st.fr) (au st.hp) o u rd)/\(∀d,o.dst=some d->d< st.n)/\RunX P ops sp nx (j+1) rest (st.step o.dst u) us' st'
theorem rQ{P:Program}{ops:Array Oper}{sp:Nat->Bool}{nx:Nat}:∀(rest:List Oper) (j:Nat) (st st':AState) (us us0:List (Upd×Ln)) (fr0:Nat->Option AV) (hp0:Hq),
    RunX P ops sp nx j rest st us st'->us0.length=j->(∀i o,rest[i]?=some o->ops[j+i]?=some o)->look st.fr=stF ops (us0++us) fr0 (List.range j)->au st.hp=stH (us0++us) hp0 (List.range j)->
    (∀i o,rest[i]?=some o->∃u rd,(us0++us)[j+i]?=some (u,rd)/\(sp (j+i)=true->u=⟨.any,[]⟩/\rd=[])/\(sp (j+i)=false->AStep P ops (nx+(j+i)) (stF ops (us0++us) fr0 (List.range (j+i))) (stH (us0++us) hp0 (List.range (j+i))) o u rd)/\∀d,o.dst=some d->d< st.n)/\
    look st'.fr=stF ops (us0++us) fr0 (List.range (j+rest.length))/\au st'.hp=stH (us0++us) hp0 (List.range (j+rest.length))/\st'.n=st.n
 |[],j,st,st',us,us0,fr0,hp0,h,_,_,hF,hH=>by
  obtain⟨rfl,rfl⟩:=h;exact⟨λi o h=>by simp at h,by simpa using hF,by simpa using hH,rfl⟩
 |o::rest,j,st,st',us,us0,fr0,hp0,h,hl,hops,hF,hH=>by
  obtain⟨u,rd,us',rfl,hs1,hs2,hdst,hrun⟩:=h;have happ:us0++(u,rd)::us'=(us0++[(u,rd)])++us':=ψ
  have hu:(us0++(u,rd)::us')[j]?=some (u,rd):=by rw[<-hl,List.getElem?_append_right (Nat.le_refl _)];simp
  have ho:ops[j]?=some o:=hops 0 o rfl
  have hF':look (st.step o.dst u).fr=stF ops ((us0++[(u,rd)])++us') fr0 (List.range (j+1)):=by
   rw[<-happ,List.range_succ,lc,<-hF];simp only[AState.step,nr,dst?,ho,val?,hu,Option.bind_some,Option.map_some,Option.getD_some]
  have hH':au (st.step o.dst u).hp=stH ((us0++[(u,rd)])++us') hp0 (List.range (j+1)):=by
   rw[<-happ,List.range_succ,jx,<-hH];simp only[AState.step,kI,blk?,hu,Option.map_some,Option.getD_some]
  obtain⟨r1,r2,r3,r4⟩:=rQ rest (j+1) (st.step o.dst u) st' us' (us0++[(u,rd)]) fr0 hp0 hrun (by simp[hl]) (λi o' h=>by
   have:=hops (i+1) o' (by simpa using h);rwa[show j+(i+1)=j+1+i by omega] at this) hF' hH'
  rw[<-happ] at r1 r2 r3;refine⟨λi o' hi=>?_,?_,?_,r4⟩;cases i with
  |zero=>
   simp only[List.getElem?_cons_zero,Option.some.injEq] at hi;subst hi;refine⟨u,rd,by simpa using hu,hs1,λh=>?_,hdst⟩;rw[Nat.add_zero,<-hF,<-hH];exact hs2 h
  |succ i=>
   obtain⟨u',rd',h1,h2,h3,h4⟩:=r1 i o' (by simpa using hi);rw[show j+1+i=j+(i+1) by omega] at h1 h2 h3;exact⟨u',rd',h1,h2,h3,h4⟩
  rw[r2,show j+1+rest.length=j+(o::rest).length by simp;omega];rw[r3,show j+1+rest.length=j+(o::rest).length by simp;omega]
def AX(P:Program)(ops:Array Oper)(sp:Nat->Bool)(nx n j:Nat)(rest:List Oper)(fr:Fr)(hp:Hp)(K:Fps->Fr->Hp->Prop):Prop:=
 ∃us st',RunX P ops sp nx j rest ⟨fr,hp,nx,n⟩ us st'/\K (us.map fp) st'.fr st'.hp
section
variable {P:Program}{ops:Array Oper}{spf:Nat->Bool}{nx n j:Nat}{rest:List Oper}{fr:Fr}{hp:Hp}{K:Fps->Fr->Hp->Prop}
variable {d:Nat}{op:Op}{ty:Nat}{pos:String}{after:Array Edge}{a:AV}{p q:Nat×Option ABlk}{rd:Ln}
theorem AX.nil(h:K [] fr hp):AX P ops spf nx n j [] fr hp K:=⟨[],_,⟨rfl,rfl⟩,h⟩
theorem AX.cons {dst:Option Nat} {guard:Option (Nat×Bool)} {u:Upd} {rd:Ln}
    (hs1:spf j=true->u=⟨.any,[]⟩/\rd=[]) (hs2:spf j=false->AStep P ops (nx+j) (look fr) (au hp) ⟨dst,op,ty,pos,after,guard⟩ u rd) (hd:(match dst with|some d=>Nat.blt d n|none=>true)=true)
    (h:AX P ops spf nx n (j+1) rest (zf fr dst u.val) (u.blk.reverse++hp) λfps f h=>K ((u.blk.map (·.1),rd)::fps) f h):AX P ops spf nx n j (⟨dst,op,ty,pos,after,guard⟩::rest) fr hp K:=by
 obtain⟨us,st',h1,h2⟩:=h;refine⟨(u,rd)::us,st',⟨u,rd,us,rfl,hs1,hs2,λd hd'=>?_,h1⟩,h2⟩;subst hd';simp_all
theorem AX.op0 (hs:AEval P (nx+j) (evF (look fr)) (au hp) op ⟨a,[]⟩ rd) (hnd:ce op=true) (hd:Nat.blt d n=true)
    (h:AX P ops spf nx n (j+1) rest ((d,a)::fr) hp λfps f h=>K (([],rd)::fps) f h) (hsp:spf j=false:=by rfl):AX P ops spf nx n j (⟨some d,op,ty,pos,after,none⟩::rest) fr hp K:=
 AX.cons (λe=>φ) (λ_=>⟨bz hnd,hs⟩) hd h
theorem AX.op1 (hs:AEval P (nx+j) (evF (look fr)) (au hp) op ⟨a,[p]⟩ rd) (hnd:ce op=true) (hd:Nat.blt d n=true)
    (h:AX P ops spf nx n (j+1) rest ((d,a)::fr) (p::hp) λfps f h=>K (([p.1],rd)::fps) f h) (hsp:spf j=false:=by rfl):AX P ops spf nx n j (⟨some d,op,ty,pos,after,none⟩::rest) fr hp K:=
 AX.cons (λe=>φ) (λ_=>⟨bz hnd,hs⟩) hd h
theorem AX.sp(hd:Nat.blt d n=true)(hsp:spf j=true)(h:AX P ops spf nx n (j+1) rest ((d,.any)::fr) hp λfps f h=>K (([],[])::fps) f h):AX P ops spf nx n j (⟨some d,op,ty,pos,after,none⟩::rest) fr hp K:=
 AX.cons (u:=⟨.any,[]⟩) (rd:=[]) (λ_=>⟨rfl,rfl⟩) (λe=>by rw[hsp] at e;cases e) hd h
theorem AX.spn(hsp:spf j=true)(h:AX P ops spf nx n (j+1) rest fr hp λfps f h=>K (([],[])::fps) f h):AX P ops spf nx n j (⟨none,op,ty,pos,after,none⟩::rest) fr hp K:=
 AX.cons (u:=⟨.any,[]⟩) (rd:=[]) (λ_=>⟨rfl,rfl⟩) (λe=>by rw[hsp] at e;cases e) rfl h
end
def CvS(fr:Fr)(hp:Hp):List (Nat×Int×Nat×Nat)->La->Prop
 |[],vs=>vs=[]
 |q::l,vs=> ∃x v vs',vs=v::vs'/\look fr q.2.2.1=some x/\Cv (Ren.id 0) (au hp) (λ_=>none) x v/\CvS fr hp l vs'
theorem CvS.nil:CvS fr hp [] []:=rfl
theorem CvS.cons{l:List (Nat×Int×Nat×Nat)}{x v:AV}{vs:La}(h1:look fr q.2.2.1=some x)(h2:Cv (Ren.id 0) (au hp) (λ_=>none) x v)(h3:CvS fr hp l vs):CvS fr hp (q::l) (v::vs):=⟨x,v,vs,rfl,h1,h2,h3⟩
section
variable {P:Program}{ops:Array Oper}{m:MapTab}{j:Nat}{o:Oper}
theorem vN(h:spB m j=false):j≠m.mi/\(∀q∈m.tab,q.1≠j)/\∀c∈m.cp,c.1≠j:=by
 unfold spB at h;simp only[Bool.or_eq_false_iff,List.any_eq_false] at h;exact⟨λe=>by rw[e,Nat.beq_refl] at h;exact absurd h.1.1 δ,λq hq e=>h.1.2 q hq (by rw[e,Nat.beq_refl]),λc hc e=>h.2 c hc (by rw[e,Nat.beq_refl])⟩
theorem cls_ord(h:vz ops m j o=true)(hs:spB m j=false):∀d,o.dst=some d->d≠m.tm/\(∀c∈m.cp,c.2≠d)/\∀q∈m.tab,q.2.2.1=d->q.2.2.2=j:=by
 obtain⟨h1,h2,h3⟩:=vN hs;unfold vz at h;have e1:Nat.beq j m.mi=false:=by cases hb:Nat.beq j m.mi with|false=>rfl|true=>exact absurd (fJ hb) h1
 have e2:(m.tab.find? λq=>Nat.beq q.1 j)=none:=List.find?_eq_none.2 λq hq hb=>h2 q hq (fJ (by simpa using hb));have e3:(m.cp.find? λc=>Nat.beq c.1 j)=none:=List.find?_eq_none.2 λc hc hb=>h3 c hc (fJ (by simpa using hb));simp only[e1,e2,e3,cond_false,Bool.and_eq_true] at h;intro d hd;rw[hd] at h;simp only[Bool.and_eq_true,List.all_eq_true] at h;refine⟨rY h.2.1.1,λc hc=>rY (h.2.1.2 c hc),λq hq e=>?_⟩;have:=h.2.2 q hq;rw[e,Nat.beq_refl] at this;simpa using this
theorem find_at(hq:q∈m.tab)(hnd:(m.tab.map (·.1)).Nodup):(m.tab.find? λx=>Nat.beq x.1 q.1)=some q:=by
 cases hf:m.tab.find? λx=>Nat.beq x.1 q.1 with
 |none=>rw[List.find?_eq_none] at hf;exact absurd (hf q hq) ψ
 |some x=>
  have h1:=List.mem_of_find?_eq_some hf;have h2:x.1=q.1:=fJ (by simpa using List.find?_some hf);rw[gj hnd h1 hq h2]
theorem HX(h:vz ops m m.mi o=true):o.op= .makeMap m.T none/\o.dst=some m.tm/\o.guard=none:=by
 unfold vz at h;rw[Nat.beq_refl,cond_true] at h;obtain⟨dst,op,ty,pos,after,guard⟩:=o;split at h
 ·rename_i T d h1 h2 h3
  simp only[Bool.and_eq_true] at h;simp only at h1 h2 h3;subst h1 h2 h3;exact⟨by rw[fJ h.1],by rw[fJ h.2],rfl⟩
 cases h
theorem cls_ins(h:vz ops m j o=true)(hj:j≠m.mi)(hq:q∈m.tab)(hqj:q.1=j)(hnd:(m.tab.map (·.1)).Nodup):o.op= .insert m.T (.tmp m.tm) (.const (.int m.kd q.2.1)) (.tmp q.2.2.1)/\o.dst=none/\o.guard=none/\jd ops m.mi j=true/\jd ops q.2.2.2 j=true:=by
 subst hqj;unfold vz at h;have e1:Nat.beq q.1 m.mi=false:=by cases hb:Nat.beq q.1 m.mi with|false=>rfl|true=>exact absurd (fJ hb) hj
 rw[e1,cond_false,find_at hq hnd] at h;obtain⟨dst,op,ty,pos,after,guard⟩:=o;simp only at h;split at h
 ·rename_i _ _ _ T t kd k s
  simp only[Bool.and_eq_true,decide_eq_true_eq] at h;obtain⟨⟨⟨⟨⟨⟨x1,x2⟩,x3⟩,x4⟩,x5⟩,x6⟩,x7⟩:=h;exact⟨by rw[fJ x1,fJ x2,x3,x4,fJ x5],rfl,rfl,x6,x7⟩
 cases h
theorem HY(h:vz ops m j o=true)(hj:j≠m.mi)(ht:∀q∈m.tab,q.1≠j){c:Nat×Nat}(hc:c∈m.cp)(hcj:c.1=j)(hnd:(m.cp.map (·.1)).Nodup):
    ∃s,(o.op= .move (.tmp s)\/o.op= .assign (.tmp s))/\o.dst=some c.2/\o.guard=none/\jd ops m.mi j=true/\(s=m.tm\/∃e∈m.cp,e.2=s/\jd ops e.1 j=true):=by
 subst hcj;unfold vz at h;have e1:Nat.beq c.1 m.mi=false:=by cases hb:Nat.beq c.1 m.mi with|false=>rfl|true=>exact absurd (fJ hb) hj
 have e2:(m.tab.find? λq=>Nat.beq q.1 c.1)=none:=List.find?_eq_none.2 λq hq hb=>ht q hq (fJ (by simpa using hb))
 have e3:(m.cp.find? λx=>Nat.beq x.1 c.1)=some c:=by
  cases hf:m.cp.find? λx=>Nat.beq x.1 c.1 with
  |none=>rw[List.find?_eq_none] at hf;exact absurd (hf c hc) ψ
  |some x=>
   have h1:=List.mem_of_find?_eq_some hf;have h2:x.1=c.1:=fJ (by simpa using List.find?_some hf);rw[gj hnd h1 hc h2]
 rw[e1,cond_false,e2,e3] at h;obtain⟨dst,op,ty,pos,after,guard⟩:=o;simp only at h
 have last:∀s,(Nat.beq s m.tm||m.cp.any λe=>Nat.beq e.2 s && jd ops e.1 c.1)=true->s=m.tm\/∃e∈m.cp,e.2=s/\jd ops e.1 c.1=true:=by
  intro s hs;rcases Bool.or_eq_true _ _|>.mp hs with hs|hs
  exact .inl (fJ hs);obtain⟨e,he1,he2⟩:=List.any_eq_true.1 hs;simp only[Bool.and_eq_true] at he2;exact .inr ⟨e,he1,fJ he2.1,he2.2⟩
 split at h
 ·rename_i _ _ _ s d
  simp only[Bool.and_eq_true] at h;exact⟨s,.inl rfl,by rw[fJ h.1.1],rfl,h.1.2,last s h.2⟩
 ·rename_i _ _ _ s d
  simp only[Bool.and_eq_true] at h;exact⟨s,.inr rfl,by rw[fJ h.1.1],rfl,h.1.2,last s h.2⟩
 cases h
end
theorem AWp.mapRegion {P:Program} {ρ:Option Nat} {Q:Exit->AState->Prop} {ops:Array Oper} {rid nx n kt e:Nat} (m:MapTab) {vs:La} (hm:P.follows .mixedOrders=true) (hT:P.underlying m.T=some (.map kt e)) (hkt:P.underlying kt=some (.int m.kd)) (hc:ru ops m=true) (hc2:chk2 ops m n=true)
    (htab:(List.range ops.size).filterMap (qP m)=m.tab.map λq=>(q.2.1,q.2.2.1)) (hd:∃i,(i,d)∈m.cp/\i< ops.size) (hd9:d< GH)
    (h:AX P ops (spB m) nx n 0 ops.toList fr hp λfps f h=>mq ops fps=true/\CvS f h m.tab vs)
    (hQ:Q .normal ⟨[(d,.mp (m.tab.map λq=> .int m.kd q.2.1) vs)],[],1,n⟩):AWp ρ P (.region rid ops true) Q ⟨fr,hp,nx,n⟩:=by
 rintro M00 w00 a w ⟨β0,mem0,hn0,hfr0,hfree0,hdef0⟩;obtain⟨us,st',hrun,hok,hres⟩:=h;obtain⟨h1,h2,h3,h4⟩:=rQ ops.toList 0 _ st' us [] (look fr) (au hp) hrun rfl (λi o h=>by simpa using h) rfl rfl;simp only[List.nil_append,Nat.zero_add,Array.length_toList] at h1 h2 h3
 have hback:AN ops=true:=by
  unfold mq at hok;simp only[Bool.and_eq_true] at hok;exact hok.1
 unfold chk2 at hc2;simp only[Bool.and_eq_true,List.all_eq_true,decide_eq_true_eq] at hc2;obtain⟨⟨⟨⟨t1,t2⟩,t3⟩,t4⟩,t5⟩:=hc2;have hmi:m.mi< ops.size:=Nat.le_of_ble_eq_true t4;have htm:m.tm< n:=Nat.le_of_ble_eq_true t5;have tabmi:∀q∈m.tab,q.1≠m.mi:=λq hq=>rY (t1 q hq).1.1;have tabcp:∀q∈m.tab,∀c∈m.cp,c.1≠q.1:=λq hq c hcc=>rY ((t1 q hq).1.2 c hcc);have cpmi:∀c∈m.cp,c.1≠m.mi:=λc hcc=>rY (t2 c hcc).1;obtain⟨cn1,cn2,cn3⟩:=CC hc;refine Gc (us:=us) (n:=n) (nx:=nx) (fr0:=look fr) (hp0:=au hp) (X:=λσ M0 w0 _ a w=>XM m M00 w00 σ M0 w0 a w) (gh:=w00.gh) hm (ancOK hback) (v6 hok) (λj o ho=>?_) (λM0 w0 β hX=>?_) ?_ (λσ a' w' nd hall hlt hF=>?_)
 -- the operations
 obtain⟨u,rd,hu,s1,s2,hdst⟩:=h1 j o (by simpa using ho);have hcls:=chk_cls hc ho;refine⟨u,rd,hu,hdst,?_⟩;cases hs:spB m j with
 |false=>
  obtain⟨b1,b2,b3⟩:=vN hs;exact .inl ⟨s2 hs,λσ M0 w0 β a w y w' β' hj hn hX mem haf=>hX.ordinary hc ho hj b1 b2 b3 (cls_ord hcls hs) mem haf⟩
 |true=>
  obtain⟨rfl,rfl⟩:=s1 hs;unfold spB at hs;simp only[Bool.or_eq_true,List.any_eq_true] at hs;by_cases hjm:j=m.mi;subst hjm;obtain⟨c1,c2,c3⟩:=HX hcls;refine .inr ⟨c3,(λc hcc=>by rw[c1] at hcc;cases hcc),λσ M0 w0 β a w hj hr hn mem hfr hid hid0 hX=>?_⟩;obtain⟨y,w',M0',w0',x1,x2,x3,x4,x5,x6,x7⟩:=hX.make hc ho c1 c2 (by rw[hn];exact htm) hj tabmi cpmi mem;exact⟨y,w',M0',w0',β,.inl x1,x2,x3,x4,x5,λ_ _=>rfl,x6,x7⟩;rcases hs with(hs|⟨q,hq,hqj⟩)|⟨c,hcc,hcj⟩
  exact absurd (fJ hs) hjm;have hqj:=fJ hqj;obtain⟨c1,c2,c3,c4,c5⟩:=cls_ins hcls hjm hq hqj cn3;subst hqj;refine .inr ⟨c3,(λc hcc=>by rw[c1] at hcc;cases hcc),λσ M0 w0 β a w hj hr hn mem hfr hid hid0 hX=>?_⟩;obtain⟨w',M0',w0',x1,x2,x3,x5,x6,x7⟩:=hX.ins hc hT hkt hq c1 c2 hj (hr _ c4) (hr _ c5) (tabmi q hq) (tabcp q hq) mem;exact⟨undef,w',M0',w0',β,.inr ⟨x1,rfl⟩,x2,x3,trivial,x5,λ_ _=>rfl,x6,x7⟩;have hcj:=fJ hcj;subst hcj;have htj:∀q∈m.tab,q.1≠c.1:=λq hq e=>tabcp q hq c hcc e.symm;obtain⟨s,c1,c2,c3,c4,c5⟩:=HY hcls hjm htj hcc rfl t3;refine .inr ⟨c3,(λx hx=>by rcases c1 with c1|c1 <;> rw[c1] at hx <;> cases hx),λσ M0 w0 β a w hj hr hn mem hfr hid hid0 hX=>?_⟩;obtain⟨y,x1,x2⟩:=hX.copy (P:=P) hc (d:=c.2) hcc c1 c2 (by rw[hn];exact Nat.le_of_ble_eq_true (t2 c hcc).2) hj (hr _ c4) (c5.imp id fun⟨e,e1,e2,e3⟩=>⟨e,e1,e2,hr _ e3⟩) hjm htj t3;exact⟨y,w,M0,w0,β,.inl x1,mem,rfl,trivial,⟨λ_ _ _ _=>rfl,λ_ _ _ h=>h,λ_ _ h=>h,λ_ _ h=>h⟩,λ_ _=>rfl,λ_ h=>h,x2⟩
 exact⟨⟨hX.kept.os,hX.kept.tape,hX.kept.output,hX.kept.size,hX.kept.block,hX.kept.sizes⟩,hX.m00,hX.pin,hX.dep,hX.dep2,hX.no,λh=>by cases h⟩;exact⟨M00,w00,β0,mem0,rfl,hn0,hfr0,hfree0,hdef0,mem0.below,mem0.m0,rfl,(λq _ h=>by cases h),(λc _ h=>by cases h),λ_=>⟨λ_=>Iff.rfl,λ_=>Iff.rfl⟩,λh=>by cases h⟩
 -- the end
 obtain⟨M0,w0,β,mem,hgh,hn,hfr,_,hdef,hX⟩:=hF;rw[<-h2,<-h3] at *
 obtain⟨r,ens,ck,k1,k2,k3,k4,k5,k6,k7⟩:=hX.yes (hall _ hmi);have hperm:σ.Perm (List.range ops.size):=(List.perm_ext_iff_of_nodup nd List.nodup_range).2 λi=>⟨λhi=>List.mem_range.2 (hlt i hi),λhi=>hall i (List.mem_range.1 hi)⟩;have hp1:=(hperm.filterMap (qP m)).map (λq=>(Value.int m.kd q.1,a'.tmps.getD q.2 undef));rw[htab,<-k6,List.map_map] at hp1;obtain⟨l,l1,l2⟩:=xg hp1 rfl
 have lk:l.map (·.key)=m.tab.map λq=> .int m.kd q.2.1:=by
  have:=congrArg (List.map Prod.fst) l2;simpa[List.map_map,Function.comp_def] using this
 have lv:l.map (·.val)=m.tab.map λq=>a'.tmps.getD q.2.2.1 undef:=by
  have:=congrArg (List.map Prod.snd) l2;simpa[List.map_map,Function.comp_def] using this
 have nM:¬M00 r:=λhr=>by have:=w00.lt r (hX.m00 r hr).1;omega
 have hvals:∀(tb:List (Nat×Int×Nat×Nat)) (vs:La),(∀q∈tb,q∈m.tab)->CvS st'.fr st'.hp tb vs->RVs M00 (λ_=>none) w' vs (tb.map λq=>a'.tmps.getD q.2.2.1 undef):=by
  intro tb
  induction tb with
  |nil=>intro vs _ hv;cases (hv:vs=[]);rfl
  |cons q tb ih=>
   rintro vs hsub ⟨x,v,vs',rfl,v1,v2,v3⟩;have hq:=hsub q (List.mem_cons_self ..);have hx:=hfr q.2.2.1 x v1;have h9:Nat.ble q.2.2.1 999=true:=(t1 q hq).2;rw[wU h9] at hx;have h5:=v2 M0 w0 β w' _ mem hx;have e1:MM M0 ((Ren.id 0).app (λ_=>none) β) (λ_=>none)=M0:=by funext b;simp[MM]
   rw[e1,Ren.app_zero] at h5;refine⟨_,_,rfl,StabC.all (w:=w') (w':=w') (M:=M0) (β:=λ_=>none) ⟨λ_ _ _ _=>rfl,λb _ _ hb=>(k4 b).2 (.inl hb),λ_ _ h=>h,λ_ _ h=>h⟩ h5,ih vs' (λq hq=>hsub q (List.mem_cons_of_mem _ hq)) v3⟩
 obtain⟨i,hi1,hi2⟩:=hd;have hslot:a'.tmps.getD d undef= .map (some r):=k7 (i,d) hi1 (hall i hi2);refine⟨_,⟨λ_=>none,⟨hX.kept,hX.m00,(λ_ _ _ h=>by cases h),(λh=>by cases h),(λ_ _ h=>by cases h),λ_ _ _ _ _ _ _ h=>by cases h⟩,hn,λt x hx=>?_,λi (hi:1<=i)=>⟨rfl,ω⟩,?_⟩,hQ⟩;have hmm:MM M00 (λ_=>none) (au [])=M00:=by funext b;simp[MM,au,look]
 show RV (MM M00 (λ_=>none) (au [])) _ _ _ _;rw[hmm];have hx':look [(d,AV.mp (m.tab.map λq=> .int m.kd q.2.1) vs)] t=some x:=hx;rw[cJ] at hx';unfold upd at hx';split at hx'
 ·rename_i e;subst e;cases hx'
  rw[show fU w00 a' t=a'.tmps.getD t undef from if_pos (.inl hd9),hslot];exact⟨r,ens,ck,rfl,k2,nM,l,l1,lk,by rw[lv];exact hvals m.tab vs (λ_ h=>h) hres⟩
 cases hx';obtain⟨Ds,d1,d2,d3⟩:=hdef;exact⟨Ds,d1,d2,λD hD=>⟨(d3 D hD).1,λhk=>(d3 D hD).2 ((k5 D).2 (.inl hk))⟩⟩
end
def idAt2(fr:Fr)(t:Nat):Nat:=cond (Nat.blt t 100000) (idAt fr t) (t- 100000)
def jE(fr:Fr)(l:List (Nat×Nat))(n:Nat):Ren:=⟨n,λi=>match look l i with|some t=>idAt2 fr t|none=>i⟩
theorem SEnt.to2 {fr fr':Fr} {hp hp':Hp} {nx nx' n:Nat} (l:List (Nat×Nat)) (hk:Nat.blt 0 nx'=true) (h0:(jE fr l nx').s 0=0) (hinj:lA (jE fr l nx') (hp'.map (·.1))=true) (hS:ShrL (jE fr l nx') (au hp) hp')
    (hF:Shr (jE fr l nx') (au hp) (au hp')->CvF (jE fr l nx') (au hp) (au hp') fr fr')
    (hH:Shr (jE fr l nx') (au hp) (au hp')->CvH (jE fr l nx') (au hp) (au hp') hp'):SEnt ⟨fr,hp,nx,n⟩ ⟨fr',hp',nx',n⟩:=
 SEnt.intro (st:=⟨fr,hp,nx,n⟩) (st':=⟨fr',hp',nx',n⟩) (jE fr l nx') rfl (Nat.le_of_ble_eq_true hk) h0 hinj rfl (hF hS.shr) (hH hS.shr)
theorem SEntT.to2 {fr fr':Fr} {hp hp':Hp} {nx nx' n:Nat} (l:List (Nat×Nat)) (hk:Nat.blt 0 nx'=true) (h0:(jE fr l nx').s 0=0) (hinj:lA (jE fr l nx') (hp'.map (·.1))=true) (hS:ShrL (jE fr l nx') (au hp) hp')
    (hF:Shr (jE fr l nx') (au hp) (au hp')->CvF (jE fr l nx') (au hp) (au hp') fr fr')
    (hH:Shr (jE fr l nx') (au hp) (au hp')->CvH (jE fr l nx') (au hp) (au hp') hp'):SEntT ⟨fr,hp,nx,n⟩ ⟨fr',hp',nx',n⟩:=
 SEntT.intro (st:=⟨fr,hp,nx,n⟩) (st':=⟨fr',hp',nx',n⟩) (jE fr l nx') rfl (Nat.le_of_ble_eq_true hk) h0 hinj rfl (hF hS.shr) (hH hS.shr)
section
variable {r:Ren}{hp hp':Hq}{i i' j j':Nat}{s:List UInt8}
theorem CvLL.bld(hi:Nat.blt i' r.n=true)(hs:r.s i'=i)(hl:(hp' i').isSome=true)(hj:Nat.blt j' r.n=true)(hs2:r.s j'=j)(hl2:(hp' j').isSome=true):CvLL r hp hp' [dX i j (some s)] [dX i' j' (some s)]:=
 ay (af (Cv.ptr hi hs hl) (af (Cv.sl hj hs2 hl2) ax))
theorem CvLL.bld0(h:Shr r hp hp'):CvLL r hp hp' [dX i j none] [dX i' j' none]:=
 ay (af (ah h (ag _)) (af (ah h aK) ax))
end
end Go.Abs
