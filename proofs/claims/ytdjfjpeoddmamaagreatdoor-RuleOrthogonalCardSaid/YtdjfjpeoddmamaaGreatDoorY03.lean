/- Part Y03 of the proof. -/
import Derived.Test.YtdjfjpeoddmamaaGreatDoorY02
import Derived.RangeFuncNested
import Derived.RangeFuncLeaves
import Derived.TacticsIn
import Derived.IntWalk
set_option linter.all false
namespace Go.Abs
open Go.RowKit
section lists
theorem ll_:∀{l m:List Nat},l.Pairwise (· < ·)→m.Pairwise (· < ·)→(∀x,x∈l↔x∈m)→l=m
 |[],[],_,_,_=>rfl
 |[],b::m,_,_,h=>absurd ((h b).2 (List.mem_cons_self ..)) (by simp)
 |a::l,[],_,_,h=>absurd ((h a).1 (List.mem_cons_self ..)) (by simp)
 |a::l,b::m,hl,hm,h=>by
  rw[List.pairwise_cons] at hl hm
  have hab:a=b:=by
   rcases List.mem_cons.1 ((h a).1 (List.mem_cons_self ..)) with e|e
   exact e
   rcases List.mem_cons.1 ((h b).2 (List.mem_cons_self ..)) with e'|e'
   exact e'.symm
   have:=hl.1 b e';have:=hm.1 a e;omega
  subst hab
  congr 1
  refine ll_ hl.2 hm.2 fun x=>⟨fun hx=>?_,fun hx=>?_⟩
  rcases List.mem_cons.1 ((h x).1 (List.mem_cons_of_mem _ hx)) with e|e
  subst e;have:=hl.1 x hx;omega
  exact e
  rcases List.mem_cons.1 ((h x).2 (List.mem_cons_of_mem _ hx)) with e|e
  subst e;have:=hm.1 x hx;omega
  exact e
theorem mf_{S α:Type}(step:S→Nat→S)(get:S→α)(p:Nat→Bool)(val:Nat→α)(h1:∀s j,p j=true→get (step s j)=val j)(h2:∀s j,p j=false→get (step s j)=get s):
    ∀(σ τ:List Nat) (s t:S),get s=get t→σ.filter p=τ.filter p→get (σ.foldl step s)=get (τ.foldl step t):=by
 have key:∀(σ:List Nat) (s:S),get (σ.foldl step s)=((σ.filter p).foldl (fun _ j=>val j) (get s)):=by
  intro σ
  induction σ with
  |nil=>intro s;rfl
  |cons j σ ih=>
   intro s
   rw[List.foldl_cons,ih]
   cases hp:p j with
   |true=>rw[List.filter_cons_of_pos hp,List.foldl_cons,h1 s j hp]
   |false=>rw[List.filter_cons_of_neg (by simp[hp]),h2 s j hp]
 intro σ τ s t hs hf
 rw[key,key,hf,hs]
end lists
structure Topo (anc:Nat→Nat→Bool)(N:Nat)(σ:List Nat):Prop where
 lt:∀a∈σ,a< N
 pw:σ.Pairwise fun a b=>anc b a=false
 closed:∀a∈σ,∀b,anc b a=true→b∈σ
theorem Topo.filter {anc:Nat→Nat→Bool} {N:Nat} {σ:List Nat} (h:Topo anc N σ) (nd:σ.Nodup) {p:Nat→Bool} {j:Nat} (ha:∀i,i< j→p i=true→i∈σ) (hb:∀i,j≤i→p i=true→i∉σ)
    (hc:∀i k,i< k→k< N→p i=true→p k=true→anc i k=true):σ.filter p=(List.range j).filter p:=by
 refine ll_ ?_ (List.Pairwise.filter _ List.pairwise_lt_range) fun x=>?_
 have hall:σ.Pairwise fun a b=>anc b a=false∧a≠b:=h.pw.and nd
 have:(σ.filter p).Pairwise fun a b=>(anc b a=false∧a≠b)∧(a∈σ.filter p∧b∈σ.filter p):=by
  have h1:=List.Pairwise.filter p hall
  refine List.Pairwise.imp_of_mem ?_ h1
  intro a b ha hb hab;exact⟨hab,ha,hb⟩
 refine this.imp ?_
 rintro a b ⟨⟨h1,h2⟩,h3,h4⟩
 rw[List.mem_filter] at h3 h4
 rcases Nat.lt_trichotomy a b with hlt|heq|hgt
 exact hlt
 exact absurd heq h2
 have:=hc b a hgt (h.lt a h3.1) h4.2 h3.2
 rw[h1] at this;cases this
 rw[List.mem_filter,List.mem_filter,List.mem_range]
 constructor
 rintro⟨h1,h2⟩
 refine⟨?_,h2⟩
 by_cases hx:x< j
 exact hx
 exact absurd h1 (hb x (by omega) h2)
 rintro⟨h1,h2⟩
 exact⟨ha x h1 h2,h2⟩
def qa_(xs:List Operand):List Nat:=xs.filterMap fun| .tmp t=>some t|_=>none
def qX_(ops:Array Oper)(o:Oper):List Nat:=
 qa_ o.op.operands.toList++(match o.guard with|some (g,_)=>((ops[g]?).bind (·.dst)).toList|none=>[])
def free2(d1 d2:Option Nat)(l1 l2:List Nat)(w1 r1 w2 r2:List Nat):Bool:=
 (match d1,d2 with|some a,some b=>!Nat.beq a b|_,_=>true) &&
 (match d1 with|some a=>l2.all fun t=>!Nat.beq a t|none=>true) &&
 (match d2 with|some b=>l1.all fun t=>!Nat.beq b t|none=>true) &&
 (w1.all fun k=>(r2.all fun t=>!Nat.beq k t) && (w2.all fun t=>!Nat.beq k t)) &&
 (w2.all fun k=>r1.all fun t=>!Nat.beq k t)
theorem nbeq{a b:Nat}(h:(!Nat.beq a b)=true):a≠b:=by
 intro e;subst e;simp at h
section
variable (ops:Array Oper)(us:List (Upd×List Nat))(fr0:Nat→Option AV)(hp0:Nat→Option ABlk)
def dst?(j:Nat):Option Nat:=(ops[j]?).bind (·.dst)
def val?(j:Nat):AV:=((us[j]?).map (·.1.val)).getD .any
def blk?(j:Nat):List (Nat×Option ABlk):=((us[j]?).map (·.1.blk)).getD []
def rd?(j:Nat):List Nat:=((us[j]?).map (·.2)).getD []
def wk?(j:Nat):List Nat:=(blk? us j).map (·.1)
def lk?(j:Nat):List Nat:=((ops[j]?).map (qX_ ops)).getD []
def stF(σ:List Nat):Nat→Option AV:=σ.foldl (fun fr j=>putF fr (dst? ops j) (val? us j)) fr0
def stH(σ:List Nat):Nat→Option ABlk:=σ.foldl (fun hp j=>appB hp (blk? us j)) hp0
def okOrd(anc:Nat→Nat→Bool):Bool:=(List.range ops.size).all fun j=>(List.range j).all fun i=>anc i j||
 free2 (dst? ops i) (dst? ops j) (lk? ops i) (lk? ops j) (wk? us i) (rd? us i) (wk? us j) (rd? us j)
end
theorem fM_:∀(bs:List (Nat×Option ABlk)) (hp:Nat→Option ABlk) (k:Nat),k∉bs.map (·.1)→appB hp bs k=hp k
 |[],_,_,_=>rfl
 |(i,x)::bs,hp,k,h=>by
  simp only[List.map_cons,List.mem_cons,not_or] at h
  rw[appB,fM_ bs _ k h.2,aW_ _ _ h.1]
theorem mI_:∀(bs:List (Nat×Option ABlk)) (hp hp':Nat→Option ABlk) (k:Nat),k∈bs.map (·.1)→appB hp bs k=appB hp' bs k
 |(i,x)::bs,hp,hp',k,h=>by
  simp only[appB]
  by_cases hk:k∈bs.map (·.1)
  exact mI_ bs _ _ k hk
  rw[fM_ bs _ k hk,fM_ bs _ k hk]
  simp only[List.map_cons,List.mem_cons] at h
  rcases h with rfl|h
  simp
  exact absurd h hk
section
variable {ops:Array Oper}{us:List (Upd×List Nat)}{fr0:Nat→Option AV}{hp0:Nat→Option ABlk}
theorem qi_(σ τ:List Nat)(t:Nat)(h:σ.filter (fun j=>dst? ops j==some t)=τ.filter (fun j=>dst? ops j==some t)):stF ops us fr0 σ t=stF ops us fr0 τ t:=by
 refine mf_ (S:=Nat→Option AV) _ (fun fr=>fr t) (fun j=>dst? ops j==some t) (fun j=>some (val? us j)) ?_ ?_ σ τ _ _ rfl h
 intro s j hj
 rw[beq_iff_eq] at hj
 simp[putF,hj]
 intro s j hj
 have hj':dst? ops j≠some t:=by simpa using hj
 cases hd:dst? ops j with
 |none=>rfl
 |some d=>simp only[putF];rw[aW_];intro e;subst e;exact hj' hd
theorem qh_(σ τ:List Nat)(k:Nat)(h:σ.filter (fun j=>(wk? us j).contains k)=τ.filter (fun j=>(wk? us j).contains k)):stH us hp0 σ k=stH us hp0 τ k:=by
 refine mf_ (S:=Nat→Option ABlk) _ (fun hp=>hp k) (fun j=>(wk? us j).contains k) (fun j=>appB (fun _=>none) (blk? us j) k) ?_ ?_ σ τ _ _ rfl h
 intro s j hj
 exact mI_ _ _ _ k (by simpa[wk?] using hj)
 intro s j hj
 exact fM_ _ _ k (by simpa[wk?] using hj)
theorem dI_{anc:Nat→Nat→Bool}(h:okOrd ops us anc=true){i j:Nat}(hij:i< j)(hj:j< ops.size)(hn:anc i j=false):
    free2 (dst? ops i) (dst? ops j) (lk? ops i) (lk? ops j) (wk? us i) (rd? us i) (wk? us j) (rd? us j)=true:=by
 have h1:=List.all_eq_true.1 h j (List.mem_range.2 hj)
 have h2:=List.all_eq_true.1 h1 i (List.mem_range.2 hij)
 rw[hn,Bool.false_or] at h2
 exact h2
theorem pf_{xs:List Operand}{t:Nat}(h:Operand.tmp t∈xs):t∈qa_ xs:=by
 unfold qa_
 exact List.mem_filterMap.2 ⟨_,h,rfl⟩
variable {anc:Nat→Nat→Bool}{σ:List Nat}{j:Nat}
theorem agreeF (hok:okOrd ops us anc=true) (ht:Topo anc ops.size σ) (nd:σ.Nodup) (hj:j< ops.size) (hjσ:j∉σ) (hr:∀i,anc i j=true→i∈σ)
    (hww:∀i k t,i< k→k< ops.size→dst? ops i=some t→dst? ops k=some t→anc i k=true) {t:Nat} (hl:t∈lk? ops j):
    stF ops us fr0 σ t=stF ops us fr0 (List.range j) t:=by
 refine qi_ σ _ t (ht.filter nd (fun i hi hp=>?_) (fun i hi hp=>?_) fun i k hik hk h1 h2=>hww i k t hik hk (by simpa using h1) (by simpa using h2))
 rw[beq_iff_eq] at hp
 cases ha:anc i j with
 |true=>exact hr i ha
 |false=>
  have hf:=dI_ hok hi hj ha
  simp only[free2,hp,Bool.and_eq_true,List.all_eq_true] at hf
  exact absurd rfl (nbeq (hf.1.1.1.2 t hl))
 intro hiσ
 rw[beq_iff_eq] at hp
 have hne:i≠j:=fun e=>hjσ (e▸hiσ)
 cases ha:anc j i with
 |true=>exact hjσ (ht.closed i hiσ j ha)
 |false=>
  have hf:=dI_ hok (show j< i by omega) (ht.lt i hiσ) ha
  simp only[free2,hp,Bool.and_eq_true,List.all_eq_true] at hf
  exact absurd rfl (nbeq (hf.1.1.2 t hl))
theorem agreeH (hok:okOrd ops us anc=true) (ht:Topo anc ops.size σ) (nd:σ.Nodup) (hj:j< ops.size) (hjσ:j∉σ) (hr:∀i,anc i j=true→i∈σ)
    (hww:∀i k b,i< k→k< ops.size→b∈wk? us i→b∈wk? us k→anc i k=true) {b:Nat} (hl:b∈rd? us j):
    stH us hp0 σ b=stH us hp0 (List.range j) b:=by
 refine qh_ σ _ b (ht.filter nd (fun i hi hp=>?_) (fun i hi hp=>?_) fun i k hik hk h1 h2=>hww i k b hik hk (by simpa using h1) (by simpa using h2))
 have hp':b∈wk? us i:=by simpa using hp
 cases ha:anc i j with
 |true=>exact hr i ha
 |false=>
  have hf:=dI_ hok hi hj ha
  simp only[free2,Bool.and_eq_true,List.all_eq_true] at hf
  exact absurd rfl (nbeq ((hf.1.2 b hp').1 b hl))
 intro hiσ
 have hp':b∈wk? us i:=by simpa using hp
 have hne:i≠j:=fun e=>hjσ (e▸hiσ)
 cases ha:anc j i with
 |true=>exact hjσ (ht.closed i hiσ j ha)
 |false=>
  have hf:=dI_ hok (show j< i by omega) (ht.lt i hiσ) ha
  simp only[free2,Bool.and_eq_true,List.all_eq_true] at hf
  exact absurd rfl (nbeq (hf.2 b hp' b hl))
theorem n8_(hok:okOrd ops us anc=true){i k t:Nat}(hik:i< k)(hk:k< ops.size)(h1:dst? ops i=some t)(h2:dst? ops k=some t):anc i k=true:=by
 cases ha:anc i k with
 |true=>rfl
 |false=>
  have hf:=dI_ hok hik hk ha
  simp only[free2,h1,h2,Bool.and_eq_true] at hf
  exact absurd rfl (nbeq hf.1.1.1.1)
theorem n9_(hok:okOrd ops us anc=true){i k b:Nat}(hik:i< k)(hk:k< ops.size)(h1:b∈wk? us i)(h2:b∈wk? us k):anc i k=true:=by
 cases ha:anc i k with
 |true=>rfl
 |false=>
  have hf:=dI_ hok hik hk ha
  simp only[free2,Bool.and_eq_true,List.all_eq_true] at hf
  exact absurd rfl (nbeq ((hf.1.2 b h1).2 b h2))
theorem rX_{fr fr':Nat→Option AV}{x:Operand}(h:∀t,x= .tmp t→fr' t=fr t):evF fr' x=evF fr x:=by
 cases x with
 |tmp t=>simp only[evF,h t rfl]
 |_=>rfl
theorem AStep.congr {P:Program} {id:Nat} {fr fr':Nat→Option AV} {hp hp':Nat→Option ABlk} {o:Oper} {u:Upd} {rd:List Nat} (h:AStep P ops id fr hp o u rd)
    (h1:∀t∈qX_ ops o,fr' t=fr t) (h2:∀i∈rd,hp' i=hp i):AStep P ops id fr' hp' o u rd:=by
 have he:AEval P id (evF fr) hp o.op u rd→AEval P id (evF fr') hp' o.op u rd:=fun he=>he.congr (fun x hx=>rX_ fun t e=>h1 t (by
  subst e;exact List.mem_append_left _ (pf_ (Array.mem_toList_iff.2 hx)))) h2
 refine⟨h.1,?_⟩
 have hh:=h.2
 cases hg:o.guard with
 |none=>rw[hg] at hh;exact he hh
 |some gw=>
  obtain⟨g,want⟩:=gw
  rw[hg] at hh
  obtain⟨t,x,ht,hx,hc⟩:=hh
  refine⟨t,x,ht,?_,hc.imp (fun⟨a,b⟩=>⟨a,he b⟩) (fun z=>z)⟩
  simp only[evF,h1 t (List.mem_append_right _ (by rw[hg];simp[ht]))];exact hx
theorem jC_(σ:List Nat)(j:Nat):stF ops us fr0 (σ++[j])=putF (stF ops us fr0 σ) (dst? ops j) (val? us j):=by simp[stF]
theorem jB_(σ:List Nat)(j:Nat):stH us hp0 (σ++[j])=appB (stH us hp0 σ) (blk? us j):=by simp[stH]
theorem mh_{p q:Nat→Bool}:∀{l:List Nat} {j:Nat},j∈l→p j=true→q j=false→(∀x,q x=true→p x=true)→(l.filter q).length< (l.filter p).length
 |a::l,j,hj,hp,hq,h=>by
  have hle:(l.filter q).length≤(l.filter p).length:=by
   clear hj
   induction l with
   |nil=>simp
   |cons b l ih=>
    cases hqb:q b with
    |true=>rw[List.filter_cons_of_pos hqb,List.filter_cons_of_pos (h b hqb)];simpa using ih
    |false=>
     rw[List.filter_cons_of_neg (by simp[hqb])]
     cases hpb:p b with
     |true=>rw[List.filter_cons_of_pos hpb];simp;omega
     |false=>rw[List.filter_cons_of_neg (by simp[hpb])];exact ih
  rcases List.mem_cons.1 hj with rfl|hj
  rw[List.filter_cons_of_neg (by simp[hq]),List.filter_cons_of_pos hp];simp;omega
  have ih:=mh_ hj hp hq h
  cases hqa:q a with
  |true=>rw[List.filter_cons_of_pos hqa,List.filter_cons_of_pos (h a hqa)];simpa using ih
  |false=>
   rw[List.filter_cons_of_neg (by simp[hqa])]
   cases hpa:p a with
   |true=>rw[List.filter_cons_of_pos hpa];simp;omega
   |false=>rw[List.filter_cons_of_neg (by simp[hpa])];exact ih
structure AncOK (ops:Array Oper)(anc:Nat→Nat→Bool):Prop where
 back:∀j o,ops[j]?=some o→∀e∈o.after,Region.binds .any e=true→e.on< j
 ready:∀(σ:List Nat) j o,(∀a∈σ,∀b,anc b a=true→b∈σ)→ops[j]?=some o→(∀e∈o.after,Region.binds .any e=true→e.on∈σ)→∀b,anc b j=true→b∈σ
variable {P:Program}{M0:Nat→Prop}{w0:Base}{w:World}{nx n:Nat}{a:Act}{ρ:Option Nat}{Q:Exit→Act→World→Prop}{rid:Nat}
theorem FRel.free{fr:Nat→Option AV}{hp:Nat→Option ABlk}{f f':Nat→Prop}(h:FRel M0 w0 fr hp f n a w)(hf:∀i,f' i→f i):FRel M0 w0 fr hp f' n a w:=by
 obtain⟨β,h1,h2,h3,h4,h5⟩:=h
 exact⟨β,h1,h2,h3,fun i hi=>h4 i (hf i hi),h5⟩
theorem FRel.drew{fr:Nat→Option AV}{hp:Nat→Option ABlk}{f:Nat→Prop}(h:FRel M0 w0 fr hp f n a w):FRel M0 w0 fr hp f n a w.drew:=by
 obtain⟨β,h1,h2,h3,h4,h5⟩:=h
 have hm:=h1.ext ((Below.refl w.heap.size w).drew)
 exact⟨β,hm.1,h2,fun t x hx=>hm.2.all (h3 t x hx),h4,h5.stab hm.2⟩
theorem pm_ (hm:P.follows .mixedOrders=true) (hanc:AncOK ops anc) (hok:okOrd ops us anc=true)
    (hsteps:∀j o,ops[j]?=some o→∃u rd,us[j]?=some (u,rd)∧AStep P ops (nx+j) (stF ops us fr0 (List.range j)) (stH us hp0 (List.range j)) o u rd∧∀d,o.dst=some d→d< n)
    (hrel:FRel M0 w0 fr0 hp0 (fun i=>nx≤i) n a w)
    (hQ:∀a' w',FRel M0 w0 (stF ops us fr0 (List.range ops.size)) (stH us hp0 (List.range ops.size)) (fun i=>nx+ops.size≤i) n a' w'→Q .normal a' w'):
    (Code.region rid ops true).wpIn (FR ρ) 0 P Q a w:=by
 refine wpIn_region_any hm ?_
 have main:∀(fuel:Nat) (σ:List Nat) (listed:Array Bool) (a:Act) (w:World),Topo anc ops.size σ→σ.Nodup→listed.size=ops.size→(∀j,j< ops.size→(listed.getD j true=true↔j∈σ)∧(listed.getD j false=true↔j∈σ))→
     ((List.range ops.size).filter fun j=>!σ.contains j).length≤fuel→FRel M0 w0 (stF ops us fr0 σ) (stH us hp0 σ) (fun i=>nx≤i∧∀j∈σ,i≠nx+j) n a w→
     wpAnyIn (FR ρ) 0 P .any ops Q fuel listed a w:=by
  have fin:∀(σ:List Nat) (a:Act) (w:World),Topo anc ops.size σ→σ.Nodup→(∀j,j< ops.size→j∈σ)→FRel M0 w0 (stF ops us fr0 σ) (stH us hp0 σ) (fun i=>nx≤i∧∀j∈σ,i≠nx+j) n a w→Q .normal a w:=by
   intro σ a w ht nd hall hr
   refine hQ a w ?_
   have e1:stF ops us fr0 σ=stF ops us fr0 (List.range ops.size):=by
    funext t
    refine qi_ σ _ t (ht.filter nd (fun i hi _=>hall i hi) (fun i hi _ hiσ=>by have:=ht.lt i hiσ;omega) fun i k hik hk h1 h2=>n8_ hok hik hk (by simpa using h1) (by simpa using h2))
   have e2:stH us hp0 σ=stH us hp0 (List.range ops.size):=by
    funext t
    refine qh_ σ _ t (ht.filter nd (fun i hi _=>hall i hi) (fun i hi _ hiσ=>by have:=ht.lt i hiσ;omega) fun i k hik hk h1 h2=>n9_ hok hik hk (by simpa using h1) (by simpa using h2))
   rw[←e1,←e2]
   exact hr.free fun i hi=>⟨by omega,fun j hj=>by have:=ht.lt j hj;omega⟩
  have allIn:∀(σ:List Nat) (listed:Array Bool),(∀j,j< ops.size→(listed.getD j true=true↔j∈σ)∧(listed.getD j false=true↔j∈σ))→Region.ready .any ops listed=[]→∀j,j< ops.size→j∈σ:=by
   intro σ listed hl hr j
   induction j using Nat.strongRecOn with
   |_ j ih=>
    intro hj
    by_cases hjσ:j∈σ
    exact hjσ
    exfalso
    have hmem:j∈Region.ready .any ops listed:=by
     refine mem_ready.2 ⟨?_,ops[j],Array.getElem?_eq_getElem hj,fun e he hb=>?_⟩
     cases hh:listed.getD j true with
     |false=>rfl
     |true=>exact absurd ((hl j hj).1.1 hh) hjσ
     have hlt:=hanc.back j _ (Array.getElem?_eq_getElem hj) e he hb
     exact(hl e.on (by omega)).2.2 (ih e.on hlt (by omega))
    rw[hr] at hmem;cases hmem
  intro fuel
  induction fuel with
  |zero=>
   intro σ listed a w ht nd hsz hl hf hr
   have hall:∀j,j< ops.size→j∈σ:=by
    intro j hj
    by_cases hjσ:j∈σ
    exact hjσ
    exfalso
    have:j∈(List.range ops.size).filter fun j=>!σ.contains j:=List.mem_filter.2 ⟨List.mem_range.2 hj,by simpa using hjσ⟩
    rw[List.eq_nil_of_length_eq_zero (Nat.le_zero.1 hf)] at this;cases this
   refine⟨?_,fin σ a w ht nd hall hr⟩
   rw[List.eq_nil_iff_forall_not_mem]
   intro j hj
   obtain⟨h0,o,ho,_⟩:=mem_ready.1 hj
   have hlt:j< ops.size:=(Array.getElem?_eq_some_iff.1 ho).1
   rw[(hl j hlt).1.2 (hall j hlt)] at h0;cases h0
  |succ fuel ih=>
   intro σ listed a w ht nd hsz hl hf hr
   refine⟨fun h0=>fin σ a w ht nd (allIn σ listed hl h0) hr,fun j hj=>?_⟩
   obtain⟨h0,o,ho,hedges⟩:=mem_ready.1 hj
   have hlt:j< ops.size:=(Array.getElem?_eq_some_iff.1 ho).1
   have hjσ:j∉σ:=fun h=>by rw[(hl j hlt).1.2 h] at h0;cases h0
   have hready:∀i,anc i j=true→i∈σ:=hanc.ready σ j o ht.closed ho fun e he hb=>(hl e.on (by have:=hanc.back j o ho e he hb;omega)).2.1 (hedges e he hb)
   obtain⟨u,rd,hu,hstep,hdst⟩:=hsteps j o ho
   have hlk:lk? ops j=qX_ ops o:=by simp[lk?,ho]
   have hrd:rd? us j=rd:=by simp[rd?,hu]
   have hstep':AStep P ops (nx+j) (stF ops us fr0 σ) (stH us hp0 σ) o u rd:=hstep.congr
    (fun t htl=>agreeF hok ht nd hlt hjσ hready (fun i k t h1 h2 h3 h4=>n8_ hok h1 h2 h3 h4) (by rw[hlk];exact htl))
    (fun b hb=>agreeH hok ht nd hlt hjσ hready (fun i k b h1 h2 h3 h4=>n9_ hok h1 h2 h3 h4) (by rw[hrd];exact hb))
   have hd1:dst? ops j=o.dst:=by simp[dst?,ho]
   have hv1:val? us j=u.val:=by simp[val?,hu]
   have hb1:blk? us j=u.blk:=by simp[blk?,hu]
   have ht':Topo anc ops.size (σ++[j]):=by
    refine⟨fun x hx=>?_,List.pairwise_append.2 ⟨ht.pw,List.pairwise_singleton _ _,fun x hx y hy=>?_⟩,fun x hx b hb=>?_⟩
    rcases List.mem_append.1 hx with h|h
    exact ht.lt x h
    rw[List.mem_singleton.1 h];exact hlt
    rw[List.mem_singleton.1 hy]
    cases hh:anc j x with
    |false=>rfl
    |true=>exact absurd (ht.closed x hx j hh) hjσ
    rcases List.mem_append.1 hx with h|h
    exact List.mem_append_left _ (ht.closed x h b hb)
    rw[List.mem_singleton.1 h] at hb;exact List.mem_append_left _ (hready b hb)
   have nd':(σ++[j]).Nodup:=List.nodup_append.2 ⟨nd,by simp,fun x hx y hy e=>by rw[List.mem_singleton.1 hy] at e;exact hjσ (e▸hx)⟩
   have hl':∀i,i< ops.size→((listed.setIfInBounds j true).getD i true=true↔i∈σ++[j])∧((listed.setIfInBounds j true).getD i false=true↔i∈σ++[j]):=by
    intro i hi
    by_cases hij:j=i
    subst hij
    simp[Array.getD_eq_getD_getElem?,hsz,hlt]
    rw[getD_set_ne _ hij,getD_set_ne _ hij,List.mem_append,List.mem_singleton]
    have:=hl i hi
    exact⟨this.1.trans ⟨.inl,fun h=>h.resolve_right fun e=>hij e.symm⟩,this.2.trans ⟨.inl,fun h=>h.resolve_right fun e=>hij e.symm⟩⟩
   have hf':((List.range ops.size).filter fun i=>!(σ++[j]).contains i).length≤fuel:=by
    have:=mh_ (p:=fun i=>!σ.contains i) (q:=fun i=>!(σ++[j]).contains i) (List.mem_range.2 hlt) (by simpa using hjσ) (by simp) (fun x hx=>by simp at hx⊢;exact hx.1)
    omega
   unfold wpOpIn
   simp only[ho]
   refine hstep'.sim hr ⟨by omega,fun i hi e=>by have:j=i:=by omega
                                                 exact hjσ (this▸hi)⟩ hdst ?_
   intro a' w' hr'
   refine ih (σ++[j]) _ a' w' ht' nd' (by simpa using hsz) hl' hf' ?_
   rw[jC_,jB_,hd1,hv1,hb1]
   exact hr'.free fun i ⟨h1,h2⟩=>⟨⟨h1,fun k hk=>h2 k (List.mem_append_left _ hk)⟩,h2 j (by simp)⟩
 refine main ops.size [] _ a _ ⟨by simp,List.Pairwise.nil,by simp⟩ List.nodup_nil (by simp) ?_ ?_ ?_
 intro j hj;simp[Array.getD_eq_getD_getElem?,hj]
 exact Nat.le_trans (List.length_filter_le _ _) (by simp)
 exact(hrel.drew).free fun i hi=>hi.1
end
def restr(k:Nat)(β:Nat→Option (Nat×Nat)):Nat→Option (Nat×Nat):=fun i=>if i< k then β i else none
theorem pl_(β:Nat→Option (Nat×Nat)):restr 0 β=fun _=>none:=by funext i;simp[restr]
def Lo(k:Nat)(a:AV):Prop:=∀(M:Nat→Prop) β w y,RV M β w a y→RV M (restr k β) w a y
theorem Closed.lo{a:AV}(h:Closed a)(k:Nat):Lo k a:=fun M β w y hy=>
 StabC.all (β:=fun _=>none) (w:=w) (M:=M) (M':=M) ⟨fun _ _ _ _=>rfl,fun _ _ _ h=>h,(fun _ _ h=>by cases h),fun _ _ h=>h⟩ (h M β w y hy)
theorem Lo.closed{a:AV}(h:Lo 0 a):Closed a:=fun M β w y hy=>by have:=h M β w y hy;rwa[pl_] at this
section
variable {M:Nat→Prop}{β:Nat→Option (Nat×Nat)}{w:World}{k:Nat}
theorem nW_:∀{cs:List AV} {ys:List Value},(∀c∈cs,Lo k c)→RVs M β w cs ys→RVs M (restr k β) w cs ys
 |[],_,_,h=>h
 |c::_,_,hc,⟨x,xs,e,h1,h2⟩=>⟨x,xs,e,hc c (List.mem_cons_self ..) M β w x h1,nW_ (fun d hd=>hc d (List.mem_cons_of_mem _ hd)) h2⟩
theorem qs_{b:Nat}:∀{cs:List AV} {off:Nat},(∀c∈cs,Lo k c)→RVcs M β w b cs off→RVcs M (restr k β) w b cs off
 |[],_,_,_=>trivial
 |c::_,_,hc,⟨⟨x,h0,h1⟩,h2⟩=>⟨⟨x,h0,hc c (List.mem_cons_self ..) M β w x h1⟩,qs_ (fun d hd=>hc d (List.mem_cons_of_mem _ hd)) h2⟩
theorem kl_{b s:Nat}:∀{es:List (List AV)} {off:Nat},(∀e∈es,∀c∈e,Lo k c)→RVess M β w b s es off→RVess M (restr k β) w b s es off
 |[],_,_,_=>trivial
 |e::_,_,hc,⟨h0,h1,h2⟩=>⟨h0,qs_ (hc e (List.mem_cons_self ..)) h1,kl_ (fun d hd=>hc d (List.mem_cons_of_mem _ hd)) h2⟩
end
@[simp] theorem lo_v (k:Nat)(x:Value):Lo k (.v x):=fun _ _ _ _ h=>h
@[simp] theorem lo_any (k:Nat):Lo k .any:=fun _ _ _ _ h=>h
@[simp] theorem lo_emp (k:Nat):Lo k .emp:=fun _ _ _ _ h=>h
theorem lo_arr{k:Nat}{es:List (List AV)}(h:∀e∈es,∀c∈e,Lo k c):Lo k (.arr es):=by
 rintro M β w y ⟨a,c,rfl,h1,h2,h3⟩
 refine⟨a,c,rfl,h1,h2,h3.imp (fun h=>h) ?_⟩
 rintro⟨b,off,s,rfl,hb,hm,hr⟩
 exact⟨b,off,s,rfl,hb,hm,kl_ h hr⟩
theorem lo_aptr{k i o:Nat}{es:List (List AV)}(h:∀e∈es,∀c∈e,Lo k c):Lo k (.aptr es i o):=by
 rintro M β w y ⟨hi,b,off,s,rfl,hb,hm,hr⟩
 exact⟨hi,b,off,s,rfl,hb,hm,kl_ h hr⟩
theorem lo_agg{k:Nat}{cs:List AV}(h:∀c∈cs,Lo k c):Lo k (.agg cs):=by
 rintro M β w y ⟨xs,rfl,hr⟩;exact⟨xs,rfl,nW_ h hr⟩
theorem lo_clos{k f:Nat}{fst cap:List AV}(h1:∀c∈fst,Lo k c)(h2:∀c∈cap,Lo k c):Lo k (.clos f fst cap):=by
 rintro M β w y ⟨xs,ys,rfl,r1,r2⟩;exact⟨xs,ys,rfl,nW_ h1 r1,nW_ h2 r2⟩
structure Ren where
 n:Nat
 s:Nat→Nat
def Ren.id(k:Nat):Ren:=⟨k,fun i=>i⟩
def Ren.app(r:Ren)(hp':Nat→Option ABlk)(β:Nat→Option (Nat×Nat)):Nat→Option (Nat×Nat):=fun i=>if i< r.n∧(hp' i).isSome=true then β (r.s i) else none
theorem Ren.app_zero(hp':Nat→Option ABlk)(β:Nat→Option (Nat×Nat)):(Ren.id 0).app hp' β=fun _=>none:=by funext i;simp[Ren.app,Ren.id]
theorem Ren.app_some{r:Ren}{hp':Nat→Option ABlk}{i:Nat}{β:Nat→Option (Nat×Nat)}{x:Nat×Nat}(h:r.app hp' β i=some x):i< r.n∧β (r.s i)=some x:=by
 unfold Ren.app at h;split at h
 ·rename_i h0;exact⟨h0.1,h⟩
 cases h
theorem Ren.app_of{r:Ren}{hp':Nat→Option ABlk}{i:Nat}{β:Nat→Option (Nat×Nat)}(h:i< r.n)(hl:(hp' i).isSome=true):r.app hp' β i=β (r.s i):=by rw[Ren.app,if_pos ⟨h,hl⟩]
theorem Ren.app_live{r:Ren}{hp':Nat→Option ABlk}{i:Nat}{β:Nat→Option (Nat×Nat)}{x:Nat×Nat}(h:r.app hp' β i=some x):(hp' i).isSome=true:=by
 unfold Ren.app at h;split at h
 ·rename_i h0;exact h0.2
 cases h
structure Shr (r:Ren)(hp hp':Nat→Option ABlk):Prop where
 sub:∀i B,hp' i=some B→i< r.n∧∃B0,hp (r.s i)=some B0∧B0.ty=B.ty∧B0.sz=B.sz∧B0.es.length=B.es.length
def Cv(r:Ren)(hp hp':Nat→Option ABlk)(x0 x:AV):Prop:=∀(M0:Nat→Prop) w0 β w y,Mem M0 w0 β hp w→RV (MM M0 β hp) β w x0 y→RV (MM M0 (r.app hp' β) hp') (r.app hp' β) w x y
def CvL(r:Ren)(hp hp':Nat→Option ABlk):List AV→List AV→Prop
 |[],ys=>ys=[]
 |x::xs,ys=> ∃y ys',ys=y::ys'∧Cv r hp hp' x y∧CvL r hp hp' xs ys'
def CvLL(r:Ren)(hp hp':Nat→Option ABlk):List (List AV)→List (List AV)→Prop
 |[],ys=>ys=[]
 |x::xs,ys=> ∃y ys',ys=y::ys'∧CvL r hp hp' x y∧CvLL r hp hp' xs ys'
section
variable {r:Ren}{hp hp':Nat→Option ABlk}{M0:Nat→Prop}{w0:Base}{w:World}{β:Nat→Option (Nat×Nat)}
theorem Shr.mm(h:Shr r hp hp'){b:Nat}(hb:MM M0 (r.app hp' β) hp' b):MM M0 β hp b:=by
 rcases hb with hb|⟨i,B,s,h1,h2⟩
 exact .inl hb
 obtain⟨_,B0,h3,_⟩:=h.sub i B h1
 exact .inr ⟨r.s i,B0,s,h3,(Ren.app_some h2).2⟩
theorem ak_{x:AV}(h:Shr r hp hp')(hl:Closed x):Cv r hp hp' x x:=fun M0 _ β w y _ hy=>
 StabC.all (β:=fun _=>none) (w:=w) (w':=w) ⟨fun _ _ _ _=>rfl,fun _ _ _ hm=>h.mm hm,(fun _ _ h=>by cases h),fun _ _ h=>h⟩ (hl (MM M0 β hp) β w y hy)
theorem Cv.loE{x x':AV}(h:Shr r hp hp')(e:x=x')(hl:Closed x):Cv r hp hp' x x':=e▸ak_ h hl
theorem Cv.ptr{id id' i o:Nat}(hi:Nat.blt id' r.n=true)(hs:r.s id'=id)(hl:(hp' id').isSome=true):Cv r hp hp' (.lptr id i o) (.lptr id' i o):=by
 rintro M0 w0 β w y _ ⟨b,s,hb,rfl⟩
 exact⟨b,s,by rw[Ren.app_of (Nat.le_of_ble_eq_true hi) hl,hs];exact hb,rfl⟩
theorem Cv.sl{id id' i n sz:Nat}{cap:Option Nat}(hi:Nat.blt id' r.n=true)(hs:r.s id'=id)(hl:(hp' id').isSome=true):Cv r hp hp' (.lsl id i n cap sz) (.lsl id' i n cap sz):=by
 rintro M0 w0 β w y _ ⟨b,c,hb,hr⟩
 exact⟨b,c,by rw[Ren.app_of (Nat.le_of_ble_eq_true hi) hl,hs];exact hb,hr⟩
theorem CvL.rvs(mem:Mem M0 w0 β hp w):∀{xs ys:List AV} {vs:List Value},CvL r hp hp' xs ys→RVs (MM M0 β hp) β w xs vs→RVs (MM M0 (r.app hp' β) hp') (r.app hp' β) w ys vs
 |[],ys,vs,h,hr=>by cases (h:ys=[]);exact hr
 |x::xs,ys,vs,⟨y,ys',e,h1,h2⟩,⟨v,vs',e',r1,r2⟩=>by subst e;exact⟨v,vs',e',h1 M0 w0 β w v mem r1,CvL.rvs mem h2 r2⟩
theorem CvL.rvcs{b:Nat}(mem:Mem M0 w0 β hp w):∀{xs ys:List AV} {off:Nat},CvL r hp hp' xs ys→RVcs (MM M0 β hp) β w b xs off→RVcs (MM M0 (r.app hp' β) hp') (r.app hp' β) w b ys off
 |[],ys,off,h,hr=>by cases (h:ys=[]);exact hr
 |x::xs,ys,off,⟨y,ys',e,h1,h2⟩,⟨⟨v,e',r1⟩,r2⟩=>by subst e;exact⟨⟨v,e',h1 M0 w0 β w v mem r1⟩,CvL.rvcs mem h2 r2⟩
theorem CvL.length:∀{xs ys:List AV},CvL r hp hp' xs ys→ys.length=xs.length
 |[],ys,h=>by cases (h:ys=[]);rfl
 |x::xs,ys,⟨y,ys',e,_,h2⟩=>by subst e;simp[CvL.length h2]
theorem CvLL.kv(mem:Mem M0 w0 β hp w):∀{xs ys:List (List AV)} {ens:List MapEntry},CvLL r hp hp' xs ys→RVkv (MM M0 β hp) β w xs ens→RVkv (MM M0 (r.app hp' β) hp') (r.app hp' β) w ys ens
 |[],ys,_,h,hr=>by cases (h:ys=[]);exact hr
 |x::xs,ys,_,⟨y,ys',e,h1,h2⟩,⟨en,es',e2,r1,r2⟩=>by subst e;exact⟨en,es',e2,h1.rvs mem r1,CvLL.kv mem h2 r2⟩
theorem CvLL.length:∀{xs ys:List (List AV)},CvLL r hp hp' xs ys→ys.length=xs.length
 |[],ys,h=>by cases (h:ys=[]);rfl
 |x::xs,ys,⟨y,ys',e,_,h2⟩=>by subst e;simp[CvLL.length h2]
theorem CvLL.rvess{b s:Nat}(mem:Mem M0 w0 β hp w):∀{xs ys:List (List AV)} {off:Nat},CvLL r hp hp' xs ys→RVess (MM M0 β hp) β w b s xs off→RVess (MM M0 (r.app hp' β) hp') (r.app hp' β) w b s ys off
 |[],ys,off,h,hr=>by cases (h:ys=[]);exact hr
 |x::xs,ys,off,⟨y,ys',e,h1,h2⟩,⟨r0,r1,r2⟩=>by subst e;exact⟨h1.length.trans r0,h1.rvcs mem r1,CvLL.rvess mem h2 r2⟩
theorem Cv.agg{xs ys:List AV}(h:CvL r hp hp' xs ys):Cv r hp hp' (.agg xs) (.agg ys):=by
 rintro M0 w0 β w y mem ⟨vs,rfl,hr⟩;exact⟨vs,rfl,h.rvs mem hr⟩
theorem Cv.tup{xs ys:List AV}(h:CvL r hp hp' xs ys):Cv r hp hp' (.tup xs) (.tup ys):=by
 rintro M0 w0 β w y mem ⟨vs,rfl,hr⟩;exact⟨vs,rfl,h.rvs mem hr⟩
theorem Cv.clos{f:Nat}{xs ys xs' ys':List AV}(h1:CvL r hp hp' xs ys)(h2:CvL r hp hp' xs' ys'):Cv r hp hp' (.clos f xs xs') (.clos f ys ys'):=by
 rintro M0 w0 β w y mem ⟨vs,us,rfl,r1,r2⟩;exact⟨vs,us,rfl,h1.rvs mem r1,h2.rvs mem r2⟩
theorem Cv.emp(x:AV)(hx:x= .arr []:=by rfl):Cv r hp hp' .emp x:=by
 subst hx;rintro M0 w0 β w y mem h;exact nX_ h
theorem Cv.any(x:AV):Cv r hp hp' x .any:=fun _ _ _ _ _ _ _=>trivial
theorem Cv.trans_eq{x y z:AV}(h:Cv r hp hp' x y)(e:y=z):Cv r hp hp' x z:=e▸h
theorem CvLL.drop:∀{xs ys:List (List AV)} (n:Nat),CvLL r hp hp' xs ys→CvLL r hp hp' (xs.drop n) (ys.drop n)
 |_,_,0,h=>h
 |[],ys,n+1,h=>by cases (h:ys=[]);exact rfl
 |x::xs,ys,n+1,⟨y,ys',e,_,h2⟩=>by subst e;exact CvLL.drop n h2
def Dead(r:Ren)(hp':Nat→Option ABlk)(i:Nat):Prop:=∀j B,hp' j=some B→r.s j≠i
theorem jG_{i:Nat}{B:ABlk}{b s:Nat}(mem:Mem M0 w0 β hp w)(h:Shr r hp hp')(hi:hp i=some B)(hi':Dead r hp' i)(hb:β i=some (b,s)):¬MM M0 (r.app hp' β) hp' b:=by
 rintro(hm|⟨j,B',s',h1,h2⟩)
 exact(mem.rng i b s hb).1 (mem.m0 b hm).1
 obtain⟨_,B0,h3,_⟩:=h.sub j B' h1
 exact hi' j B' h1 (mem.inj i (r.s j) B B0 b s s' hi h3 hb (Ren.app_some h2).2).symm
theorem Cv.shut{id i n sz:Nat}{cap:Option Nat}{B:ABlk}{es:List (List AV)}(h:Shr r hp hp')(hi:cellF hp id=some B)(hi':Dead r hp' id)(hn:i+n≤B.es.length)(hc:CvLL r hp hp' ((B.es.drop i).take n) es):
    Cv r hp hp' (.lsl id i n cap sz) (.arr es):=by
 rintro M0 w0 β w y mem ⟨b,c,hb,rfl,hnc,hcm,_,_⟩
 obtain⟨b',cs,hb',hh,hr,_⟩:=mem.cellsF hi
 rw[hb] at hb';cases hb'
 have hl:es.length=n:=by rw[hc.length];simp;omega
 refine⟨_,c,by rw[hl],by omega,hcm,.inr ⟨b,0+i* B.sz,B.sz,by simp,⟨cs.size,by simp[aN_,hh]⟩,jG_ mem h (bV_ hi).1 hi' hb,?_⟩⟩
 exact hc.rvess mem ((hr.drop i).take n)
theorem Cv.sealp{id i o:Nat}{B:ABlk}{es:List (List AV)}(h:Shr r hp hp')(hi:cellF hp id=some B)(hi':Dead r hp' id)(hn:i< B.es.length)(hc:CvLL r hp hp' B.es es):
    Cv r hp hp' (.lptr id i o) (.aptr es i o):=by
 rintro M0 w0 β w y mem ⟨b,s,hb,rfl⟩
 obtain⟨b',cs,hb',hh,hr,_⟩:=mem.cellsF hi
 rw[hb] at hb';cases hb'
 exact⟨by rw[hc.length];exact hn,b,0,B.sz,by simp,⟨cs.size,by simp[aN_,hh]⟩,jG_ mem h (bV_ hi).1 hi' hb,hc.rvess mem hr⟩
theorem CvL.clo:∀{xs:List AV},Shr r hp hp'→(∀c∈xs,Closed c)→CvL r hp hp' xs xs
 |[],_,_=>rfl
 |x::_,h,hl=>⟨x,_,rfl,ak_ h (hl x (List.mem_cons_self ..)),CvL.clo h fun c hc=>hl c (List.mem_cons_of_mem _ hc)⟩
theorem aH_:∀{xs:List (List AV)},Shr r hp hp'→(∀e∈xs,∀c∈e,Closed c)→CvLL r hp hp' xs xs
 |[],_,_=>rfl
 |x::_,h,hl=>⟨x,_,rfl,CvL.clo h (hl x (List.mem_cons_self ..)),aH_ h fun c hc=>hl c (List.mem_cons_of_mem _ hc)⟩
theorem aD_{xs ys:List (List AV)}(h:Shr r hp hp')(e:xs=ys)(hc:∀e∈ys,∀c∈e,Closed c):CvLL r hp hp' xs ys:=by subst e;exact aH_ h hc
end
def SEnt(st st':AState):Prop:=∀M0 w0 a w,ARel M0 w0 st a w→ARel M0 w0 st' a w
theorem SEnt.refl(st:AState):SEnt st st:=fun _ _ _ _ h=>h
theorem SEnt.trans{a b c:AState}(h:SEnt a b)(h':SEnt b c):SEnt a c:=fun M0 w0 x w hr=>h' M0 w0 x w (h M0 w0 x w hr)
def CvF(r:Ren)(hp hp':Nat→Option ABlk)(fr:List (Nat×AV)):List (Nat×AV)→Prop
 |[]=>True
 |(t,x)::l=>(∃x0,look fr t=some x0∧Cv r hp hp' x0 x)∧CvF r hp hp' fr l
def CvH(r:Ren)(hp hp':Nat→Option ABlk):List (Nat×Option ABlk)→Prop
 |[]=>True
 |(i,x)::l=>(match x with|none=>True|some B=>i< r.n∧∃B0,hp (r.s i)=some B0∧B0.ty=B.ty∧B0.sz=B.sz∧CvLL r hp hp' B0.es B.es)∧CvH r hp hp' l
theorem CvF.look{r:Ren}{hp hp':Nat→Option ABlk}{fr:List (Nat×AV)}:∀{l:List (Nat×AV)} {t:Nat} {x:AV},CvF r hp hp' fr l→look l t=some x→∃x0,look fr t=some x0∧Cv r hp hp' x0 x
 |[],_,_,_,h=>by cases h
 |(s,y)::l,t,x,⟨h1,h2⟩,h=>by
  rw[b8_] at h
  unfold upd at h
  split at h
  ·rename_i e;subst e;cases h;exact h1
  exact CvF.look h2 h
theorem CvH.look{r:Ren}{hp hp':Nat→Option ABlk}:∀{l:List (Nat×Option ABlk)} {i:Nat} {B:ABlk},CvH r hp hp' l→lookB l i=some B→i< r.n∧∃B0,hp (r.s i)=some B0∧B0.ty=B.ty∧B0.sz=B.sz∧CvLL r hp hp' B0.es B.es
 |[],_,_,_,h=>by cases h
 |(s,y)::l,i,B,⟨h1,h2⟩,h=>by
  rw[b3_] at h
  unfold upd at h
  split at h
  ·rename_i e;subst e;subst h;exact h1
  exact CvH.look h2 h
def ShrL(r:Ren)(hp:Nat→Option ABlk):List (Nat×Option ABlk)→Prop
 |[]=>True
 |(i,x)::l=>(match x with|none=>True|some B=>i< r.n∧∃B0,hp (r.s i)=some B0∧B0.ty=B.ty∧B0.sz=B.sz∧B0.es.length=B.es.length)∧ShrL r hp l
theorem ShrL.shr{r:Ren}{hp:Nat→Option ABlk}:∀{l:List (Nat×Option ABlk)},ShrL r hp l→Shr r hp (lookB l)
 |[],_=>⟨fun i B h=>by cases h⟩
 |(s,y)::l,⟨h1,h2⟩=>⟨fun i B h=>by
  rw[b3_] at h
  unfold upd at h
  split at h
  ·rename_i e;subst e;subst h;exact h1
  exact(ShrL.shr h2).sub i B h⟩
theorem em_:∀{l:List (Nat×Option ABlk)} {i:Nat} {B:ABlk},lookB l i=some B→(i,some B)∈l
 |[],_,_,h=>by cases h
 |(s,y)::l,i,B,h=>by
  rw[b3_] at h
  unfold upd at h
  split at h
  ·rename_i e;subst e;subst h;exact List.mem_cons_self ..
  exact List.mem_cons_of_mem _ (em_ h)
def injL(r:Ren):List Nat→Bool
 |[]=>true
 |i::l=>l.all (fun j=>!Nat.beq (r.s i) (r.s j)||Nat.beq i j) && injL r l
theorem lQ_{r:Ren}:∀{l:List Nat},injL r l=true→∀i j,i∈l→j∈l→r.s i=r.s j→i=j
 |[],_,i,_,h,_,_=>by cases h
 |a::l,hh,i,j,hi,hj,e=>by
  simp only[injL,Bool.and_eq_true,List.all_eq_true] at hh
  have key:∀k∈l,r.s a=r.s k→a=k:=fun k hk e=>by
   have:=hh.1 k hk
   rw[e,Nat.beq_refl] at this
   exact Nat.eq_of_beq_eq_true (by simpa using this)
  rcases List.mem_cons.1 hi with h1|h1 <;> rcases List.mem_cons.1 hj with h2|h2
  rw[h1,h2]
  rw[h1] at e⊢;exact key j h2 e
  rw[h2] at e⊢;exact(key i h1 e.symm).symm
  exact lQ_ hh.2 i j h1 h2 e
theorem aM_{r:Ren}{l:List (Nat×Option ABlk)}{i:Nat}(h:(l.all fun p=>!Nat.beq (r.s p.1) i)=true):Dead r (lookB l) i:=fun j B hj e=>by
 have:=List.all_eq_true.1 h _ (em_ hj)
 rw[e,Nat.beq_refl] at this
 cases this
def TRel(M0:Nat→Prop)(w0:Base)(st:AState)(a:Act)(w:World):Prop:=
 ∃β,Mem M0 w0 β (lookB st.hp) w∧a.tmps.size=st.n∧(∀t x,look st.fr t=some x→RV (MM M0 β (lookB st.hp)) β w x (slot w0 a t))∧(∀i,st.nx≤i→β i=none∧i≠0)∧DefOK a.defers w0 w∧∀i x,β i=some x→(lookB st.hp i).isSome=true
theorem TRel.arel{M0:Nat→Prop}{w0:Base}{st:AState}{a:Act}{w:World}(h:TRel M0 w0 st a w):ARel M0 w0 st a w:=by
 obtain⟨β,h1,h2,h3,h4,h5,_⟩:=h;exact⟨β,h1,h2,h3,h4,h5⟩
def SEntT(st st':AState):Prop:=∀M0 w0 a w,ARel M0 w0 st a w→TRel M0 w0 st' a w
theorem SEntT.ent{st st':AState}(h:SEntT st st'):SEnt st st':=fun M0 w0 a w hr=>(h M0 w0 a w hr).arel
theorem SEntT.intro{st st':AState}(r:Ren)(hr:r.n=st'.nx)(hk:0< st'.nx)(h0:r.s 0=0)(hinj:injL r (st'.hp.map (·.1))=true)(hn:st'.n=st.n)(hF:CvF r (lookB st.hp) (lookB st'.hp) st.fr st'.fr)(hH:CvH r (lookB st.hp) (lookB st'.hp) st'.hp):SEntT st st':=by
 rintro M0 w0 a w ⟨β,mem,h1,h2,h3,h4⟩
 refine⟨r.app (lookB st'.hp) β,⟨mem.below,mem.m0,fun i b s hi=>mem.rng _ b s (Ren.app_some hi).2,fun hz=>?_,fun i B hi=>?_,fun i j B B' b s s' h1 h2 h3 h4=>?_⟩,h1.trans hn.symm,fun t x hx=>?_,fun i hi=>?_,h4,fun i x hi=>Ren.app_live hi⟩
 rw[Ren.app_of (by omega) hz,h0]
 obtain⟨B,hB⟩:=Option.isSome_iff_exists.1 hz
 obtain⟨_,B0,e1,_⟩:=hH.look hB
 rw[h0] at e1
 exact mem.pin (by rw[e1];rfl)
 obtain⟨hik,B0,e1,e2,e3,e4⟩:=hH.look hi
 obtain⟨b,r1,r2⟩:=mem.blk _ B0 e1
 refine⟨b,by rw[Ren.app_of hik (by rw[hi];rfl),←e3];exact r1,?_⟩
 rcases r2 with⟨hz,cs,r2,r3,r4⟩|⟨hz,ens,ck,r2,r3⟩
 refine .inl ⟨by rw[←e3];exact hz,cs,by rw[←e2];exact r2,?_,by rw[e4.length,←e3];exact r4⟩
 rw[←e3];exact e4.rvess mem r3
 exact .inr ⟨by rw[←e3];exact hz,ens,ck,r2,e4.kv mem r3⟩
 obtain⟨_,B0,e1,_⟩:=hH.look h1
 obtain⟨_,B0',e1',_⟩:=hH.look h2
 have:=mem.inj _ _ B0 B0' b s s' e1 e1' (Ren.app_some h3).2 (Ren.app_some h4).2
 exact lQ_ hinj i j (List.mem_map_of_mem (em_ h1)) (List.mem_map_of_mem (em_ h2)) this
 obtain⟨x0,e1,e2⟩:=hF.look hx
 exact e2 M0 w0 β w _ mem (h2 t x0 e1)
 have hle:st'.nx≤i:=hi
 refine⟨?_,by omega⟩
 simp only[Ren.app];rw[if_neg (fun hh=>by have:=hh.1;omega)]
theorem SEnt.intro{st st':AState}(r:Ren)(hr:r.n=st'.nx)(hk:0< st'.nx)(h0:r.s 0=0)(hinj:injL r (st'.hp.map (·.1))=true)(hn:st'.n=st.n)(hF:CvF r (lookB st.hp) (lookB st'.hp) st.fr st'.fr)(hH:CvH r (lookB st.hp) (lookB st'.hp) st'.hp):SEnt st st':=
 (SEntT.intro r hr hk h0 hinj hn hF hH).ent
def AWp(ρ:Option Nat)(P:Program)(c:Code)(Q:Exit→AState→Prop)(st:AState):Prop:=
 ∀M0 w0 a w,ARel M0 w0 st a w→c.wpIn (FR ρ) 0 P (fun e a' w'=> ∃st',ARel M0 w0 st' a' w'∧Q e st') a w
section
variable {ρ:Option Nat}{P:Program}{Q:Exit→AState→Prop}{st:AState}
theorem AWp.ent{c:Code}{st':AState}(h:SEnt st st')(hc:AWp ρ P c Q st'):AWp ρ P c Q st:=fun M0 w0 a w hr=>hc M0 w0 a w (h M0 w0 a w hr)
theorem AWp.mono{c:Code}{Q':Exit→AState→Prop}(h:AWp ρ P c Q st)(hq:∀e s,Q e s→Q' e s):AWp ρ P c Q' st:=fun M0 w0 a w hr=>
 wpIn_mono (h M0 w0 a w hr) fun e _ _ ⟨s,h1,h2⟩=>⟨s,h1,hq e s h2⟩
theorem ah_(h:Q .normal st):AWp ρ P .skip Q st:=fun _ _ _ _ hr=>wpIn_skip ⟨st,hr,h⟩
theorem aj_(h:Q .ret st):AWp ρ P .ret Q st:=fun _ _ _ _ hr=>wpIn_ret ⟨st,hr,h⟩
theorem av_{id:Nat}(h:Q (.exit id) st):AWp ρ P (.exit id) Q st:=fun _ _ _ _ hr=>wpIn_exit ⟨st,hr,h⟩
def thenA(next:AState→Prop)(Q:Exit→AState→Prop):Exit→AState→Prop
 | .normal,s=>next s
 |e,s=>Q e s
theorem ac_{x y:Code}(h:AWp ρ P x (thenA (AWp ρ P y Q) Q) st):AWp ρ P (.seq x y) Q st:=fun M0 w0 a w hr=>
 wpIn_seq (wpIn_mono (h M0 w0 a w hr) fun e a' w' ⟨s,h1,h2⟩=>by
  cases e with
  |normal=>exact h2 M0 w0 a' w' h1
  |_=>exact⟨s,h1,h2⟩)
theorem am_{c:Operand}{x y:Code}{t:Bool}(hc:st.ev c=some (.v (.bool t)))(h1:t=true→AWp ρ P x Q st)(h2:t=false→AWp ρ P y Q st):AWp ρ P (.cond c x y) Q st:=by
 rintro M0 w0 a w hr
 have hv:a.eval c= .bool t:=by
  obtain⟨β,mem,_,hf,_⟩:=hr
  exact hK_ hf c _ hc
 exact wpIn_cond_split hv (fun e=>h1 e M0 w0 a w hr) (fun e=>h2 e M0 w0 a w hr)
def o0_(id:Nat)(Q:Exit→AState→Prop):Exit→AState→Prop
 | .exit id',s=>if Nat.beq id' id then Q .normal s else Q (.exit id') s
 |e,s=>Q e s
theorem ag_{id:Nat}{c:Code}(h:AWp ρ P c (o0_ id Q) st):AWp ρ P (.block id c) Q st:=fun M0 w0 a w hr=>
 wpIn_block (wpIn_mono (h M0 w0 a w hr) fun e a' w' ⟨s,h1,h2⟩=>by
  cases e with
  |exit id'=>
   simp only[Exit.inBlock]
   simp only[o0_] at h2
   by_cases hi:id'=id
   subst hi;simp only[if_true];rw[Nat.beq_refl,if_pos rfl] at h2;exact⟨s,h1,h2⟩
   rw[if_neg hi]
   rw[if_neg (fun hb=>hi (Nat.eq_of_beq_eq_true hb))] at h2
   exact⟨s,h1,h2⟩
  |_=>exact⟨s,h1,h2⟩)
theorem least{p:Nat→Prop}(h:∃n,p n):∃n,p n∧∀m,p m→n≤m:=by
 obtain⟨n,hn⟩:=h
 induction n using Nat.strongRecOn with
 |_ n ih=>
  by_cases hm:∃m,m< n∧p m
  obtain⟨m,h1,h2⟩:=hm;exact ih m h1 h2
  exact⟨n,hn,fun m h=>Nat.le_of_not_lt fun hlt=>hm ⟨m,hlt,h⟩⟩
theorem AWp.loop{c:Code}(I:Nat→AState→Prop){m:Nat}(h0:I m st)(round:∀n s,I n s→AWp ρ P c (thenA (fun s'=> ∃n',n'< n∧I n' s') Q) s):AWp ρ P (.loop c) Q st:=by
 rintro M0 w0 a w hr
 let R:Nat→Act→World→Prop:=fun n a w=> ∃s,ARel M0 w0 s a w∧I n s
 have hR:∃f:Act→World→Nat,∀a w,(∃n,R n a w)→R (f a w) a w∧∀n,R n a w→f a w≤n:=by
  have hx:∀p:Act×World,∃n,(∃n,R n p.1 p.2)→R n p.1 p.2∧∀m,R m p.1 p.2→n≤m:=by
   intro p
   by_cases h:∃n,R n p.1 p.2
   obtain⟨n,h1,h2⟩:=least h;exact⟨n,fun _=>⟨h1,h2⟩⟩
   exact⟨0,fun h'=>absurd h' h⟩
  exact⟨fun a w=>Classical.choose (hx (a,w)),fun a w=>Classical.choose_spec (hx (a,w))⟩
 obtain⟨f,hf⟩:=hR
 refine wpIn_loop (fun a w=> ∃n,R n a w) f ⟨m,st,hr,h0⟩ fun a w hn=>?_
 obtain⟨⟨s,hs,hI⟩,_⟩:=hf a w hn
 refine wpIn_mono (round _ s hI M0 w0 a w hs) fun e a' w' ⟨s',h1,h2⟩=>?_
 cases e with
 |normal=>
  obtain⟨n',hlt,hI'⟩:=h2
  refine⟨⟨n',s',h1,hI'⟩,Nat.lt_of_le_of_lt ((hf a' w' ⟨n',s',h1,hI'⟩).2 n' ⟨s',h1,hI'⟩) hlt⟩
 |_=>exact⟨s',h1,h2⟩
end
def gc_(P:Program)(ops:Array Oper)(nx:Nat):Nat→List Oper→AState→List (Upd×List Nat)→AState→Prop
 |_,[],st,us,st'=>us=[]∧st'=st
 |j,o::rest,st,us,st'=> ∃u rd us',us=(u,rd)::us'∧AStep P ops (nx+j) (look st.fr) (lookB st.hp) o u rd∧(∀d,o.dst=some d→d< st.n)∧gc_ P ops nx (j+1) rest (st.step o.dst u) us' st'
def fp(u:Upd×List Nat):List Nat×List Nat:=(u.1.blk.map (·.1),u.2)
def AReg(P:Program)(ops:Array Oper)(nx:Nat)(j:Nat)(rest:List Oper)(st:AState)(K:List (List Nat×List Nat)→AState→Prop):Prop:=
 ∃us st',gc_ P ops nx j rest st us st'∧K (us.map fp) st'
def ancOf(ops:Array Oper)(i j:Nat):Bool:=((Region.before ops).getD j 0).testBit i
def backB(ops:Array Oper):Bool:=ops.toList.zipIdx.all fun(o,j)=>o.after.toList.all fun e=>!Region.binds .any e||Nat.blt e.on j
def okReg(ops:Array Oper)(fps:List (List Nat×List Nat)):Bool:=
 backB ops && (let B:=(Region.before ops).toList
  (List.range ops.size).all fun j=>let bj:=B.getD j 0
   (List.range j).all fun i=>bj.testBit i||
    free2 (dst? ops i) (dst? ops j) (lk? ops i) (lk? ops j) ((fps.getD i ([],[])).1) ((fps.getD i ([],[])).2) ((fps.getD j ([],[])).1) ((fps.getD j ([],[])).2))
theorem qH_{ops:Array Oper}{us:List (Upd×List Nat)}(h:okReg ops (us.map fp)=true):okOrd ops us (ancOf ops)=true:=by
 unfold okReg at h
 simp only[Bool.and_eq_true] at h
 have h2:=h.2
 unfold okOrd
 rw[List.all_eq_true] at h2⊢
 intro j hj
 have h3:=h2 j hj
 rw[List.all_eq_true] at h3⊢
 intro i hi
 have h4:=h3 i hi
 have e:∀k,(us.map fp).getD k ([],[])=(wk? us k,rd? us k):=by
  intro k
  simp only[List.getD_eq_getElem?_getD,List.getElem?_map,wk?,blk?,rd?]
  cases us[k]? <;> rfl
 rw[e i,e j] at h4
 have e2:((Region.before ops).toList.getD j 0)=(Region.before ops).getD j 0:=by simp[Array.getD_eq_getD_getElem?,List.getD_eq_getElem?_getD]
 rw[e2] at h4
 exact h4
theorem nH_(ops:List Oper)(acc:Array Nat)(f:Array Nat→Oper→Nat):(ops.foldl (fun acc o=>acc.push (f acc o)) acc).size=acc.size+ops.length:=by
 induction ops generalizing acc with
 |nil=>simp
 |cons o ops ih=>rw[List.foldl_cons,ih];simp;omega
theorem jl_(ops:List Oper)(acc:Array Nat)(f:Array Nat→Oper→Nat)(j:Nat)(hj:j< acc.size):(ops.foldl (fun acc o=>acc.push (f acc o)) acc)[j]?=acc[j]?:=by
 induction ops generalizing acc with
 |nil=>rfl
 |cons o ops ih=>rw[List.foldl_cons,ih _ (by simp;omega),Array.getElem?_push,if_neg (by omega)]
theorem pT_(ops:List Oper)(f:Array Nat→Oper→Nat)(j:Nat)(o:Oper)(ho:ops[j]?=some o):
    ∃acc:Array Nat,acc.size=j∧(∀k,k< j→(ops.foldl (fun acc o=>acc.push (f acc o)) #[])[k]?=acc[k]?)∧(ops.foldl (fun acc o=>acc.push (f acc o)) #[])[j]?=some (f acc o):=by
 have hlt:j< ops.length:=(List.getElem?_eq_some_iff.1 ho).1
 have hsplit:ops=ops.take j++o::ops.drop (j+1):=by
  rw[←(List.getElem?_eq_some_iff.1 ho).2,←List.drop_eq_getElem_cons hlt,List.take_append_drop]
 have hs:=nH_ (ops.take j) #[] f
 simp only[List.length_take,Nat.min_eq_left (Nat.le_of_lt hlt),List.size_toArray,List.length_nil,Nat.zero_add] at hs
 refine⟨(ops.take j).foldl (fun acc o=>acc.push (f acc o)) #[],hs,fun k hk=>?_,?_⟩
 conv=>lhs;rw[hsplit]
 rw[List.foldl_append]
 exact jl_ _ _ f k (by omega)
 conv=>lhs;rw[hsplit]
 rw[List.foldl_append,List.foldl_cons,jl_ _ _ f j (by simp[hs])]
 rw[Array.getElem?_push,if_pos hs.symm]
theorem pR_(acc:Array Nat)(es:List Edge)(s b:Nat)(h:(es.foldl (fun s e=>if Region.binds .any e then s|||2^ e.on|||acc.getD e.on 0 else s) s).testBit b=true):
    s.testBit b=true∨∃e∈es,Region.binds .any e=true∧(b=e.on∨(acc.getD e.on 0).testBit b=true):=by
 induction es generalizing s with
 |nil=>exact .inl h
 |cons e es ih=>
  rw[List.foldl_cons] at h
  rcases ih _ h with h1|⟨e',h1,h2⟩
  by_cases hb:Region.binds .any e=true
  rw[if_pos hb,Nat.testBit_or,Nat.testBit_or,Bool.or_eq_true,Bool.or_eq_true] at h1
  rcases h1 with(h1|h1)|h1
  exact .inl h1
  rw[Nat.testBit_two_pow] at h1
  exact .inr ⟨e,List.mem_cons_self ..,hb,.inl (by simpa using(by simpa using h1:e.on=b).symm)⟩
  exact .inr ⟨e,List.mem_cons_self ..,hb,.inr h1⟩
  rw[if_neg hb] at h1;exact .inl h1
  exact .inr ⟨e',List.mem_cons_of_mem _ h1,h2⟩
theorem ancOK{ops:Array Oper}(h:backB ops=true):AncOK ops (ancOf ops):=by
 have back:∀j o,ops[j]?=some o→∀e∈o.after,Region.binds .any e=true→e.on< j:=by
  intro j o ho e he hb
  unfold backB at h
  rw[List.all_eq_true] at h
  have hm:(o,j)∈ops.toList.zipIdx:=by
   rw[List.mem_zipIdx_iff_getElem?];simpa using ho
  have:=h (o,j) hm
  simp only[List.all_eq_true,Bool.or_eq_true,Bool.not_eq_true'] at this
  rcases this e (Array.mem_toList_iff.2 he) with h1|h1
  rw[hb] at h1;cases h1
  exact Nat.le_of_ble_eq_true h1
 refine⟨back,fun σ j o hc ho he b hb=>?_⟩
 have hlo:ops.toList[j]?=some o:=by simpa using ho
 obtain⟨acc,hs,h1,h2⟩:=pT_ ops.toList (fun acc o=>o.after.foldl (fun s e=>if Region.binds .any e then s|||2^ e.on|||acc.getD e.on 0 else s) 0) j o hlo
 have hbef:Region.before ops=ops.toList.foldl (fun acc o=>acc.push (o.after.foldl (fun s e=>if Region.binds .any e then s|||2^ e.on|||acc.getD e.on 0 else s) 0)) #[]:=by
  rw[Region.before,Array.foldl_toList]
 unfold ancOf at hb
 rw[hbef,Array.getD_eq_getD_getElem?,h2,Option.getD_some,←Array.foldl_toList] at hb
 rcases pR_ acc _ 0 b hb with h3|⟨e,h3,h4,h5⟩
 simp at h3
 have hmem:=Array.mem_toList_iff.1 h3
 have hon:=he e hmem h4
 rcases h5 with rfl|h5
 exact hon
 refine hc e.on hon b ?_
 have hlt:=back j o ho e hmem h4
 unfold ancOf
 rw[hbef,Array.getD_eq_getD_getElem?,h1 e.on hlt,←Array.getD_eq_getD_getElem?]
 exact h5
theorem cR_{P:Program}{ops:Array Oper}{nx:Nat}:∀(rest:List Oper) (j:Nat) (st st':AState) (us us0:List (Upd×List Nat)) (fr0:Nat→Option AV) (hp0:Nat→Option ABlk),
    gc_ P ops nx j rest st us st'→us0.length=j→(∀i o,rest[i]?=some o→ops[j+i]?=some o)→look st.fr=stF ops (us0++us) fr0 (List.range j)→lookB st.hp=stH (us0++us) hp0 (List.range j)→
    (∀i o,rest[i]?=some o→∃u rd,(us0++us)[j+i]?=some (u,rd)∧AStep P ops (nx+(j+i)) (stF ops (us0++us) fr0 (List.range (j+i))) (stH (us0++us) hp0 (List.range (j+i))) o u rd∧∀d,o.dst=some d→d< st.n)∧
    look st'.fr=stF ops (us0++us) fr0 (List.range (j+rest.length))∧lookB st'.hp=stH (us0++us) hp0 (List.range (j+rest.length))∧st'.n=st.n
 |[],j,st,st',us,us0,fr0,hp0,h,_,_,hF,hH=>by
  obtain⟨rfl,rfl⟩:=h
  exact⟨fun i o h=>by simp at h,by simpa using hF,by simpa using hH,rfl⟩
 |o::rest,j,st,st',us,us0,fr0,hp0,h,hl,hops,hF,hH=>by
  obtain⟨u,rd,us',rfl,hstep,hdst,hrun⟩:=h
  have happ:us0++(u,rd)::us'=(us0++[(u,rd)])++us':=by simp
  have hu:(us0++(u,rd)::us')[j]?=some (u,rd):=by rw[←hl,List.getElem?_append_right (Nat.le_refl _)];simp
  have ho:ops[j]?=some o:=hops 0 o rfl
  have hF':look (st.step o.dst u).fr=stF ops ((us0++[(u,rd)])++us') fr0 (List.range (j+1)):=by
   rw[←happ,List.range_succ,jC_,←hF]
   simp only[AState.step,iF_,dst?,ho,val?,hu,Option.bind_some,Option.map_some,Option.getD_some]
  have hH':lookB (st.step o.dst u).hp=stH ((us0++[(u,rd)])++us') hp0 (List.range (j+1)):=by
   rw[←happ,List.range_succ,jB_,←hH]
   simp only[AState.step,gs_,blk?,hu,Option.map_some,Option.getD_some]
  obtain⟨r1,r2,r3,r4⟩:=cR_ rest (j+1) (st.step o.dst u) st' us' (us0++[(u,rd)]) fr0 hp0 hrun (by simp[hl]) (fun i o' h=>by
   have:=hops (i+1) o' (by simpa using h)
   rwa[show j+(i+1)=j+1+i by omega] at this) hF' hH'
  rw[←happ] at r1 r2 r3
  refine⟨fun i o' hi=>?_,?_,?_,r4⟩
  cases i with
  |zero=>
   simp only[List.getElem?_cons_zero,Option.some.injEq] at hi
   subst hi
   refine⟨u,rd,by simpa using hu,?_,hdst⟩
   rw[Nat.add_zero,←hF,←hH];exact hstep
  |succ i=>
   obtain⟨u',rd',h1,h2,h3⟩:=r1 i o' (by simpa using hi)
   rw[show j+1+i=j+(i+1) by omega] at h1 h2
   exact⟨u',rd',h1,h2,h3⟩
  rw[r2,show j+1+rest.length=j+(o::rest).length by simp;omega]
  rw[r3,show j+1+rest.length=j+(o::rest).length by simp;omega]
section
variable {ρ:Option Nat}{P:Program}{Q:Exit→AState→Prop}{st:AState}{ops:Array Oper}{id:Nat}
theorem AWp.regionD(hm:P.follows .mixedOrders=true)(h:AReg P ops st.nx 0 ops.toList st fun fps s=>okReg ops fps=true∧Q .normal ⟨s.fr,s.hp,st.nx+ops.size,s.n⟩):AWp ρ P (.region id ops true) Q st:=by
 rintro M0 w0 a w hr
 obtain⟨us,st',hrun,hok,hq⟩:=h
 obtain⟨h1,h2,h3,h4⟩:=cR_ ops.toList 0 st st' us [] (look st.fr) (lookB st.hp) hrun rfl (fun i o h=>by simpa using h) rfl rfl
 simp only[List.nil_append,Nat.zero_add,Array.length_toList] at h1 h2 h3
 have hback:backB ops=true:=by
  unfold okReg at hok;simp only[Bool.and_eq_true] at hok;exact hok.1
 refine pm_ (us:=us) hm (ancOK hback) (qH_ hok) (fun j o ho=>h1 j o (by simpa using ho)) hr fun a' w' hr'=>⟨⟨st'.fr,st'.hp,st.nx+ops.size,st'.n⟩,?_,hq⟩
 rw[←h2,←h3,←h4] at hr'
 exact hr'
theorem AWp.region(h:AReg P ops st.nx 0 ops.toList st fun _ s=>Q .normal ⟨s.fr,s.hp,st.nx+ops.size,s.n⟩):AWp ρ P (.region id ops false) Q st:=by
 rintro M0 w0 a w hr
 obtain⟨us,st',hrun,hq⟩:=h
 refine wpIn_region_list ?_
 have main:∀(rest:List Oper) (j:Nat) (s s':AState) (us:List (Upd×List Nat)) (a:Act) (w:World),j+rest.length=ops.size→gc_ P ops st.nx j rest s us s'→FRel M0 w0 (look s.fr) (lookB s.hp) (fun i=>st.nx+j≤i) s.n a w→Q .normal ⟨s'.fr,s'.hp,st.nx+ops.size,s'.n⟩→
     wpListIn (FR ρ) 0 P ops (fun e a' w'=> ∃st',ARel M0 w0 st' a' w'∧Q e st') rest a w:=by
  intro rest
  induction rest with
  |nil=>
   rintro j s s' us a w hj ⟨_,rfl⟩ hr hq
   refine wpListIn_nil ⟨_,?_,hq⟩
   have:st.nx+j=st.nx+ops.size:=by simp at hj;omega
   rw[this] at hr;exact hr
  |cons o rest ih=>
   rintro j s s' us a w hj ⟨u,rd,us',rfl,hstep,hdst,hrun⟩ hr hq
   refine wpListIn_step fun K hK=>?_
   refine hstep.sim hr (Nat.le_refl _) hdst fun a' w' hr'=>hK a' w' ?_
   refine ih (j+1) (s.step o.dst u) s' us' a' w' (by simp at hj;omega) hrun ?_ hq
   rw[←iF_,←gs_] at hr'
   exact hr'.free fun i hi=>⟨by omega,by omega⟩
 exact main ops.toList 0 st st' us a w (by simp) hrun hr hq
end
section
variable {P:Program}{ops:Array Oper}{nx j:Nat}{rest:List Oper}{st:AState}{K:List (List Nat×List Nat)→AState→Prop}
theorem AReg.nil(h:K [] st):AReg P ops nx j [] st K:=⟨[],st,⟨rfl,rfl⟩,h⟩
theorem AReg.cons {dst:Option Nat} {op:Op} {ty:Nat} {pos:String} {after:Array Edge} {guard:Option (Nat×Bool)} {u:Upd} {rd:List Nat}
    (hs:AStep P ops (nx+j) (look st.fr) (lookB st.hp) ⟨dst,op,ty,pos,after,guard⟩ u rd) (hd:(match dst with|some d=>Nat.blt d st.n|none=>true)=true)
    (h:AReg P ops nx (j+1) rest (st.step dst u) fun fps s=>K ((u.blk.map (·.1),rd)::fps) s):AReg P ops nx j (⟨dst,op,ty,pos,after,guard⟩::rest) st K:=by
 obtain⟨us,st',h1,h2⟩:=h
 refine⟨(u,rd)::us,st',⟨u,rd,us,rfl,hs,fun d hd'=>?_,h1⟩,h2⟩
 simp only at hd'
 subst hd'
 exact Nat.le_of_ble_eq_true hd
end
section
variable {M0:Nat→Prop}{w0:Base}{w:World}{β:Nat→Option (Nat×Nat)}{hp:Nat→Option ABlk}
theorem Mem.shut(h:Mem M0 w0 β hp w){D:Nat}{o o':Obj}(hD:w.heap[D]?=some o)(hno:aN_ w D=none)(hd:¬w0.K D):
    Mem M0 w0 β hp (w.putObj D o')∧StabC (MM M0 β hp) (MM M0 β hp) β β w (w.putObj D o'):=by
 have hlt:D< w.heap.size:=by
  by_cases hlt:D< w.heap.size
  exact hlt
  rw[Array.getElem?_eq_none (by omega)] at hD;cases hD
 have hsize:(w.putObj D o').heap.size=w.heap.size:=by simp[World.putObj]
 have hkeep:∀b N,aN_ w b=some N→(w.putObj D o').heap[b]?=w.heap[b]?:=fun b N hb=>World.putObj_heap_other (fun e=>by subst e;rw[hno] at hb;cases hb)
 have st:StabC (MM M0 β hp) (MM M0 β hp) β β w (w.putObj D o'):=
  ⟨fun b N hb _=>hkeep b N hb,fun _ _ _ h=>h,fun _ _ h=>h,fun b N hb=>(b5_ (hkeep b N hb)).trans hb⟩
 refine⟨⟨⟨h.below.os,h.below.tape,h.below.output,by rw[hsize];exact h.below.size,fun k hk=>(World.putObj_heap_other (fun e=>hd (by subst e;exact hk))).trans (h.below.block k hk),fun b n hs=>st.sz b n (h.below.sizes b n hs)⟩,h.m0,fun i b s hi=>by rw[hsize];exact h.rng i b s hi,h.pin,fun i B hi=>?_,h.inj⟩,st⟩
 obtain⟨b,h1,h2⟩:=h.blk i B hi
 obtain⟨N,hs⟩:=h2.size
 exact⟨b,h1,h2.stab st (hkeep b N hs)⟩
end
def ARes1(P:Program)(st:AState):ResultVar→AV→Prop
 | .tmp t,r=>look st.fr t=some r
 | .cell a T,r=> ∃i e o B cs,look st.fr a=some (.lptr i e o)∧cellF (lookB st.hp) i=some B∧B.es[e]?=some cs∧
     ((d6_ P T=some true∧∃n,szOf P T=some n∧o+n≤cs.length∧r= .agg ((cs.drop o).take n))∨(d6_ P T=some false∧cs[o]?=some r))
def AResL(P:Program)(st:AState):List ResultVar→List AV→Prop
 |[],rs=>rs=[]
 |x::xs,rs=> ∃r rs',rs=r::rs'∧ARes1 P st x r∧AResL P st xs rs'
def oneOf:List AV→AV
 |[x]=>x
 |xs=> .tup xs
def ResOK(P:Program)(rs:List ResultVar)(st:AState)(r:AV):Prop:=∃as,AResL P st rs as∧Cv (Ren.id 0) (lookB st.hp) (fun _=>none) (oneOf as) r
def fP_(tmps:Array Value):ResultVar→Sem Value
 | .tmp t=>pure (tmps.getD t undef)
 | .cell a t=>do loadVar t (←asAddr (tmps.getD a undef))
section
variable {P:Program}{M0:Nat→Prop}{w0:Base}{w:World}{β:Nat→Option (Nat×Nat)}{st:AState}{tmps:Array Value}
theorem res1_run(mem:Mem M0 w0 β (lookB st.hp) w)(hf:∀t x,look st.fr t=some x→RV (MM M0 β (lookB st.hp)) β w x (tmps.getD t undef)):∀(v:ResultVar) (r:AV),ARes1 P st v r→∃y,(fP_ tmps v).run P w= .ok y w∧RV (MM M0 β (lookB st.hp)) β w r y
 | .tmp t,r,h=>⟨_,rfl,hf t r h⟩
 | .cell a T,r,⟨i,e,o,B,cs,h1,h2,h3,h4⟩=>by
  obtain⟨b,s,hb,hx⟩:=hf a _ h1
  obtain⟨b',cs',hb',_,hr,_⟩:=mem.cellsF h2
  rw[hb] at hb';cases hb'
  rcases h4 with⟨h4,n,h5,h6,rfl⟩|⟨h4,h5⟩
  have hg:=((hr.get h3).1.drop o).take n
  obtain⟨xs,hx1,hx2⟩:=hg.vals
  have hl:xs.length=n:=by rw[hx1.length];simp;omega
  refine⟨.agg xs.toArray,?_,_,rfl,hx1⟩
  simp[fP_,hx,asAddr,dQ_ h4 h5 hl (fun j v hj=>by have:=hx2 j v hj;simpa using this)]
  obtain⟨y,hy1,hy2⟩:=(hr.get h3).1.get h5
  refine⟨y,?_,hy2⟩
  simp[fP_,hx,asAddr,dP_ h4 (by simpa using hy1)]
theorem nZ_(mem:Mem M0 w0 β (lookB st.hp) w)(hf:∀t x,look st.fr t=some x→RV (MM M0 β (lookB st.hp)) β w x (tmps.getD t undef)):∀(vs:List ResultVar) (rs:List AV),AResL P st vs rs→∃ys,(vs.mapM (fP_ tmps)).run P w= .ok ys w∧RVs (MM M0 β (lookB st.hp)) β w rs ys
 |[],rs,h=>⟨[],rfl,by cases (h:rs=[]);rfl⟩
 |v::vs,rs,⟨r,rs',e,h1,h2⟩=>by
  subst e
  obtain⟨y,hy1,hy2⟩:=res1_run mem hf v r h1
  obtain⟨ys,hz1,hz2⟩:=nZ_ mem hf vs rs' h2
  refine⟨y::ys,?_,y,ys,rfl,hy2,hz2⟩
  simp only[List.mapM_cons,Sem.run_bind,hy1,Result.andThen_ok,hz1,Sem.run_pure]
theorem res_run{fn:Func}{r:AV}(mem:Mem M0 w0 β (lookB st.hp) w)(hf:∀t x,look st.fr t=some x→RV (MM M0 β (lookB st.hp)) β w x (tmps.getD t undef))(h:ResOK P fn.results.toList st r):
    ∃y,(results fn tmps).run P w= .ok y w∧RV M0 (fun _=>none) w r y:=by
 obtain⟨as,h1,h2⟩:=h
 obtain⟨ys,h3,h4⟩:=nZ_ mem hf _ _ h1
 have hm:(fn.results.mapM (fP_ tmps)).run P w= .ok ys.toArray w:=by
  rw[Array.mapM_eq_mapM_toList,Sem.run_map,h3];rfl
 have hy:RV (MM M0 β (lookB st.hp)) β w (oneOf as) (if h:ys.toArray.size=1 then ys.toArray[0] else .tuple ys.toArray):=by
  cases as with
  |nil=>cases (h4:ys=[]);exact⟨_,rfl,rfl⟩
  |cons a as=>
   obtain⟨y,ys',rfl,r1,r2⟩:=h4
   cases as with
   |nil=>cases (r2:ys'=[]);exact r1
   |cons b bs=>
    obtain⟨z,zs,rfl,r3,r4⟩:=r2
    exact⟨_,rfl,y,_,rfl,r1,z,zs,rfl,r3,r4⟩
 refine⟨(if h:ys.toArray.size=1 then ys.toArray[0] else Value.tuple ys.toArray),?_,?_⟩
 have he:results fn tmps=(do let vs←fn.results.mapM (fP_ tmps);pure (if h:vs.size=1 then vs[0] else .tuple vs)):=rfl
 rw[he,Sem.run_bind,hm]
 rfl
 have:=h2 M0 w0 β w _ mem hy
 have e:MM M0 ((Ren.id 0).app (fun _=>none) β) (fun _=>none)=M0:=by
  funext b
  simp[MM]
 rw[e,Ren.app_zero] at this
 exact this
end
def argFr:Nat→List AV→List (Nat×AV)
 |_,[]=>[]
 |i,a::as=>(i,a)::argFr (i+1) as
theorem dm_{M:Nat→Prop}{w:World}:∀{as:List AV} {vs:List Value} {i t:Nat} {x:AV},RVs M (fun _=>none) w as vs→look (argFr i as) t=some x→i≤t∧∃y,vs[t- i]?=some y∧RV M (fun _=>none) w x y
 |[],_,_,_,_,_,h=>by cases h
 |a::as,vs,i,t,x,⟨y,ys,e,h1,h2⟩,h=>by
  subst e
  simp only[argFr] at h
  rw[b8_] at h
  unfold upd at h
  split at h
  ·rename_i e;subst e;cases h;exact⟨Nat.le_refl _,y,by simp,h1⟩
  obtain⟨h3,z,h4,h5⟩:=dm_ h2 h
  exact⟨by omega,z,by rw[show t- i=(t- (i+1))+1 by omega,List.getElem?_cons_succ];exact h4,h5⟩
theorem f2_ {P:Program} {fn:Func} {tmps:Array Value} {R:Ending→World→Prop} {M0:Nat→Prop} {w0:Base} {β:Nat→Option (Nat×Nat)} {st:AState} {r:AV}
    (hres:ResOK P fn.results.toList st r) (hR:∀y w',RV M0 (fun _=>none) w' r y→Mem M0 w0 β (lookB st.hp) w'→(∀t x,look st.fr t=some x→RV (MM M0 β (lookB st.hp)) β w' x (tmps.getD t undef))→(results fn tmps).run P w'= .ok y w'→R (.returned y) w'):
    ∀(Ds:List Nat) (w:World),Ds.Nodup→(∀D∈Ds,w.heap[D]?=some (.deferred (some []))∧¬w0.K D)→Mem M0 w0 β (lookB st.hp) w→(∀t x,look st.fr t=some x→RV (MM M0 β (lookB st.hp)) β w x (tmps.getD t undef))→
     LeavesInM (FR none) 0 P fn tmps R (Ds.map qV_) .returning w
 |[],w,_,_,mem,hf=>by
  obtain⟨y,h1,h2⟩:=res_run mem hf hres
  exact⟨y,h1,hR y w h2 mem hf h1⟩
 |D::Ds,w,nd,hD,mem,hf=>by
  obtain⟨h1,h2⟩:=hD D (List.mem_cons_self ..)
  rw[List.nodup_cons] at nd
  have hsh:=mem.shut (o':= .deferred none) h1 (by simp[aN_,h1]) h2
  refine⟨by simp,.inl ⟨D,w.putObj D (.deferred none),rfl,run_takeDeferred h1,?_⟩⟩
  refine f2_ hres hR Ds _ nd.2 (fun E hE=>?_) hsh.1 fun t x hx=>hsh.2.all (hf t x hx)
  obtain⟨h3,h4⟩:=hD E (List.mem_cons_of_mem _ hE)
  exact⟨by rw[World.putObj_heap_other (fun e=>by subst e;exact nd.1 hE)];exact h3,h4⟩
def Base.of(w:World)(h:TabW w):Base:=⟨w,fun b=>b< w.heap.size,fun _ h=>h,none,fun _=>undef,h.lt,h⟩
theorem FSpec.intro {P:Program} {f:Nat} {fn:Func} {c:Code} {args:List AV} {r:AV} (hf:P.funcs[f]?=some fn) (hb:fn.body=some c) (hname:(fn.name== "runtime.NumGoroutine")=false) (hcl:∀a∈args,Closed a) (hn:args.length≤fn.ntmps)
    (h:AWp none P c (fun e st=>(e= .normal∨e= .ret)∧ResOK P fn.results.toList st r) ⟨argFr 0 args,[],1,fn.ntmps⟩):FSpec P f args r:=by
 refine⟨hcl,fun xs w=>?_,fun M w vals hM hargs=>?_⟩
 have hname':¬fn.name= "runtime.NumGoroutine" :=by simpa using hname
 simp[callFunc,hf,hname',hb]
 refine(callsIn_wide (n:=0)).1 ?_
 refine callsIn_of_wp_marks (F:=Fence.wide) hf hb trivial ?_
 have hlen:=hargs.length
 have hrel:ARel M (Base.of w hM.tab) ⟨argFr 0 args,[],1,fn.ntmps⟩ {tmps:=vals.toArray++Array.replicate (fn.ntmps- vals.toArray.size) undef,defers:=[]} w:=by
  refine⟨fun _=>none,⟨⟨rfl,rfl,rfl,Nat.le_refl _,fun _ _=>rfl,fun _ _ h=>h⟩,(fun b hb=>⟨hM.lt b hb,fun e=>hM.nt (e▸hb)⟩),(fun _ _ _ h=>by cases h),(fun _=>rfl),(fun _ _ h=>by cases h),(fun _ _ _ _ _ _ _ h=>by cases h)⟩,by simp;omega,fun t x hx=>?_,fun i (hi:1≤i)=>⟨rfl,by omega⟩,⟨[],rfl,List.nodup_nil,by simp⟩⟩
  have hmm:MM M (fun _=>none) (lookB [])=M:=by funext b;simp[MM,lookB,look]
  show RV (MM M (fun _=>none) (lookB [])) _ _ _ _
  rw[hmm,b2_ rfl]
  obtain⟨_,y,h1,h2⟩:=dm_ hargs hx
  have hy:(vals.toArray++Array.replicate (fn.ntmps- vals.toArray.size) undef).getD t undef=y:=by
   have hlt:t< vals.length:=by simpa using(List.getElem?_eq_some_iff.1 h1).1
   rw[Array.getD_eq_getD_getElem?,Array.getElem?_append_left (by simpa using hlt)]
   simp at h1⊢
   rw[h1];rfl
  rw[hy];exact h2
 refine wpIn_mono (h M (Base.of w hM.tab) _ w hrel) fun e a' w' ⟨st',⟨β,mem,hsz,hfr,hfree,Ds,hds,hnd,hD⟩,he,hres⟩=>?_
 have hL:LeavesInM (FR none) 0 P fn a'.tmps (fun e w'=> ∃y,e= .returned y∧RV M (fun _=>none) w' r y∧Below w.heap.size w w') a'.defers .returning w':=by
  rw[hds]
  exact f2_ hres (fun y w'' h1 h2 _ _=>⟨y,rfl,h1,⟨h2.below.os,h2.below.tape,h2.below.output,h2.below.size,h2.below.block⟩⟩) Ds w' hnd hD mem (fun t x hx=>by have:=hfr t x hx;rwa[b2_ rfl] at this)
 rcases he with rfl|rfl
 exact hL
 exact hL
theorem ESpec.intro {P:Program} {f:Nat} {fn:Func} {c:Code} {ty sz:Nat} {E E':List (List AV)} {e n:Nat} {cap:Option Nat} {args:List AV} {r:Value} (hf:P.funcs[f]?=some fn) (hb:fn.body=some c) (hname:(fn.name== "runtime.NumGoroutine")=false)
    (hcl:∀a∈args,Closed a) (hclE:∀x∈E,∀c∈x,Closed c) (hclE':∀x∈E',∀c∈x,Closed c) (hn:args.length+1≤fn.ntmps)
    (h:AWp none P c (fun x st=>(x= .normal∨x= .ret)∧ResOK P fn.results.toList st (.v r)∧lookB st.hp 0=some ⟨ty,sz,E'⟩) ⟨(0,.lsl 0 e n cap sz)::argFr 1 args,[(0,some ⟨ty,sz,E⟩)],1,fn.ntmps⟩) (hz:Nat.blt 0 sz=true:=by rfl):ESpec P f ty sz E E' e n cap args r:=by
 refine⟨eU_ hz,hcl,hclE,fun xs w=>?_,fun M w b y0 vals hM hMb hold hy0 hargs=>?_⟩
 have hname':¬fn.name= "runtime.NumGoroutine" :=by simpa using hname
 simp[callFunc,hf,hname',hb]
 refine(callsIn_wide (n:=0)).1 ?_
 refine callsIn_of_wp_marks (F:=Fence.wide) hf hb trivial ?_
 have hlen:=hargs.length
 obtain⟨cs,hh,hr,hl⟩:=hold
 let bs:Base:=⟨w,fun x=>x< w.heap.size∧x≠b,fun _ h=>h.1,some (b,sz),fun _=>undef,⟨hM.tab.lt,fun e=>hM.nt (e▸hMb)⟩,hM.tab⟩
 let β0:Nat→Option (Nat×Nat):=fun i=>if i=0 then some (b,sz) else none
 have hlb:∀i,lookB [(0,some (⟨ty,sz,E⟩:ABlk))] i=if i=0 then some ⟨ty,sz,E⟩ else none:=fun i=>by
  rw[b3_];unfold upd;split <;> rfl
 have hmm:∀x,MM (fun x=>M x∧x≠b) β0 (lookB [(0,some (⟨ty,sz,E⟩:ABlk))]) x↔M x:=by
  intro x
  constructor
  rintro(hx|⟨i,B,s,h1,h2⟩)
  exact hx.1
  simp only[β0] at h2
  split at h2
  cases h2;exact hMb
  cases h2
  intro hx
  by_cases hxb:x=b
  exact .inr ⟨0,⟨ty,sz,E⟩,sz,by rw[hlb];rfl,by subst hxb;rfl⟩
  exact .inl ⟨hx,hxb⟩
 have hmm':MM (fun x=>M x∧x≠b) β0 (lookB [(0,some (⟨ty,sz,E⟩:ABlk))])=M:=funext fun x=>propext (hmm x)
 have up:StabC M M (fun _=>none) β0 w w:=⟨fun _ _ _ _=>rfl,fun _ _ _ h=>h,(fun _ _ h=>by cases h),fun _ _ h=>h⟩
 have hmem:Mem (fun x=>M x∧x≠b) bs β0 (lookB [(0,some (⟨ty,sz,E⟩:ABlk))]) w:=by
  refine⟨⟨rfl,rfl,rfl,Nat.le_refl _,fun _ _=>rfl,fun _ _ h=>h⟩,fun x hx=>⟨⟨hM.lt x hx.1,hx.2⟩,fun e=>hM.nt (e▸hx.1)⟩,fun i x s hi=>?_,(fun _=>rfl),fun i B hi=>?_,fun i j B B' x s s' hi hj _ _=>?_⟩
  simp only[β0] at hi
  split at hi
  cases hi;exact⟨fun hk=>hk.2 rfl,hM.lt _ hMb⟩
  cases hi
  rw[hlb] at hi
  split at hi
  ·rename_i h0
   subst h0
   cases hi
   refine⟨b,rfl,.inl ⟨eU_ hz,cs,hh,?_,hl⟩⟩
   rw[hmm'];exact up.ess rfl hr
  cases hi
  rw[hlb] at hi hj
  by_cases h1:i=0
  by_cases h2:j=0
  rw[h1,h2]
  rw[if_neg h2] at hj;cases hj
  rw[if_neg h1] at hi;cases hi
 have hrel:ARel (fun x=>M x∧x≠b) bs ⟨(0,.lsl 0 e n cap sz)::argFr 1 args,[(0,some ⟨ty,sz,E⟩)],1,fn.ntmps⟩ {tmps:=(y0::vals).toArray++Array.replicate (fn.ntmps- (y0::vals).toArray.size) undef,defers:=[]} w:=by
  refine⟨β0,hmem,by simp;omega,fun t x hx=>?_,fun i (hi:1≤i)=>⟨by simp only[β0];rw[if_neg (by omega)],by omega⟩,⟨[],rfl,List.nodup_nil,by simp⟩⟩
  show RV (MM _ β0 (lookB [(0,some (⟨ty,sz,E⟩:ABlk))])) _ _ _ _
  rw[hmm',b2_ rfl]
  rw[show(look ((0,.lsl 0 e n cap sz)::argFr 1 args) t=some x)↔(upd (look (argFr 1 args)) 0 (some (.lsl 0 e n cap sz)) t=some x) by rw[b8_]] at hx
  have get:∀(k:Nat) (y:Value),(y0::vals)[k]?=some y→((y0::vals).toArray++Array.replicate (fn.ntmps- (y0::vals).toArray.size) undef).getD k undef=y:=by
   intro k y hk
   have hlt:k< (y0::vals).length:=(List.getElem?_eq_some_iff.1 hk).1
   rw[Array.getD_eq_getD_getElem?,Array.getElem?_append_left (by simpa using hlt)]
   simp only[List.getElem?_toArray]
   rw[hk];rfl
  unfold upd at hx
  split at hx
  ·rename_i h0;subst h0;cases hx
   rw[get 0 y0 rfl]
   exact hy0
  obtain⟨h1,y,h2,h3⟩:=dm_ hargs hx
  rw[get t y (by rw[show t=(t- 1)+1 by omega,List.getElem?_cons_succ];exact h2)]
  exact up.all h3
 refine wpIn_mono (h _ bs _ w hrel) fun x a' w' ⟨st',⟨β,mem,hsz,hfr,hfree,Ds,hds,hnd,hD⟩,he,hres,h0⟩=>?_
 have hL:LeavesInM (FR none) 0 P fn a'.tmps (fun x w'=>x= .returned r∧Holds M w' b ty sz E'∧But b w w') a'.defers .returning w':=by
  rw[hds]
  refine f2_ hres (fun y w'' h1 h2 _ _=>?_) Ds w' hnd hD mem (fun t x hx=>by have:=hfr t x hx;rwa[b2_ rfl] at this)
  cases (h1:y=r)
  have hb0:β 0=some (b,sz):=h2.pin (by rw[h0];rfl)
  obtain⟨b',cs',e1,e2,e3,e4⟩:=h2.cells h0 (eU_ hz)
  rw[hb0] at e1;cases e1
  refine⟨rfl,⟨cs',e2,?_,e4⟩,⟨h2.below.os,h2.below.tape,h2.below.output,h2.below.size,fun x hx hxb=>h2.below.block x ⟨hx,hxb⟩,h2.below.sizes⟩⟩
  refine StabC.ess (w:=w'') (w':=w'') (M:=MM (fun x=>M x∧x≠b) β (lookB st'.hp)) (β:=fun _=>none) ⟨fun _ _ _ _=>rfl,fun x _ _ hx=>?_,(fun _ _ h=>by cases h),fun _ _ h=>h⟩ rfl (dq_ hclE' e3)
  by_cases hxb:x=b
  subst hxb;exact .inr ⟨0,_,_,h0,hb0⟩
  exact .inl ⟨hx,hxb⟩
 rcases he with rfl|rfl
 exact hL
 exact hL
theorem OSpec.intro {P:Program} {f:Nat} {fn:Func} {c:Code} {ty sz t:Nat} {args:List AV} {es:List (List AV)} (hf:P.funcs[f]?=some fn) (hb:fn.body=some c) (hname:(fn.name== "runtime.NumGoroutine")=false) (hrs:fn.results.toList=[.tmp t]) (hcl:∀a∈args,Closed a) (hce:∀x∈es,∀c∈x,Closed c) (hn:args.length≤fn.ntmps)
    (h:AWp none P c (fun x st=>(x= .normal∨x= .ret)∧∃i cap,look st.fr t=some (.lsl i 0 es.length cap sz)∧lookB st.hp i=some ⟨ty,sz,es⟩) ⟨argFr 0 args,[],1,fn.ntmps⟩) (hz:Nat.blt 0 sz=true:=by rfl):OSpec P f args ty sz es:=by
 refine⟨eU_ hz,hcl,fun xs w=>?_,fun M w vals hM hargs=>?_⟩
 have hname':¬fn.name= "runtime.NumGoroutine" :=by simpa using hname
 simp[callFunc,hf,hname',hb]
 refine(callsIn_wide (n:=0)).1 ?_
 refine callsIn_of_wp_marks (F:=Fence.wide) hf hb trivial ?_
 have hlen:=hargs.length
 have hrel:ARel M (Base.of w hM.tab) ⟨argFr 0 args,[],1,fn.ntmps⟩ {tmps:=vals.toArray++Array.replicate (fn.ntmps- vals.toArray.size) undef,defers:=[]} w:=by
  refine⟨fun _=>none,⟨⟨rfl,rfl,rfl,Nat.le_refl _,fun _ _=>rfl,fun _ _ h=>h⟩,(fun b hb=>⟨hM.lt b hb,fun e=>hM.nt (e▸hb)⟩),(fun _ _ _ h=>by cases h),(fun _=>rfl),(fun _ _ h=>by cases h),(fun _ _ _ _ _ _ _ h=>by cases h)⟩,by simp;omega,fun t x hx=>?_,fun i (hi:1≤i)=>⟨rfl,by omega⟩,⟨[],rfl,List.nodup_nil,by simp⟩⟩
  have hmm:MM M (fun _=>none) (lookB [])=M:=by funext b;simp[MM,lookB,look]
  show RV (MM M (fun _=>none) (lookB [])) _ _ _ _
  rw[hmm,b2_ rfl]
  obtain⟨_,y,h1,h2⟩:=dm_ hargs hx
  have hy:(vals.toArray++Array.replicate (fn.ntmps- vals.toArray.size) undef).getD t undef=y:=by
   have hlt:t< vals.length:=by simpa using(List.getElem?_eq_some_iff.1 h1).1
   rw[Array.getD_eq_getD_getElem?,Array.getElem?_append_left (by simpa using hlt)]
   simp at h1⊢
   rw[h1];rfl
  rw[hy];exact h2
 refine wpIn_mono (h M (Base.of w hM.tab) _ w hrel) fun x a' w' ⟨st',⟨β,mem,hsz,hfr,hfree,Ds,hds,hnd,hD⟩,he,i,cap,hlk,hbk⟩=>?_
 have hres:ResOK P fn.results.toList st' .any:=by
  rw[hrs]
  exact⟨[_],⟨_,[],rfl,hlk,rfl⟩,fun _ _ _ _ _ _ _=>trivial⟩
 have hL:LeavesInM (FR none) 0 P fn a'.tmps (fun x w'=> ∃b c,x= .returned (.slice (some ⟨b,0,none⟩) es.length c)∧w.heap.size≤b∧b< w'.heap.size∧es.length≤c∧c≤maxLen∧(∃cs,w'.heap[b]?=some (.cells cs ty (0,0))∧RVess (fun x=>M x∨x=b) (fun _=>none) w' b sz es 0∧c* sz≤cs.size)∧Below w.heap.size w w') a'.defers .returning w':=by
  rw[hds]
  refine f2_ hres (fun y w'' _ h2 h3 h4=>?_) Ds w' hnd hD mem (fun t x hx=>by have:=hfr t x hx;rwa[b2_ rfl] at this)
  obtain⟨b,c,e1,e2,e3,e4,e5,N,e6,e7⟩:=h3 t _ hlk
  obtain⟨b',cs,f1,f2,f3,f4⟩:=h2.cells hbk (eU_ hz)
  rw[e1] at f1;cases f1
  have hr:=h2.rng i b _ e1
  have hy:y= .slice (some ⟨b,0,none⟩) es.length c:=by
   have hm:(fn.results.mapM (fP_ a'.tmps)).run P w''= .ok #[a'.tmps.getD t undef] w'':=by
    rw[Array.mapM_eq_mapM_toList,hrs];rfl
   have he:results fn a'.tmps=(do let vs←fn.results.mapM (fP_ a'.tmps);pure (if h:vs.size=1 then vs[0] else .tuple vs)):=rfl
   rw[he,Sem.run_bind,hm] at h4
   have h5:(Result.ok (a'.tmps.getD t undef) w'':Result Value)= .ok y w'':=h4
   cases h5
   rw[e2];simp
  refine⟨b,c,by rw[hy],Nat.le_of_not_lt hr.1,hr.2,e3,e4,⟨cs,f2,?_,?_⟩,⟨h2.below.os,h2.below.tape,h2.below.output,h2.below.size,h2.below.block⟩⟩
  refine StabC.ess (w:=w'') (w':=w'') (M:=MM M β (lookB st'.hp)) (β:=fun _=>none) ⟨fun _ _ _ _=>rfl,fun x _ _ hx=>?_,(fun _ _ h=>by cases h),fun _ _ h=>h⟩ rfl (dq_ hce f3)
  rcases hx with hx|rfl
  exact .inl hx
  exact .inr ⟨i,_,_,hbk,e1⟩
  simp[aN_,f2] at e6
  rw[e6];simpa using e7
 rcases he with rfl|rfl
 exact hL
 exact hL
def bj_:Op→Bool
 | .defer _=>false
 |_=>true
theorem a8_{op:Op}(h:bj_ op=true):∀c,op≠ .defer c:=by
 intro c e;subst e;cases h
section
variable {P:Program}{ops:Array Oper}{nx j:Nat}{rest:List Oper}{K:List (List Nat×List Nat)→AState→Prop}
variable {fr:List (Nat×AV)}{hp:List (Nat×Option ABlk)}{nx' n d:Nat}{op:Op}{ty:Nat}{pos:String}{after:Array Edge}{a:AV}{p:Nat×Option ABlk}{rd:List Nat}
theorem AReg.op0 (hs:AEval P (nx+j) (evF (look fr)) (lookB hp) op ⟨a,[]⟩ rd) (hnd:bj_ op=true) (hd:Nat.blt d n=true)
    (h:AReg P ops nx (j+1) rest ⟨(d,a)::fr,hp,nx',n⟩ fun fps s=>K (([],rd)::fps) s):AReg P ops nx j (⟨some d,op,ty,pos,after,none⟩::rest) ⟨fr,hp,nx',n⟩ K:=
 AReg.cons ⟨a8_ hnd,hs⟩ hd h
theorem AReg.op1 (hs:AEval P (nx+j) (evF (look fr)) (lookB hp) op ⟨a,[p]⟩ rd) (hnd:bj_ op=true) (hd:Nat.blt d n=true)
    (h:AReg P ops nx (j+1) rest ⟨(d,a)::fr,p::hp,nx',n⟩ fun fps s=>K (([p.1],rd)::fps) s):AReg P ops nx j (⟨some d,op,ty,pos,after,none⟩::rest) ⟨fr,hp,nx',n⟩ K:=
 AReg.cons ⟨a8_ hnd,hs⟩ hd h
theorem AReg.op2 {q:Nat×Option ABlk} (hs:AEval P (nx+j) (evF (look fr)) (lookB hp) op ⟨a,[p,q]⟩ rd) (hnd:bj_ op=true) (hd:Nat.blt d n=true)
    (h:AReg P ops nx (j+1) rest ⟨(d,a)::fr,q::p::hp,nx',n⟩ fun fps s=>K (([p.1,q.1],rd)::fps) s):AReg P ops nx j (⟨some d,op,ty,pos,after,none⟩::rest) ⟨fr,hp,nx',n⟩ K:=
 AReg.cons ⟨a8_ hnd,hs⟩ hd h
theorem AReg.op1n (hs:AEval P (nx+j) (evF (look fr)) (lookB hp) op ⟨a,[p]⟩ rd) (hnd:bj_ op=true)
    (h:AReg P ops nx (j+1) rest ⟨fr,p::hp,nx',n⟩ fun fps s=>K (([p.1],rd)::fps) s):AReg P ops nx j (⟨none,op,ty,pos,after,none⟩::rest) ⟨fr,hp,nx',n⟩ K:=
 AReg.cons ⟨a8_ hnd,hs⟩ rfl h
theorem AReg.op0n (hs:AEval P (nx+j) (evF (look fr)) (lookB hp) op ⟨a,[]⟩ rd) (hnd:bj_ op=true)
    (h:AReg P ops nx (j+1) rest ⟨fr,hp,nx',n⟩ fun fps s=>K (([],rd)::fps) s):AReg P ops nx j (⟨none,op,ty,pos,after,none⟩::rest) ⟨fr,hp,nx',n⟩ K:=
 AReg.cons ⟨a8_ hnd,hs⟩ rfl h
variable {g t:Nat}{want:Bool}{x:Value}
theorem AReg.op0y (ht:(ops[g]?).bind (·.dst)=some t) (hx:evF (look fr) (.tmp t)=some (.v x)) (hb:bh_ x=some want) (hs:AEval P (nx+j) (evF (look fr)) (lookB hp) op ⟨a,[]⟩ rd) (hnd:bj_ op=true) (hd:Nat.blt d n=true)
    (h:AReg P ops nx (j+1) rest ⟨(d,a)::fr,hp,nx',n⟩ fun fps s=>K (([],rd)::fps) s):AReg P ops nx j (⟨some d,op,ty,pos,after,some (g,want)⟩::rest) ⟨fr,hp,nx',n⟩ K:=
 AReg.cons ⟨a8_ hnd,t,x,ht,hx,.inl ⟨hb,hs⟩⟩ hd h
theorem AReg.op1y (ht:(ops[g]?).bind (·.dst)=some t) (hx:evF (look fr) (.tmp t)=some (.v x)) (hb:bh_ x=some want) (hs:AEval P (nx+j) (evF (look fr)) (lookB hp) op ⟨a,[p]⟩ rd) (hnd:bj_ op=true) (hd:Nat.blt d n=true)
    (h:AReg P ops nx (j+1) rest ⟨(d,a)::fr,p::hp,nx',n⟩ fun fps s=>K (([p.1],rd)::fps) s):AReg P ops nx j (⟨some d,op,ty,pos,after,some (g,want)⟩::rest) ⟨fr,hp,nx',n⟩ K:=
 AReg.cons ⟨a8_ hnd,t,x,ht,hx,.inl ⟨hb,hs⟩⟩ hd h
theorem AReg.opN (ht:(ops[g]?).bind (·.dst)=some t) (hx:evF (look fr) (.tmp t)=some (.v x)) (hb:bh_ x≠some want) (hnd:bj_ op=true) (hd:Nat.blt d n=true)
    (h:AReg P ops nx (j+1) rest ⟨(d,.v undef)::fr,hp,nx',n⟩ fun fps s=>K (([],[])::fps) s):AReg P ops nx j (⟨some d,op,ty,pos,after,some (g,want)⟩::rest) ⟨fr,hp,nx',n⟩ K:=
 AReg.cons (u:=⟨.v undef,[]⟩) ⟨a8_ hnd,t,x,ht,hx,.inr ⟨hb,rfl,rfl⟩⟩ hd h
end
section
variable {P:Program}{T:Nat}{x y:Operand}{k:IntKind}{a b:Int}
theorem h9_:∀w,(do eqGuard .add T x y (.int k a) (.int k b);binOp .add T (.int k a) (.int k b):Sem Value).run P w= .ok (.int k (k.wrap (a+b))) w:=fun w=>by
 simp[eqGuard,binOp,Op.intArith]
theorem h7_:∀w,(do eqGuard .sub T x y (.int k a) (.int k b);binOp .sub T (.int k a) (.int k b):Sem Value).run P w= .ok (.int k (k.wrap (a- b))) w:=fun w=>by
 simp[eqGuard,binOp,Op.intArith]
theorem o4_:∀w,(do eqGuard .mul T x y (.int k a) (.int k b);binOp .mul T (.int k a) (.int k b):Sem Value).run P w= .ok (.int k (k.wrap (a* b))) w:=fun w=>by
 simp[eqGuard,binOp,Op.intArith]
theorem h8_(hb:b≠0):∀w,(do eqGuard .quo T x y (.int k a) (.int k b);binOp .quo T (.int k a) (.int k b):Sem Value).run P w= .ok (.int k (k.wrap (a.tdiv b))) w:=fun w=>by
 simp[eqGuard,binOp,Op.intDiv,hb]
theorem gM_(hb:b≠0):∀w,(do eqGuard .rem T x y (.int k a) (.int k b);binOp .rem T (.int k a) (.int k b):Sem Value).run P w= .ok (.int k (a.tmod b)) w:=fun w=>by
 simp[eqGuard,binOp,Op.intDiv,hb]
theorem a9_:∀w,(do eqGuard .eql T x y (.int k a) (.int k b);binOp .eql T (.int k a) (.int k b):Sem Value).run P w= .ok (.bool (a==b)) w:=fun w=>by
 simp[eqGuard,binOp,Op.intCmp]
theorem ba_:∀w,(do eqGuard .neq T x y (.int k a) (.int k b);binOp .neq T (.int k a) (.int k b):Sem Value).run P w= .ok (.bool (a !=b)) w:=fun w=>by
 simp[eqGuard,binOp,Op.intCmp]
theorem do_:∀w,(do eqGuard .lss T x y (.int k a) (.int k b);binOp .lss T (.int k a) (.int k b):Sem Value).run P w= .ok (.bool (decide (a< b))) w:=fun w=>by
 simp[eqGuard,binOp,Op.intCmp]
theorem cW_:∀w,(do eqGuard .leq T x y (.int k a) (.int k b);binOp .leq T (.int k a) (.int k b):Sem Value).run P w= .ok (.bool (decide (a≤b))) w:=fun w=>by
 simp[eqGuard,binOp,Op.intCmp]
theorem dG_:∀w,(do eqGuard .gtr T x y (.int k a) (.int k b);binOp .gtr T (.int k a) (.int k b):Sem Value).run P w= .ok (.bool (decide (b< a))) w:=fun w=>by
 simp[eqGuard,binOp,Op.intCmp]
theorem cN_:∀w,(do eqGuard .geq T x y (.int k a) (.int k b);binOp .geq T (.int k a) (.int k b):Sem Value).run P w= .ok (.bool (decide (b≤a))) w:=fun w=>by
 simp[eqGuard,binOp,Op.intCmp]
theorem jw_{p:Bool}:∀w,(Op.unary .not (.bool p)).run P w= .ok (.bool !p) w:=fun _=>rfl
theorem un_neg:∀w,(Op.unary .neg (.int k a)).run P w= .ok (.int k (k.wrap (0- a))) w:=fun _=>rfl
end
abbrev Fr:=List (Nat×AV)
abbrev Hp:=List (Nat×Option ABlk)
abbrev Fps:=List (List Nat×List Nat)
theorem nle{a b:Nat}(h:Nat.ble a b=true):a≤b:=Nat.le_of_ble_eq_true h
def AR(P:Program)(ops:Array Oper)(nx n j:Nat)(rest:List Oper)(fr:Fr)(hp:Hp)(K:Fps→Fr→Hp→Prop):Prop:=
 ∃us st',gc_ P ops nx j rest ⟨fr,hp,nx,n⟩ us st'∧K (us.map fp) st'.fr st'.hp
section
variable {P:Program}{ops:Array Oper}{nx n j:Nat}{rest:List Oper}{fr:Fr}{hp:Hp}{K:Fps→Fr→Hp→Prop}
variable {d:Nat}{op:Op}{ty:Nat}{pos:String}{after:Array Edge}{a:AV}{p q:Nat×Option ABlk}{rd:List Nat}
theorem an_(h:K [] fr hp):AR P ops nx n j [] fr hp K:=⟨[],_,⟨rfl,rfl⟩,h⟩
theorem AR.cons {dst:Option Nat} {guard:Option (Nat×Bool)} {u:Upd} {rd:List Nat}
    (hs:AStep P ops (nx+j) (look fr) (lookB hp) ⟨dst,op,ty,pos,after,guard⟩ u rd) (hd:(match dst with|some d=>Nat.blt d n|none=>true)=true)
    (h:AR P ops nx n (j+1) rest (putL fr dst u.val) (u.blk.reverse++hp) fun fps f h=>K ((u.blk.map (·.1),rd)::fps) f h):AR P ops nx n j (⟨dst,op,ty,pos,after,guard⟩::rest) fr hp K:=by
 obtain⟨us,st',h1,h2⟩:=h
 refine⟨(u,rd)::us,st',⟨u,rd,us,rfl,hs,fun d hd'=>?_,h1⟩,h2⟩
 simp only at hd'
 subst hd'
 exact Nat.le_of_ble_eq_true hd
theorem aw_ (hs:AEval P (nx+j) (evF (look fr)) (lookB hp) op ⟨a,[]⟩ rd) (hnd:bj_ op=true) (hd:Nat.blt d n=true)
    (h:AR P ops nx n (j+1) rest ((d,a)::fr) hp fun fps f h=>K (([],rd)::fps) f h):AR P ops nx n j (⟨some d,op,ty,pos,after,none⟩::rest) fr hp K:=
 AR.cons ⟨a8_ hnd,hs⟩ hd h
theorem AR.op1 (hs:AEval P (nx+j) (evF (look fr)) (lookB hp) op ⟨a,[p]⟩ rd) (hnd:bj_ op=true) (hd:Nat.blt d n=true)
    (h:AR P ops nx n (j+1) rest ((d,a)::fr) (p::hp) fun fps f h=>K (([p.1],rd)::fps) f h):AR P ops nx n j (⟨some d,op,ty,pos,after,none⟩::rest) fr hp K:=
 AR.cons ⟨a8_ hnd,hs⟩ hd h
theorem AR.op2 (hs:AEval P (nx+j) (evF (look fr)) (lookB hp) op ⟨a,[p,q]⟩ rd) (hnd:bj_ op=true) (hd:Nat.blt d n=true)
    (h:AR P ops nx n (j+1) rest ((d,a)::fr) (q::p::hp) fun fps f h=>K (([p.1,q.1],rd)::fps) f h):AR P ops nx n j (⟨some d,op,ty,pos,after,none⟩::rest) fr hp K:=
 AR.cons ⟨a8_ hnd,hs⟩ hd h
theorem AR.op1n (hs:AEval P (nx+j) (evF (look fr)) (lookB hp) op ⟨a,[p]⟩ rd) (hnd:bj_ op=true)
    (h:AR P ops nx n (j+1) rest fr (p::hp) fun fps f h=>K (([p.1],rd)::fps) f h):AR P ops nx n j (⟨none,op,ty,pos,after,none⟩::rest) fr hp K:=
 AR.cons ⟨a8_ hnd,hs⟩ rfl h
theorem AR.op0n (hs:AEval P (nx+j) (evF (look fr)) (lookB hp) op ⟨a,[]⟩ rd) (hnd:bj_ op=true)
    (h:AR P ops nx n (j+1) rest fr hp fun fps f h=>K (([],rd)::fps) f h):AR P ops nx n j (⟨none,op,ty,pos,after,none⟩::rest) fr hp K:=
 AR.cons ⟨a8_ hnd,hs⟩ rfl h
variable {g t:Nat}{want:Bool}{x:Value}
theorem ay_ (ht:(ops[g]?).bind (·.dst)=some t) (hx:evF (look fr) (.tmp t)=some (.v x)) (hb:bh_ x=some want) (hs:AEval P (nx+j) (evF (look fr)) (lookB hp) op ⟨a,[]⟩ rd) (hnd:bj_ op=true) (hd:Nat.blt d n=true)
    (h:AR P ops nx n (j+1) rest ((d,a)::fr) hp fun fps f h=>K (([],rd)::fps) f h):AR P ops nx n j (⟨some d,op,ty,pos,after,some (g,want)⟩::rest) fr hp K:=
 AR.cons ⟨a8_ hnd,t,x,ht,hx,.inl ⟨hb,hs⟩⟩ hd h
theorem AR.op1y (ht:(ops[g]?).bind (·.dst)=some t) (hx:evF (look fr) (.tmp t)=some (.v x)) (hb:bh_ x=some want) (hs:AEval P (nx+j) (evF (look fr)) (lookB hp) op ⟨a,[p]⟩ rd) (hnd:bj_ op=true) (hd:Nat.blt d n=true)
    (h:AR P ops nx n (j+1) rest ((d,a)::fr) (p::hp) fun fps f h=>K (([p.1],rd)::fps) f h):AR P ops nx n j (⟨some d,op,ty,pos,after,some (g,want)⟩::rest) fr hp K:=
 AR.cons ⟨a8_ hnd,t,x,ht,hx,.inl ⟨hb,hs⟩⟩ hd h
theorem br_ (ht:(ops[g]?).bind (·.dst)=some t) (hx:evF (look fr) (.tmp t)=some (.v x)) (hb:bh_ x≠some want) (hnd:bj_ op=true) (hd:Nat.blt d n=true)
    (h:AR P ops nx n (j+1) rest ((d,.v undef)::fr) hp fun fps f h=>K (([],[])::fps) f h):AR P ops nx n j (⟨some d,op,ty,pos,after,some (g,want)⟩::rest) fr hp K:=
 AR.cons (u:=⟨.v undef,[]⟩) ⟨a8_ hnd,t,x,ht,hx,.inr ⟨hb,rfl,rfl⟩⟩ hd h
theorem AR.opNn (ht:(ops[g]?).bind (·.dst)=some t) (hx:evF (look fr) (.tmp t)=some (.v x)) (hb:bh_ x≠some want) (hnd:bj_ op=true)
    (h:AR P ops nx n (j+1) rest fr hp fun fps f h=>K (([],[])::fps) f h):AR P ops nx n j (⟨none,op,ty,pos,after,some (g,want)⟩::rest) fr hp K:=
 AR.cons (u:=⟨.v undef,[]⟩) ⟨a8_ hnd,t,x,ht,hx,.inr ⟨hb,rfl,rfl⟩⟩ rfl h
variable {ρ:Option Nat}{Q:Exit→AState→Prop}{id m:Nat}
theorem AWp.regD(hm:P.follows .mixedOrders=true)(hsz:ops.size=m)(h:AR P ops nx n 0 ops.toList fr hp fun fps f h=>okReg ops fps=true∧Q .normal ⟨f,h,nx+m,n⟩):AWp ρ P (.region id ops true) Q ⟨fr,hp,nx,n⟩:=by
 obtain⟨us,st',h1,h2,h3⟩:=h
 have hn:=(cR_ ops.toList 0 _ st' us [] (look fr) (lookB hp) h1 rfl (fun i o h=>by simpa using h) rfl rfl).2.2.2
 refine AWp.regionD hm ⟨us,st',h1,h2,?_⟩
 show Q .normal ⟨st'.fr,st'.hp,nx+ops.size,st'.n⟩
 rw[hsz,hn];exact h3
theorem sy_(hsz:ops.size=m)(h:AR P ops nx n 0 ops.toList fr hp fun _ f h=>Q .normal ⟨f,h,nx+m,n⟩):AWp ρ P (.region id ops false) Q ⟨fr,hp,nx,n⟩:=by
 obtain⟨us,st',h1,h3⟩:=h
 have hn:=(cR_ ops.toList 0 _ st' us [] (look fr) (lookB hp) h1 rfl (fun i o h=>by simpa using h) rfl rfl).2.2.2
 refine AWp.region ⟨us,st',h1,?_⟩
 show Q .normal ⟨st'.fr,st'.hp,nx+ops.size,st'.n⟩
 rw[hsz,hn];exact h3
end
section
variable {P:Program}{T:Nat}{x y:Operand}{a b:Int}
theorem gQ_(h: -9223372036854775808≤a+b∧a+b≤9223372036854775807):∀w,(do eqGuard .add T x y (.int .i64 a) (.int .i64 b);binOp .add T (.int .i64 a) (.int .i64 b):Sem Value).run P w= .ok (.int .i64 (a+b)) w:=fun w=>by
 rw[h9_,IntWalk.i64_in _ h]
theorem gP_(h: -9223372036854775808≤a- b∧a- b≤9223372036854775807):∀w,(do eqGuard .sub T x y (.int .i64 a) (.int .i64 b);binOp .sub T (.int .i64 a) (.int .i64 b):Sem Value).run P w= .ok (.int .i64 (a- b)) w:=fun w=>by
 rw[h7_,IntWalk.i64_in _ h]
theorem ia_(h: -9223372036854775808≤a* b∧a* b≤9223372036854775807):∀w,(do eqGuard .mul T x y (.int .i64 a) (.int .i64 b);binOp .mul T (.int .i64 a) (.int .i64 b):Sem Value).run P w= .ok (.int .i64 (a* b)) w:=fun w=>by
 rw[o4_,IntWalk.i64_in _ h]
theorem bI64_quo(h0:0≤a∧0< b∧a≤9223372036854775807):∀w,(do eqGuard .quo T x y (.int .i64 a) (.int .i64 b);binOp .quo T (.int .i64 a) (.int .i64 b):Sem Value).run P w= .ok (.int .i64 (a/ b)) w:=fun w=>by
 have h1:0≤a/ b:=Int.ediv_nonneg h0.1 (by omega)
 have h2:a/ b≤a:=Int.ediv_le_self _ h0.1
 rw[h8_ (by omega),Int.tdiv_eq_ediv_of_nonneg h0.1,IntWalk.i64_in _ (by omega)]
theorem o9_(h0:0≤a∧0< b):∀w,(do eqGuard .rem T x y (.int .i64 a) (.int .i64 b);binOp .rem T (.int .i64 a) (.int .i64 b):Sem Value).run P w= .ok (.int .i64 (a % b)) w:=fun w=>by
 rw[gM_ (by omega),Int.tmod_eq_emod_of_nonneg h0.1]
theorem bU32_add(h:0≤a+b∧a+b≤4294967295):∀w,(do eqGuard .add T x y (.int .u32 a) (.int .u32 b);binOp .add T (.int .u32 a) (.int .u32 b):Sem Value).run P w= .ok (.int .u32 (a+b)) w:=fun w=>by
 rw[h9_,IntWalk.u32_in _ h]
theorem bU32_sub(h:0≤a- b∧a- b≤4294967295):∀w,(do eqGuard .sub T x y (.int .u32 a) (.int .u32 b);binOp .sub T (.int .u32 a) (.int .u32 b):Sem Value).run P w= .ok (.int .u32 (a- b)) w:=fun w=>by
 rw[h7_,IntWalk.u32_in _ h]
theorem o8_(h0:0≤a∧0< b∧a≤4294967295):∀w,(do eqGuard .quo T x y (.int .u32 a) (.int .u32 b);binOp .quo T (.int .u32 a) (.int .u32 b):Sem Value).run P w= .ok (.int .u32 (a/ b)) w:=fun w=>by
 have h1:0≤a/ b:=Int.ediv_nonneg h0.1 (by omega)
 have h2:a/ b≤a:=Int.ediv_le_self _ h0.1
 rw[h8_ (by omega),Int.tdiv_eq_ediv_of_nonneg h0.1,IntWalk.u32_in _ (by omega)]
theorem bU32_rem(h0:0≤a∧0< b):∀w,(do eqGuard .rem T x y (.int .u32 a) (.int .u32 b);binOp .rem T (.int .u32 a) (.int .u32 b):Sem Value).run P w= .ok (.int .u32 (a % b)) w:=fun w=>by
 rw[gM_ (by omega),Int.tmod_eq_emod_of_nonneg h0.1]
theorem bU64_add(h:0≤a+b∧a+b≤18446744073709551615):∀w,(do eqGuard .add T x y (.int .u64 a) (.int .u64 b);binOp .add T (.int .u64 a) (.int .u64 b):Sem Value).run P w= .ok (.int .u64 (a+b)) w:=fun w=>by
 rw[h9_,IntWalk.u64_in _ h]
theorem bU64_sub(h:0≤a- b∧a- b≤18446744073709551615):∀w,(do eqGuard .sub T x y (.int .u64 a) (.int .u64 b);binOp .sub T (.int .u64 a) (.int .u64 b):Sem Value).run P w= .ok (.int .u64 (a- b)) w:=fun w=>by
 rw[h7_,IntWalk.u64_in _ h]
theorem bU64_mul(h:0≤a* b∧a* b≤18446744073709551615):∀w,(do eqGuard .mul T x y (.int .u64 a) (.int .u64 b);binOp .mul T (.int .u64 a) (.int .u64 b):Sem Value).run P w= .ok (.int .u64 (a* b)) w:=fun w=>by
 rw[o4_,IntWalk.u64_in _ h]
theorem o7_(h0:0≤a∧0< b∧a≤18446744073709551615):∀w,(do eqGuard .quo T x y (.int .u64 a) (.int .u64 b);binOp .quo T (.int .u64 a) (.int .u64 b):Sem Value).run P w= .ok (.int .u64 (a/ b)) w:=fun w=>by
 have h1:0≤a/ b:=Int.ediv_nonneg h0.1 (by omega)
 have h2:a/ b≤a:=Int.ediv_le_self _ h0.1
 rw[h8_ (by omega),Int.tdiv_eq_ediv_of_nonneg h0.1,IntWalk.u64_in _ (by omega)]
theorem bU64_rem(h0:0≤a∧0< b):∀w,(do eqGuard .rem T x y (.int .u64 a) (.int .u64 b);binOp .rem T (.int .u64 a) (.int .u64 b):Sem Value).run P w= .ok (.int .u64 (a % b)) w:=fun w=>by
 rw[gM_ (by omega),Int.tmod_eq_emod_of_nonneg h0.1]
theorem bU8_sub(h:0≤a- b∧a- b≤255):∀w,(do eqGuard .sub T x y (.int .u8 a) (.int .u8 b);binOp .sub T (.int .u8 a) (.int .u8 b):Sem Value).run P w= .ok (.int .u8 (a- b)) w:=fun w=>by
 rw[h7_,IntWalk.u8_in _ h]
theorem bU8_add(h:0≤a+b∧a+b≤255):∀w,(do eqGuard .add T x y (.int .u8 a) (.int .u8 b);binOp .add T (.int .u8 a) (.int .u8 b):Sem Value).run P w= .ok (.int .u8 (a+b)) w:=fun w=>by
 rw[h9_,IntWalk.u8_in _ h]
theorem bU8_rem(h0:0≤a∧0< b):∀w,(do eqGuard .rem T x y (.int .u8 a) (.int .u8 b);binOp .rem T (.int .u8 a) (.int .u8 b):Sem Value).run P w= .ok (.int .u8 (a % b)) w:=fun w=>by
 rw[gM_ (by omega),Int.tmod_eq_emod_of_nonneg h0.1]
theorem uI64_neg(h: -9223372036854775808≤ -a∧ -a≤9223372036854775807):∀w,(Op.unary .neg (.int .i64 a)).run P w= .ok (.int .i64 (-a)) w:=fun w=>by
 rw[un_neg,show(0:Int)- a= -a by omega,IntWalk.i64_in _ h]
theorem cI64{S D:Nat}{k:IntKind}{n:Int}(h: -9223372036854775808≤n∧n≤9223372036854775807){d:TypeDesc}(hs:P.underlying S=some d)(hd:P.underlying D=some (.int .i64)):∀w,(convert S D (.int k n)).run P w= .ok (.int .i64 n) w:=fun w=>by
 simp only[convert,Sem.run_bind,run_underlying hs w,run_underlying hd w,Result.andThen_ok]
 cases d <;> simp[Conv.intToInt,IntWalk.i64_in _ h]
theorem cU64{S D:Nat}{k:IntKind}{n:Int}(h:0≤n∧n≤18446744073709551615){d:TypeDesc}(hs:P.underlying S=some d)(hd:P.underlying D=some (.int .u64)):∀w,(convert S D (.int k n)).run P w= .ok (.int .u64 n) w:=fun w=>by
 simp only[convert,Sem.run_bind,run_underlying hs w,run_underlying hd w,Result.andThen_ok]
 cases d <;> simp[Conv.intToInt,IntWalk.u64_in _ h]
theorem cU32{S D:Nat}{k:IntKind}{n:Int}(h:0≤n∧n≤4294967295){d:TypeDesc}(hs:P.underlying S=some d)(hd:P.underlying D=some (.int .u32)):∀w,(convert S D (.int k n)).run P w= .ok (.int .u32 n) w:=fun w=>by
 simp only[convert,Sem.run_bind,run_underlying hs w,run_underlying hd w,Result.andThen_ok]
 cases d <;> simp[Conv.intToInt,IntWalk.u32_in _ h]
theorem cU8{S D:Nat}{k:IntKind}{n:Int}(h:0≤n∧n≤255){d:TypeDesc}(hs:P.underlying S=some d)(hd:P.underlying D=some (.int .u8)):∀w,(convert S D (.int k n)).run P w= .ok (.int .u8 n) w:=fun w=>by
 simp only[convert,Sem.run_bind,run_underlying hs w,run_underlying hd w,Result.andThen_ok]
 cases d <;> simp[Conv.intToInt,IntWalk.u8_in _ h]
end
def Fin(P:Program)(rs:List ResultVar)(r:AV)(e:Exit)(st:AState):Prop:=(e= .normal∨e= .ret)∧ResOK P rs st r
theorem as_{k:Ren}{hp:Nat→Option ABlk}:Shr k hp (fun _=>none):=⟨fun _ _ h=>by cases h⟩
section
variable {P:Program}{fr:Fr}{hp:Hp}{nx n:Nat}{r:AV}{ρ:Option Nat}
theorem Fin.tmp{t:Nat}{r0:AV}(h:look fr t=some r0)(hc:Cv (Ren.id 0) (lookB hp) (fun _=>none) r0 r):Fin P [.tmp t] r .ret ⟨fr,hp,nx,n⟩:=
 ⟨.inr rfl,[r0],⟨r0,[],rfl,h,rfl⟩,hc⟩
theorem aR_{t:Nat}{r0:AV}(h:look fr t=some r0)(e:r0=r)(hc:Closed r):Fin P [.tmp t] r .ret ⟨fr,hp,nx,n⟩:=
 Fin.tmp h (by subst e;exact ak_ as_ hc)
theorem Fin.cell {t T i e o k:Nat} {B:ABlk} {cs:List AV} (h:look fr t=some (.lptr i e o)) (hb:cellF (lookB hp) i=some B) (he:B.es[e]?=some cs) (hg:d6_ P T=some true) (hs:szOf P T=some k) (hl:o+k≤cs.length)
    (hc:Cv (Ren.id 0) (lookB hp) (fun _=>none) (.agg ((cs.drop o).take k)) r):Fin P [.cell t T] r .ret ⟨fr,hp,nx,n⟩:=
 ⟨.inr rfl,[.agg ((cs.drop o).take k)],⟨_,[],rfl,⟨i,e,o,B,cs,h,hb,he,.inl ⟨hg,k,hs,hl,rfl⟩⟩,rfl⟩,hc⟩
theorem bY_ {t T i e o k:Nat} {B:ABlk} {cs:List AV} (h:look fr t=some (.lptr i e o)) (hb:cellF (lookB hp) i=some B) (he:B.es[e]?=some cs) (hg:d6_ P T=some true) (hs:szOf P T=some k) (hl:o+k≤cs.length)
    (e:AV.agg ((cs.drop o).take k)=r) (hc:Closed r):Fin P [.cell t T] r .ret ⟨fr,hp,nx,n⟩:=
 Fin.cell h hb he hg hs hl (by subst e;exact ak_ as_ hc)
theorem Fin.many{rs:List ResultVar}{as bs:List AV}(h:AResL P ⟨fr,hp,nx,n⟩ rs as)(h2:2≤as.length)(hc:CvL (Ren.id 0) (lookB hp) (fun _=>none) as bs):Fin P rs (.tup bs) .ret ⟨fr,hp,nx,n⟩:=by
 refine⟨.inr rfl,as,h,?_⟩
 have:oneOf as= .tup as:=by
  cases as with
  |nil=>simp at h2
  |cons a as=>cases as with|nil=>simp at h2|cons b bs=>rfl
 rw[this]
 exact Cv.tup hc
end
theorem ad_(x:Value):Closed (.v x):=(lo_v 0 x).closed
theorem bt_:Closed .emp:=(lo_emp 0).closed
theorem aX_{es:List (List AV)}(h:∀e∈es,∀c∈e,Closed c):Closed (.arr es):=(lo_arr fun e he c hc=>(h e he c hc).lo 0).closed
theorem cJ_{es:List (List AV)}{i o:Nat}(h:∀e∈es,∀c∈e,Closed c):Closed (.aptr es i o):=(lo_aptr fun e he c hc=>(h e he c hc).lo 0).closed
theorem aq_{cs:List AV}(h:∀c∈cs,Closed c):Closed (.agg cs):=(lo_agg fun c hc=>(h c hc).lo 0).closed
theorem aT_{f:Nat}{fst cap:List AV}(h1:∀c∈fst,Closed c)(h2:∀c∈cap,Closed c):Closed (.clos f fst cap):=(lo_clos (fun c hc=>(h1 c hc).lo 0) (fun c hc=>(h2 c hc).lo 0)).closed
theorem jq_ {P:Program} {f:Nat} {fn:Func} {c:Code} {args:List AV} {r:AV} (hf:P.funcs[f]?=some fn) (hb:fn.body=some c) (hname:(fn.name== "runtime.NumGoroutine")=false) {rs:List ResultVar} (hrs:fn.results.toList=rs) {m:Nat} (hm:fn.ntmps=m) (hn:Nat.ble args.length m=true)
    (hcl:∀a∈args,Closed a) {fr:Fr} (hfr:argFr 0 args=fr) (h:AWp none P c (Fin P rs r) ⟨fr,[],1,m⟩):FSpec P f args r:=by
 subst hrs hm hfr
 exact FSpec.intro hf hb hname hcl (nle hn) h
def FinE(P:Program)(rs:List ResultVar)(ty sz:Nat)(E':List (List AV))(r:Value)(x:Exit)(st:AState):Prop:=(x= .normal∨x= .ret)∧ResOK P rs st (.v r)∧lookB st.hp 0=some ⟨ty,sz,E'⟩
theorem FinE.tmp{P:Program}{fr:Fr}{hp:Hp}{nx n t ty sz:Nat}{E':List (List AV)}{r0:AV}{r:Value}{es:List (List AV)}(h:look fr t=some r0)(e:r0= .v r)(hb:lookB hp 0=some ⟨ty,sz,es⟩)(he:es=E'):FinE P [.tmp t] ty sz E' r .ret ⟨fr,hp,nx,n⟩:=
 ⟨.inr rfl,(aR_ (P:=P) (fr:=fr) (hp:=hp) (nx:=nx) (n:=n) h e (ad_ r)).2,by rw[←he];exact hb⟩
theorem ESpec.enter {P:Program} {f:Nat} {fn:Func} {c:Code} {ty sz:Nat} {E E':List (List AV)} {e k:Nat} {cap:Option Nat} {args:List AV} {r:Value} (hf:P.funcs[f]?=some fn) (hb:fn.body=some c) (hname:(fn.name== "runtime.NumGoroutine")=false) {rs:List ResultVar} (hrs:fn.results.toList=rs) {m:Nat} (hm:fn.ntmps=m) (hn:Nat.ble (args.length+1) m=true)
    (hcl:∀a∈args,Closed a) (hclE:∀x∈E,∀c∈x,Closed c) (hclE':∀x∈E',∀c∈x,Closed c) {fr:Fr} (hfr:argFr 1 args=fr)
    (h:AWp none P c (FinE P rs ty sz E' r) ⟨(0,.lsl 0 e k cap sz)::fr,[(0,some ⟨ty,sz,E⟩)],1,m⟩) (hz:Nat.blt 0 sz=true:=by rfl):ESpec P f ty sz E E' e k cap args r:=by
 subst hrs hm hfr
 exact ESpec.intro hf hb hname hcl hclE hclE' (nle hn) h hz
def FinO(t ty sz:Nat)(es:List (List AV))(x:Exit)(st:AState):Prop:=(x= .normal∨x= .ret)∧∃i cap,look st.fr t=some (.lsl i 0 es.length cap sz)∧lookB st.hp i=some ⟨ty,sz,es⟩
theorem FinO.tmp{fr:Fr}{hp:Hp}{nx n t ty sz i k:Nat}{cap:Option Nat}{es es':List (List AV)}(h:look fr t=some (.lsl i 0 k cap sz))(hb:lookB hp i=some ⟨ty,sz,es⟩)(he:es=es')(hk:k=es'.length):FinO t ty sz es' .ret ⟨fr,hp,nx,n⟩:=
 ⟨.inr rfl,i,cap,by rw[←hk];exact h,by rw[←he];exact hb⟩
theorem OSpec.enter {P:Program} {f:Nat} {fn:Func} {c:Code} {ty sz t:Nat} {args:List AV} {es:List (List AV)} (hf:P.funcs[f]?=some fn) (hb:fn.body=some c) (hname:(fn.name== "runtime.NumGoroutine")=false) (hrs:fn.results.toList=[.tmp t]) {m:Nat} (hm:fn.ntmps=m) (hn:Nat.ble args.length m=true)
    (hcl:∀a∈args,Closed a) (hce:∀x∈es,∀c∈x,Closed c) {fr:Fr} (hfr:argFr 0 args=fr) (h:AWp none P c (FinO t ty sz es) ⟨fr,[],1,m⟩) (hz:Nat.blt 0 sz=true:=by rfl):OSpec P f args ty sz es:=by
 subst hm hfr
 exact OSpec.intro hf hb hname hrs hcl hce (nle hn) h hz
end Go.Abs
