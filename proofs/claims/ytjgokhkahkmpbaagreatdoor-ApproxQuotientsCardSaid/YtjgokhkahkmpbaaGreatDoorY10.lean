/- Part Y10 of the proof. -/
import Derived.Test.YtjgokhkahkmpbaaGreatDoorY09
set_option linter.all false
namespace Go.Abs
section
variable {k:Nat}{Q:Exit->Nat->Bool->AState->Prop}
section
variable {P:Program}{l N:Nat}{T:Nat->Option La}{E:GEnv P l T N}
def GLs(E:GEnv P l T N)(ops:Array Oper)(Q:Exit->Nat->Bool->AState->Prop)(tail:List Oper)(j nx n k:Nat)(go:Bool)(fr:Fr)(hp:Hp):Prop:=
 ∀(a:Act) (w:World) (M G:Nat->Prop) (hj:E.J k go M G w),FRel M (fx w G (E.gk hj)) (look fr) (au hp) (λi=>nx+j<=i) n a w->
  wpListIn (FR none) 0 P ops (λe a' w'=> ∃k' go' st',GRel E k' go' st' a' w'/\Q e k' go' st') tail a w
theorem GLs.fin {ops:Array Oper} {tail:List Oper} {j nx n n1:Nat} {go:Bool} {fr:Fr} {hp:Hp} (hsz:j+tail.length=n1)
    (h:AR P ops nx n j tail fr hp λ_ f' h'=>Q .normal k go ⟨f',h',nx+n1,n⟩):GLs E ops Q tail j nx n k go fr hp:=by
 intro a w M G hj hr;obtain⟨us,st3,hrun,hq⟩:=h;have hn3:=iB _ j _ _ _ hrun;have happ:=jF (P:=P) (ops:=ops) (ρ:=none) (M0:=M) (w0:=fx w G (E.gk hj)) (nx:=nx) (Q:=λe a' w'=> ∃k' go' st',GRel E k' go' st' a' w'/\Q e k' go' st') [] tail j ⟨fr,hp,nx,n⟩ st3 us a w hrun hr λa5 w5 hr5=>?_;rw[List.append_nil] at happ;exact happ;refine⟨k,go,⟨st3.fr,st3.hp,nx+n1,n⟩,GRel.go_on hj ?_,hq⟩;rw[hn3] at hr5;refine hr5.free λi (hi:nx+n1<=i)=>?_;omega
theorem GLs.yield {ops:Array Oper} {tail:List Oper} {j nx n nx2 d:Nat} {fr fr2:Fr} {hp hp2:Hp} (m:Nat) {o:Oper} (ho:tail[m]?=some o) {cc:Call} {f:Operand} {as:La} (hop:o.op= .call cc) (hd:o.dst=some d) (hf:cc.callee= .value f)
    (hg:o.guard=none\/∃g t,o.guard=some (g,true)/\ops[g]?.bind (·.dst)=some t/\evF (look fr2) (.tmp t)=some (.v (.bool true)))
    (h:AR P ops nx n j (tail.take m) fr hp λ_ f1 h1=>SEntT ⟨f1,h1,nx+(j+m),n⟩ ⟨fr2,hp2,nx2,n⟩) (hdn:Nat.blt d n=true)
    (hev:evF (look fr2) f=some (.v (.func (.yield l) #[] #[]))) (has:evs (evF (look fr2)) cc.args.toList=some as) (hT:T k=some (as.map coe)) (hcl:∀a∈as.map coe,Closed a)
    (h3:∀go,GLs E ops Q (tail.drop (m+1)) (j+m+1) nx2 n (k+1) go ((d,.v (.bool go))::fr2) hp2):GLs E ops Q tail j nx n k true fr hp:=by
 have hjl:m< tail.length:=(List.getElem?_eq_some_iff.1 ho).1
 have hops:tail=tail.take m++o::tail.drop (m+1):=by
  rw[<-(List.getElem?_eq_some_iff.1 ho).2,<-List.drop_eq_getElem_cons hjl,List.take_append_drop]
 intro a w M G hj hr;rw[hops];obtain⟨us,st1,hrun,hent⟩:=h;have hn1:=iB _ j _ _ _ hrun;simp only at hn1;refine jF (M0:=M) (w0:=fx w G (E.gk hj)) (ρ:=none) _ _ j ⟨fr,hp,nx,n⟩ st1 us a w hrun hr λa1 w1 hr1=>?_;have hl:(tail.take m).length=m:=by rw[List.length_take];omega
 rw[hl,hn1] at hr1;have hr2:TRel M (fx w G (E.gk hj)) ⟨fr2,hp2,nx2,n⟩ a1 w1:=hent M _ a1 w1 hr1;have hb:=hr1.choose_spec.1.below;have hst:GStep G (λb=>(G b\/w.heap.size<=b)/\b< w1.heap.size) w w1:=⟨hb.os,hb.tape,hb.output,hb.size,λb h1 h2=>hb.block b ⟨h1,h2⟩,hb.sizes,λb h=>h⟩;have hj1:=E.ok _ _ _ _ _ _ _ hj hst
 have hr3:TRel M (fx w1 (λb=>(G b\/w.heap.size<=b)/\b< w1.heap.size) (E.gk hj1)) ⟨fr2,hp2,nx2,n⟩ a1 w1:=by
  obtain⟨β,mem,h1,h2,h3,⟨Ds,h4,h5,h6⟩,h7⟩:=hr2
  have hK:∀b,b< w1.heap.size->¬(fx w G (E.gk hj)).K b->¬(fx w1 (λb=>(G b\/w.heap.size<=b)/\b< w1.heap.size) (E.gk hj1)).K b:=by
   rintro b hlt hk ⟨_,hn⟩;refine hn ⟨?_,hlt⟩;by_cases hG:G b;exact .inl hG;exact .inr (Nat.le_of_not_lt λhl=>hk ⟨hl,hG⟩)
  refine⟨β,mem.rebase (fx w1 _ (E.gk hj1)) rfl (λb hb=>?_) (λi b s hi=>hK b (mem.rng i b s hi).2 (mem.rng i b s hi).1) mem.pin,h1,λt x hx=>h2 t x hx,h3,⟨Ds,h4,h5,λD hD=>?_⟩,h7⟩;have:=(mem.m0 b hb).1;exact⟨Nat.lt_of_lt_of_le this.1 mem.below.size,λhG=>hG.1.elim this.2 λh=>by have:=this.1;omega⟩;obtain⟨h8,h9⟩:=h6 D hD;exact⟨h8,hK D (Array.getElem?_eq_some_iff.1 h8).1 h9⟩
 have hw:Region.wanted o (yielded ops a1.tmps)=true:=by
  rcases hg with hg|⟨g,t,hg,ht,hx⟩
  simp[Region.wanted,hg];obtain⟨β,mem,h1,h2,_⟩:=hr2;have hval:a1.tmps.getD t undef= .bool true:=iW h2 (.tmp t) _ hx
  have hyl:yielded ops a1.tmps g=some true:=by
   simp only[yielded,ht,Option.bind_some];cases htt:a1.tmps[t]? with
   |none=>
    rw[Array.getD_eq_getD_getElem?,htt] at hval;cases hval
   |some y=>
    rw[Array.getD_eq_getD_getElem?,htt] at hval;simp only[Option.getD_some] at hval;subst hval;rfl
  simp only[Region.wanted,hg,hyl,beq_iff_eq]
 refine wpListIn_step λK hK=>?_;rw[if_pos hw];refine yE (E:=E) (st:=⟨fr2,hp2,nx2,n⟩) hop hd (Nat.le_of_ble_eq_true hdn) hf hev has hT hcl hj1 hr3 λgo a2 w2 hr4=>hK a2 w2 ?_;obtain⟨M4,G4,hj4,hr4⟩:=hr4;exact h3 go a2 w2 M4 G4 hj4 (FRel.free hr4 λi hi=>by show nx2<=i;omega)
theorem GWp.cutT{α:Type}{x y:Code}{go:Bool}{st:AState}(S:α->AState)(Post:α->Prop)(h:AWp none P x (cutA S Post λ_ _=>False) st)(h2:∀a,Post a->GWp E y Q k go (S a)):GWp E x (FB (GWp E y Q) Q) k go st:=
 GWp.lift (AWp.mono h λe s hs=>by
  cases e with
  |normal=>obtain⟨a,h3,h4⟩:=hs;exact GWp.ent h4 (h2 a h3)
  |_=>exact hs.elim)
end
end
section
variable {TS TQ w n x:Nat}{L:List Lc}{l l0:List (Ln×Ln)}
def mxB(T sz:Nat):List Lc->Nat->Hp
 |[],_=>[]
 |e::l,i=>(i,some ⟨T,sz,e⟩)::mxB T sz l (i+1)
theorem sK{T sz:Nat}:∀(L:List Lc) (i j:Nat) (B:ABlk),(j,some B)∈mxB T sz L i->∃k e,L[k]?=some e/\j=i+k/\B=⟨T,sz,e⟩
 |[],_,_,_,h=>by cases h
 |e::l,i,j,B,h=>by
  rcases List.mem_cons.1 h with h|h
  cases h;exact⟨0,e,rfl,rfl,rfl⟩;obtain⟨k,e',h1,h2,h3⟩:=sK l (i+1) j B h;exact⟨k+1,e',φ,ω,h3⟩
theorem nk{T sz:Nat}:∀(L:List Lc) (i j:Nat),j∈(mxB T sz L i).map (·.1)->i<=j/\j< i+L.length
 |[],_,_,h=>by cases h
 |e::l,i,j,h=>by
  rcases List.mem_cons.1 h with h|h
  subst h;exact⟨Nat.le_refl _,ψ⟩;have:=nk l (i+1) j h;grind
theorem sJ{T sz:Nat}:∀(L:List Lc) (i k:Nat) (e:Lc),L[k]?=some e->au (mxB T sz L i) (k+i)=some ⟨T,sz,e⟩
 |[],_,_,_,h=>by cases h
 |a::l,i,k,e,h=>by
  rw[mxB,de];unfold upd;cases k with
  |zero=>grind
  |succ k=>
   have:=sJ (T:=T) (sz:=sz) l (i+1) k e φ;grind
def mxH(TS TQ:Nat)(o:Lc)(L:List Lc):Hp:=(1,some ⟨TS,1,o⟩)::mxB TQ 4 L 2
theorem jg{k:Nat}{o:Lc}{e:Lc}(h:L[k]?=some e):au (mxH TS TQ o L) (k+2)=some ⟨TQ,4,e⟩:=by
 unfold mxH;rw[de];unfold upd;exact sJ L 2 k e h
theorem zy{k:Nat}{o:Lc}{e:Lc}(h:L[k]?=some e):dw (au (mxH TS TQ o L)) (k+2)=some ⟨TQ,4,e⟩:=dY (jg h) (show(4:Nat)≠0 by decide)
theorem rG{r:Ren}{hp hp':Hq}:∀l:Hp,(∀i B,(i,some B)∈l->i< r.n/\∃B0,hp (r.s i)=some B0/\B0.ty=B.ty/\B0.sz=B.sz/\CvLL r hp hp' B0.es B.es)->CvH r hp hp' l
 |[],_=>trivial
 |(i,none)::l,h=>⟨trivial,rG l λj B hj=>h j B (List.mem_cons_of_mem _ hj)⟩
 |(i,some B)::l,h=>⟨h i B (List.mem_cons_self ..),rG l λj B hj=>h j B (List.mem_cons_of_mem _ hj)⟩
theorem pG{r:Ren}:∀l:Ln,(∀i j,i∈l->j∈l->r.s i=r.s j->i=j)->lA r l=true
 |[],_=>rfl
 |a::l,h=>by
  rw[lA,Bool.and_eq_true,List.all_eq_true];refine⟨λj hj=>?_,pG l λi j hi hj=>h i j (List.mem_cons_of_mem _ hi) (List.mem_cons_of_mem _ hj)⟩;by_cases e:r.s a=r.s j;have:=h a j (List.mem_cons_self ..) (List.mem_cons_of_mem _ hj) e;rw[this];simp
  have:Nat.beq (r.s a) (r.s j)=false:=by
   cases hb:Nat.beq (r.s a) (r.s j) with
   |false=>rfl
   |true=>simp_all
  grind
theorem SEnt.mx {fr fr':Fr} {hp:Hp} {nx N:Nat} (s:Nat->Nat) (o o':Lc) (L:List Lc) (hL:L.length<=30) (s0:s 0=0) (hinj:∀i j,1<=i->i< L.length+2->1<=j->j< L.length+2->s i=s j->i=j)
    (h1:au hp (s 1)=some ⟨TS,1,o'⟩) (ho:o'.length=o.length) (hr:∀i e,L[i]?=some e->au hp (s (i+2))=some ⟨TQ,4,e⟩/\∀x∈e,∀c∈x,Closed c)
    (hO:Shr ⟨40,s⟩ (au hp) (au (mxH TS TQ o L))->CvLL ⟨40,s⟩ (au hp) (au (mxH TS TQ o L)) o' o)
    (hF:Shr ⟨40,s⟩ (au hp) (au (mxH TS TQ o L))->CvF ⟨40,s⟩ (au hp) (au (mxH TS TQ o L)) fr fr'):SEnt ⟨fr,hp,nx,N⟩ ⟨fr',mxH TS TQ o L,40,N⟩:=by
 have key:∀i B,(i,some B)∈mxH TS TQ o L->(i=1/\B=⟨TS,1,o⟩)\/∃k e,L[k]?=some e/\i=k+2/\B=⟨TQ,4,e⟩:=λi B h=>by
  rcases List.mem_cons.1 h with h|h
  cases h;exact .inl ⟨rfl,rfl⟩;obtain⟨k,e,k1,k2,k3⟩:=sK L 2 i B h;grind
 have hS:Shr ⟨40,s⟩ (au hp) (au (mxH TS TQ o L)):=⟨λi B h=>by
  rcases key i B (da h) with⟨rfl,rfl⟩|⟨k,e,k1,rfl,rfl⟩
  exact⟨(show 1< 40 by decide),_,h1,rfl,rfl,ho⟩;grind⟩
 refine SEnt.intro (st:=⟨fr,hp,nx,N⟩) (st':=⟨fr',mxH TS TQ o L,40,N⟩) ⟨40,s⟩ rfl (show 0< 40 by decide) s0 (pG _ λi j hi hj e=>?_) rfl (hF hS) (rG _ λi B h=>?_)
 have g:∀i,i∈(mxH TS TQ o L).map (·.1)->1<=i/\i< L.length+2:=λi hi=>by
  rcases List.mem_cons.1 hi with h|h
  have h:i=1:=h;omega;have:=nk L 2 i h;omega
 exact hinj i j (g i hi).1 (g i hi).2 (g j hj).1 (g j hj).2 e;rcases key i B h with⟨rfl,rfl⟩|⟨k,e,k1,rfl,rfl⟩
 exact⟨(show 1< 40 by decide),_,h1,rfl,rfl,hO hS⟩;exact⟨φ,_,(hr k e k1).1,rfl,rfl,bZ hS (hr k e k1).2⟩
def mxO(w:Nat)(s:Nat->Nat)(n:Nat):Lc:=(List.range n).map λi=>[.lsl (s (i+2)) 0 w none 4]
@[simp] theorem BA (w:Nat)(s:Nat->Nat)(n:Nat):(mxO w s n).length=n:=by simp[mxO]
theorem sI{s:Nat->Nat}{i:Nat}(h:i< n):(mxO w s n)[i]?=some [.lsl (s (i+2)) 0 w none 4]:=by simp[mxO,h]
theorem vp{r:Ren}{hp hp':Hq}{α:Type}(f g:α->La):∀l:List α,(∀a∈l,CvL r hp hp' (f a) (g a))->CvLL r hp hp' (l.map f) (l.map g)
 |[],_=>CvLL.nil
 |a::l,h=>CvLL.cons (h a (List.mem_cons_self ..)) (vp f g l λb hb=>h b (List.mem_cons_of_mem _ hb))
theorem mQ{hp hp':Hq}{s:Nat->Nat}(hn:n<=30)(hl:∀i,i< n->(hp' (i+2)).isSome=true):CvLL ⟨40,s⟩ hp hp' (mxO w s n) (mxO w (λi=>i) n):=
 vp _ _ _ λi hi=>by
  have:=List.mem_range.1 hi;exact af (Cv.sl (Nat.ble_eq_true_of_le (show i+2+1<=40 by omega)) rfl (hl i this)) ax
theorem Cv.mxShut{r:Ren}{hp':Hq}(h:Shr r (au (mxH TS TQ (mxO w (λi=>i) n) L)) hp')(hd:∀i,hp' i=none)(hn:n=L.length)(hw:∀e∈L,e.length=w)(hc:∀e∈L,∀x∈e,∀c∈x,Closed c):
    Cv r (au (mxH TS TQ (mxO w (λi=>i) n) L)) hp' (.lsl 1 0 n none 1) (.arr (L.map λe=>[.arr e])):=by
 have dd:∀i,vA r hp' i:=λi j B hj=>by grind
 have hlen:(mxO w (λi=>i) n).length=n:=BA _ _ _;have h1:dw (au (mxH TS TQ (mxO w (λi=>i) n) L)) 1=some ⟨TS,1,mxO w (λi=>i) n⟩:=rfl;refine Cv.trans_eq (Cv.shut (es:=L.map λe=>[.arr e]) h h1 (dd 1) φ ?_) rfl;show CvLL r _ hp' (((mxO w (λi=>i) n).drop 0).take n) _;rw[List.drop_zero,List.take_of_length_le ω];subst hn
 have key:∀(l:List Lc) (k:Nat),(∀i e,l[i]?=some e->L[k+i]?=some e)->CvLL r (au (mxH TS TQ (mxO w (λi=>i) L.length) L)) hp' ((List.range' k l.length).map λi=>[.lsl (i+2) 0 w none 4]) (l.map λe=>[.arr e]):=by
  intro l
  induction l with
  |nil=>intro k _;exact CvLL.nil
  |cons e l ih=>
   intro k hk;have he:L[k]?=some e:=hk 0 e rfl;have hm:=List.mem_of_getElem? he
   refine CvLL.cons (af ?_ ax) (ih (k+1) λi e' h'=>by
    have:=hk (i+1) e' φ;grind)
   refine Cv.shut (es:=e) h (zy he) (dd _) φ ?_;rw[List.take_of_length_le φ];exact bZ h (hc e hm)
 have:=key L 0 λi e h'=>by grind
 rw[<-List.range_eq_range'] at this;exact this
def lessF:List (Ln×Ln)->List (Ln×Ln)->Prop
 |[],[]=>True
 |(w,r)::l,(w0,r0)::l0=>w=w0/\(∀k∈w,40<=k)/\(∀x∈r,x∈r0\/x< 40)/\lessF l l0
 |_,_=>False
theorem lessF.nil:lessF [] []:=trivial
theorem lessF.cons{w w0 r r0:Ln}(h1:w=w0)(h2:∀k∈w,40<=k)(h3:∀x∈r,x∈r0\/x< 40)(h4:lessF l l0):lessF ((w,r)::l) ((w0,r0)::l0):=⟨h1,h2,h3,h4⟩
theorem lessF.zz(h:lessF l l0):lessF (([],[])::l) (([],[])::l0):= .cons rfl (λk hk=>absurd hk List.not_mem_nil) (λk hk=>absurd hk List.not_mem_nil) h
theorem lessF.rd(hx:x< 40)(h:lessF l l0):lessF (([],[x])::l) (([],[])::l0):= .cons rfl (λk hk=>absurd hk List.not_mem_nil) (λk hk=> .inr φ) h
theorem lessF.al{y:Nat}(e:x=y)(hx:40<=x)(h:lessF l l0):lessF (([x],[])::l) (([y],[])::l0):= .cons (by rw[e]) (λk hk=>φ) (λk hk=>absurd hk List.not_mem_nil) h
theorem lessF.st{y:Nat}(e:x=y)(hx:40<=x)(h:lessF l l0):lessF (([x],[x])::l) (([y],[y])::l0):= .cons (by rw[e]) (λk hk=>φ) (λk hk=> .inl φ) h
theorem uf:∀(l l0:List (Ln×Ln)) (i:Nat),lessF l l0->(l.getD i ([],[])).1=(l0.getD i ([],[])).1/\(∀k∈(l.getD i ([],[])).1,40<=k)/\∀x∈(l.getD i ([],[])).2,x∈(l0.getD i ([],[])).2\/x< 40
 |[],[],i,_=>⟨rfl,(λk hk=>φ),λx hx=>by grind⟩
 |(w,r)::l,(w0,r0)::l0,0,⟨h1,h2,h3,_⟩=>⟨h1,h2,h3⟩
 |(w,r)::l,(w0,r0)::l0,i+1,⟨_,_,_,h⟩=>by
  have:=uf l l0 i h;grind
 |[],_::_,_,h=>h.elim
 |_::_,[],_,h=>h.elim
theorem oa{ops:Array Oper}{fps fps0:List (Ln×Ln)}(h:mq ops fps0=true)(hl:lessF fps fps0):mq ops fps=true:=by
 have nb:∀{a b:Nat},a≠b->(!Nat.beq a b)=true:=fun{a b} e=>by
  cases hb:Nat.beq a b with
  |false=>rfl
  |true=>exact absurd (Nat.eq_of_beq_eq_true hb) e
 unfold mq at h⊢;rw[Bool.and_eq_true] at h⊢;refine⟨h.1,?_⟩;have h2:=h.2;simp only at h2⊢;rw[List.all_eq_true] at h2⊢;intro j hj;have h3:=h2 j hj;rw[List.all_eq_true] at h3⊢;intro i hi;have h4:=h3 i hi;rw[Bool.or_eq_true] at h4⊢;refine h4.imp id λh5=>?_;obtain⟨a1,a2,a3⟩:=uf fps fps0 i hl;obtain⟨b1,b2,b3⟩:=uf fps fps0 j hl;unfold nX at h5⊢;simp only[Bool.and_eq_true] at h5⊢;obtain⟨⟨⟨⟨c1,c2⟩,c3⟩,c4⟩,c5⟩:=h5;refine⟨⟨⟨⟨c1,c2⟩,c3⟩,?_⟩,?_⟩;rw[a1,b1];rw[List.all_eq_true] at c4⊢;intro k hk;have d:=c4 k hk;rw[Bool.and_eq_true] at d⊢;refine⟨?_,d.2⟩;have d1:=d.1;rw[List.all_eq_true] at d1⊢;intro x hx;rcases b3 x hx with e|e
 exact d1 x e;exact nb (λe'=>by have:=a2 k (by rw[a1];exact hk);omega);grind
end
end Go.Abs
namespace Go.Abs
open Go.RowKit
section
variable {f ty sz t t2:Nat}{v:Value}{es:Lc}
structure OTSpec (P:Program)(f:Nat)(args:La)(ty sz:Nat)(es:Lc)(v:Value):Prop where
 sz0:sz≠0
 cl:∀a∈args,Closed a
 enters:∀(xs:Array Value) (w:World),(callFunc f xs).run P w= .ok (.enter f xs) w
 calls:∀(M:Nat->Prop) (w:World) (vals:List Value),Fit M w->RVs M (λ_=>none) w args vals->
  Calls P f vals.toArray w λx w'=> ∃b c,x= .returned (.tuple #[.slice (some ⟨b,0,none⟩) es.length c,v])/\w.heap.size<=b/\b< w'.heap.size/\es.length<=c/\c<=maxLen/\(∃cs,w'.heap[b]?=some (.cells cs ty (0,0))/\RVess (λx=>M x\/x=b) (λ_=>none) w' b sz es 0/\c* sz<=cs.size)/\Below w.heap.size w w'
theorem OTSpec.intro {P:Program} {fn:Func} {c:Code} {args:La} (hf:P.funcs[f]?=some fn) (hb:fn.body=some c) (hname:(fn.name== "runtime.NumGoroutine")=false) (hrs:fn.results.toList=[.tmp t,.tmp t2]) (hcl:∀a∈args,Closed a) (hce:∀x∈es,∀c∈x,Closed c) (hn:args.length<=fn.ntmps)
    (h:AWp none P c (λx st=>(x= .normal\/x= .ret)/\(∃i cap,look st.fr t=some (.lsl i 0 es.length cap sz)/\au st.hp i=some ⟨ty,sz,es⟩)/\look st.fr t2=some (.v v)) ⟨dx 0 args,[],1,fn.ntmps⟩) (hz:Nat.blt 0 sz=true:=by rfl):OTSpec P f args ty sz es v:=by
 refine⟨iZ hz,hcl,λxs w=>?_,λM w vals hM hargs=>?_⟩;have hname':¬fn.name= "runtime.NumGoroutine" :=φ
 simp[callFunc,hf,hname',hb];refine(callsIn_wide (n:=0)).1 (callsIn_of_wp_marks (F:=Fence.wide) hf hb trivial ?_);have hlen:=hargs.length
 have hrel:ARel M (Base.of w hM.tab) ⟨dx 0 args,[],1,fn.ntmps⟩ {tmps:=vals.toArray++Array.replicate (fn.ntmps- vals.toArray.size) undef,defers:=[]} w:=by
  refine⟨λ_=>none,⟨⟨rfl,rfl,rfl,Nat.le_refl _,λ_ _=>rfl,λ_ _ h=>h⟩,(λb hb=>⟨hM.lt b hb,λe=>hM.nt (e▸hb)⟩),(λ_ _ _ h=>by cases h),(λ_=>rfl),(λ_ _ h=>by cases h),(λ_ _ _ _ _ _ _ h=>ψ)⟩,φ,λt x hx=>?_,λi (hi:1<=i)=>⟨rfl,ω⟩,⟨[],rfl,List.nodup_nil,ψ⟩⟩;have hmm:MM M (λ_=>none) (au [])=M:=by funext b;simp[MM,au,look]
  show RV (MM M (λ_=>none) (au [])) _ _ _ _;rw[hmm,cY rfl];obtain⟨_,y,h1,h2⟩:=gf hargs hx
  have hy:(vals.toArray++Array.replicate (fn.ntmps- vals.toArray.size) undef).getD t undef=y:=by
   have hlt:t< vals.length:=φ
   rw[Array.getD_eq_getD_getElem?,Array.getElem?_append_left φ];grind
  grind
 refine wpIn_mono (h M (Base.of w hM.tab) _ w hrel) λx a' w' ⟨st',⟨β,mem,hsz,hfr,hfree,Ds,hds,hnd,hD⟩,he,⟨i,cap,hlk,hbk⟩,hlk2⟩=>?_
 have hres:kW P fn.results.toList st' .any:=by
  rw[hrs];exact⟨[_,_],⟨_,[_],rfl,hlk,⟨_,[],rfl,hlk2,rfl⟩⟩,λ_ _ _ _ _ _ _=>trivial⟩
 have hL:LeavesInM (FR none) 0 P fn a'.tmps (λx w'=> ∃b c,x= .returned (.tuple #[.slice (some ⟨b,0,none⟩) es.length c,v])/\w.heap.size<=b/\b< w'.heap.size/\es.length<=c/\c<=maxLen/\(∃cs,w'.heap[b]?=some (.cells cs ty (0,0))/\RVess (λx=>M x\/x=b) (λ_=>none) w' b sz es 0/\c* sz<=cs.size)/\Below w.heap.size w w') a'.defers .returning w':=by
  rw[hds];refine iz hres (λy w'' _ h2 h3 h4=>?_) Ds w' hnd hD mem (λt x hx=>by have:=hfr t x hx;rwa[cY rfl] at this);obtain⟨b,c,e1,e2,e3,e4,e5,N,e6,e7⟩:=h3 t _ hlk;have g2:a'.tmps.getD t2 undef=v:=h3 t2 _ hlk2;obtain⟨b',cs,f1,f2,f3,f4⟩:=h2.cells hbk (iZ hz);rw[e1] at f1;cases f1;have hr:=h2.rng i b _ e1
  have hy:y= .tuple #[.slice (some ⟨b,0,none⟩) es.length c,v]:=by
   have hm:(fn.results.mapM (fL a'.tmps)).run P w''= .ok #[a'.tmps.getD t undef,a'.tmps.getD t2 undef] w'':=by
    rw[Array.mapM_eq_mapM_toList,hrs];rfl
   have he:results fn a'.tmps=(do let vs<-fn.results.mapM (fL a'.tmps);pure (if h:vs.size=1 then vs[0] else .tuple vs)):=rfl;rw[he,Sem.run_bind,hm] at h4;have h5:(Result.ok (.tuple #[a'.tmps.getD t undef,a'.tmps.getD t2 undef]) w'':Result Value)= .ok y w'':=h4;cases h5;rw[e2,g2];simp
  refine⟨b,c,by rw[hy],Nat.le_of_not_lt hr.1,hr.2,e3,e4,⟨cs,f2,?_,?_⟩,⟨h2.below.os,h2.below.tape,h2.below.output,h2.below.size,h2.below.block⟩⟩;refine StabC.ess (w:=w'') (w':=w'') (M:=MM M β (au st'.hp)) (β:=λ_=>none) ⟨λ_ _ _ _=>rfl,λx _ _ hx=>?_,(λ_ _ h=>by cases h),λ_ _ h=>h⟩ rfl (gE hce f3);rcases hx with hx|rfl
  exact .inl hx;exact .inr ⟨i,_,_,hbk,e1⟩;simp[aL,f2] at e6;rw[e6];simpa using e7
 rcases he with rfl|rfl
 exact hL;exact hL
def FinOT(t t2 ty sz:Nat)(es:Lc)(v:Value)(x:Exit)(st:AState):Prop:=(x= .normal\/x= .ret)/\(∃i cap,look st.fr t=some (.lsl i 0 es.length cap sz)/\au st.hp i=some ⟨ty,sz,es⟩)/\look st.fr t2=some (.v v)
theorem FinOT.tmp{fr:Fr}{hp:Hp}{nx n i k:Nat}{cap:Option Nat}{es':Lc}(h:look fr t=some (.lsl i 0 k cap sz))(hb:au hp i=some ⟨ty,sz,es⟩)(he:es=es')(hk:k=es'.length)(h2:look fr t2=some (.v v)):FinOT t t2 ty sz es' v .ret ⟨fr,hp,nx,n⟩:=
 ⟨.inr rfl,⟨i,cap,φ,φ⟩,h2⟩
theorem OTSpec.enter {P:Program} {fn:Func} {c:Code} {args:La} (hf:P.funcs[f]?=some fn) (hb:fn.body=some c) (hname:(fn.name== "runtime.NumGoroutine")=false) (hrs:fn.results.toList=[.tmp t,.tmp t2]) {m:Nat} (hm:fn.ntmps=m) (hn:Nat.ble args.length m=true)
    (hcl:∀a∈args,Closed a) (hce:∀x∈es,∀c∈x,Closed c) {fr:Fr} (hfr:dx 0 args=fr) (h:AWp none P c (FinOT t t2 ty sz es v) ⟨fr,[],1,m⟩) (hz:Nat.blt 0 sz=true:=by rfl):OTSpec P f args ty sz es v:=by
 subst hm hfr;exact OTSpec.intro hf hb hname hrs hcl hce (nle hn) h hz
section
variable {P:Program}{id:Nat}{ev:Operand->Option AV}{hp:Hq}
theorem AEval.callOT{c:Call}{callee:Operand}{as:La}(h1:c.callee= .value callee)(h2:ev callee=some (.clos f [] []))(h3:evs ev c.args.toList=some as)(h4:OTSpec P f (as.map coe) ty sz es v):
    AEval P id ev hp (.call c) ⟨.tup [.lsl id 0 es.length none sz,.v v],[(id,some ⟨ty,sz,es⟩)]⟩ []:=by
 refine .sem λM0 w0 β hp' w ρ o ho mem hev hcst hid0 hid hidh hrd=>?_
 have hopn:∀x,x∈(Op.call c).operands↔x=callee\/x∈c.args.toList:=by
  simp[Op.operands,Call.operands,h1]
 obtain⟨xs,ys,hx,hr1,hr2⟩:=hev callee ((hopn _).2 (.inl rfl)) _ h2;have hxs:xs= #[]:=Array.ext' hr1;have hys:ys= #[]:=Array.ext' hr2;subst hxs hys;have has:RVs (MM M0 β hp') β w as (c.args.toList.map ρ):=sU (λx hx=>hev x ((hopn _).2 (.inr hx))) h3;refine .inr ⟨f,(c.args.toList.map ρ).toArray,ii ho h1 hx φ h4.enters,(h4.calls (MM M0 β hp') w _ mem.fit (dW h4.cl (iy has))).mono ?_⟩;rintro x w' ⟨b,cc,rfl,hb1,hb2,hc1,hc2,⟨cs,hh,hr,hl⟩,hbel⟩;have hm:=mem.own h4.sz0 hbel hid0 hid hidh hb1 hb2 hh hr (Nat.le_trans (Nat.mul_le_mul_right _ hc1) hl);exact⟨_,rfl,_,hm.1,⟨_,rfl,⟨_,_,rfl,⟨b,cc,bn _ _ _,ψ,hc1,hc2,(λ_ h=>by cases h),cs.size,by simp[aL,hh],φ⟩,⟨_,_,rfl,rfl,rfl⟩⟩⟩,hm.2,λj hj=>br _ _ hj⟩
end
end
end Go.Abs
namespace Go.Abs
section
variable {P:Program}{id:Nat}{ev:Operand->Option AV}{hp:Hq}{T:Nat}{x lo hi:Operand}{es es':Lc}{kl kh:IntKind}{zl zh:Int}{l h:Nat}{d:Nat×Nat}
theorem AEval.sa_hE(e:es.take h=es')(hx:ev x=some (.arr es))(h2:ev hi=some (.v (.int kh zh)))(e2:zh=(h:Int))(hl:h<=es.length)(he:eg P T=some d)(hel:∀e∈es,e.length=d.2):
    AEval P id ev hp (.slice T x none (some hi) none) ⟨.arr es',[]⟩ []:=by
 subst e;exact .sa_h hx h2 e2 hl he hel
end
end Go.Abs
namespace Go.Abs
open Go.RowKit
structure XSpec (P:Program)(f:Nat)(args:La)(hp:Hp)(nx:Nat)(v:AV)(hp':Hp)(nx':Nat):Prop where
 enters:∀(xs:Array Value) (w:World),(callFunc f xs).run P w= .ok (.enter f xs) w
 calls:∀(M:Nat->Prop) (w0:Base) (β:Bq) (vals:List Value),w0.gh=(λ_=>undef)->Mem M w0 β (au hp) w0.w->(∀i,nx<=i->β i=none/\i≠0)->RVs (MM M β (au hp)) β w0.w args vals->
  Calls P f vals.toArray w0.w λx w'=> ∃y β',x= .returned y/\Mem M w0 β' (au hp') w'/\RV (MM M β' (au hp')) β' w' v y/\∀i,nx'<=i->β' i=none/\i≠0
def FinX(t:Nat)(v:AV)(hp':Hp)(nx' n:Nat)(x:Exit)(st:AState):Prop:=(x= .normal\/x= .ret)/\SEnt st ⟨[(t,v)],hp',nx',n⟩
theorem FinX.of{fr:Fr}{hp hp':Hp}{nx nx' n t:Nat}{v:AV}(h:SEnt ⟨fr,hp,nx,n⟩ ⟨[(t,v)],hp',nx',n⟩):FinX t v hp' nx' n .ret ⟨fr,hp,nx,n⟩:=⟨.inr rfl,h⟩
theorem XSpec.enter {P:Program} {f:Nat} {fn:Func} {c:Code} {t nx nx':Nat} {v:AV} {hp hp':Hp} {args:La} (hf:P.funcs[f]?=some fn) (hb:fn.body=some c) (hname:(fn.name== "runtime.NumGoroutine")=false) (hrs:fn.results.toList=[.tmp t]) {m:Nat} (hm:fn.ntmps=m) (hn:Nat.ble args.length m=true)
    (ht:Nat.ble t 999=true) {fr:Fr} (hfr:dx 0 args=fr) (h:AWp none P c (FinX t v hp' nx' m) ⟨fr,hp,nx,m⟩):XSpec P f args hp nx v hp' nx':=by
 subst hm hfr;have hn:=Nat.le_of_ble_eq_true hn;refine⟨λxs w=>?_,λM w0 β vals hgh mem hfree hargs=>?_⟩;have hname':¬fn.name= "runtime.NumGoroutine" :=φ
 simp[callFunc,hf,hname',hb];refine(callsIn_wide (n:=0)).1 (callsIn_of_wp_marks (F:=Fence.wide) hf hb trivial ?_);have hlen:=hargs.length
 have hrel:ARel M w0 ⟨dx 0 args,hp,nx,fn.ntmps⟩ {tmps:=vals.toArray++Array.replicate (fn.ntmps- vals.toArray.size) undef,defers:=[]} w0.w:=by
  refine⟨β,mem,φ,λt x hx=>?_,hfree,⟨[],rfl,List.nodup_nil,ψ⟩⟩;rw[cY hgh]
  have key:∀{as:La} {vs:List Value} {i t:Nat} {x:AV},RVs (MM M β (au hp)) β w0.w as vs->look (dx i as) t=some x->i<=t/\∃y,vs[t- i]?=some y/\RV (MM M β (au hp)) β w0.w x y:=by
   intro as
   induction as with
   |nil=>intro vs i t x _ h;cases h
   |cons a as ih=>
    rintro vs i t x ⟨y,ys,e,h1,h2⟩ h;subst e;simp only[dx] at h;rw[cJ] at h;unfold upd at h;grind
  obtain⟨_,y,h1,h2⟩:=key hargs hx
  have hy:(vals.toArray++Array.replicate (fn.ntmps- vals.toArray.size) undef).getD t undef=y:=by
   have hlt:t< vals.length:=φ
   rw[Array.getD_eq_getD_getElem?,Array.getElem?_append_left φ];grind
  grind
 refine wpIn_mono (h M w0 _ w0.w hrel) λx a' w' ⟨st',hst,he,hent⟩=>?_;obtain⟨β',mem',hsz,hfr,hfree',Ds,hds,hnd,hD⟩:=hent M w0 a' w' hst;have hv:look ([(t,v)]:Fr) t=some v:=by rw[cJ];exact bn _ _ _
 have hres:kW P fn.results.toList ⟨[(t,v)],hp',nx',fn.ntmps⟩ .any:=by
  rw[hrs];exact⟨[_],⟨_,[],rfl,hv,rfl⟩,λ_ _ _ _ _ _ _=>trivial⟩
 have hL:LeavesInM (FR none) 0 P fn a'.tmps (λx w'=> ∃y β',x= .returned y/\Mem M w0 β' (au hp') w'/\RV (MM M β' (au hp')) β' w' v y/\∀i,nx'<=i->β' i=none/\i≠0) a'.defers .returning w':=by
  rw[hds];refine iz (st:=⟨[(t,v)],hp',nx',fn.ntmps⟩) hres (λy w'' _ h2 h3 h4=>?_) Ds w' hnd hD mem' (λt x hx=>by have:=hfr t x hx;rwa[cY hgh] at this)
  have hy:y=a'.tmps.getD t undef:=by
   have hm:(fn.results.mapM (fL a'.tmps)).run P w''= .ok #[a'.tmps.getD t undef] w'':=by
    rw[Array.mapM_eq_mapM_toList,hrs];rfl
   have he:results fn a'.tmps=(do let vs<-fn.results.mapM (fL a'.tmps);pure (if h:vs.size=1 then vs[0] else .tuple vs)):=rfl;rw[he,Sem.run_bind,hm] at h4;have h5:(Result.ok (a'.tmps.getD t undef) w'':Result Value)= .ok y w'':=h4;cases h5;rfl
  exact⟨y,β',rfl,h2,by rw[hy];exact h3 t v hv,hfree'⟩
 rcases he with rfl|rfl
 exact hL;exact hL
theorem Bk{M M':Nat->Prop}{β β':Bq}{w w':World}{x:AV}{y:Value}(hc:Closed x)(h:RV M β w x y)(h1:∀b N,aL w b=some N->¬M b->w'.heap[b]?=w.heap[b]?)(h2:∀b N,aL w b=some N->M' b->M b)(h3:∀b n,aL w b=some n->aL w' b=some n):RV M' β' w' x y:=by
 have g1:RVs M (λ_=>none) w [x] [y]:=dW (λa ha=>φ) ⟨_,_,rfl,h,rfl⟩;have g2:RVs M' β' w' [x] [y]:=StabC.vs ⟨h1,h2,(λ_ _ h=>by cases h),h3⟩ g1;obtain⟨z,zs,e,r,_⟩:=g2;grind
section
variable {hp hp':Hp}{nx nx' t0:Nat}{v:AV}{ev:Operand->Option AV}{as asA:La}
structure XSpecT (P:Program)(f:Nat)(args:La)(hp:Hp)(nx:Nat)(v:AV)(hp':Hp)(nx':Nat):Prop where
 enters:∀(xs:Array Value) (w:World),(callFunc f xs).run P w= .ok (.enter f xs) w
 calls:∀(M:Nat->Prop) (w0:Base) (β:Bq) (vals:List Value),w0.gh=(λ_=>undef)->Mem M w0 β (au hp) w0.w->(∀i,nx<=i->β i=none/\i≠0)->RVs (MM M β (au hp)) β w0.w args vals->
  Calls P f vals.toArray w0.w λx w'=> ∃y β',x= .returned y/\Mem M w0 β' (au hp') w'/\RV (MM M β' (au hp')) β' w' v y/\(∀i,nx'<=i->β' i=none/\i≠0)/\∀i x,β' i=some x->(au hp' i).isSome=true
def FinXT(t:Nat)(v:AV)(hp':Hp)(nx' n:Nat)(x:Exit)(st:AState):Prop:=(x= .normal\/x= .ret)/\SEntT st ⟨[(t,v)],hp',nx',n⟩
theorem FinXT.of{fr:Fr}{n t:Nat}(h:SEntT ⟨fr,hp,nx,n⟩ ⟨[(t,v)],hp',nx',n⟩):FinXT t v hp' nx' n .ret ⟨fr,hp,nx,n⟩:=⟨.inr rfl,h⟩
theorem XSpecT.enter {P:Program} {f:Nat} {fn:Func} {c:Code} {t:Nat} {args:La} (hf:P.funcs[f]?=some fn) (hb:fn.body=some c) (hname:(fn.name== "runtime.NumGoroutine")=false) (hrs:fn.results.toList=[.tmp t]) {m:Nat} (hm:fn.ntmps=m) (hn:Nat.ble args.length m=true)
    (ht:Nat.ble t 999=true) {fr:Fr} (hfr:dx 0 args=fr) (h:AWp none P c (FinXT t v hp' nx' m) ⟨fr,hp,nx,m⟩):XSpecT P f args hp nx v hp' nx':=by
 subst hm hfr;have hn:=Nat.le_of_ble_eq_true hn;refine⟨λxs w=>?_,λM w0 β vals hgh mem hfree hargs=>?_⟩;have hname':¬fn.name= "runtime.NumGoroutine" :=φ
 simp[callFunc,hf,hname',hb];refine(callsIn_wide (n:=0)).1 (callsIn_of_wp_marks (F:=Fence.wide) hf hb trivial ?_);have hlen:=hargs.length
 have hrel:ARel M w0 ⟨dx 0 args,hp,nx,fn.ntmps⟩ {tmps:=vals.toArray++Array.replicate (fn.ntmps- vals.toArray.size) undef,defers:=[]} w0.w:=by
  refine⟨β,mem,φ,λt x hx=>?_,hfree,⟨[],rfl,List.nodup_nil,ψ⟩⟩;rw[cY hgh]
  have key:∀{as:La} {vs:List Value} {i t:Nat} {x:AV},RVs (MM M β (au hp)) β w0.w as vs->look (dx i as) t=some x->i<=t/\∃y,vs[t- i]?=some y/\RV (MM M β (au hp)) β w0.w x y:=by
   intro as
   induction as with
   |nil=>intro vs i t x _ h;cases h
   |cons a as ih=>
    rintro vs i t x ⟨y,ys,e,h1,h2⟩ h;subst e;simp only[dx] at h;rw[cJ] at h;unfold upd at h;grind
  obtain⟨_,y,h1,h2⟩:=key hargs hx
  have hy:(vals.toArray++Array.replicate (fn.ntmps- vals.toArray.size) undef).getD t undef=y:=by
   have hlt:t< vals.length:=φ
   rw[Array.getD_eq_getD_getElem?,Array.getElem?_append_left φ];grind
  grind
 refine wpIn_mono (h M w0 _ w0.w hrel) λx a' w' ⟨st',hst,he,hent⟩=>?_;obtain⟨β',mem',hsz,hfr,hfree',⟨Ds,hds,hnd,hD⟩,hlive⟩:=hent M w0 a' w' hst;have hv:look ([(t,v)]:Fr) t=some v:=by rw[cJ];exact bn _ _ _
 have hres:kW P fn.results.toList ⟨[(t,v)],hp',nx',fn.ntmps⟩ .any:=by
  rw[hrs];exact⟨[_],⟨_,[],rfl,hv,rfl⟩,λ_ _ _ _ _ _ _=>trivial⟩
 have hL:LeavesInM (FR none) 0 P fn a'.tmps (λx w'=> ∃y β',x= .returned y/\Mem M w0 β' (au hp') w'/\RV (MM M β' (au hp')) β' w' v y/\(∀i,nx'<=i->β' i=none/\i≠0)/\∀i x,β' i=some x->(au hp' i).isSome=true) a'.defers .returning w':=by
  rw[hds];refine iz (st:=⟨[(t,v)],hp',nx',fn.ntmps⟩) hres (λy w'' _ h2 h3 h4=>?_) Ds w' hnd hD mem' (λt x hx=>by have:=hfr t x hx;rwa[cY hgh] at this)
  have hy:y=a'.tmps.getD t undef:=by
   have hm:(fn.results.mapM (fL a'.tmps)).run P w''= .ok #[a'.tmps.getD t undef] w'':=by
    rw[Array.mapM_eq_mapM_toList,hrs];rfl
   have he:results fn a'.tmps=(do let vs<-fn.results.mapM (fL a'.tmps);pure (if h:vs.size=1 then vs[0] else .tuple vs)):=rfl;rw[he,Sem.run_bind,hm] at h4;have h5:(Result.ok (a'.tmps.getD t undef) w'':Result Value)= .ok y w'':=h4;cases h5;rfl
  exact⟨y,β',rfl,h2,by rw[hy];exact h3 t v hv,hfree',hlive⟩
 rcases he with rfl|rfl
 exact hL;exact hL
section
variable {P:Program}{ops:Array Oper}{us:List (Upd×Ln)}{anc:Nat->Nat->Bool}{nx n:Nat}{fr0:Nat->Option AV}{hp0:Hq}{ρ:Option Nat}{Q:Exit->Act->World->Prop}{rid:Nat}
variable {X:Ln->(Nat->Prop)->Base->(Nat->Option (Nat×Nat))->Act->World->Prop}{gh:Nat->Value}
end
def RunY(P:Program)(ops:Array Oper)(sp:Nat->Option AV)(C:Nat->(Nat->Option AV)->Prop)(nx:Nat):Nat->List Oper->AState->List (Upd×Ln)->AState->Prop
 |_,[],st,us,st'=>us=[]/\st'=st
 |j,o::rest,st,us,st'=> ∃u rd us',us=(u,rd)::us'/\(∀x,sp j=some x->u=⟨x,[]⟩/\rd=[]/\C j (look st.fr))/\(sp j=none->AStep P ops (nx+j) (look st.fr) (au st.hp) o u rd)/\(∀d,o.dst=some d->d< st.n)/\RunY P ops sp C nx (j+1) rest (st.step o.dst u) us' st'
def AY(P:Program)(ops:Array Oper)(sp:Nat->Option AV)(C:Nat->(Nat->Option AV)->Prop)(nx n j:Nat)(rest:List Oper)(fr:Fr)(hp:Hp)(K:Fps->Fr->Hp->Prop):Prop:=
 ∃us st',RunY P ops sp C nx j rest ⟨fr,hp,nx,n⟩ us st'/\K (us.map fp) st'.fr st'.hp
section
variable {P:Program}{ops:Array Oper}{spf:Nat->Option AV}{C:Nat->(Nat->Option AV)->Prop}{nx n j:Nat}{rest:List Oper}{fr:Fr}{hp:Hp}{K:Fps->Fr->Hp->Prop}
variable {d:Nat}{op:Op}{ty:Nat}{pos:String}{after:Array Edge}{a:AV}{p q:Nat×Option ABlk}{rd:Ln}
theorem AY.nil(h:K [] fr hp):AY P ops spf C nx n j [] fr hp K:=⟨[],_,⟨rfl,rfl⟩,h⟩
theorem AY.cons {dst:Option Nat} {guard:Option (Nat×Bool)} {u:Upd} {rd:Ln}
    (hs1:∀x,spf j=some x->u=⟨x,[]⟩/\rd=[]/\C j (look fr)) (hs2:spf j=none->AStep P ops (nx+j) (look fr) (au hp) ⟨dst,op,ty,pos,after,guard⟩ u rd) (hd:(match dst with|some d=>Nat.blt d n|none=>true)=true)
    (h:AY P ops spf C nx n (j+1) rest (zf fr dst u.val) (u.blk.reverse++hp) λfps f h=>K ((u.blk.map (·.1),rd)::fps) f h):AY P ops spf C nx n j (⟨dst,op,ty,pos,after,guard⟩::rest) fr hp K:=by
 obtain⟨us,st',h1,h2⟩:=h;refine⟨(u,rd)::us,st',⟨u,rd,us,rfl,hs1,hs2,λd hd'=>?_,h1⟩,h2⟩;subst hd';simp_all
theorem AY.op0 (hs:AEval P (nx+j) (evF (look fr)) (au hp) op ⟨a,[]⟩ rd) (hnd:ce op=true) (hd:Nat.blt d n=true)
    (h:AY P ops spf C nx n (j+1) rest ((d,a)::fr) hp λfps f h=>K (([],rd)::fps) f h) (hsp:spf j=none:=by rfl):AY P ops spf C nx n j (⟨some d,op,ty,pos,after,none⟩::rest) fr hp K:=
 AY.cons (λx e=>φ) (λ_=>⟨bz hnd,hs⟩) hd h
theorem AY.op1 (hs:AEval P (nx+j) (evF (look fr)) (au hp) op ⟨a,[p]⟩ rd) (hnd:ce op=true) (hd:Nat.blt d n=true)
    (h:AY P ops spf C nx n (j+1) rest ((d,a)::fr) (p::hp) λfps f h=>K (([p.1],rd)::fps) f h) (hsp:spf j=none:=by rfl):AY P ops spf C nx n j (⟨some d,op,ty,pos,after,none⟩::rest) fr hp K:=
 AY.cons (λx e=>φ) (λ_=>⟨bz hnd,hs⟩) hd h
theorem AY.sp{x:AV}(hd:Nat.blt d n=true)(hsp:spf j=some x)(hC:C j (look fr))(h:AY P ops spf C nx n (j+1) rest ((d,x)::fr) hp λfps f h=>K (([],[])::fps) f h):AY P ops spf C nx n j (⟨some d,op,ty,pos,after,none⟩::rest) fr hp K:=
 AY.cons (u:=⟨x,[]⟩) (rd:=[]) (λz hz=>φ) (λe=>φ) hd h
end
theorem XSpecT.x{P:Program}{f:Nat}{args:La}(h:XSpecT P f args hp nx v hp' nx'):XSpec P f args hp nx v hp' nx':=
 ⟨h.enters,λM w0 β vals h1 h2 h3 h4=>(h.calls M w0 β vals h1 h2 h3 h4).mono λ_ _ ⟨y,β',a,b,c,d,_⟩=>⟨y,β',a,b,c,d⟩⟩
def ArgsB(ev:Operand->Option AV)(t0:Nat)(v:AV):List Operand->La->Prop
 |[],as=>as=[]
 |x::xs,as=> ∃a as',as=a::as'/\((x= .tmp t0/\a=v)\/(ev x=some a/\Closed a))/\ArgsB ev t0 v xs as'
theorem ArgsB.nil:ArgsB ev t0 v [] []:=rfl
theorem ArgsB.own{xs:List Operand}(h:ArgsB ev t0 v xs as):ArgsB ev t0 v (.tmp t0::xs) (v::as):=⟨_,_,rfl,.inl ⟨rfl,rfl⟩,h⟩
theorem ArgsB.clo{a:AV}{x:Operand}{xs:List Operand}(h1:ev x=some a)(h2:Closed a)(h:ArgsB ev t0 v xs as):ArgsB ev t0 v (x::xs) (a::as):=⟨_,_,rfl,.inr ⟨h1,h2⟩,h⟩
theorem ArgsB.congr{ev':Operand->Option AV}:∀{xs:List Operand} {as:La},(∀x∈xs,ev' x=ev x)->ArgsB ev t0 v xs as->ArgsB ev' t0 v xs as
 |[],_,_,h=>h
 |x::xs,_,he,⟨a,as',e,h1,h2⟩=>⟨a,as',e,h1.imp id fun⟨h3,h4⟩=>⟨(he x (List.mem_cons_self ..)).trans h3,h4⟩,ArgsB.congr (λz hz=>he z (List.mem_cons_of_mem _ hz)) h2⟩
structure PkgS (M00:Nat->Prop)(w00:Base)(hpA:Hp)(nxA:Nat)(v:AV)(t0:Nat)(βS:Bq)(M0:Nat->Prop)(w0:Base)(M:Nat->Prop)(a:Act)(w:World):Prop where
 m:∀b,M0 b↔M00 b\/∃i s,βS i=some (b,s)
 k:∀b,w0.K b↔w00.K b\/∃i s,βS i=some (b,s)
 rng:∀i b s,βS i=some (b,s)->w00.w.heap.size<=b/\b< w.heap.size
 live:∀i x,βS i=some x->(au hpA i).isSome=true
 blk:∀i B,au hpA i=some B->∃b,βS i=some (b,B.sz)/\BlkAt M βS w b B
 inj:∀i j B B' b s s',au hpA i=some B->au hpA j=some B'->βS i=some (b,s)->βS j=some (b,s')->i=j
 free:∀i,nxA<=i->βS i=none/\i≠0
 zero:(au hpA 0).isSome=true->False
 val:RV M βS w v (a.tmps.getD t0 undef)
structure XP (jA jB t0:Nat)(v:AV)(hpA:Hp)(nxA:Nat)(M00:Nat->Prop)(w00:Base)(H:Ln->Nat->Option ABlk)(σ:Ln)(M0:Nat->Prop)(w0:Base)(β:Bq)(a:Act)(w:World):Prop where
 kept:w00.Kept w
 m00:∀b,M00 b->w00.K b/\b≠GT
 pin:w0.pin=w00.pin
 dep:jB∈σ->jA∈σ
 no:jA∉σ\/jB∈σ->(∀b,M0 b↔M00 b)/\(∀b,w0.K b↔w00.K b)
 yes:jA∈σ->jB∉σ->∃βS,PkgS M00 w00 hpA nxA v t0 βS M0 w0 (MM M0 β (H σ)) a w
theorem Stab.size{M M':Nat->Prop}{β β':Bq}{w w':World}(st:Stab M M' β β' w w'):w.heap.size<=w'.heap.size:=by
 by_cases hw:w.heap.size=0;omega;obtain⟨k,hk⟩:∃k,w.heap.size=k+1:=⟨w.heap.size- 1,ω⟩;by_cases hs:∃N,aL w k=some N;obtain⟨N,hN⟩:=hs;have:=ci (st.sz k N hN);omega
 have hsn:aL w k=none:=by
  cases hz:aL w k with
  |none=>rfl
  |some N=>grind
 have h4:=st.oth k ω hsn;grind
section
variable {P:Program}{jA jB t0 j id nxA:Nat}{v:AV}{hpA:Hp}{M00 M0:Nat->Prop}{w00 w0:Base}{H:Ln->Nat->Option ABlk}{σ:Ln}{β β':Bq}{a:Act}{w w':World}{u:Upd}{y:Value}
theorem XP.sub(hX:XP jA jB t0 v hpA nxA M00 w00 H σ M0 w0 β a w):(∀b,w00.K b->w0.K b)/\∀b,M00 b->M0 b:=by
 by_cases h:jA∈σ;by_cases h2:jB∈σ;obtain⟨n1,n2⟩:=hX.no (.inr h2);exact⟨λb hb=>(n2 b).2 hb,λb hb=>(n1 b).2 hb⟩;obtain⟨βS,p⟩:=hX.yes h h2;exact⟨λb hb=>(p.k b).2 (.inl hb),λb hb=>(p.m b).2 (.inl hb)⟩;obtain⟨n1,n2⟩:=hX.no (.inl h);grind
theorem XP.make {g nx0:Nat} {vals:List Value} (hX:XP jA jB t0 v hpA nxA M00 w00 H σ M0 w0 β a w) (mem:Mem M0 w0 β (H σ) w) (hj:jA∉σ) (hAB:jA≠jB) (hn:t0< a.tmps.size) (hH:H (σ++[jA])=H σ) (h0:1<=nx0)
    (X1:XSpecT P g asA [] nx0 v hpA nxA) (hargs:RVs (MM M0 β (H σ)) β w as vals) (hcl:∀x∈as,Closed x) (hco:as.map coe=asA):
    Calls P g vals.toArray w λe w'=> ∃y M0' w0' β',e= .returned y/\Mem M0' w0' β' (H σ) w'/\w0'.gh=w0.gh/\RV (MM M0' β' (H σ)) β' w' .any y/\StabC (MM M0 β (H σ)) (MM M0' β' (H σ)) β β' w w'/\(∀i,i≠id->β' i=β i)/\(∀ds,DefOK ds w0 w->DefOK ds w0' w')/\
     XP jA jB t0 v hpA nxA M00 w00 H (σ++[jA]) M0' w0' β' (a.put (some t0) y) w':=by
 have e0:∀(M:Nat->Prop) (b:Bq),MM M b (au [])=M:=λM b=>by funext c;simp[MM,au,look]
 let wc:Base:=⟨w,λb=>b< w.heap.size,λ_ h=>h,none,λ_=>undef,mem.tab.lt,mem.tab⟩
 have memc:Mem (MM M0 β (H σ)) wc (λ_=>none) (au []) w:=⟨⟨rfl,rfl,rfl,Nat.le_refl _,λ_ _=>rfl,λ_ _ h=>h⟩,λb hb=>⟨mem.lt hb,λe=>by
  rcases hb with hb|⟨i,B,s,_,hi⟩
  exact(mem.m0 b hb).2 e;rw[e] at hi;exact mem.gtn i s hi⟩,(λ_ _ _ h=>by cases h),(λh=>by cases h),(λ_ _ h=>by cases h),λ_ _ _ _ _ _ _ h=>by simp⟩
 refine(X1.calls (MM M0 β (H σ)) wc (λ_=>none) vals rfl memc (λi hi=>⟨rfl,ω⟩) (by rw[e0];exact hco▸iy (dW hcl hargs))).mono ?_;rintro e w' ⟨y,βA,rfl,mA,hy,hfree,hlive⟩;have hold:∀b,b< w.heap.size->w'.heap[b]?=w.heap[b]?:=λb hb=>mA.below.block b hb;have hsz:w.heap.size<=w'.heap.size:=mA.below.size;have hnew:∀i b s,βA i=some (b,s)->w.heap.size<=b/\b< w'.heap.size:=λi b s hi=>⟨Nat.le_of_not_lt (mA.rng i b s hi).1,(mA.rng i b s hi).2⟩;obtain⟨n1,n2⟩:=hX.no (.inl hj);have hK:∀b,w0.K b->b< w.heap.size:=λb hb=>Nat.lt_of_lt_of_le (w0.lt b hb) mem.below.size;have hgt:=mem.tab.lt
 let M0':Nat->Prop:=λb=>M0 b\/∃i s,βA i=some (b,s)
 let w0':Base:=⟨w',λb=>w0.K b\/∃i s,βA i=some (b,s),λb hb=>by
  grind,w0.pin,w0.gh,.inl w0.kt,mem.tab.congr (hold GT mem.tab.lt)⟩
 have st:StabC (MM M0 β (H σ)) (MM M0' β (H σ)) β β w w':=by
  refine⟨λb N hb _=>hold b (ci hb),λb N hb hm=>?_,λ_ _ h=>h,λb N hb=>(dZ (hold b (ci hb))).trans hb⟩;rcases hm with(hm|⟨i,s,hi⟩)|hm
  exact .inl hm;have:=ci hb;have:=(hnew i b s hi).1;omega;exact .inr hm
 have sA:StabC (MM (MM M0 β (H σ)) βA (au hpA)) (MM M0' β (H (σ++[jA]))) βA βA w' w':=by
  refine⟨λ_ _ _ _=>rfl,λb N _ hm=>?_,λ_ _ h=>h,λ_ _ h=>h⟩;rw[hH] at hm;rcases hm with(hm|⟨i,s,hi⟩)|hm
  exact .inl (.inl hm);obtain⟨B,hB⟩:=Option.isSome_iff_exists.1 (hlive i _ hi);exact .inr ⟨i,B,s,hB,hi⟩;exact .inl (.inr hm)
 have hK0:∀b,w00.K b->b< w.heap.size:=λb hb=>hK b ((n2 b).2 hb);refine⟨y,M0',w0',β,rfl,⟨⟨rfl,rfl,rfl,Nat.le_refl _,λ_ _=>rfl,λ_ _ h=>h⟩,λb hb=>⟨hb.imp (λh=>(mem.m0 b h).1) λh=>h,λe=>?_⟩,λi b s hi=>⟨λhk=>?_,Nat.lt_of_lt_of_le (mem.rng i b s hi).2 hsz⟩,mem.pin,λi B hi=>?_,mem.inj⟩,rfl,trivial,st,λ_ _=>rfl,λds hds=>?_,?_⟩;rcases hb with hb|⟨i,s,hi⟩
 exact(mem.m0 b hb).2 e;have:=(hnew i b s hi).1;omega;rcases hk with hk|⟨i',s',hi'⟩
 exact(mem.rng i b s hi).1 hk;have:=(hnew i' b s' hi').1;have:=(mem.rng i b s hi).2;omega;obtain⟨b,e1,e2⟩:=mem.blk i B hi;exact⟨b,e1,e2.stab st (hold b (mem.rng i b _ e1).2)⟩;obtain⟨Ds,d1,d2,d3⟩:=hds;refine⟨Ds,d1,d2,λD hD=>?_⟩;obtain⟨e1,e2⟩:=d3 D hD;have hlt:=(Array.getElem?_eq_some_iff.1 e1).1;refine⟨by rw[hold D hlt];exact e1,λhk=>?_⟩;rcases hk with hk|⟨i,s,hi⟩
 exact e2 hk;have:=(hnew i D s hi).1;omega;have hjB:jB∉σ++[jA]:=λh=>hj (hX.dep (fg h (Ne.symm hAB)));refine⟨⟨mA.below.os.trans hX.kept.os,mA.below.tape.trans hX.kept.tape,mA.below.output.trans hX.kept.output,Nat.le_trans hX.kept.size hsz,λb hb=>(hold b (hK0 b hb)).trans (hX.kept.block b hb),λb k hb=>st.sz b k (hX.kept.sizes b k hb)⟩,hX.m00,hX.pin,λ_=>by simp,λh=>?_,λ_ _=>?_⟩;rcases h with h|h
 exact absurd ψ h;exact absurd h hjB;refine⟨βA,λb=>or_congr (n1 b) Iff.rfl,λb=>or_congr (n2 b) Iff.rfl,λi b s hi=>⟨Nat.le_trans hX.kept.size (hnew i b s hi).1,(hnew i b s hi).2⟩,hlive,λi B hi=>?_,mA.inj,hfree,λhz=>?_,?_⟩;obtain⟨b,e1,e2⟩:=mA.blk i B hi;exact⟨b,e1,e2.stab sA rfl⟩;obtain⟨B,hB⟩:=Option.isSome_iff_exists.1 hz;obtain⟨b,e1,_⟩:=mA.blk 0 B hB;have:=mA.pin hz;rw[e1] at this;cases this;rw[tU hn];exact sA.all hy
end
def kAB(jA jB t0:Nat)(v:AV)(gA gB:Nat)(asA asB:La)(fA fB:Operand)(xA xB:List Operand)(j:Nat)(fr:Nat->Option AV):Prop:=
 (j=jA->evF fr fA=some (.clos gA [] [])/\∃as,evs (evF fr) xA=some as/\(∀a∈as,Closed a)/\as.map coe=asA)/\(j=jB->evF fr fB=some (.clos gB [] [])/\∃as,ArgsB (evF fr) t0 v xB as/\as.map coe=asB)
theorem kAB.a{jA jB:Nat}{gA gB:Nat}{asB:La}{fA fB:Operand}{xA xB:List Operand}{fr:Nat->Option AV}(hne:Nat.beq jA jB=false)(h1:evF fr fA=some (.clos gA [] []))(h2:evs (evF fr) xA=some as)(h3:∀a∈as,Closed a)(h4:as.map coe=asA):kAB jA jB t0 v gA gB asA asB fA fB xA xB jA fr:=
 ⟨λ_=>⟨h1,as,h2,h3,h4⟩,λe=>by simp_all⟩
theorem kAB.b{jA jB:Nat}{gA gB:Nat}{asB:La}{fA fB:Operand}{xA xB:List Operand}{fr:Nat->Option AV}(hne:Nat.beq jA jB=false)(h1:evF fr fB=some (.clos gB [] []))(h2:ArgsB (evF fr) t0 v xB as)(h4:as.map coe=asB):kAB jA jB t0 v gA gB asA asB fA fB xA xB jB fr:=
 ⟨(λe=>by simp_all),λ_=>⟨h1,as,h2,h4⟩⟩
end
def mzO(sz:Nat)(w:Nat->Nat)(s:Nat->Nat)(n:Nat):Lc:=(List.range n).map λi=>[.lsl (s (i+2)) 0 (w i) none sz]
@[simp] theorem ua (sz:Nat)(w:Nat->Nat)(s:Nat->Nat)(n:Nat):(mzO sz w s n).length=n:=by simp[mzO]
theorem mzO_get{sz:Nat}{w:Nat->Nat}{s:Nat->Nat}{n i:Nat}(h:i< n):(mzO sz w s n)[i]?=some [.lsl (s (i+2)) 0 (w i) none sz]:=by simp[mzO,h]
theorem vo{sz:Nat}{hp hp':Hq}{s:Nat->Nat}{w:Nat->Nat}{n:Nat}(hn:n<=30)(hl:∀i,i< n->(hp' (i+2)).isSome=true):CvLL ⟨40,s⟩ hp hp' (mzO sz w s n) (mzO sz w (λi=>i) n):=
 vp _ _ _ λi hi=>by
  have:=List.mem_range.1 hi;exact af (Cv.sl (Nat.ble_eq_true_of_le (show i+2+1<=40 by omega)) rfl (hl i this)) ax
theorem XSpecT.shut{P:Program}{f nx nx':Nat}{args:La}{v r:AV}{hp':Hp}(h:XSpecT P f args [] nx v hp' nx')(h0:Nat.ble 1 nx=true)(hcl:∀a∈args,Closed a){rr:Ren}(hc:Cv rr (au hp') (λ_=>none) v r)(hr:Closed r):FSpec P f args r:=by
 have e0:∀(M:Nat->Prop) (b:Bq),MM M b (au [])=M:=λM b=>by funext c;simp[MM,au,look]
 have e1:∀(M:Nat->Prop) (b:Bq),MM M b (λ_=>none)=M:=λM b=>by funext c;simp[MM]
 refine⟨hcl,h.enters,λM w vals hfit hargs=>((h.calls M (Base.of w hfit.tab) (λ_=>none) vals rfl ⟨⟨rfl,rfl,rfl,Nat.le_refl _,λ_ _=>rfl,λ_ _ h=>h⟩,(λb hb=>⟨hfit.lt b hb,λe=>hfit.nt (e▸hb)⟩),(λ_ _ _ h=>by cases h),(λ_=>rfl),(λ_ _ h=>by cases h),λ_ _ _ _ _ _ _ h=>by simp⟩ (λi hi=>⟨rfl,by have:=Nat.le_of_ble_eq_true h0;omega⟩) (by rw[e0];exact hargs)).mono ?_)⟩;rintro e w' ⟨y,β',rfl,mem',hy,_,_⟩;have h5:=hc M _ β' w' y mem' hy;rw[e1] at h5;exact⟨y,rfl,hr _ _ _ _ h5,mem'.below.os,mem'.below.tape,mem'.below.output,mem'.below.size,mem'.below.block⟩
theorem AEval.callV {P:Program} {id:Nat} {ev:Operand->Option AV} {hp:Hq} {c:Call} {callee:Operand} {f:Nat} {as as':La} {r:Value} {rd:Ln} {rr:Ren} (h1:c.callee= .value callee) (h2:ev callee=some (.clos f [] [])) (h3:evs ev c.args.toList=some as)
    (h4:∀hp':Nat->Option ABlk,(∀i∈rd,hp' i=hp i)->CvL rr hp' (λ_=>none) as as') (h5:FSpec P f as' (.v r)):AEval P id ev hp (.call c) ⟨.v r,[]⟩ rd:=by
 refine .sem λM0 w0 β hp' w ρ o ho mem hev hcst hid0 hid hidh hrd=>?_
 have hopn:∀x,x∈(Op.call c).operands↔x=callee\/x∈c.args.toList:=by
  simp[Op.operands,Call.operands,h1]
 obtain⟨xs,ys,hx,hr1,hr2⟩:=hev callee ((hopn _).2 (.inl rfl)) _ h2;have hxs:xs= #[]:=Array.ext' hr1;have hys:ys= #[]:=Array.ext' hr2;subst hxs hys;have has:RVs (MM M0 β hp') β w as (c.args.toList.map ρ):=sU (λx hx=>hev x ((hopn _).2 (.inr hx))) h3;have h6:=CvL.rvs mem (h4 hp' hrd) has;have e1:∀b:Nat->Option (Nat×Nat),MM M0 b (λ_=>none)=M0:=λb=>by funext c;simp[MM]
 rw[e1] at h6;refine .inr ⟨f,_,ii ho h1 hx rfl h5.enters,(h5.calls M0 w _ ⟨λb hb=>Nat.lt_of_lt_of_le (w0.lt b (mem.m0 b hb).1) mem.below.size,λhb=>(mem.m0 GT hb).2 rfl,mem.tab⟩ (dW h5.cl h6)).mono ?_⟩;rintro e w' ⟨y,rfl,hy,hb⟩;have hmx:=mem.ext hb;exact⟨y,rfl,β,hmx.1,hy,hmx.2,λ_ _=>rfl⟩
theorem wL{r:Ren}{hp hp':Hq}:∀(k:Nat) {a b:Lc},CvLL r hp hp' a b->CvLL r hp hp' (a.drop k) (b.drop k)
 |0,_,_,h=>h
 |k+1,[],_,h=>by cases (h:_=[]);exact CvLL.nil
 |k+1,x::xs,_,⟨y,ys,e,_,h2⟩=>by subst e;exact wL k h2
theorem wI{r:Ren}{hp hp':Hq}:∀(k:Nat) {a b:Lc},CvLL r hp hp' a b->CvLL r hp hp' (a.take k) (b.take k)
 |0,_,_,_=>CvLL.nil
 |k+1,[],_,h=>by cases (h:_=[]);exact CvLL.nil
 |k+1,x::xs,_,⟨y,ys,e,h1,h2⟩=>by subst e;exact CvLL.cons h1 (wI k h2)
theorem Fk{r:Ren}{hp:Hq}{sz TQ:Nat}{w:Nat->Nat}{L:List Lc}(hz:sz≠0)(hr:∀i e,L[i]?=some e->hp (i+2)=some ⟨TQ,sz,e⟩)(hw:∀i e,L[i]?=some e->e.length=w i)(hc:∀e∈L,∀x∈e,∀c∈x,Closed c):
    CvLL r hp (λ_=>none) (mzO sz w (λx=>x) L.length) (L.map λe=>[.arr e]):=by
 have key:∀(l:List Lc) (k:Nat),(∀i e,l[i]?=some e->L[k+i]?=some e)->CvLL r hp (λ_=>none) ((List.range' k l.length).map λi=>[.lsl (i+2) 0 (w i) none sz]) (l.map λe=>[.arr e]):=by
  intro l
  induction l with
  |nil=>intro k _;exact CvLL.nil
  |cons e l ih=>
   intro k hk;have he:L[k]?=some e:=hk 0 e rfl;have hm:=List.mem_of_getElem? he
   refine CvLL.cons (af ?_ ax) (ih (k+1) λi e' h'=>by
    have:=hk (i+1) e' φ;grind)
   refine Cv.shut (es:=e) aE (dY (hr k e he) hz) (λj B hj=>φ) φ ?_;rw[List.take_of_length_le φ];exact bZ aE (hc e hm)
 have:=key L 0 λi e h'=>by grind
 rw[<-List.range_eq_range'] at this;exact this
def InX(m i:Nat):Prop:=(1<=i/\i< m+2)\/(35<=i/\i< 40)
theorem mB{l:Hp}{t:Nat}:∀ex:Hp,(∀p∈ex,p.1≠t)->au (ex++l) t=au l t
 |[],_=>rfl
 |(k,x)::ex,h=>by
  rw[List.cons_append,de];unfold upd;rw[if_neg λe=>h (k,x) (List.mem_cons_self ..) e.symm];exact mB ex λp hp=>h p (List.mem_cons_of_mem _ hp)
section
variable {sz:Nat}{fr fr':Fr}{hp ex:Hp}{nx N TS TQ:Nat}{o o':Lc}{L:List Lc}{e:Lc}{k:Nat}
end
end Go.Abs
