/- Part Y04 of the proof. -/
import Derived.Test.YtjgokhkahkmpbaaGreatDoorY03
import Derived.RangeFuncNested
import Derived.RangeFuncLeaves
import Derived.TacticsIn
set_option linter.all false
namespace Go.Abs
open Go.RowKit
def AWp(ρ:Option Nat)(P:Program)(c:Code)(Q:Exit->AState->Prop)(st:AState):Prop:=
 ∀M0 w0 a w,ARel M0 w0 st a w->c.wpIn (FR ρ) 0 P (λe a' w'=> ∃st',ARel M0 w0 st' a' w'/\Q e st') a w
section
variable {ρ:Option Nat}{P:Program}{Q:Exit->AState->Prop}{st:AState}
theorem AWp.ent{c:Code}{st':AState}(h:SEnt st st')(hc:AWp ρ P c Q st'):AWp ρ P c Q st:=λM0 w0 a w hr=>hc M0 w0 a w (h M0 w0 a w hr)
theorem AWp.mono{c:Code}{Q':Exit->AState->Prop}(h:AWp ρ P c Q st)(hq:∀e s,Q e s->Q' e s):AWp ρ P c Q' st:=λM0 w0 a w hr=>
 wpIn_mono (h M0 w0 a w hr) λe _ _ ⟨s,h1,h2⟩=>⟨s,h1,hq e s h2⟩
theorem am(h:Q .normal st):AWp ρ P .skip Q st:=λ_ _ _ _ hr=>wpIn_skip ⟨st,hr,h⟩
theorem an(h:Q .ret st):AWp ρ P .ret Q st:=λ_ _ _ _ hr=>wpIn_ret ⟨st,hr,h⟩
theorem aB{id:Nat}(h:Q (.exit id) st):AWp ρ P (.exit id) Q st:=λ_ _ _ _ hr=>wpIn_exit ⟨st,hr,h⟩
def jO(next:AState->Prop)(Q:Exit->AState->Prop):Exit->AState->Prop
 | .normal,s=>next s
 |e,s=>Q e s
theorem ac{x y:Code}(h:AWp ρ P x (jO (AWp ρ P y Q) Q) st):AWp ρ P (.seq x y) Q st:=λM0 w0 a w hr=>
 wpIn_seq (wpIn_mono (h M0 w0 a w hr) λe a' w' ⟨s,h1,h2⟩=>by
  cases e with
  |normal=>exact h2 M0 w0 a' w' h1
  |_=>exact⟨s,h1,h2⟩)
theorem aw{c:Operand}{x y:Code}{t:Bool}(hc:st.ev c=some (.v (.bool t)))(h1:t=true->AWp ρ P x Q st)(h2:t=false->AWp ρ P y Q st):AWp ρ P (.cond c x y) Q st:=by
 rintro M0 w0 a w hr
 have hv:a.eval c= .bool t:=by
  obtain⟨β,mem,_,hf,_⟩:=hr;exact iW hf c _ hc
 exact wpIn_cond_split hv (λe=>h1 e M0 w0 a w hr) (λe=>h2 e M0 w0 a w hr)
def yx(id:Nat)(Q:Exit->AState->Prop):Exit->AState->Prop
 | .exit id',s=>if Nat.beq id' id then Q .normal s else Q (.exit id') s
 |e,s=>Q e s
theorem ak{id:Nat}{c:Code}(h:AWp ρ P c (yx id Q) st):AWp ρ P (.block id c) Q st:=λM0 w0 a w hr=>
 wpIn_block (wpIn_mono (h M0 w0 a w hr) λe a' w' ⟨s,h1,h2⟩=>by
  cases e with
  |exit id'=>
   simp only[Exit.inBlock];simp only[yx] at h2;by_cases hi:id'=id;subst hi;simp only[if_true];rw[Nat.beq_refl] at h2;exact⟨s,h1,h2⟩;rw[if_neg (λhb=>hi (Nat.eq_of_beq_eq_true hb))] at h2;grind
  |_=>exact⟨s,h1,h2⟩)
theorem least{p:Nat->Prop}(h:∃n,p n):∃n,p n/\∀m,p m->n<=m:=by
 obtain⟨n,hn⟩:=h
 induction n using Nat.strongRecOn with
 |_ n ih=>
  grind
theorem AWp.loop{c:Code}(I:Nat->AState->Prop){m:Nat}(h0:I m st)(round:∀n s,I n s->AWp ρ P c (jO (λs'=> ∃n',n'< n/\I n' s') Q) s):AWp ρ P (.loop c) Q st:=by
 rintro M0 w0 a w hr
 let R:Nat->Act->World->Prop:=λn a w=> ∃s,ARel M0 w0 s a w/\I n s
 have hR:∃f:Act->World->Nat,∀a w,(∃n,R n a w)->R (f a w) a w/\∀n,R n a w->f a w<=n:=by
  have hx:∀p:Act×World,∃n,(∃n,R n p.1 p.2)->R n p.1 p.2/\∀m,R m p.1 p.2->n<=m:=by
   intro p;by_cases h:∃n,R n p.1 p.2;obtain⟨n,h1,h2⟩:=least h;exact⟨n,λ_=>⟨h1,h2⟩⟩;simp_all
  exact⟨λa w=>Classical.choose (hx (a,w)),λa w=>Classical.choose_spec (hx (a,w))⟩
 obtain⟨f,hf⟩:=hR;refine wpIn_loop (λa w=> ∃n,R n a w) f ⟨m,st,hr,h0⟩ λa w hn=>?_;obtain⟨⟨s,hs,hI⟩,_⟩:=hf a w hn;refine wpIn_mono (round _ s hI M0 w0 a w hs) λe a' w' ⟨s',h1,h2⟩=>?_;cases e with
 |normal=>
  obtain⟨n',hlt,hI'⟩:=h2;refine⟨⟨n',s',h1,hI'⟩,Nat.lt_of_le_of_lt ((hf a' w' ⟨n',s',h1,hI'⟩).2 n' ⟨s',h1,hI'⟩) hlt⟩
 |_=>exact⟨s',h1,h2⟩
end
def lS(P:Program)(ops:Array Oper)(nx:Nat):Nat->List Oper->AState->List (Upd×Ln)->AState->Prop
 |_,[],st,us,st'=>us=[]/\st'=st
 |j,o::rest,st,us,st'=> ∃u rd us',us=(u,rd)::us'/\AStep P ops (nx+j) (look st.fr) (au st.hp) o u rd/\(∀d,o.dst=some d->d< st.n)/\lS P ops nx (j+1) rest (st.step o.dst u) us' st'
def fp(u:Upd×Ln):Ln×Ln:=(u.1.blk.map (·.1),u.2)
def AReg(P:Program)(ops:Array Oper)(nx:Nat)(j:Nat)(rest:List Oper)(st:AState)(K:List (Ln×Ln)->AState->Prop):Prop:=
 ∃us st',lS P ops nx j rest st us st'/\K (us.map fp) st'
def jd(ops:Array Oper)(i j:Nat):Bool:=((Region.before ops).getD j 0).testBit i
def AN(ops:Array Oper):Bool:=ops.toList.zipIdx.all fun(o,j)=>o.after.toList.all λe=>!Region.binds .any e||Nat.blt e.on j
def mq(ops:Array Oper)(fps:List (Ln×Ln)):Bool:=
 AN ops && (let B:=(Region.before ops).toList
  (List.range ops.size).all λj=>let bj:=B.getD j 0
   (List.range j).all λi=>bj.testBit i||
    nX (dst? ops i) (dst? ops j) (lk? ops i) (lk? ops j) ((fps.getD i ([],[])).1) ((fps.getD i ([],[])).2) ((fps.getD j ([],[])).1) ((fps.getD j ([],[])).2))
theorem v6{ops:Array Oper}{us:List (Upd×Ln)}(h:mq ops (us.map fp)=true):pu ops us (jd ops)=true:=by
 unfold mq at h;simp only[Bool.and_eq_true] at h;have h2:=h.2;unfold pu;rw[List.all_eq_true] at h2⊢;intro j hj;have h3:=h2 j hj;rw[List.all_eq_true] at h3⊢;intro i hi;have h4:=h3 i hi
 have e:∀k,(us.map fp).getD k ([],[])=(wk? us k,rd? us k):=by
  intro k;simp only[List.getD_eq_getElem?_getD,List.getElem?_map,wk?,blk?,rd?];cases us[k]? <;> rfl
 rw[e i,e j] at h4;have e2:((Region.before ops).toList.getD j 0)=(Region.before ops).getD j 0:=ψ
 rw[e2] at h4;exact h4
theorem AL(ops:List Oper)(acc:Array Nat)(f:Array Nat->Oper->Nat):(ops.foldl (λacc o=>acc.push (f acc o)) acc).size=acc.size+ops.length:=by
 induction ops generalizing acc with
 |nil=>simp
 |cons o ops ih=>grind
theorem sf(ops:List Oper)(acc:Array Nat)(f:Array Nat->Oper->Nat)(j:Nat)(hj:j< acc.size):(ops.foldl (λacc o=>acc.push (f acc o)) acc)[j]?=acc[j]?:=by
 induction ops generalizing acc with
 |nil=>rfl
 |cons o ops ih=>grind
theorem CK(ops:List Oper)(f:Array Nat->Oper->Nat)(j:Nat)(o:Oper)(ho:ops[j]?=some o):
    ∃acc:Array Nat,acc.size=j/\(∀k,k< j->(ops.foldl (λacc o=>acc.push (f acc o)) #[])[k]?=acc[k]?)/\(ops.foldl (λacc o=>acc.push (f acc o)) #[])[j]?=some (f acc o):=by
 have hlt:j< ops.length:=(List.getElem?_eq_some_iff.1 ho).1
 have hsplit:ops=ops.take j++o::ops.drop (j+1):=by
  rw[<-(List.getElem?_eq_some_iff.1 ho).2,<-List.drop_eq_getElem_cons hlt,List.take_append_drop]
 have hs:=AL (ops.take j) #[] f;simp only[List.length_take,Nat.min_eq_left (Nat.le_of_lt hlt),List.size_toArray,List.length_nil,Nat.zero_add] at hs;refine⟨(ops.take j).foldl (λacc o=>acc.push (f acc o)) #[],hs,λk hk=>?_,?_⟩
 conv=>lhs;rw[hsplit]
 rw[List.foldl_append];exact sf _ _ f k ω
 conv=>lhs;rw[hsplit]
 rw[List.foldl_append,List.foldl_cons,sf _ _ f j φ];grind
theorem CI(acc:Array Nat)(es:List Edge)(s b:Nat)(h:(es.foldl (λs e=>if Region.binds .any e then s|||2^ e.on|||acc.getD e.on 0 else s) s).testBit b=true):
    s.testBit b=true\/∃e∈es,Region.binds .any e=true/\(b=e.on\/(acc.getD e.on 0).testBit b=true):=by
 induction es generalizing s with
 |nil=>grind
 |cons e es ih=>
  rw[List.foldl_cons] at h;rcases ih _ h with h1|⟨e',h1,h2⟩
  by_cases hb:Region.binds .any e=true;rw[if_pos hb,Nat.testBit_or,Nat.testBit_or,Bool.or_eq_true,Bool.or_eq_true] at h1;rcases h1 with(h1|h1)|h1
  exact .inl h1;exact .inr ⟨e,List.mem_cons_self ..,hb,.inl φ⟩;exact .inr ⟨e,List.mem_cons_self ..,hb,.inr h1⟩;rw[if_neg hb] at h1;exact .inl h1;grind
theorem ancOK{ops:Array Oper}(h:AN ops=true):AncOK ops (jd ops):=by
 have back:∀j o,ops[j]?=some o->∀e∈o.after,Region.binds .any e=true->e.on< j:=by
  intro j o ho e he hb;unfold AN at h;rw[List.all_eq_true] at h;have hm:(o,j)∈ops.toList.zipIdx:=φ
  have:=h (o,j) hm;simp only[List.all_eq_true,Bool.or_eq_true,Bool.not_eq_true'] at this;rcases this e (Array.mem_toList_iff.2 he) with h1|h1
  rw[hb] at h1;cases h1;simp_all
 refine⟨back,λσ j o hc ho he b hb=>?_⟩;have hlo:ops.toList[j]?=some o:=φ
 obtain⟨acc,hs,h1,h2⟩:=CK ops.toList (λacc o=>o.after.foldl (λs e=>if Region.binds .any e then s|||2^ e.on|||acc.getD e.on 0 else s) 0) j o hlo
 have hbef:Region.before ops=ops.toList.foldl (λacc o=>acc.push (o.after.foldl (λs e=>if Region.binds .any e then s|||2^ e.on|||acc.getD e.on 0 else s) 0)) #[]:=by
  rw[Region.before,Array.foldl_toList]
 unfold jd at hb;rw[hbef,Array.getD_eq_getD_getElem?,h2,Option.getD_some,<-Array.foldl_toList] at hb;rcases CI acc _ 0 b hb with h3|⟨e,h3,h4,h5⟩
 simp at h3;have hmem:=Array.mem_toList_iff.1 h3;have hon:=he e hmem h4;rcases h5 with rfl|h5
 exact hon;refine hc e.on hon b ?_;have hlt:=back j o ho e hmem h4;unfold jd;rw[hbef,Array.getD_eq_getD_getElem?,h1 e.on hlt,<-Array.getD_eq_getD_getElem?];grind
theorem eG{P:Program}{ops:Array Oper}{nx:Nat}:∀(rest:List Oper) (j:Nat) (st st':AState) (us us0:List (Upd×Ln)) (fr0:Nat->Option AV) (hp0:Hq),
    lS P ops nx j rest st us st'->us0.length=j->(∀i o,rest[i]?=some o->ops[j+i]?=some o)->look st.fr=stF ops (us0++us) fr0 (List.range j)->au st.hp=stH (us0++us) hp0 (List.range j)->
    (∀i o,rest[i]?=some o->∃u rd,(us0++us)[j+i]?=some (u,rd)/\AStep P ops (nx+(j+i)) (stF ops (us0++us) fr0 (List.range (j+i))) (stH (us0++us) hp0 (List.range (j+i))) o u rd/\∀d,o.dst=some d->d< st.n)/\
    look st'.fr=stF ops (us0++us) fr0 (List.range (j+rest.length))/\au st'.hp=stH (us0++us) hp0 (List.range (j+rest.length))/\st'.n=st.n
 |[],j,st,st',us,us0,fr0,hp0,h,_,_,hF,hH=>by
  obtain⟨rfl,rfl⟩:=h;grind
 |o::rest,j,st,st',us,us0,fr0,hp0,h,hl,hops,hF,hH=>by
  obtain⟨u,rd,us',rfl,hstep,hdst,hrun⟩:=h;have happ:us0++(u,rd)::us'=(us0++[(u,rd)])++us':=ψ
  have hu:(us0++(u,rd)::us')[j]?=some (u,rd):=φ
  have ho:ops[j]?=some o:=hops 0 o rfl
  have hF':look (st.step o.dst u).fr=stF ops ((us0++[(u,rd)])++us') fr0 (List.range (j+1)):=by
   rw[<-happ,List.range_succ,lc,<-hF];simp only[AState.step,nr,dst?,ho,val?,hu,Option.bind_some,Option.map_some,Option.getD_some]
  have hH':au (st.step o.dst u).hp=stH ((us0++[(u,rd)])++us') hp0 (List.range (j+1)):=by
   rw[<-happ,List.range_succ,jx,<-hH];simp only[AState.step,kI,blk?,hu,Option.map_some,Option.getD_some]
  obtain⟨r1,r2,r3,r4⟩:=eG rest (j+1) (st.step o.dst u) st' us' (us0++[(u,rd)]) fr0 hp0 hrun (by simp[hl]) (λi o' h=>by
   have:=hops (i+1) o' (by simpa using h);rwa[show j+(i+1)=j+1+i by omega] at this) hF' hH'
  rw[<-happ] at r1 r2 r3;refine⟨λi o' hi=>?_,?_,?_,r4⟩;cases i with
  |zero=>
   simp only[List.getElem?_cons_zero,Option.some.injEq] at hi;subst hi;refine⟨u,rd,by simpa using hu,?_,hdst⟩;rw[Nat.add_zero,<-hF,<-hH];exact hstep
  |succ i=>
   obtain⟨u',rd',h1,h2,h3⟩:=r1 i o' (by simpa using hi);rw[show j+1+i=j+(i+1) by omega] at h1 h2;exact⟨u',rd',h1,h2,h3⟩
  rw[r2,show j+1+rest.length=j+(o::rest).length by simp;omega];rw[r3,show j+1+rest.length=j+(o::rest).length by simp;omega]
section
variable {ρ:Option Nat}{P:Program}{Q:Exit->AState->Prop}{st:AState}{ops:Array Oper}{id:Nat}
theorem AWp.regionD(hm:P.follows .mixedOrders=true)(h:AReg P ops st.nx 0 ops.toList st λfps s=>mq ops fps=true/\Q .normal ⟨s.fr,s.hp,st.nx+ops.size,s.n⟩):AWp ρ P (.region id ops true) Q st:=by
 rintro M0 w0 a w hr;obtain⟨us,st',hrun,hok,hq⟩:=h;obtain⟨h1,h2,h3,h4⟩:=eG ops.toList 0 st st' us [] (look st.fr) (au st.hp) hrun rfl (λi o h=>φ) rfl rfl;simp only[List.nil_append,Nat.zero_add,Array.length_toList] at h1 h2 h3
 have hback:AN ops=true:=by
  unfold mq at hok;grind
 refine Br (us:=us) hm (ancOK hback) (v6 hok) (λj o ho=>h1 j o φ) hr λa' w' hr'=>⟨⟨st'.fr,st'.hp,st.nx+ops.size,st'.n⟩,?_,hq⟩;rw[<-h2,<-h3,<-h4] at hr';exact hr'
theorem AWp.region(h:AReg P ops st.nx 0 ops.toList st λ_ s=>Q .normal ⟨s.fr,s.hp,st.nx+ops.size,s.n⟩):AWp ρ P (.region id ops false) Q st:=by
 rintro M0 w0 a w hr;obtain⟨us,st',hrun,hq⟩:=h;refine wpIn_region_list ?_
 have main:∀(rest:List Oper) (j:Nat) (s s':AState) (us:List (Upd×Ln)) (a:Act) (w:World),j+rest.length=ops.size->lS P ops st.nx j rest s us s'->FRel M0 w0 (look s.fr) (au s.hp) (λi=>st.nx+j<=i) s.n a w->Q .normal ⟨s'.fr,s'.hp,st.nx+ops.size,s'.n⟩->
     wpListIn (FR ρ) 0 P ops (λe a' w'=> ∃st',ARel M0 w0 st' a' w'/\Q e st') rest a w:=by
  intro rest
  induction rest with
  |nil=>
   rintro j s s' us a w hj ⟨_,rfl⟩ hr hq;refine wpListIn_nil ⟨_,?_,hq⟩;have:st.nx+j=st.nx+ops.size:=φ
   rw[this] at hr;exact hr
  |cons o rest ih=>
   rintro j s s' us a w hj ⟨u,rd,us',rfl,hstep,hdst,hrun⟩ hr hq;refine wpListIn_step λK hK=>(hstep.sim hr (Nat.le_refl _) hdst λa' w' hr'=>hK a' w' (ih (j+1) (s.step o.dst u) s' us' a' w' φ hrun ?_ hq));rw[<-nr,<-kI] at hr';exact hr'.free λi hi=>⟨ω,ω⟩
 exact main ops.toList 0 st st' us a w ψ hrun hr hq
end
section
variable {P:Program}{ops:Array Oper}{nx j:Nat}{rest:List Oper}{st:AState}{K:List (Ln×Ln)->AState->Prop}
theorem AReg.nil(h:K [] st):AReg P ops nx j [] st K:=⟨[],st,⟨rfl,rfl⟩,h⟩
theorem AReg.cons {dst:Option Nat} {op:Op} {ty:Nat} {pos:String} {after:Array Edge} {guard:Option (Nat×Bool)} {u:Upd} {rd:Ln}
    (hs:AStep P ops (nx+j) (look st.fr) (au st.hp) ⟨dst,op,ty,pos,after,guard⟩ u rd) (hd:(match dst with|some d=>Nat.blt d st.n|none=>true)=true)
    (h:AReg P ops nx (j+1) rest (st.step dst u) λfps s=>K ((u.blk.map (·.1),rd)::fps) s):AReg P ops nx j (⟨dst,op,ty,pos,after,guard⟩::rest) st K:=by
 obtain⟨us,st',h1,h2⟩:=h;refine⟨(u,rd)::us,st',⟨u,rd,us,rfl,hs,λd hd'=>?_,h1⟩,h2⟩;subst hd';simp_all
end
section
variable {M0:Nat->Prop}{w0:Base}{w:World}{β:Bq}{hp:Hq}
theorem Mem.shut(h:Mem M0 w0 β hp w){D:Nat}{o o':Obj}(hD:w.heap[D]?=some o)(hno:aL w D=none)(hd:¬w0.K D):
    Mem M0 w0 β hp (w.putObj D o')/\StabC (MM M0 β hp) (MM M0 β hp) β β w (w.putObj D o'):=by
 have hsize:(w.putObj D o').heap.size=w.heap.size:=ψ
 have hkeep:∀b N,aL w b=some N->(w.putObj D o').heap[b]?=w.heap[b]?:=λb N hb=>World.putObj_heap_other (λe=>φ)
 have st:StabC (MM M0 β hp) (MM M0 β hp) β β w (w.putObj D o'):=
  ⟨λb N hb _=>hkeep b N hb,λ_ _ _ h=>h,λ_ _ h=>h,λb N hb=>(dZ (hkeep b N hb)).trans hb⟩
 refine⟨⟨⟨h.below.os,h.below.tape,h.below.output,by rw[hsize];exact h.below.size,λk hk=>(World.putObj_heap_other (λe=>hd φ)).trans (h.below.block k hk),λb n hs=>st.sz b n (h.below.sizes b n hs)⟩,h.m0,λi b s hi=>by rw[hsize];exact h.rng i b s hi,h.pin,λi B hi=>?_,h.inj⟩,st⟩;obtain⟨b,h1,h2⟩:=h.blk i B hi;obtain⟨N,hs⟩:=h2.size;exact⟨b,h1,h2.stab st (hkeep b N hs)⟩
end
def ARes1(P:Program)(st:AState):ResultVar->AV->Prop
 | .tmp t,r=>look st.fr t=some r
 | .cell a T,r=> ∃i e o B cs,look st.fr a=some (.lptr i e o)/\dw (au st.hp) i=some B/\B.es[e]?=some cs/\
     ((fj P T=some true/\∃n,iO P T=some n/\o+n<=cs.length/\r= .agg ((cs.drop o).take n))\/(fj P T=some false/\cs[o]?=some r))
def D7(P:Program)(st:AState):List ResultVar->La->Prop
 |[],rs=>rs=[]
 |x::xs,rs=> ∃r rs',rs=r::rs'/\ARes1 P st x r/\D7 P st xs rs'
def Gw:La->AV
 |[x]=>x
 |xs=> .tup xs
def kW(P:Program)(rs:List ResultVar)(st:AState)(r:AV):Prop:=∃as,D7 P st rs as/\Cv (Ren.id 0) (au st.hp) (λ_=>none) (Gw as) r
def fL(tmps:Array Value):ResultVar->Sem Value
 | .tmp t=>pure (tmps.getD t undef)
 | .cell a t=>do loadVar t (<-asAddr (tmps.getD a undef))
section
variable {P:Program}{M0:Nat->Prop}{w0:Base}{w:World}{β:Bq}{st:AState}{tmps:Array Value}
theorem Gb(mem:Mem M0 w0 β (au st.hp) w)(hf:∀t x,look st.fr t=some x->RV (MM M0 β (au st.hp)) β w x (tmps.getD t undef)):∀(v:ResultVar) (r:AV),ARes1 P st v r->∃y,(fL tmps v).run P w= .ok y w/\RV (MM M0 β (au st.hp)) β w r y
 | .tmp t,r,h=>⟨_,rfl,hf t r h⟩
 | .cell a T,r,⟨i,e,o,B,cs,h1,h2,h3,h4⟩=>by
  obtain⟨b,s,hb,hx⟩:=hf a _ h1;obtain⟨b',cs',hb',_,hr,_⟩:=mem.cellsF h2;rw[hb] at hb';cases hb';rcases h4 with⟨h4,n,h5,h6,rfl⟩|⟨h4,h5⟩
  have hg:=((hr.get h3).1.drop o).take n;obtain⟨xs,hx1,hx2⟩:=hg.vals;have hl:xs.length=n:=by rw[hx1.length];grind
  refine⟨.agg xs.toArray,?_,_,rfl,hx1⟩;simp[fL,hx,asAddr,iQ h4 h5 hl (λj v hj=>by have:=hx2 j v hj;simpa using this)];obtain⟨y,hy1,hy2⟩:=(hr.get h3).1.get h5;refine⟨y,?_,hy2⟩;simp[fL,hx,asAddr,iP h4 (by simpa using hy1)]
theorem y9(mem:Mem M0 w0 β (au st.hp) w)(hf:∀t x,look st.fr t=some x->RV (MM M0 β (au st.hp)) β w x (tmps.getD t undef)):∀(vs:List ResultVar) (rs:La),D7 P st vs rs->∃ys,(vs.mapM (fL tmps)).run P w= .ok ys w/\RVs (MM M0 β (au st.hp)) β w rs ys
 |[],rs,h=>⟨[],rfl,by cases (h:rs=[]);rfl⟩
 |v::vs,rs,⟨r,rs',e,h1,h2⟩=>by
  subst e;obtain⟨y,hy1,hy2⟩:=Gb mem hf v r h1;obtain⟨ys,hz1,hz2⟩:=y9 mem hf vs rs' h2;refine⟨y::ys,?_,y,ys,rfl,hy2,hz2⟩;simp_all
theorem res_run{fn:Func}{r:AV}(mem:Mem M0 w0 β (au st.hp) w)(hf:∀t x,look st.fr t=some x->RV (MM M0 β (au st.hp)) β w x (tmps.getD t undef))(h:kW P fn.results.toList st r):
    ∃y,(results fn tmps).run P w= .ok y w/\RV M0 (λ_=>none) w r y:=by
 obtain⟨as,h1,h2⟩:=h;obtain⟨ys,h3,h4⟩:=y9 mem hf _ _ h1
 have hm:(fn.results.mapM (fL tmps)).run P w= .ok ys.toArray w:=by
  rw[Array.mapM_eq_mapM_toList,Sem.run_map,h3];rfl
 have hy:RV (MM M0 β (au st.hp)) β w (Gw as) (if h:ys.toArray.size=1 then ys.toArray[0] else .tuple ys.toArray):=by
  cases as with
  |nil=>cases (h4:ys=[]);exact⟨_,rfl,rfl⟩
  |cons a as=>
   obtain⟨y,ys',rfl,r1,r2⟩:=h4;cases as with
   |nil=>cases (r2:ys'=[]);exact r1
   |cons b bs=>
    obtain⟨z,zs,rfl,r3,r4⟩:=r2;exact⟨_,rfl,y,_,rfl,r1,z,zs,rfl,r3,r4⟩
 refine⟨(if h:ys.toArray.size=1 then ys.toArray[0] else Value.tuple ys.toArray),?_,?_⟩;have he:results fn tmps=(do let vs<-fn.results.mapM (fL tmps);pure (if h:vs.size=1 then vs[0] else .tuple vs)):=rfl;rw[he,Sem.run_bind,hm];rfl;have:=h2 M0 w0 β w _ mem hy
 have e:MM M0 ((Ren.id 0).app (λ_=>none) β) (λ_=>none)=M0:=by
  funext b;simp[MM]
 rw[e,Ren.app_zero] at this;grind
end
def dx:Nat->La->List (Nat×AV)
 |_,[]=>[]
 |i,a::as=>(i,a)::dx (i+1) as
theorem gf{M:Nat->Prop}{w:World}:∀{as:La} {vs:List Value} {i t:Nat} {x:AV},RVs M (λ_=>none) w as vs->look (dx i as) t=some x->i<=t/\∃y,vs[t- i]?=some y/\RV M (λ_=>none) w x y
 |[],_,_,_,_,_,h=>by cases h
 |a::as,vs,i,t,x,⟨y,ys,e,h1,h2⟩,h=>by
  simp only[dx] at h;rw[cJ] at h;unfold upd at h;split at h
  ·grind
  obtain⟨h3,z,h4,h5⟩:=gf h2 h;grind
theorem iz {P:Program} {fn:Func} {tmps:Array Value} {R:Ending->World->Prop} {M0:Nat->Prop} {w0:Base} {β:Bq} {st:AState} {r:AV}
    (hres:kW P fn.results.toList st r) (hR:∀y w',RV M0 (λ_=>none) w' r y->Mem M0 w0 β (au st.hp) w'->(∀t x,look st.fr t=some x->RV (MM M0 β (au st.hp)) β w' x (tmps.getD t undef))->(results fn tmps).run P w'= .ok y w'->R (.returned y) w'):
    ∀(Ds:Ln) (w:World),Ds.Nodup->(∀D∈Ds,w.heap[D]?=some (.deferred (some []))/\¬w0.K D)->Mem M0 w0 β (au st.hp) w->(∀t x,look st.fr t=some x->RV (MM M0 β (au st.hp)) β w x (tmps.getD t undef))->
     LeavesInM (FR none) 0 P fn tmps R (Ds.map BC) .returning w
 |[],w,_,_,mem,hf=>by
  obtain⟨y,h1,h2⟩:=res_run mem hf hres;exact⟨y,h1,hR y w h2 mem hf h1⟩
 |D::Ds,w,nd,hD,mem,hf=>by
  obtain⟨h1,h2⟩:=hD D (List.mem_cons_self ..);rw[List.nodup_cons] at nd;have hsh:=mem.shut (o':= .deferred none) h1 (by simp[aL,h1]) h2;refine⟨ψ,.inl ⟨D,w.putObj D (.deferred none),rfl,run_takeDeferred h1,iz hres hR Ds _ nd.2 (λE hE=>?_) hsh.1 λt x hx=>hsh.2.all (hf t x hx)⟩⟩;obtain⟨h3,h4⟩:=hD E (List.mem_cons_of_mem _ hE);exact⟨by rw[World.putObj_heap_other (λe=>φ)];grind,h4⟩
def Base.of(w:World)(h:TabW w):Base:=⟨w,λb=>b< w.heap.size,λ_ h=>h,none,λ_=>undef,h.lt,h⟩
theorem FSpec.intro {P:Program} {f:Nat} {fn:Func} {c:Code} {args:La} {r:AV} (hf:P.funcs[f]?=some fn) (hb:fn.body=some c) (hname:(fn.name== "runtime.NumGoroutine")=false) (hcl:∀a∈args,Closed a) (hn:args.length<=fn.ntmps)
    (h:AWp none P c (λe st=>(e= .normal\/e= .ret)/\kW P fn.results.toList st r) ⟨dx 0 args,[],1,fn.ntmps⟩):FSpec P f args r:=by
 refine⟨hcl,λxs w=>?_,λM w vals hM hargs=>?_⟩;have hname':¬fn.name= "runtime.NumGoroutine" :=φ
 simp[callFunc,hf,hname',hb];refine(callsIn_wide (n:=0)).1 (callsIn_of_wp_marks (F:=Fence.wide) hf hb trivial ?_);have hlen:=hargs.length
 have hrel:ARel M (Base.of w hM.tab) ⟨dx 0 args,[],1,fn.ntmps⟩ {tmps:=vals.toArray++Array.replicate (fn.ntmps- vals.toArray.size) undef,defers:=[]} w:=by
  refine⟨λ_=>none,⟨⟨rfl,rfl,rfl,Nat.le_refl _,λ_ _=>rfl,λ_ _ h=>h⟩,(λb hb=>⟨hM.lt b hb,λe=>hM.nt (e▸hb)⟩),(λ_ _ _ h=>by cases h),(λ_=>rfl),(λ_ _ h=>by cases h),(λ_ _ _ _ _ _ _ h=>ψ)⟩,φ,λt x hx=>?_,λi (hi:1<=i)=>⟨rfl,ω⟩,⟨[],rfl,List.nodup_nil,ψ⟩⟩;have hmm:MM M (λ_=>none) (au [])=M:=by funext b;simp[MM,au,look]
  show RV (MM M (λ_=>none) (au [])) _ _ _ _;rw[hmm,cY rfl];obtain⟨_,y,h1,h2⟩:=gf hargs hx
  have hy:(vals.toArray++Array.replicate (fn.ntmps- vals.toArray.size) undef).getD t undef=y:=by
   have hlt:t< vals.length:=φ
   rw[Array.getD_eq_getD_getElem?,Array.getElem?_append_left φ];grind
  grind
 refine wpIn_mono (h M (Base.of w hM.tab) _ w hrel) λe a' w' ⟨st',⟨β,mem,hsz,hfr,hfree,Ds,hds,hnd,hD⟩,he,hres⟩=>?_
 have hL:LeavesInM (FR none) 0 P fn a'.tmps (λe w'=> ∃y,e= .returned y/\RV M (λ_=>none) w' r y/\Below w.heap.size w w') a'.defers .returning w':=by
  rw[hds];exact iz hres (λy w'' h1 h2 _ _=>⟨y,rfl,h1,⟨h2.below.os,h2.below.tape,h2.below.output,h2.below.size,h2.below.block⟩⟩) Ds w' hnd hD mem (λt x hx=>by have:=hfr t x hx;rwa[cY rfl] at this)
 rcases he with rfl|rfl
 exact hL;exact hL
theorem ESpec.intro {P:Program} {f:Nat} {fn:Func} {c:Code} {ty sz:Nat} {E E':Lc} {e n:Nat} {cap:Option Nat} {args:La} {r:Value} (hf:P.funcs[f]?=some fn) (hb:fn.body=some c) (hname:(fn.name== "runtime.NumGoroutine")=false)
    (hcl:∀a∈args,Closed a) (hclE:∀x∈E,∀c∈x,Closed c) (hclE':∀x∈E',∀c∈x,Closed c) (hn:args.length+1<=fn.ntmps)
    (h:AWp none P c (λx st=>(x= .normal\/x= .ret)/\kW P fn.results.toList st (.v r)/\au st.hp 0=some ⟨ty,sz,E'⟩) ⟨(0,.lsl 0 e n cap sz)::dx 1 args,[(0,some ⟨ty,sz,E⟩)],1,fn.ntmps⟩) (hz:Nat.blt 0 sz=true:=by rfl):ESpec P f ty sz E E' e n cap args r:=by
 refine⟨iZ hz,hcl,hclE,λxs w=>?_,λM w b y0 vals hM hMb hold hy0 hargs=>?_⟩;have hname':¬fn.name= "runtime.NumGoroutine" :=φ
 simp[callFunc,hf,hname',hb];refine(callsIn_wide (n:=0)).1 (callsIn_of_wp_marks (F:=Fence.wide) hf hb trivial ?_);have hlen:=hargs.length;obtain⟨cs,hh,hr,hl⟩:=hold
 let bs:Base:=⟨w,λx=>x< w.heap.size/\x≠b,λ_ h=>h.1,some (b,sz),λ_=>undef,⟨hM.tab.lt,λe=>hM.nt (e▸hMb)⟩,hM.tab⟩
 let β0:Nat->Option (Nat×Nat):=λi=>if i=0 then some (b,sz) else none
 have hlb:∀i,au [(0,some (⟨ty,sz,E⟩:ABlk))] i=if i=0 then some ⟨ty,sz,E⟩ else none:=λi=>by
  rw[de];unfold upd;split <;> rfl
 have hmm:∀x,MM (λx=>M x/\x≠b) β0 (au [(0,some (⟨ty,sz,E⟩:ABlk))]) x↔M x:=by
  intro x;constructor;rintro(hx|⟨i,B,s,h1,h2⟩);exact hx.1;simp only[β0] at h2;split at h2;cases h2;exact hMb;cases h2;intro hx;by_cases hxb:x=b;exact .inr ⟨0,⟨ty,sz,E⟩,sz,φ,φ⟩;exact .inl ⟨hx,hxb⟩
 have hmm':MM (λx=>M x/\x≠b) β0 (au [(0,some (⟨ty,sz,E⟩:ABlk))])=M:=funext λx=>propext (hmm x);have up:StabC M M (λ_=>none) β0 w w:=⟨λ_ _ _ _=>rfl,λ_ _ _ h=>h,(λ_ _ h=>by cases h),λ_ _ h=>h⟩
 have hmem:Mem (λx=>M x/\x≠b) bs β0 (au [(0,some (⟨ty,sz,E⟩:ABlk))]) w:=by
  refine⟨⟨rfl,rfl,rfl,Nat.le_refl _,λ_ _=>rfl,λ_ _ h=>h⟩,λx hx=>⟨⟨hM.lt x hx.1,hx.2⟩,λe=>hM.nt (e▸hx.1)⟩,λi x s hi=>?_,(λ_=>rfl),λi B hi=>?_,λi j B B' x s s' hi hj _ _=>?_⟩;simp only[β0] at hi;split at hi;cases hi;exact⟨λhk=>hk.2 rfl,hM.lt _ hMb⟩;cases hi;rw[hlb] at hi;split at hi
  ·rename_i h0
   subst h0;cases hi;refine⟨b,rfl,.inl ⟨iZ hz,cs,hh,?_,hl⟩⟩;rw[hmm'];exact up.ess rfl hr
  cases hi;rw[hlb] at hi hj;by_cases h1:i=0;by_cases h2:j=0;rw[h1,h2];rw[if_neg h2] at hj;cases hj;rw[if_neg h1] at hi;cases hi
 have hrel:ARel (λx=>M x/\x≠b) bs ⟨(0,.lsl 0 e n cap sz)::dx 1 args,[(0,some ⟨ty,sz,E⟩)],1,fn.ntmps⟩ {tmps:=(y0::vals).toArray++Array.replicate (fn.ntmps- (y0::vals).toArray.size) undef,defers:=[]} w:=by
  refine⟨β0,hmem,χ,λt x hx=>?_,λi (hi:1<=i)=>⟨by simp only[β0];rw[if_neg ω],ω⟩,⟨[],rfl,List.nodup_nil,ψ⟩⟩;show RV (MM _ β0 (au [(0,some (⟨ty,sz,E⟩:ABlk))])) _ _ _ _;rw[hmm',cY rfl];rw[show(look ((0,.lsl 0 e n cap sz)::dx 1 args) t=some x)↔(upd (look (dx 1 args)) 0 (some (.lsl 0 e n cap sz)) t=some x) by rw[cJ]] at hx
  have get:∀(k:Nat) (y:Value),(y0::vals)[k]?=some y->((y0::vals).toArray++Array.replicate (fn.ntmps- (y0::vals).toArray.size) undef).getD k undef=y:=by
   intro k y hk;have hlt:k< (y0::vals).length:=(List.getElem?_eq_some_iff.1 hk).1;rw[Array.getD_eq_getD_getElem?,Array.getElem?_append_left (by simpa using hlt)];simp only[List.getElem?_toArray];rw[hk];rfl
  unfold upd at hx;split at hx
  ·rename_i h0;subst h0;cases hx
   rw[get 0 y0 rfl];exact hy0
  obtain⟨h1,y,h2,h3⟩:=gf hargs hx;rw[get t y (by rw[show t=(t- 1)+1 by omega,List.getElem?_cons_succ];exact h2)];exact up.all h3
 refine wpIn_mono (h _ bs _ w hrel) λx a' w' ⟨st',⟨β,mem,hsz,hfr,hfree,Ds,hds,hnd,hD⟩,he,hres,h0⟩=>?_
 have hL:LeavesInM (FR none) 0 P fn a'.tmps (λx w'=>x= .returned r/\Ih M w' b ty sz E'/\But b w w') a'.defers .returning w':=by
  rw[hds];refine iz hres (λy w'' h1 h2 _ _=>?_) Ds w' hnd hD mem (λt x hx=>by have:=hfr t x hx;rwa[cY rfl] at this);cases (h1:y=r);have hb0:β 0=some (b,sz):=h2.pin (by rw[h0];rfl);obtain⟨b',cs',e1,e2,e3,e4⟩:=h2.cells h0 (iZ hz);rw[hb0] at e1;cases e1;refine⟨rfl,⟨cs',e2,StabC.ess (w:=w'') (w':=w'') (M:=MM (λx=>M x/\x≠b) β (au st'.hp)) (β:=λ_=>none) ⟨λ_ _ _ _=>rfl,λx _ _ hx=>?_,(λ_ _ h=>by cases h),λ_ _ h=>h⟩ rfl (gE hclE' e3),e4⟩,⟨h2.below.os,h2.below.tape,h2.below.output,h2.below.size,λx hx hxb=>h2.below.block x ⟨hx,hxb⟩,h2.below.sizes⟩⟩;by_cases hxb:x=b;subst hxb;exact .inr ⟨0,_,_,h0,hb0⟩;exact .inl ⟨hx,hxb⟩
 rcases he with rfl|rfl
 exact hL;exact hL
theorem OSpec.intro {P:Program} {f:Nat} {fn:Func} {c:Code} {ty sz t:Nat} {args:La} {es:Lc} (hf:P.funcs[f]?=some fn) (hb:fn.body=some c) (hname:(fn.name== "runtime.NumGoroutine")=false) (hrs:fn.results.toList=[.tmp t]) (hcl:∀a∈args,Closed a) (hce:∀x∈es,∀c∈x,Closed c) (hn:args.length<=fn.ntmps)
    (h:AWp none P c (λx st=>(x= .normal\/x= .ret)/\∃i cap,look st.fr t=some (.lsl i 0 es.length cap sz)/\au st.hp i=some ⟨ty,sz,es⟩) ⟨dx 0 args,[],1,fn.ntmps⟩) (hz:Nat.blt 0 sz=true:=by rfl):OSpec P f args ty sz es:=by
 refine⟨iZ hz,hcl,λxs w=>?_,λM w vals hM hargs=>?_⟩;have hname':¬fn.name= "runtime.NumGoroutine" :=φ
 simp[callFunc,hf,hname',hb];refine(callsIn_wide (n:=0)).1 (callsIn_of_wp_marks (F:=Fence.wide) hf hb trivial ?_);have hlen:=hargs.length
 have hrel:ARel M (Base.of w hM.tab) ⟨dx 0 args,[],1,fn.ntmps⟩ {tmps:=vals.toArray++Array.replicate (fn.ntmps- vals.toArray.size) undef,defers:=[]} w:=by
  refine⟨λ_=>none,⟨⟨rfl,rfl,rfl,Nat.le_refl _,λ_ _=>rfl,λ_ _ h=>h⟩,(λb hb=>⟨hM.lt b hb,λe=>hM.nt (e▸hb)⟩),(λ_ _ _ h=>by cases h),(λ_=>rfl),(λ_ _ h=>by cases h),(λ_ _ _ _ _ _ _ h=>ψ)⟩,φ,λt x hx=>?_,λi (hi:1<=i)=>⟨rfl,ω⟩,⟨[],rfl,List.nodup_nil,ψ⟩⟩;have hmm:MM M (λ_=>none) (au [])=M:=by funext b;simp[MM,au,look]
  show RV (MM M (λ_=>none) (au [])) _ _ _ _;rw[hmm,cY rfl];obtain⟨_,y,h1,h2⟩:=gf hargs hx
  have hy:(vals.toArray++Array.replicate (fn.ntmps- vals.toArray.size) undef).getD t undef=y:=by
   have hlt:t< vals.length:=φ
   rw[Array.getD_eq_getD_getElem?,Array.getElem?_append_left φ];grind
  grind
 refine wpIn_mono (h M (Base.of w hM.tab) _ w hrel) λx a' w' ⟨st',⟨β,mem,hsz,hfr,hfree,Ds,hds,hnd,hD⟩,he,i,cap,hlk,hbk⟩=>?_
 have hres:kW P fn.results.toList st' .any:=by
  rw[hrs];exact⟨[_],⟨_,[],rfl,hlk,rfl⟩,λ_ _ _ _ _ _ _=>trivial⟩
 have hL:LeavesInM (FR none) 0 P fn a'.tmps (λx w'=> ∃b c,x= .returned (.slice (some ⟨b,0,none⟩) es.length c)/\w.heap.size<=b/\b< w'.heap.size/\es.length<=c/\c<=maxLen/\(∃cs,w'.heap[b]?=some (.cells cs ty (0,0))/\RVess (λx=>M x\/x=b) (λ_=>none) w' b sz es 0/\c* sz<=cs.size)/\Below w.heap.size w w') a'.defers .returning w':=by
  rw[hds];refine iz hres (λy w'' _ h2 h3 h4=>?_) Ds w' hnd hD mem (λt x hx=>by have:=hfr t x hx;rwa[cY rfl] at this);obtain⟨b,c,e1,e2,e3,e4,e5,N,e6,e7⟩:=h3 t _ hlk;obtain⟨b',cs,f1,f2,f3,f4⟩:=h2.cells hbk (iZ hz);rw[e1] at f1;cases f1;have hr:=h2.rng i b _ e1
  have hy:y= .slice (some ⟨b,0,none⟩) es.length c:=by
   have hm:(fn.results.mapM (fL a'.tmps)).run P w''= .ok #[a'.tmps.getD t undef] w'':=by
    rw[Array.mapM_eq_mapM_toList,hrs];rfl
   have he:results fn a'.tmps=(do let vs<-fn.results.mapM (fL a'.tmps);pure (if h:vs.size=1 then vs[0] else .tuple vs)):=rfl;rw[he,Sem.run_bind,hm] at h4;have h5:(Result.ok (a'.tmps.getD t undef) w'':Result Value)= .ok y w'':=h4;cases h5;rw[e2];simp
  refine⟨b,c,by rw[hy],Nat.le_of_not_lt hr.1,hr.2,e3,e4,⟨cs,f2,?_,?_⟩,⟨h2.below.os,h2.below.tape,h2.below.output,h2.below.size,h2.below.block⟩⟩;refine StabC.ess (w:=w'') (w':=w'') (M:=MM M β (au st'.hp)) (β:=λ_=>none) ⟨λ_ _ _ _=>rfl,λx _ _ hx=>?_,(λ_ _ h=>by cases h),λ_ _ h=>h⟩ rfl (gE hce f3);rcases hx with hx|rfl
  exact .inl hx;exact .inr ⟨i,_,_,hbk,e1⟩;simp[aL,f2] at e6;rw[e6];simpa using e7
 rcases he with rfl|rfl
 exact hL;exact hL
def ce:Op->Bool
 | .defer _=>false
 |_=>true
theorem bz{op:Op}(h:ce op=true):∀c,op≠ .defer c:=by
 intro c e;subst e;cases h
section
variable {P:Program}{ops:Array Oper}{nx j:Nat}{rest:List Oper}{K:List (Ln×Ln)->AState->Prop}
variable {fr:List (Nat×AV)}{hp:List (Nat×Option ABlk)}{nx' n d:Nat}{op:Op}{ty:Nat}{pos:String}{after:Array Edge}{a:AV}{p:Nat×Option ABlk}{rd:Ln}
theorem AReg.op0 (hs:AEval P (nx+j) (evF (look fr)) (au hp) op ⟨a,[]⟩ rd) (hnd:ce op=true) (hd:Nat.blt d n=true)
    (h:AReg P ops nx (j+1) rest ⟨(d,a)::fr,hp,nx',n⟩ λfps s=>K (([],rd)::fps) s):AReg P ops nx j (⟨some d,op,ty,pos,after,none⟩::rest) ⟨fr,hp,nx',n⟩ K:=
 AReg.cons ⟨bz hnd,hs⟩ hd h
theorem AReg.op1 (hs:AEval P (nx+j) (evF (look fr)) (au hp) op ⟨a,[p]⟩ rd) (hnd:ce op=true) (hd:Nat.blt d n=true)
    (h:AReg P ops nx (j+1) rest ⟨(d,a)::fr,p::hp,nx',n⟩ λfps s=>K (([p.1],rd)::fps) s):AReg P ops nx j (⟨some d,op,ty,pos,after,none⟩::rest) ⟨fr,hp,nx',n⟩ K:=
 AReg.cons ⟨bz hnd,hs⟩ hd h
theorem AReg.op2 {q:Nat×Option ABlk} (hs:AEval P (nx+j) (evF (look fr)) (au hp) op ⟨a,[p,q]⟩ rd) (hnd:ce op=true) (hd:Nat.blt d n=true)
    (h:AReg P ops nx (j+1) rest ⟨(d,a)::fr,q::p::hp,nx',n⟩ λfps s=>K (([p.1,q.1],rd)::fps) s):AReg P ops nx j (⟨some d,op,ty,pos,after,none⟩::rest) ⟨fr,hp,nx',n⟩ K:=
 AReg.cons ⟨bz hnd,hs⟩ hd h
theorem AReg.op1n (hs:AEval P (nx+j) (evF (look fr)) (au hp) op ⟨a,[p]⟩ rd) (hnd:ce op=true)
    (h:AReg P ops nx (j+1) rest ⟨fr,p::hp,nx',n⟩ λfps s=>K (([p.1],rd)::fps) s):AReg P ops nx j (⟨none,op,ty,pos,after,none⟩::rest) ⟨fr,hp,nx',n⟩ K:=
 AReg.cons ⟨bz hnd,hs⟩ rfl h
theorem AReg.op0n (hs:AEval P (nx+j) (evF (look fr)) (au hp) op ⟨a,[]⟩ rd) (hnd:ce op=true)
    (h:AReg P ops nx (j+1) rest ⟨fr,hp,nx',n⟩ λfps s=>K (([],rd)::fps) s):AReg P ops nx j (⟨none,op,ty,pos,after,none⟩::rest) ⟨fr,hp,nx',n⟩ K:=
 AReg.cons ⟨bz hnd,hs⟩ rfl h
variable {g t:Nat}{want:Bool}{x:Value}
theorem AReg.op0y (ht:(ops[g]?).bind (·.dst)=some t) (hx:evF (look fr) (.tmp t)=some (.v x)) (hb:aQ x=some want) (hs:AEval P (nx+j) (evF (look fr)) (au hp) op ⟨a,[]⟩ rd) (hnd:ce op=true) (hd:Nat.blt d n=true)
    (h:AReg P ops nx (j+1) rest ⟨(d,a)::fr,hp,nx',n⟩ λfps s=>K (([],rd)::fps) s):AReg P ops nx j (⟨some d,op,ty,pos,after,some (g,want)⟩::rest) ⟨fr,hp,nx',n⟩ K:=
 AReg.cons ⟨bz hnd,t,x,ht,hx,.inl ⟨hb,hs⟩⟩ hd h
theorem AReg.op1y (ht:(ops[g]?).bind (·.dst)=some t) (hx:evF (look fr) (.tmp t)=some (.v x)) (hb:aQ x=some want) (hs:AEval P (nx+j) (evF (look fr)) (au hp) op ⟨a,[p]⟩ rd) (hnd:ce op=true) (hd:Nat.blt d n=true)
    (h:AReg P ops nx (j+1) rest ⟨(d,a)::fr,p::hp,nx',n⟩ λfps s=>K (([p.1],rd)::fps) s):AReg P ops nx j (⟨some d,op,ty,pos,after,some (g,want)⟩::rest) ⟨fr,hp,nx',n⟩ K:=
 AReg.cons ⟨bz hnd,t,x,ht,hx,.inl ⟨hb,hs⟩⟩ hd h
theorem AReg.opN (ht:(ops[g]?).bind (·.dst)=some t) (hx:evF (look fr) (.tmp t)=some (.v x)) (hb:aQ x≠some want) (hnd:ce op=true) (hd:Nat.blt d n=true)
    (h:AReg P ops nx (j+1) rest ⟨(d,.v undef)::fr,hp,nx',n⟩ λfps s=>K (([],[])::fps) s):AReg P ops nx j (⟨some d,op,ty,pos,after,some (g,want)⟩::rest) ⟨fr,hp,nx',n⟩ K:=
 AReg.cons (u:=⟨.v undef,[]⟩) ⟨bz hnd,t,x,ht,hx,.inr ⟨hb,rfl,rfl⟩⟩ hd h
end
section
variable {P:Program}{T:Nat}{x y:Operand}{k:IntKind}{a b:Int}
theorem qm:∀w,(do eqGuard .add T x y (.int k a) (.int k b);binOp .add T (.int k a) (.int k b):Sem Value).run P w= .ok (.int k (k.wrap (a+b))) w:=λw=>by
 simp[eqGuard,binOp,Op.intArith]
theorem qk:∀w,(do eqGuard .sub T x y (.int k a) (.int k b);binOp .sub T (.int k a) (.int k b):Sem Value).run P w= .ok (.int k (k.wrap (a- b))) w:=λw=>by
 simp[eqGuard,binOp,Op.intArith]
theorem AK:∀w,(do eqGuard .mul T x y (.int k a) (.int k b);binOp .mul T (.int k a) (.int k b):Sem Value).run P w= .ok (.int k (k.wrap (a* b))) w:=λw=>by
 simp[eqGuard,binOp,Op.intArith]
theorem ql(hb:b≠0):∀w,(do eqGuard .quo T x y (.int k a) (.int k b);binOp .quo T (.int k a) (.int k b):Sem Value).run P w= .ok (.int k (k.wrap (a.tdiv b))) w:=λw=>by
 simp[eqGuard,binOp,Op.intDiv,hb]
theorem mK(hb:b≠0):∀w,(do eqGuard .rem T x y (.int k a) (.int k b);binOp .rem T (.int k a) (.int k b):Sem Value).run P w= .ok (.int k (a.tmod b)) w:=λw=>by
 simp[eqGuard,binOp,Op.intDiv,hb]
theorem aM:∀w,(do eqGuard .eql T x y (.int k a) (.int k b);binOp .eql T (.int k a) (.int k b):Sem Value).run P w= .ok (.bool (a==b)) w:=λw=>by
 simp[eqGuard,binOp,Op.intCmp]
theorem bO:∀w,(do eqGuard .neq T x y (.int k a) (.int k b);binOp .neq T (.int k a) (.int k b):Sem Value).run P w= .ok (.bool (a !=b)) w:=λw=>by
 simp[eqGuard,binOp,Op.intCmp]
theorem aZ:∀w,(do eqGuard .lss T x y (.int k a) (.int k b);binOp .lss T (.int k a) (.int k b):Sem Value).run P w= .ok (.bool (decide (a< b))) w:=λw=>by
 simp[eqGuard,binOp,Op.intCmp]
theorem cO:∀w,(do eqGuard .leq T x y (.int k a) (.int k b);binOp .leq T (.int k a) (.int k b):Sem Value).run P w= .ok (.bool (decide (a<=b))) w:=λw=>by
 simp[eqGuard,binOp,Op.intCmp]
theorem ct:∀w,(do eqGuard .gtr T x y (.int k a) (.int k b);binOp .gtr T (.int k a) (.int k b):Sem Value).run P w= .ok (.bool (decide (b< a))) w:=λw=>by
 simp[eqGuard,binOp,Op.intCmp]
theorem dc:∀w,(do eqGuard .geq T x y (.int k a) (.int k b);binOp .geq T (.int k a) (.int k b):Sem Value).run P w= .ok (.bool (decide (b<=a))) w:=λw=>by
 simp[eqGuard,binOp,Op.intCmp]
theorem iN{p:Bool}:∀w,(Op.unary .not (.bool p)).run P w= .ok (.bool !p) w:=λ_=>rfl
theorem Fv:∀w,(Op.unary .neg (.int k a)).run P w= .ok (.int k (k.wrap (0- a))) w:=λ_=>rfl
end
end Go.Abs
