/- Part Y04 of the proof. -/
import Derived.Test.YtjmkjicckobojaaGreatDoorY03
import Derived.RangeFuncNested
import Derived.RangeFuncLeaves
import Derived.TacticsIn
set_option linter.all false
namespace Go.Abs
open Go.RowKit
def AWp(ρ:Option Nat)(P:Program)(c:Code)(Q:Exit->AState->Prop)(st:AState):Prop:=
 ∀M0 w0 a w,jT M0 w0 st a w->c.wpIn (FR ρ) 0 P (λe a' w'=> ∃st',jT M0 w0 st' a' w'/\Q e st') a w
section
variable {ρ:Option Nat}{P:Program}{Q:Exit->AState->Prop}{st:AState}
theorem AWp.ent{c:Code}{st':AState}(h:SEnt st st')(hc:AWp ρ P c Q st'):AWp ρ P c Q st:=λb d a w e=>hc b d a w (h b d a w e)
theorem AWp.mono{c:Code}{Q':Exit->AState->Prop}(h:AWp ρ P c Q st)(hq:∀e s,Q e s->Q' e s):AWp ρ P c Q' st:=λb i a w f=>
 wpIn_mono (h b i a w f) λe _ _ ⟨s,g,d⟩=>⟨s,g,hq e s d⟩
theorem an(h:Q .normal st):AWp ρ P .skip Q st:=λ_ _ _ _ a=>wpIn_skip ⟨st,a,h⟩
theorem ak(h:Q .ret st):AWp ρ P .ret Q st:=λ_ _ _ _ a=>wpIn_ret ⟨st,a,h⟩
theorem ay{id:Nat}(h:Q (.exit id) st):AWp ρ P (.exit id) Q st:=λ_ _ _ _ a=>wpIn_exit ⟨st,a,h⟩
def jF(next:AState->Prop)(Q:Exit->AState->Prop):Exit->AState->Prop
 | .normal,s=>next s
 |e,s=>Q e s
theorem ae{x y:Code}(h:AWp ρ P x (jF (AWp ρ P y Q) Q) st):AWp ρ P (.seq x y) Q st:=λb f a w j=>
 wpIn_seq (wpIn_mono (h b f a w j) λe i g ⟨s,d,c⟩=>by
  cases e with
  |normal=>exact c b f i g d
  |_=>exact⟨s,d,c⟩)
theorem au{c:Operand}{x y:Code}{t:Bool}(hc:st.ev c=some (.v (.bool t)))(h1:t=true->AWp ρ P x Q st)(h2:t=false->AWp ρ P y Q st):AWp ρ P (.cond c x y) Q st:=by
 rintro d f a w b
 have hv:a.eval c= .bool t:=by
  obtain⟨β,h,_,g,_⟩:=b;exact fG g c _ hc
 exact wpIn_cond_split hv (λe=>h1 e d f a w b) (λe=>h2 e d f a w b)
def tO(id:Nat)(Q:Exit->AState->Prop):Exit->AState->Prop
 | .exit id',s=>if Nat.beq id' id then Q .normal s else Q (.exit id') s
 |e,s=>Q e s
theorem aj{id:Nat}{c:Code}(h:AWp ρ P c (tO id Q) st):AWp ρ P (.block id c) Q st:=λg j a w i=>
 wpIn_block (wpIn_mono (h g j a w i) λe l k ⟨s,f,b⟩=>by
  cases e with
  |exit d=>
   simp only[Exit.inBlock];simp only[tO] at b;by_cases hi:d=id;subst hi;simp only[if_true];rw[Of] at b;exact⟨s,f,b⟩;rw[if_neg (λhb=>hi (Nb hb))] at b;grind
  |_=>exact⟨s,f,b⟩)
theorem least{p:Nat->Prop}(h:∃n,p n):∃n,p n/\∀m,p m->n<=m:=by
 obtain⟨n,a⟩:=h
 induction n using Nat.strongRecOn with
 |_ n b=>
  grind
theorem AWp.loop{c:Code}(I:Nat->AState->Prop){m:Nat}(h0:I m st)(round:∀n s,I n s->AWp ρ P c (jF (λs'=> ∃n',n'< n/\I n' s') Q) s):AWp ρ P (.loop c) Q st:=by
 rintro o k a w u
 let R:Nat->Act->World->Prop:=λn a w=> ∃s,jT o k s a w/\I n s
 have x:∃f:Act->World->Nat,∀a w,(∃n,R n a w)->R (f a w) a w/\∀n,R n a w->f a w<=n:=by
  have l:∀p:Act×World,∃n,(∃n,R n p.1 p.2)->R n p.1 p.2/\∀m,R m p.1 p.2->n<=m:=by
   intro p;by_cases h:∃n,R n p.1 p.2;obtain⟨n,d,g⟩:=least h;exact⟨n,λ_=>⟨d,g⟩⟩;simp_all
  exact⟨λa w=>Classical.choose (l (a,w)),λa w=>Classical.choose_spec (l (a,w))⟩
 obtain⟨f,j⟩:=x;refine wpIn_loop (λa w=> ∃n,R n a w) f ⟨m,st,u,h0⟩ λa w v=>?_;obtain⟨⟨s,hs,t⟩,_⟩:=j a w v;refine wpIn_mono (round _ s t o k a w hs) λe r q ⟨s',d,g⟩=>?_;cases e with
 |normal=>
  obtain⟨n',i,b⟩:=g;refine⟨⟨n',s',d,b⟩,G9 ((j r q ⟨n',s',d,b⟩).2 n' ⟨s',d,b⟩) i⟩
 |_=>exact⟨s',d,g⟩
end
def mY(P:Program)(ops:Array Oper)(nx:Nat):Nat->List Oper->AState->List (Upd×Ln)->AState->Prop
 |_,[],st,us,st'=>us=[]/\st'=st
 |j,o::rest,st,us,st'=> ∃u rd us',us=(u,rd)::us'/\AStep P ops (nx+j) (look st.fr) (ap st.hp) o u rd/\(∀d,o.dst=some d->d< st.n)/\mY P ops nx (j+1) rest (st.step o.dst u) us' st'
def fp(u:Upd×Ln):Ln×Ln:=(u.1.blk.map (·.1),u.2)
def AReg(P:Program)(ops:Array Oper)(nx:Nat)(j:Nat)(rest:List Oper)(st:AState)(K:List (Ln×Ln)->AState->Prop):Prop:=
 ∃us st',mY P ops nx j rest st us st'/\K (us.map fp) st'
def od(ops:Array Oper)(i j:Nat):Bool:=((Region.before ops).getD j 0).testBit i
def yM(ops:Array Oper):Bool:=ops.toList.zipIdx.all fun(o,j)=>o.after.toList.all λe=>!Region.binds .any e||Nat.blt e.on j
def lR(ops:Array Oper)(fps:List (Ln×Ln)):Bool:=
 yM ops && (let B:=(Region.before ops).toList
  (List.range ops.size).all λj=>let bj:=B.getD j 0
   (List.range j).all λi=>bj.testBit i||
    pc (dst? ops i) (dst? ops j) (lk? ops i) (lk? ops j) ((fps.getD i ([],[])).1) ((fps.getD i ([],[])).2) ((fps.getD j ([],[])).1) ((fps.getD j ([],[])).2))
theorem sw{ops:Array Oper}{us:List (Upd×Ln)}(h:lR ops (us.map fp)=true):qv ops us (od ops)=true:=by
 unfold lR at h;simp only[sj] at h;have b:=h.2;unfold qv;rw[pZ] at b⊢;intro j d;have c:=b j d;rw[pZ] at c⊢;intro i f;have a:=c i f
 have e:∀k,(us.map fp).getD k ([],[])=(wk? us k,rd? us k):=by
  intro k;simp only[jH,wS,wk?,blk?,rd?];cases us[k]? <;> rfl
 rw[e i,e j] at a;have e2:((Region.before ops).toList.getD j 0)=(Region.before ops).getD j 0:=ψ
 rw[e2] at a;exact a
theorem Dm(ops:List Oper)(acc:Array Nat)(f:Array Nat->Oper->Nat):(ops.foldl (λacc o=>acc.push (f acc o)) acc).size=acc.size+ops.length:=by
 induction ops generalizing acc with
 |nil=>simp
 |cons o ops a=>grind
theorem uh(ops:List Oper)(acc:Array Nat)(f:Array Nat->Oper->Nat)(j:Nat)(hj:j< acc.size):(ops.foldl (λacc o=>acc.push (f acc o)) acc)[j]?=acc[j]?:=by
 induction ops generalizing acc with
 |nil=>rfl
 |cons o ops a=>grind
theorem FD(ops:List Oper)(f:Array Nat->Oper->Nat)(j:Nat)(o:Oper)(ho:ops[j]?=some o):
    ∃acc:Array Nat,acc.size=j/\(∀k,k< j->(ops.foldl (λacc o=>acc.push (f acc o)) #[])[k]?=acc[k]?)/\(ops.foldl (λacc o=>acc.push (f acc o)) #[])[j]?=some (f acc o):=by
 have b:j< ops.length:=(jY.1 ho).1
 have a:ops=ops.take j++o::ops.drop (j+1):=by
  rw[<-(jY.1 ho).2,<-DA b,KO]
 have hs:=Dm (ops.take j) #[] f;simp only[yv,KM (Ns b),NU,Fe,vY] at hs;refine⟨(ops.take j).foldl (λacc o=>acc.push (f acc o)) #[],hs,λk c=>?_,?_⟩
 conv=>lhs;rw[a]
 rw[Ot];exact uh _ _ f k ω
 conv=>lhs;rw[a]
 rw[Ot,OC,uh _ _ f j φ];grind
theorem FB(acc:Array Nat)(es:List Edge)(s b:Nat)(h:(es.foldl (λs e=>if Region.binds .any e then s|||2^ e.on|||acc.getD e.on 0 else s) s).testBit b=true):
    s.testBit b=true\/∃e∈es,Region.binds .any e=true/\(b=e.on\/(acc.getD e.on 0).testBit b=true):=by
 induction es generalizing s with
 |nil=>grind
 |cons e es c=>
  rw[OC] at h;rcases c _ h with a|⟨f,a,d⟩
  by_cases hb:Region.binds .any e=true;rw[if_pos hb,Nat.testBit_or,Nat.testBit_or,Nu,Nu] at a;rcases a with(a|a)|a
  exact .inl a;exact .inr ⟨e,mu ..,hb,.inl φ⟩;exact .inr ⟨e,mu ..,hb,.inr a⟩;rw[if_neg hb] at a;exact .inl a;grind
theorem MI{ops:Array Oper}(h:yM ops=true):AncOK ops (od ops):=by
 have back:∀j o,ops[j]?=some o->∀e∈o.after,Region.binds .any e=true->e.on< j:=by
  intro j o q e m hb;unfold yM at h;rw[pZ] at h;have t:(o,j)∈ops.toList.zipIdx:=φ
  have:=h (o,j) t;simp only[pZ,Nu,MU] at this;rcases this e (Eh.2 m) with g|g
  rw[hb] at g;cases g;simp_all
 refine⟨back,λσ j o u q m b hb=>?_⟩;have l:ops.toList[j]?=some o:=φ
 obtain⟨a,hs,g,r⟩:=FD ops.toList (λa o=>o.after.foldl (λs e=>if Region.binds .any e then s|||2^ e.on|||a.getD e.on 0 else s) 0) j o l
 have c:Region.before ops=ops.toList.foldl (λa o=>a.push (o.after.foldl (λs e=>if Region.binds .any e then s|||2^ e.on|||a.getD e.on 0 else s) 0)) #[]:=by
  rw[Region.before,NO]
 unfold od at hb;rw[c,oj,r,M8,<-NO] at hb;rcases FB a _ 0 b hb with k|⟨e,k,n,p⟩
 simp at k;have d:=Eh.1 k;have f:=m e d n;rcases p with rfl|p
 exact f;refine u e.on f b ?_;have i:=back j o q e d n;unfold od;rw[c,oj,g e.on i,<-oj];grind
theorem fm{P:Program}{ops:Array Oper}{nx:Nat}:∀(rest:List Oper) (j:Nat) (st st':AState) (us us0:List (Upd×Ln)) (fr0:Nat->Option AV) (hp0:Hq),
    mY P ops nx j rest st us st'->us0.length=j->(∀i o,rest[i]?=some o->ops[j+i]?=some o)->look st.fr=stF ops (us0++us) fr0 (List.range j)->ap st.hp=stH (us0++us) hp0 (List.range j)->
    (∀i o,rest[i]?=some o->∃u rd,(us0++us)[j+i]?=some (u,rd)/\AStep P ops (nx+(j+i)) (stF ops (us0++us) fr0 (List.range (j+i))) (stH (us0++us) hp0 (List.range (j+i))) o u rd/\∀d,o.dst=some d->d< st.n)/\
    look st'.fr=stF ops (us0++us) fr0 (List.range (j+rest.length))/\ap st'.hp=stH (us0++us) hp0 (List.range (j+rest.length))/\st'.n=st.n
 |[],j,st,st',us,us0,fr0,hp0,h,_,_,hF,hH=>by
  obtain⟨rfl,rfl⟩:=h;grind
 |o::rest,j,st,st',us,us0,fr0,hp0,h,hl,hops,hF,hH=>by
  obtain⟨u,rd,a,rfl,c,e,f⟩:=h;have b:us0++(u,rd)::a=(us0++[(u,rd)])++a:=ψ
  have l:(us0++(u,rd)::a)[j]?=some (u,rd):=φ
  have z:ops[j]?=some o:=hops 0 o rfl
  have g:look (st.step o.dst u).fr=stF ops ((us0++[(u,rd)])++a) fr0 (List.range (j+1)):=by
   rw[<-b,FI,mH,<-hF];simp only[AState.step,oE,dst?,z,val?,l,zL,DS,M8]
  have m:ap (st.step o.dst u).hp=stH ((us0++[(u,rd)])++a) hp0 (List.range (j+1)):=by
   rw[<-b,FI,ij,<-hH];simp only[AState.step,lZ,blk?,l,DS,M8]
  obtain⟨t,w,r,x⟩:=fm rest (j+1) (st.step o.dst u) st' a (us0++[(u,rd)]) fr0 hp0 f (by simp[hl]) (λi q h=>by
   have:=hops (i+1) q (by simpa using h);rwa[show j+(i+1)=j+1+i by omega] at this) g m
  rw[<-b] at t w r;refine⟨λi q p=>?_,?_,?_,x⟩;cases i with
  |zero=>
   simp only[xg,Option.some.injEq] at p;subst p;refine⟨u,rd,by simpa using l,?_,e⟩;rw[M6,<-hF,<-hH];exact c
  |succ i=>
   obtain⟨y,k,v,s,A⟩:=t i q (by simpa using p);rw[show j+1+i=j+(i+1) by omega] at v s;exact⟨y,k,v,s,A⟩
  rw[w,show j+1+rest.length=j+(o::rest).length by simp;omega];rw[r,show j+1+rest.length=j+(o::rest).length by simp;omega]
section
variable {ρ:Option Nat}{P:Program}{Q:Exit->AState->Prop}{st:AState}{ops:Array Oper}{id:Nat}
theorem AWp.regionD(hm:P.follows .mixedOrders=true)(h:AReg P ops st.nx 0 ops.toList st λfps s=>lR ops fps=true/\Q .normal ⟨s.fr,s.hp,st.nx+ops.size,s.n⟩):AWp ρ P (.region id ops true) Q st:=by
 rintro x v a w q;obtain⟨us,b,e,f,m⟩:=h;obtain⟨k,g,l,p⟩:=fm ops.toList 0 st b us [] (look st.fr) (ap st.hp) e rfl (λi o h=>φ) rfl rfl;simp only[Nf,vY,zK] at k g l
 have c:yM ops=true:=by
  unfold lR at f;grind
 refine D9 (us:=us) hm (MI c) (sw f) (λj o u=>k j o φ) q λt r d=>⟨⟨b.fr,b.hp,st.nx+ops.size,b.n⟩,?_,m⟩;rw[<-g,<-l,<-p] at d;exact d
theorem AWp.region(h:AReg P ops st.nx 0 ops.toList st λ_ s=>Q .normal ⟨s.fr,s.hp,st.nx+ops.size,s.n⟩):AWp ρ P (.region id ops false) Q st:=by
 rintro x v a w g;obtain⟨us,c,b,m⟩:=h;refine wpIn_region_list ?_
 have l:∀(rest:List Oper) (j:Nat) (s d:AState) (us:List (Upd×Ln)) (a:Act) (w:World),j+rest.length=ops.size->mY P ops st.nx j rest s us d->FRel x v (look s.fr) (ap s.hp) (λi=>st.nx+j<=i) s.n a w->Q .normal ⟨d.fr,d.hp,st.nx+ops.size,d.n⟩->
     wpListIn (FR ρ) 0 P ops (λe r q=> ∃c,jT x v c r q/\Q e c) rest a w:=by
  intro rest
  induction rest with
  |nil=>
   rintro j s d us a w z ⟨_,rfl⟩ g m;refine wpListIn_nil ⟨_,?_,m⟩;have:st.nx+j=st.nx+ops.size:=φ
   rw[this] at g;exact g
  |cons o rest A=>
   rintro j s d us a w z ⟨u,rd,t,rfl,f,p,b⟩ g m;refine wpListIn_step λK y=>(f.sim g (ir _) p λr q k=>y r q (A (j+1) (s.step o.dst u) d t r q φ b ?_ m));rw[<-oE,<-lZ] at k;exact k.free λi B=>⟨ω,ω⟩
 exact l ops.toList 0 st c us a w ψ b g m
end
section
variable {P:Program}{ops:Array Oper}{nx j:Nat}{rest:List Oper}{st:AState}{K:List (Ln×Ln)->AState->Prop}
theorem AReg.nil(h:K [] st):AReg P ops nx j [] st K:=⟨[],st,⟨rfl,rfl⟩,h⟩
theorem AReg.cons {dst:Option Nat} {op:Op} {ty:Nat} {pos:String} {after:Array Edge} {guard:Option (Nat×Bool)} {u:Upd} {rd:Ln}
    (hs:AStep P ops (nx+j) (look st.fr) (ap st.hp) ⟨dst,op,ty,pos,after,guard⟩ u rd) (hd:(match dst with|some d=>Nat.blt d st.n|none=>true)=true)
    (h:AReg P ops nx (j+1) rest (st.step dst u) λfps s=>K ((u.blk.map (·.1),rd)::fps) s):AReg P ops nx j (⟨dst,op,ty,pos,after,guard⟩::rest) st K:=by
 obtain⟨us,b,e,c⟩:=h;refine⟨(u,rd)::us,b,⟨u,rd,us,rfl,hs,λd a=>?_,e⟩,c⟩;subst a;simp_all
end
section
variable {M0:Nat->Prop}{w0:Base}{w:World}{β:Bq}{hp:Hq}
theorem Mem.shut(h:Mem M0 w0 β hp w){D:Nat}{o o':Obj}(hD:w.heap[D]?=some o)(hno:aY w D=none)(hd:¬w0.K D):
    Mem M0 w0 β hp (w.putObj D o')/\StabC (MM M0 β hp) (MM M0 β hp) β β w (w.putObj D o'):=by
 have c:(w.putObj D o').heap.size=w.heap.size:=ψ
 have a:∀b N,aY w b=some N->(w.putObj D o').heap[b]?=w.heap[b]?:=λb N hb=>World.putObj_heap_other (λe=>φ)
 have st:StabC (MM M0 β hp) (MM M0 β hp) β β w (w.putObj D o'):=
  ⟨λb N hb _=>a b N hb,λ_ _ _ h=>h,λ_ _ h=>h,λb N hb=>(eW (a b N hb)).trans hb⟩
 refine⟨⟨⟨h.below.os,h.below.tape,h.below.output,by rw[c];exact h.below.size,λk g=>(World.putObj_heap_other (λe=>hd φ)).trans (h.below.block k g),λb n hs=>st.sz b n (h.below.sizes b n hs)⟩,h.m0,λi b s d=>by rw[c];exact h.rng i b s d,h.pin,λi B d=>?_,h.inj⟩,st⟩;obtain⟨b,j,f⟩:=h.blk i B d;obtain⟨N,hs⟩:=f.size;exact⟨b,j,f.stab st (a b N hs)⟩
end
def ARes1(P:Program)(st:AState):ResultVar->AV->Prop
 | .tmp t,r=>look st.fr t=some r
 | .cell a T,r=> ∃i e o B cs,look st.fr a=some (.lptr i e o)/\dS (ap st.hp) i=some B/\B.es[e]?=some cs/\
     ((fT P T=some true/\∃n,jU P T=some n/\o+n<=cs.length/\r= .agg ((cs.drop o).take n))\/(fT P T=some false/\cs[o]?=some r))
def HF(P:Program)(st:AState):List ResultVar->La->Prop
 |[],rs=>rs=[]
 |x::xs,rs=> ∃r rs',rs=r::rs'/\ARes1 P st x r/\HF P st xs rs'
def Ka:La->AV
 |[x]=>x
 |xs=> .tup xs
def ni(P:Program)(rs:List ResultVar)(st:AState)(r:AV):Prop:=∃as,HF P st rs as/\Cv (Ren.id 0) (ap st.hp) (λ_=>none) (Ka as) r
def iJ(tmps:Array Value):ResultVar->Sem Value
 | .tmp t=>pure (tmps.getD t undef)
 | .cell a t=>do loadVar t (<-asAddr (tmps.getD a undef))
section
variable {P:Program}{M0:Nat->Prop}{w0:Base}{w:World}{β:Bq}{st:AState}{tmps:Array Value}
theorem JO(mem:Mem M0 w0 β (ap st.hp) w)(hf:∀t x,look st.fr t=some x->RV (MM M0 β (ap st.hp)) β w x (tmps.getD t undef)):∀(v:ResultVar) (r:AV),ARes1 P st v r->∃y,(iJ tmps v).run P w= .ok y w/\RV (MM M0 β (ap st.hp)) β w r y
 | .tmp t,r,h=>⟨_,rfl,hf t r h⟩
 | .cell a T,r,⟨i,e,o,B,cs,h1,h2,h3,c⟩=>by
  obtain⟨b,s,hb,q⟩:=hf a _ h1;obtain⟨D,A,f,_,p,_⟩:=mem.cellsF h2;rw[hb] at f;cases f;rcases c with⟨c,n,m,E,rfl⟩|⟨c,m⟩
  have u:=((p.get h3).1.drop o).take n;obtain⟨xs,d,g⟩:=u.vals;have z:xs.length=n:=by rw[d.length];grind
  refine⟨.agg xs.toArray,?_,_,rfl,d⟩;simp[iJ,q,asAddr,jX c m z (λj v C=>by have:=g j v C;simpa using this)];obtain⟨y,k,l⟩:=(p.get h3).1.get m;refine⟨y,?_,l⟩;simp[iJ,q,asAddr,jW c (by simpa using k)]
theorem BB(mem:Mem M0 w0 β (ap st.hp) w)(hf:∀t x,look st.fr t=some x->RV (MM M0 β (ap st.hp)) β w x (tmps.getD t undef)):∀(vs:List ResultVar) (rs:La),HF P st vs rs->∃ys,(vs.mapM (iJ tmps)).run P w= .ok ys w/\RVs (MM M0 β (ap st.hp)) β w rs ys
 |[],rs,h=>⟨[],rfl,by cases (h:rs=[]);rfl⟩
 |v::vs,rs,⟨r,rs',e,h1,h2⟩=>by
  subst e;obtain⟨y,c,b⟩:=JO mem hf v r h1;obtain⟨ys,d,a⟩:=BB mem hf vs rs' h2;refine⟨y::ys,?_,y,ys,rfl,b,a⟩;simp_all
theorem res_run{fn:Func}{r:AV}(mem:Mem M0 w0 β (ap st.hp) w)(hf:∀t x,look st.fr t=some x->RV (MM M0 β (ap st.hp)) β w x (tmps.getD t undef))(h:ni P fn.results.toList st r):
    ∃y,(results fn tmps).run P w= .ok y w/\RV M0 (λ_=>none) w r y:=by
 obtain⟨d,o,l⟩:=h;obtain⟨c,q,i⟩:=BB mem hf _ _ o
 have s:(fn.results.mapM (iJ tmps)).run P w= .ok c.toArray w:=by
  rw[KN,Sem.run_map,q];rfl
 have p:RV (MM M0 β (ap st.hp)) β w (Ka d) (if h:c.toArray.size=1 then c.toArray[0] else .tuple c.toArray):=by
  cases d with
  |nil=>cases (i:c=[]);exact⟨_,rfl,rfl⟩
  |cons a d=>
   obtain⟨y,f,rfl,g,j⟩:=i;cases d with
   |nil=>cases (j:f=[]);exact g
   |cons b bs=>
    obtain⟨z,m,rfl,k,n⟩:=j;exact⟨_,rfl,y,_,rfl,g,z,m,rfl,k,n⟩
 refine⟨(if h:c.toArray.size=1 then c.toArray[0] else Value.tuple c.toArray),?_,?_⟩;have u:results fn tmps=(do let vs<-fn.results.mapM (iJ tmps);pure (if h:vs.size=1 then vs[0] else .tuple vs)):=rfl;rw[u,Sem.run_bind,s];rfl;have:=l M0 w0 β w _ mem p
 have e:MM M0 ((Ren.id 0).app (λ_=>none) β) (λ_=>none)=M0:=by
  funext b;simp[MM]
 rw[e,Ren.app_zero] at this;grind
end
def dA:Nat->La->List (Nat×AV)
 |_,[]=>[]
 |i,a::as=>(i,a)::dA (i+1) as
theorem gC{M:Nat->Prop}{w:World}:∀{as:La} {vs:List Value} {i t:Nat} {x:AV},RVs M (λ_=>none) w as vs->look (dA i as) t=some x->i<=t/\∃y,vs[t- i]?=some y/\RV M (λ_=>none) w x y
 |[],_,_,_,_,_,h=>by cases h
 |a::as,vs,i,t,x,⟨y,ys,e,h1,h2⟩,h=>by
  simp only[dA] at h;rw[b8] at h;unfold upd at h;split at h
  ·grind
  obtain⟨d,z,c,b⟩:=gC h2 h;grind
theorem iN {P:Program} {fn:Func} {tmps:Array Value} {R:Ending->World->Prop} {M0:Nat->Prop} {w0:Base} {β:Bq} {st:AState} {r:AV}
    (hres:ni P fn.results.toList st r) (hR:∀y w',RV M0 (λ_=>none) w' r y->Mem M0 w0 β (ap st.hp) w'->(∀t x,look st.fr t=some x->RV (MM M0 β (ap st.hp)) β w' x (tmps.getD t undef))->(results fn tmps).run P w'= .ok y w'->R (.returned y) w'):
    ∀(Ds:Ln) (w:World),Ds.Nodup->(∀D∈Ds,w.heap[D]?=some (.deferred (some []))/\¬w0.K D)->Mem M0 w0 β (ap st.hp) w->(∀t x,look st.fr t=some x->RV (MM M0 β (ap st.hp)) β w x (tmps.getD t undef))->
     LeavesInM (FR none) 0 P fn tmps R (Ds.map Et) .returning w
 |[],w,_,_,mem,hf=>by
  obtain⟨y,a,c⟩:=res_run mem hf hres;exact⟨y,a,hR y w c mem hf a⟩
 |D::Ds,w,nd,hD,mem,hf=>by
  obtain⟨a,c⟩:=hD D (mu ..);rw[NN] at nd;have b:=mem.shut (o':= .deferred none) a (by simp[aY,a]) c;refine⟨ψ,.inl ⟨D,w.putObj D (.deferred none),rfl,run_takeDeferred a,iN hres hR Ds _ nd.2 (λE d=>?_) b.1 λt x g=>b.2.all (hf t x g)⟩⟩;obtain⟨h,f⟩:=hD E (lQ _ d);exact⟨by rw[World.putObj_heap_other (λe=>φ)];grind,f⟩
def Base.of(w:World)(h:TabW w):Base:=⟨w,λb=>b< w.heap.size,λ_ h=>h,none,λ_=>undef,h.lt,h⟩
theorem FSpec.intro {P:Program} {f:Nat} {fn:Func} {c:Code} {args:La} {r:AV} (hf:P.funcs[f]?=some fn) (hb:fn.body=some c) (hname:(fn.name== "runtime.NumGoroutine")=false) (hcl:∀a∈args,Closed a) (hn:args.length<=fn.ntmps)
    (h:AWp none P c (λe st=>(e= .normal\/e= .ret)/\ni P fn.results.toList st r) ⟨dA 0 args,[],1,fn.ntmps⟩):FSpec P f args r:=by
 refine⟨hcl,λxs w=>?_,λM w vals hM hargs=>?_⟩;have hname':¬fn.name= "runtime.NumGoroutine" :=φ
 simp[callFunc,hf,hname',hb];refine(callsIn_wide (n:=0)).1 (callsIn_of_wp_marks (F:=Fence.wide) hf hb trivial ?_);have hlen:=hargs.length
 have hrel:jT M (Base.of w hM.tab) ⟨dA 0 args,[],1,fn.ntmps⟩ {tmps:=vals.toArray++Array.replicate (fn.ntmps- vals.toArray.size) undef,defers:=[]} w:=by
  refine⟨λ_=>none,⟨⟨rfl,rfl,rfl,ir _,λ_ _=>rfl,λ_ _ h=>h⟩,(λb hb=>⟨hM.lt b hb,λe=>hM.nt (e▸hb)⟩),(λ_ _ _ h=>by cases h),(λ_=>rfl),(λ_ _ h=>by cases h),(λ_ _ _ _ _ _ _ h=>ψ)⟩,φ,λt x hx=>?_,λi (hi:1<=i)=>⟨rfl,ω⟩,⟨[],rfl,E9,ψ⟩⟩;have hmm:MM M (λ_=>none) (ap [])=M:=by funext b;simp[MM,ap,look]
  show RV (MM M (λ_=>none) (ap [])) _ _ _ _;rw[hmm,cN rfl];obtain⟨_,y,h1,h2⟩:=gC hargs hx
  have hy:(vals.toArray++Array.replicate (fn.ntmps- vals.toArray.size) undef).getD t undef=y:=by
   have hlt:t< vals.length:=φ
   rw[oj,zr φ];grind
  grind
 refine wpIn_mono (h M (Base.of w hM.tab) _ w hrel) λe a' w' ⟨st',⟨β,mem,hsz,hfr,hfree,Ds,hds,hnd,hD⟩,he,hres⟩=>?_
 have hL:LeavesInM (FR none) 0 P fn a'.tmps (λe w'=> ∃y,e= .returned y/\RV M (λ_=>none) w' r y/\Below w.heap.size w w') a'.defers .returning w':=by
  rw[hds];exact iN hres (λy w'' h1 h2 _ _=>⟨y,rfl,h1,⟨h2.below.os,h2.below.tape,h2.below.output,h2.below.size,h2.below.block⟩⟩) Ds w' hnd hD mem (λt x hx=>by have:=hfr t x hx;rwa[cN rfl] at this)
 rcases he with rfl|rfl
 exact hL;exact hL
theorem ESpec.intro {P:Program} {f:Nat} {fn:Func} {c:Code} {ty sz:Nat} {E E':Lc} {e n:Nat} {cap:Option Nat} {args:La} {r:Value} (hf:P.funcs[f]?=some fn) (hb:fn.body=some c) (hname:(fn.name== "runtime.NumGoroutine")=false)
    (hcl:∀a∈args,Closed a) (hclE:∀x∈E,∀c∈x,Closed c) (hclE':∀x∈E',∀c∈x,Closed c) (hn:args.length+1<=fn.ntmps)
    (h:AWp none P c (λx st=>(x= .normal\/x= .ret)/\ni P fn.results.toList st (.v r)/\ap st.hp 0=some ⟨ty,sz,E'⟩) ⟨(0,.lsl 0 e n cap sz)::dA 1 args,[(0,some ⟨ty,sz,E⟩)],1,fn.ntmps⟩) (hz:Nat.blt 0 sz=true:=by rfl):ESpec P f ty sz E E' e n cap args r:=by
 refine⟨j0 hz,hcl,hclE,λxs w=>?_,λM w b y0 vals hM hMb hold hy0 hargs=>?_⟩;have hname':¬fn.name= "runtime.NumGoroutine" :=φ
 simp[callFunc,hf,hname',hb];refine(callsIn_wide (n:=0)).1 (callsIn_of_wp_marks (F:=Fence.wide) hf hb trivial ?_);have hlen:=hargs.length;obtain⟨cs,hh,hr,hl⟩:=hold
 let bs:Base:=⟨w,λx=>x< w.heap.size/\x≠b,λ_ h=>h.1,some (b,sz),λ_=>undef,⟨hM.tab.lt,λe=>hM.nt (e▸hMb)⟩,hM.tab⟩
 let β0:Nat->Option (Nat×Nat):=λi=>if i=0 then some (b,sz) else none
 have hlb:∀i,ap [(0,some (⟨ty,sz,E⟩:ABlk))] i=if i=0 then some ⟨ty,sz,E⟩ else none:=λi=>by
  rw[dw];unfold upd;split <;> rfl
 have hmm:∀x,MM (λx=>M x/\x≠b) β0 (ap [(0,some (⟨ty,sz,E⟩:ABlk))]) x↔M x:=by
  intro x;constructor;rintro(hx|⟨i,B,s,h1,h2⟩);exact hx.1;simp only[β0] at h2;split at h2;cases h2;exact hMb;cases h2;intro hx;by_cases hxb:x=b;exact .inr ⟨0,⟨ty,sz,E⟩,sz,φ,φ⟩;exact .inl ⟨hx,hxb⟩
 have hmm':MM (λx=>M x/\x≠b) β0 (ap [(0,some (⟨ty,sz,E⟩:ABlk))])=M:=funext λx=>propext (hmm x);have up:StabC M M (λ_=>none) β0 w w:=⟨λ_ _ _ _=>rfl,λ_ _ _ h=>h,(λ_ _ h=>by cases h),λ_ _ h=>h⟩
 have hmem:Mem (λx=>M x/\x≠b) bs β0 (ap [(0,some (⟨ty,sz,E⟩:ABlk))]) w:=by
  refine⟨⟨rfl,rfl,rfl,ir _,λ_ _=>rfl,λ_ _ h=>h⟩,λx hx=>⟨⟨hM.lt x hx.1,hx.2⟩,λe=>hM.nt (e▸hx.1)⟩,λi x s hi=>?_,(λ_=>rfl),λi B hi=>?_,λi j B B' x s s' hi hj _ _=>?_⟩;simp only[β0] at hi;split at hi;cases hi;exact⟨λhk=>hk.2 rfl,hM.lt _ hMb⟩;cases hi;rw[hlb] at hi;split at hi
  ·rename_i h0
   subst h0;cases hi;refine⟨b,rfl,.inl ⟨j0 hz,cs,hh,?_,hl⟩⟩;rw[hmm'];exact up.ess rfl hr
  cases hi;rw[hlb] at hi hj;by_cases h1:i=0;by_cases h2:j=0;rw[h1,h2];rw[if_neg h2] at hj;cases hj;rw[if_neg h1] at hi;cases hi
 have hrel:jT (λx=>M x/\x≠b) bs ⟨(0,.lsl 0 e n cap sz)::dA 1 args,[(0,some ⟨ty,sz,E⟩)],1,fn.ntmps⟩ {tmps:=(y0::vals).toArray++Array.replicate (fn.ntmps- (y0::vals).toArray.size) undef,defers:=[]} w:=by
  refine⟨β0,hmem,χ,λt x hx=>?_,λi (hi:1<=i)=>⟨by simp only[β0];rw[if_neg ω],ω⟩,⟨[],rfl,E9,ψ⟩⟩;show RV (MM _ β0 (ap [(0,some (⟨ty,sz,E⟩:ABlk))])) _ _ _ _;rw[hmm',cN rfl];rw[show(look ((0,.lsl 0 e n cap sz)::dA 1 args) t=some x)↔(upd (look (dA 1 args)) 0 (some (.lsl 0 e n cap sz)) t=some x) by rw[b8]] at hx
  have get:∀(k:Nat) (y:Value),(y0::vals)[k]?=some y->((y0::vals).toArray++Array.replicate (fn.ntmps- (y0::vals).toArray.size) undef).getD k undef=y:=by
   intro k y hk;have hlt:k< (y0::vals).length:=(jY.1 hk).1;rw[oj,zr (by simpa using hlt)];simp only[Ee];rw[hk];rfl
  unfold upd at hx;split at hx
  ·rename_i h0;subst h0;cases hx
   rw[get 0 y0 rfl];exact hy0
  obtain⟨h1,y,h2,h3⟩:=gC hargs hx;rw[get t y (by rw[show t=(t- 1)+1 by omega,A6];exact h2)];exact up.all h3
 refine wpIn_mono (h _ bs _ w hrel) λx a' w' ⟨st',⟨β,mem,hsz,hfr,hfree,Ds,hds,hnd,hD⟩,he,hres,h0⟩=>?_
 have hL:LeavesInM (FR none) 0 P fn a'.tmps (λx w'=>x= .returned r/\MO M w' b ty sz E'/\But b w w') a'.defers .returning w':=by
  rw[hds];refine iN hres (λy w'' h1 h2 _ _=>?_) Ds w' hnd hD mem (λt x hx=>by have:=hfr t x hx;rwa[cN rfl] at this);cases (h1:y=r);have hb0:β 0=some (b,sz):=h2.pin (by rw[h0];rfl);obtain⟨b',cs',e1,e2,e3,e4⟩:=h2.cells h0 (j0 hz);rw[hb0] at e1;cases e1;refine⟨rfl,⟨cs',e2,StabC.ess (w:=w'') (w':=w'') (M:=MM (λx=>M x/\x≠b) β (ap st'.hp)) (β:=λ_=>none) ⟨λ_ _ _ _=>rfl,λx _ _ hx=>?_,(λ_ _ h=>by cases h),λ_ _ h=>h⟩ rfl (iH hclE' e3),e4⟩,⟨h2.below.os,h2.below.tape,h2.below.output,h2.below.size,λx hx hxb=>h2.below.block x ⟨hx,hxb⟩,h2.below.sizes⟩⟩;by_cases hxb:x=b;subst hxb;exact .inr ⟨0,_,_,h0,hb0⟩;exact .inl ⟨hx,hxb⟩
 rcases he with rfl|rfl
 exact hL;exact hL
theorem OSpec.intro {P:Program} {f:Nat} {fn:Func} {c:Code} {ty sz t:Nat} {args:La} {es:Lc} (hf:P.funcs[f]?=some fn) (hb:fn.body=some c) (hname:(fn.name== "runtime.NumGoroutine")=false) (hrs:fn.results.toList=[.tmp t]) (hcl:∀a∈args,Closed a) (hce:∀x∈es,∀c∈x,Closed c) (hn:args.length<=fn.ntmps)
    (h:AWp none P c (λx st=>(x= .normal\/x= .ret)/\∃i cap,look st.fr t=some (.lsl i 0 es.length cap sz)/\ap st.hp i=some ⟨ty,sz,es⟩) ⟨dA 0 args,[],1,fn.ntmps⟩) (hz:Nat.blt 0 sz=true:=by rfl):OSpec P f args ty sz es:=by
 refine⟨j0 hz,hcl,λxs w=>?_,λM w vals hM hargs=>?_⟩;have hname':¬fn.name= "runtime.NumGoroutine" :=φ
 simp[callFunc,hf,hname',hb];refine(callsIn_wide (n:=0)).1 (callsIn_of_wp_marks (F:=Fence.wide) hf hb trivial ?_);have hlen:=hargs.length
 have hrel:jT M (Base.of w hM.tab) ⟨dA 0 args,[],1,fn.ntmps⟩ {tmps:=vals.toArray++Array.replicate (fn.ntmps- vals.toArray.size) undef,defers:=[]} w:=by
  refine⟨λ_=>none,⟨⟨rfl,rfl,rfl,ir _,λ_ _=>rfl,λ_ _ h=>h⟩,(λb hb=>⟨hM.lt b hb,λe=>hM.nt (e▸hb)⟩),(λ_ _ _ h=>by cases h),(λ_=>rfl),(λ_ _ h=>by cases h),(λ_ _ _ _ _ _ _ h=>ψ)⟩,φ,λt x hx=>?_,λi (hi:1<=i)=>⟨rfl,ω⟩,⟨[],rfl,E9,ψ⟩⟩;have hmm:MM M (λ_=>none) (ap [])=M:=by funext b;simp[MM,ap,look]
  show RV (MM M (λ_=>none) (ap [])) _ _ _ _;rw[hmm,cN rfl];obtain⟨_,y,h1,h2⟩:=gC hargs hx
  have hy:(vals.toArray++Array.replicate (fn.ntmps- vals.toArray.size) undef).getD t undef=y:=by
   have hlt:t< vals.length:=φ
   rw[oj,zr φ];grind
  grind
 refine wpIn_mono (h M (Base.of w hM.tab) _ w hrel) λx a' w' ⟨st',⟨β,mem,hsz,hfr,hfree,Ds,hds,hnd,hD⟩,he,i,cap,hlk,hbk⟩=>?_
 have hres:ni P fn.results.toList st' .any:=by
  rw[hrs];exact⟨[_],⟨_,[],rfl,hlk,rfl⟩,λ_ _ _ _ _ _ _=>trivial⟩
 have hL:LeavesInM (FR none) 0 P fn a'.tmps (λx w'=> ∃b c,x= .returned (.slice (some ⟨b,0,none⟩) es.length c)/\w.heap.size<=b/\b< w'.heap.size/\es.length<=c/\c<=maxLen/\(∃cs,w'.heap[b]?=some (.cells cs ty (0,0))/\RVess (λx=>M x\/x=b) (λ_=>none) w' b sz es 0/\c* sz<=cs.size)/\Below w.heap.size w w') a'.defers .returning w':=by
  rw[hds];refine iN hres (λy w'' _ h2 h3 h4=>?_) Ds w' hnd hD mem (λt x hx=>by have:=hfr t x hx;rwa[cN rfl] at this);obtain⟨b,c,e1,e2,e3,e4,e5,N,e6,e7⟩:=h3 t _ hlk;obtain⟨b',cs,f1,f2,f3,f4⟩:=h2.cells hbk (j0 hz);rw[e1] at f1;cases f1;have hr:=h2.rng i b _ e1
  have hy:y= .slice (some ⟨b,0,none⟩) es.length c:=by
   have hm:(fn.results.mapM (iJ a'.tmps)).run P w''= .ok #[a'.tmps.getD t undef] w'':=by
    rw[KN,hrs];rfl
   have he:results fn a'.tmps=(do let vs<-fn.results.mapM (iJ a'.tmps);pure (if h:vs.size=1 then vs[0] else .tuple vs)):=rfl;rw[he,Sem.run_bind,hm] at h4;have h5:(Result.ok (a'.tmps.getD t undef) w'':Result Value)= .ok y w'':=h4;cases h5;rw[e2];simp
  refine⟨b,c,by rw[hy],Ez hr.1,hr.2,e3,e4,⟨cs,f2,?_,?_⟩,⟨h2.below.os,h2.below.tape,h2.below.output,h2.below.size,h2.below.block⟩⟩;refine StabC.ess (w:=w'') (w':=w'') (M:=MM M β (ap st'.hp)) (β:=λ_=>none) ⟨λ_ _ _ _=>rfl,λx _ _ hx=>?_,(λ_ _ h=>by cases h),λ_ _ h=>h⟩ rfl (iH hce f3);rcases hx with hx|rfl
  exact .inl hx;exact .inr ⟨i,_,_,hbk,e1⟩;simp[aY,f2] at e6;rw[e6];simpa using e7
 rcases he with rfl|rfl
 exact hL;exact hL
def ct:Op->Bool
 | .defer _=>false
 |_=>true
theorem bH{op:Op}(h:ct op=true):∀c,op≠ .defer c:=by
 intro c e;subst e;cases h
section
variable {P:Program}{ops:Array Oper}{nx j:Nat}{rest:List Oper}{K:List (Ln×Ln)->AState->Prop}
variable {fr:List (Nat×AV)}{hp:List (Nat×Option ABlk)}{nx' n d:Nat}{op:Op}{ty:Nat}{pos:String}{after:Array Edge}{a:AV}{p:Nat×Option ABlk}{rd:Ln}
theorem AReg.op0 (hs:AEval P (nx+j) (evF (look fr)) (ap hp) op ⟨a,[]⟩ rd) (hnd:ct op=true) (hd:Nat.blt d n=true)
    (h:AReg P ops nx (j+1) rest ⟨(d,a)::fr,hp,nx',n⟩ λfps s=>K (([],rd)::fps) s):AReg P ops nx j (⟨some d,op,ty,pos,after,none⟩::rest) ⟨fr,hp,nx',n⟩ K:=
 AReg.cons ⟨bH hnd,hs⟩ hd h
theorem AReg.op1 (hs:AEval P (nx+j) (evF (look fr)) (ap hp) op ⟨a,[p]⟩ rd) (hnd:ct op=true) (hd:Nat.blt d n=true)
    (h:AReg P ops nx (j+1) rest ⟨(d,a)::fr,p::hp,nx',n⟩ λfps s=>K (([p.1],rd)::fps) s):AReg P ops nx j (⟨some d,op,ty,pos,after,none⟩::rest) ⟨fr,hp,nx',n⟩ K:=
 AReg.cons ⟨bH hnd,hs⟩ hd h
theorem AReg.op2 {q:Nat×Option ABlk} (hs:AEval P (nx+j) (evF (look fr)) (ap hp) op ⟨a,[p,q]⟩ rd) (hnd:ct op=true) (hd:Nat.blt d n=true)
    (h:AReg P ops nx (j+1) rest ⟨(d,a)::fr,q::p::hp,nx',n⟩ λfps s=>K (([p.1,q.1],rd)::fps) s):AReg P ops nx j (⟨some d,op,ty,pos,after,none⟩::rest) ⟨fr,hp,nx',n⟩ K:=
 AReg.cons ⟨bH hnd,hs⟩ hd h
theorem AReg.op1n (hs:AEval P (nx+j) (evF (look fr)) (ap hp) op ⟨a,[p]⟩ rd) (hnd:ct op=true)
    (h:AReg P ops nx (j+1) rest ⟨fr,p::hp,nx',n⟩ λfps s=>K (([p.1],rd)::fps) s):AReg P ops nx j (⟨none,op,ty,pos,after,none⟩::rest) ⟨fr,hp,nx',n⟩ K:=
 AReg.cons ⟨bH hnd,hs⟩ rfl h
theorem AReg.op0n (hs:AEval P (nx+j) (evF (look fr)) (ap hp) op ⟨a,[]⟩ rd) (hnd:ct op=true)
    (h:AReg P ops nx (j+1) rest ⟨fr,hp,nx',n⟩ λfps s=>K (([],rd)::fps) s):AReg P ops nx j (⟨none,op,ty,pos,after,none⟩::rest) ⟨fr,hp,nx',n⟩ K:=
 AReg.cons ⟨bH hnd,hs⟩ rfl h
variable {g t:Nat}{want:Bool}{x:Value}
theorem AReg.op0y (ht:(ops[g]?).bind (·.dst)=some t) (hx:evF (look fr) (.tmp t)=some (.v x)) (hb:gV x=some want) (hs:AEval P (nx+j) (evF (look fr)) (ap hp) op ⟨a,[]⟩ rd) (hnd:ct op=true) (hd:Nat.blt d n=true)
    (h:AReg P ops nx (j+1) rest ⟨(d,a)::fr,hp,nx',n⟩ λfps s=>K (([],rd)::fps) s):AReg P ops nx j (⟨some d,op,ty,pos,after,some (g,want)⟩::rest) ⟨fr,hp,nx',n⟩ K:=
 AReg.cons ⟨bH hnd,t,x,ht,hx,.inl ⟨hb,hs⟩⟩ hd h
theorem AReg.op1y (ht:(ops[g]?).bind (·.dst)=some t) (hx:evF (look fr) (.tmp t)=some (.v x)) (hb:gV x=some want) (hs:AEval P (nx+j) (evF (look fr)) (ap hp) op ⟨a,[p]⟩ rd) (hnd:ct op=true) (hd:Nat.blt d n=true)
    (h:AReg P ops nx (j+1) rest ⟨(d,a)::fr,p::hp,nx',n⟩ λfps s=>K (([p.1],rd)::fps) s):AReg P ops nx j (⟨some d,op,ty,pos,after,some (g,want)⟩::rest) ⟨fr,hp,nx',n⟩ K:=
 AReg.cons ⟨bH hnd,t,x,ht,hx,.inl ⟨hb,hs⟩⟩ hd h
theorem AReg.opN (ht:(ops[g]?).bind (·.dst)=some t) (hx:evF (look fr) (.tmp t)=some (.v x)) (hb:gV x≠some want) (hnd:ct op=true) (hd:Nat.blt d n=true)
    (h:AReg P ops nx (j+1) rest ⟨(d,.v undef)::fr,hp,nx',n⟩ λfps s=>K (([],[])::fps) s):AReg P ops nx j (⟨some d,op,ty,pos,after,some (g,want)⟩::rest) ⟨fr,hp,nx',n⟩ K:=
 AReg.cons (u:=⟨.v undef,[]⟩) ⟨bH hnd,t,x,ht,hx,.inr ⟨hb,rfl,rfl⟩⟩ hd h
end
section
variable {P:Program}{T:Nat}{x y:Operand}{k:IntKind}{a b:Int}
theorem rU:∀w,(do eqGuard .add T x y (.int k a) (.int k b);binOp .add T (.int k a) (.int k b):Sem Value).run P w= .ok (.int k (k.wrap (a+b))) w:=λw=>by
 simp[eqGuard,binOp,Op.intArith]
theorem rQ:∀w,(do eqGuard .sub T x y (.int k a) (.int k b);binOp .sub T (.int k a) (.int k b):Sem Value).run P w= .ok (.int k (k.wrap (a- b))) w:=λw=>by
 simp[eqGuard,binOp,Op.intArith]
theorem Dk:∀w,(do eqGuard .mul T x y (.int k a) (.int k b);binOp .mul T (.int k a) (.int k b):Sem Value).run P w= .ok (.int k (k.wrap (a* b))) w:=λw=>by
 simp[eqGuard,binOp,Op.intArith]
theorem rR(hb:b≠0):∀w,(do eqGuard .quo T x y (.int k a) (.int k b);binOp .quo T (.int k a) (.int k b):Sem Value).run P w= .ok (.int k (k.wrap (a.tdiv b))) w:=λw=>by
 simp[eqGuard,binOp,Op.intDiv,hb]
theorem oc(hb:b≠0):∀w,(do eqGuard .rem T x y (.int k a) (.int k b);binOp .rem T (.int k a) (.int k b):Sem Value).run P w= .ok (.int k (a.tmod b)) w:=λw=>by
 simp[eqGuard,binOp,Op.intDiv,hb]
theorem cK:∀w,(do eqGuard .eql T x y (.int k a) (.int k b);binOp .eql T (.int k a) (.int k b):Sem Value).run P w= .ok (.bool (a==b)) w:=λw=>by
 simp[eqGuard,binOp,Op.intCmp]
theorem cx:∀w,(do eqGuard .neq T x y (.int k a) (.int k b);binOp .neq T (.int k a) (.int k b):Sem Value).run P w= .ok (.bool (a !=b)) w:=λw=>by
 simp[eqGuard,binOp,Op.intCmp]
theorem fz:∀w,(do eqGuard .lss T x y (.int k a) (.int k b);binOp .lss T (.int k a) (.int k b):Sem Value).run P w= .ok (.bool (decide (a< b))) w:=λw=>by
 simp[eqGuard,binOp,Op.intCmp]
theorem iX:∀w,(do eqGuard .leq T x y (.int k a) (.int k b);binOp .leq T (.int k a) (.int k b):Sem Value).run P w= .ok (.bool (decide (a<=b))) w:=λw=>by
 simp[eqGuard,binOp,Op.intCmp]
theorem my:∀w,(do eqGuard .gtr T x y (.int k a) (.int k b);binOp .gtr T (.int k a) (.int k b):Sem Value).run P w= .ok (.bool (decide (b< a))) w:=λw=>by
 simp[eqGuard,binOp,Op.intCmp]
theorem ig:∀w,(do eqGuard .geq T x y (.int k a) (.int k b);binOp .geq T (.int k a) (.int k b):Sem Value).run P w= .ok (.bool (decide (b<=a))) w:=λw=>by
 simp[eqGuard,binOp,Op.intCmp]
theorem nq{p:Bool}:∀w,(Op.unary .not (.bool p)).run P w= .ok (.bool !p) w:=λ_=>rfl
theorem Jb:∀w,(Op.unary .neg (.int k a)).run P w= .ok (.int k (k.wrap (0- a))) w:=λ_=>rfl
end
end Go.Abs
