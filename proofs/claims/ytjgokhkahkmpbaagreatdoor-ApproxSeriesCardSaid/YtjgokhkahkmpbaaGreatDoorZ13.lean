/- Part Z13 of the proof. -/
import Derived.Test.YtjgokhkahkmpbaaGreatDoorZ12
set_option linter.all false
namespace Go.Abs
theorem qu(p:Lq):(eJ p).length≤p.length- 1:=by
 have:=ci (aL (p.length- 1) fun i=>coP p (i+1) * ((i+1:Nat):Int));simpa[eJ] using this
def sqfM(f:Nat)(p:Lq):Option Lq:=
 if smL p∧p.length≤274877906944 then(mu f p (eJ p)).bind fun g=>if av g≠[]∧uJ p g then some (dP (fh p g).1) else none
 else none
def boL(lead:Rat):Lq→Rat→Rat
 |[],m=>m
 |c::l,m=>boL lead l (mY [m,cI (c/ lead)])
def iC(p:Lq):Rat:=boL (aS p) ((av p).take ((av p).length- 1)) 0+1
def rj(p:Lq):Prop:=mxL p≤34359738368∧p.length≤274877906944
instance (p:Lq):Decidable (rj p):=inferInstanceAs (Decidable (_∧_))
def kF(p:Lq):Int:=if ct p< 0 then 10 else if 40< ct p then 5 else 0
theorem qs_abs(q:Rat):qs (cI q)=qs q:=by
 unfold qs;rw[zq,zr,Int.natAbs_natCast]
theorem maxL_le{l:Lq}{n:Nat}(h:bdL l n)(hn:1≤n):qs (mY l)≤n:=by
 unfold mY
 have key:∀(bf:Int→Bool) (l:Lq) (o:Rat),qs o≤n→bdL l n→qs (l.foldl (fun o y=>if bf (cZ y o) then y else o) o)≤n:=by
  intro bf l
  induction l with
  |nil=>intro o ho _;exact ho
  |cons y l ih=>
   intro o ho hl;refine ih _ ?_ fun q hq=>hl q (List.mem_cons_of_mem _ hq);show qs (if bf (cZ y o)=true then y else o)≤n;split;exact hl y (List.mem_cons_self ..);exact ho
 cases l with
 |nil=>exact Nat.le_trans (by decide:qs 0≤1) hn
 |cons x l=>exact key (fun c=>decide (0< c)) l x (h x (List.mem_cons_self ..)) fun q hq=>h q (List.mem_cons_of_mem _ hq)
theorem Aq(p:Lq):aS (av p)=aS p:=by unfold aS;rw[fJ]
def chL:List Int→Int→Int→Int
 |[],n,_=>n
 |s::l,n,last=>if s≠0 then chL l (if s= -last then n+1 else n) s else chL l n last
def xc(f:Nat):Nat→Lq→Lq→Lw→Option Lw
 |0,_,_,_=>none
 |k+1,last,next,acc=>
  if av next=[] then some acc
  else if v7 next∧uJ last (ee next)∧av (ee next)≠[] then xc f k (ee next) (cj (fh last (ee next)).2 (-1)) (acc++[ee next])
  else none
def zK(f:Nat)(p:Lq):Option Lw:=
 if smL p∧v7 p∧av p≠[] then xc f f (ee p) (eJ p) [ee p] else none
def cE(l:Lw):Lc:=l.map fun p=>[.arr (pE p)]
@[simp] theorem cE_length (l:Lw):(cE l).length=l.length:=by simp[cE]
theorem tY{l:Lw}{i:Nat}{p:Lq}(h:l[i]?=some p):(cE l)[i]?=some [.arr (pE p)]:=by simp[cE,h]
theorem di(l:Lw):(cE l).all (·.all AV.one)=true:=by
 simp only[cE,List.all_map,List.all_eq_true];intro q _;rfl
theorem eA(l:Lw):∀e∈cE l,∀c∈e,Closed c:=by
 intro e he c hc;obtain⟨q,_,rfl⟩:=List.mem_map.1 he;rw[List.mem_singleton.1 hc];exact ao q
theorem fw(l:Lw):Closed (.arr (cE l)):=aP (eA l)
theorem xe(l:Lw)(p:Lq):cE (l++[p])=cE l++[[.arr (pE p)]]:=by simp[cE]
theorem AEval.lenC{P:Program}{id:Nat}{ev:Operand→Option AV}{hp:Hq}{c:Call}{x:Operand}{T:Nat}{d:Nat×Nat}{l:Lw}(hc:c.callee= .builtin .len)(ha:c.args= #[x])(ht:c.argTypes= #[T])(hx:ev x=some (.arr (cE l)))(he:dR P T=some d):
    AEval P id ev hp (.call c) ⟨.v (.int .i64 (l.length:Nat)),[]⟩ []:= .len hc ha ht hx (by simp[qA]) he
structure Cnt where
 p:Lq
 ch:Lw
 far:Int
def kC(c:Cnt):La:=[.arr (pE c.p),.arr (cE c.ch),i64 c.far]
abbrev kA(c:Cnt):AV:= .aptr [kC c] 0 0
theorem vg(c:Cnt):∀x∈kC c,Closed x:=ac (ao _) (ac (fw _) (ac (ag _) ai))
theorem fY(c:Cnt):Closed (kA c):=aX (vg c)
def sgI(q:Lq):Int:=if ct q % 2=1 then -sgZ (aS q).num else sgZ (aS q).num
def sgE(x:Rat)(q:Lq):Int:=sgZ (aA q x).num
theorem vI(z:Int): -1≤sgZ z∧sgZ z≤1:=by
 unfold sgZ;split;omega;split <;> omega
theorem sgI_abs(q:Lq): -1≤sgI q∧sgI q≤1:=by
 have:=vI (aS q).num;unfold sgI;split <;> omega
theorem tV:∀(l:List Int) (n last:Int),n≤chL l n last∧chL l n last≤n+l.length
 |[],n,_=>⟨Int.le_refl _,by simp[chL]⟩
 |s::l,n,last=>by
  unfold chL;split;split;have:=tV l (n+1) s;simp only[List.length_cons];omega;have:=tV l n s;simp only[List.length_cons];omega;have:=tV l n last;simp only[List.length_cons];omega
def xX(c:Cnt):Prop:=(∀q∈c.ch,av q≠[]∧q.length≤274877906944)∧c.ch.length≤274877906944∧c.far=chL (c.ch.map sgI) 0 0
instance (c:Cnt):Decidable (xX c):=inferInstanceAs (Decidable (_∧_∧_))
def fH(f:Nat)(p:Lq):Option Cnt:=
 (sqfM f p).bind fun s=>(zK f s).bind fun ch=>if xX ⟨s,ch,chL (ch.map sgI) 0 0⟩ then some ⟨s,ch,chL (ch.map sgI) 0 0⟩ else none
def eW(c:Cnt)(x:Rat):Int:=c.far- chL (c.ch.map (sgE x)) 0 0
def qy(c:Cnt)(x:Rat):Prop:=xX c∧∀q∈c.ch,dI q x
instance (c:Cnt) (x:Rat):Decidable (qy c x):=inferInstanceAs (Decidable (_∧_))
def cr(c:Cnt)(x:Rat):Int:=if aA c.p x=0 then eW c x- 1 else eW c x
def n8(c:Cnt)(x:Rat):Prop:=qy c x∧dI c.p x
instance (c:Cnt) (x:Rat):Decidable (n8 c x):=inferInstanceAs (Decidable (_∧_))
def DU(c:Cnt):Int:=eW c (iC c.p)
def EZ(c:Cnt):Prop:=rj c.p∧av c.p≠[]∧qy c (iC c.p)
instance (c:Cnt):Decidable (EZ c):=inferInstanceAs (Decidable (_∧_∧_))
theorem nC{c:Cnt}{x:Rat}(h:xX c): -274877906944≤eW c x∧eW c x≤274877906944:=by
 have h1:=tV (c.ch.map sgI) 0 0;have h2:=tV (c.ch.map (sgE x)) 0 0;have h3:=h.2.1;rw[←h.2.2] at h1;simp only[List.length_map] at h1 h2;unfold eW;omega
abbrev plA(c:Cnt)(i:Int):AV:= .aptr [[kA c,i64 i]] 0 0
theorem cO(c:Cnt)(i:Int):Closed (plA c i):=aX (ac (fY c) (ac (ag _) ai))
def plC(c:Cnt)(i:Int)(x:Rat):Int:=if i< cr c x then -1 else if cr c x=i∧cr c x< eW c x then 0 else 1
theorem DQ{c:Cnt}{x:Rat}(h:xX c): -274877906945≤cr c x∧cr c x≤274877906944:=by
 have:=nC (x:=x) h;unfold cr;split <;> omega
def biM(c:Cnt)(i:Int)(step:Rat):Nat→Rat→Rat→Option Rat
 |0,_,_=>none
 |f+1,lo,hi=>
  if sm lo∧sm hi∧sm (hi- lo) then
   if 0< cZ (hi- lo) 1 then
    if qs (((lo+hi) / 2).floor:Rat)+qs step≤549755813888∧n8 c ((((lo+hi) / 2).floor:Rat) * step) then
     if 0≤plC c i ((((lo+hi) / 2).floor:Rat) * step) then biM c i step f (((lo+hi) / 2).floor:Rat) hi
     else biM c i step f lo (((lo+hi) / 2).floor:Rat)
    else none
   else some lo
  else none
def inK(a v:Rat)(out zeros:Lq):Rat:=(v- aA out a) / aA zeros a
def okIn(a v:Rat)(out zeros:Lq):Prop:=sm a∧sm v∧dI out a∧dI zeros a∧aA zeros a≠0∧sm (inK a v out zeros)∧smL out∧smL zeros∧smL (cj zeros (inK a v out zeros))∧lD zeros [-a,1]∧out.length≤274877906944
instance (a v:Rat) (out zeros:Lq):Decidable (okIn a v out zeros):=inferInstanceAs (Decidable (_∧_∧_∧_∧_∧_∧_∧_∧_∧_∧_))
def yg:Lq→Lq→Lq→Lq→Option Lq
 |[],_,out,_=>some out
 |_::_,[],_,_=>none
 |a::ps,v::vs,out,zeros=>if okIn a v out zeros then yg ps vs (kQ out (cj zeros (inK a v out zeros))) (cV zeros [-a,1]) else none
def oZ:Lq→Lq→Bool
 |_,[]=>false
 |pre,a::l=>pre.any (fun b=>decide (a=b))||oZ (pre++[a]) l
section
variable {p q:Lq}
theorem w4(i:Nat):coP [] i=0:=rfl
theorem ji(a:Rat)(l:Lq):coP (a::l) 0=a:=rfl
theorem eu(a:Rat)(l:Lq)(i:Nat):coP (a::l) (i+1)=coP l i:=rfl
theorem fj(l:Lq)(i:Nat):coP (av l) i=coP l i:=by
 induction l generalizing i with
 |nil=>rfl
 |cons a l ih=>
  rw[dZ];split
  ·rename_i h
   have h0:∀j,coP l j=0:=fun j=>by rw[←ih j,h];rfl
   split
   ·rename_i ha
    cases i with
    |zero=>rw[ha];rfl
    |succ i=>rw[eu,h0];rfl
   cases i with
   |zero=>rfl
   |succ i=>rw[eu,eu,h0];rfl
  cases i with
  |zero=>rfl
  |succ i=>rw[eu,eu,ih]
theorem wX(n:Nat)(f:Nat→Rat)(i:Nat):coP (aL n f) i=if i< n then f i else 0:=by
 unfold coP aL;grind
theorem w8(p q:Lq)(i:Nat):coP (kQ p q) i=coP p i+coP q i:=by
 unfold kQ;rw[fj,wX];split;rfl
 ·rw[eK (by omega),eK (by omega)];grind
theorem mj(p:Lq)(k:Rat)(i:Nat):coP (cj p k) i=coP p i* k:=by
 unfold cj;rw[fj,wX];split;rfl
 ·rw[eK (by omega)];grind
theorem coP_sub(p q:Lq)(i:Nat):coP (fK p q) i=coP p i- coP q i:=by
 unfold fK;rw[w8,mj];grind
theorem rJ(h:∀i,coP p i=coP q i):av p=av q:=by
 induction p generalizing q with
 |nil=>
  induction q with
  |nil=>rfl
  |cons b q ih=>
   have hb:b=0:=(h 0).symm;rw[dZ,←ih fun i=>h (i+1),if_pos hb];rfl
 |cons a p ih=>
  cases q with
  |nil=>
   have ha:a=0:=h 0;rw[dZ,ih (q:=[]) fun i=>h (i+1),if_pos ha];rfl
  |cons b q=>
   have hab:a=b:=h 0;rw[dZ,dZ,ih (q:=q) fun i=>h (i+1),hab]
theorem trim_iff:av p=av q↔∀i,coP p i=coP q i:=
 ⟨fun h i=>by rw[←fj p,h,fj],rJ⟩
theorem trim_nil_iff:av p=[]↔∀i,coP p i=0:=
 ⟨fun h i=>by rw[←fj p,h];rfl,fun h=>rJ (q:=[]) h⟩
theorem er(x:Rat):aA [] x=0:=rfl
theorem bH(a:Rat)(l:Lq)(x:Rat):aA (a::l) x=aA l x* x+a:=rfl
theorem nn(h:∀i,coP p i=0)(x:Rat):aA p x=0:=by
 induction p with
 |nil=>rfl
 |cons a p ih=>
  have ha:a=0:=h 0;rw[bH,ih fun i=>h (i+1)];grind
theorem fX(h:∀i,coP p i=coP q i)(x:Rat):aA p x=aA q x:=by
 induction p generalizing q with
 |nil=>exact(nn (fun i=>(h i).symm) x).symm
 |cons a p ih=>
  cases q with
  |nil=>exact nn h x
  |cons b q=>
   have hab:a=b:=h 0;rw[bH,bH,ih (q:=q) fun i=>h (i+1),hab]
theorem dQ(p:Lq)(x:Rat):aA (av p) x=aA p x:=fX (fj p) x
def xk:Lq→Lq→Lq
 |[],q=>q
 |p,[]=>p
 |a::p,b::q=>(a+b)::xk p q
def vJ(p:Lq)(k:Rat):Lq:=p.map (· * k)
def mW:Lq→Lq→Lq
 |[],_=>[]
 |a::p,q=>xk (vJ q a) (0::mW p q)
theorem lR(p q:Lq)(i:Nat):coP (xk p q) i=coP p i+coP q i:=by
 induction p generalizing q i with
 |nil=>rw[xk,w4];grind
 |cons a p ih=>
  cases q with
  |nil=>rw[xk,w4]; · grind
        grind
  |cons b q=>
   cases i with
   |zero=>rfl
   |succ i=>exact ih q i
theorem jk(p:Lq)(k:Rat)(i:Nat):coP (vJ p k) i=coP p i* k:=by
 induction p generalizing i with
 |nil=>show(0:Rat)=0* k;grind
 |cons a p ih=>
  cases i with
  |zero=>rfl
  |succ i=>exact ih i
theorem tD(p q:Lq)(x:Rat):aA (xk p q) x=aA p x+aA q x:=by
 induction p generalizing q with
 |nil=>rw[xk,er];grind
 |cons a p ih=>
  cases q with
  |nil=>rw[xk,er]; · grind
        grind
  |cons b q=>rw[xk,bH,bH,bH];grind
theorem oH(p:Lq)(k x:Rat):aA (vJ p k) x=aA p x* k:=by
 induction p with
 |nil=>show(0:Rat)=0* k;grind
 |cons a p ih=>show aA (vJ p k) x* x+a* k=_;rw[bH];grind
theorem tA(p q:Lq)(x:Rat):aA (mW p q) x=aA p x* aA q x:=by
 induction p with
 |nil=>show(0:Rat)=0* _;grind
 |cons a p ih=>rw[mW,tD,oH,bH,bH];grind
theorem mh(p q:Lq)(x:Rat):aA (kQ p q) x=aA p x+aA q x:=by
 rw[←tD];exact fX (fun i=>by rw[w8,lR]) x
theorem dX(p:Lq)(k x:Rat):aA (cj p k) x=aA p x* k:=by
 rw[←oH];exact fX (fun i=>by rw[mj,jk]) x
theorem uY(p q:Lq)(x:Rat):aA (fK p q) x=aA p x- aA q x:=by
 unfold fK;rw[mh,dX];grind
def eS(p q:Lq):Nat→Nat→Rat
 |0,_=>0
 |i+1,n=>eS p q i n+(if i≤n then coP p i* coP q (n- i) else 0)
theorem y9(o:Lq)(a:Rat)(q:Lq)(i:Nat)(h:∀k,k< q.length→i+k< o.length):∀k n,k≤q.length→coP (ja o a q i k) n=coP o n+(if i≤n∧n< i+k then a* coP q (n- i) else 0)
 |0,n,_=>by show coP o n=_;grind
 |k+1,n,hk=>by
  rw[ja,pR,xI];by_cases hn:n=i+k;subst hn;rw[if_pos ⟨rfl,h k (by omega)⟩,sj o a q i k (i+k) (by omega),if_pos (by omega),show i+k- i=k by omega];rw[y9 o a q i h k n (by omega)];grind
theorem za(p q:Lq)(n:Nat):∀i,i≤p.length→coP (eG p q i) n=eS p q i n
 |0,_=>by
  show coP (List.replicate _ 0) n=0;unfold coP;grind
 |i+1,hi=>by
  have ih:=za p q n i (by omega);rw[eG,eS];split
  ·grind
  rw[y9 _ _ _ _ (fun k hk=>by rw[qn];omega) _ _ (Nat.le_refl _),ih];by_cases h1:i≤n;rw[if_pos h1];by_cases h2:n< i+q.length;rw[if_pos ⟨h1,h2⟩];rw[eK (p:=q) (by omega)];grind;grind
theorem tN(a:Rat)(p q:Lq)(n:Nat):∀i,eS (a::p) q (i+1) n=a* coP q n+(match n with|0=>0|m+1=>eS p q i m)
 |0=>by
  show(0:Rat)+(if 0≤n then coP (a::p) 0* coP q (n- 0) else 0)=_;rw[ji];cases n <;> simp[eS,Rat.add_zero,Rat.zero_add]
 |i+1=>by
  rw[eS,tN a p q n i];cases n with
  |zero=>grind
  |succ m=>
   show a* coP q (m+1)+eS p q i m+_=a* coP q (m+1)+(eS p q i m+_);by_cases h:i≤m;rw[eu];grind;grind
theorem tQ(p q:Lq)(n:Nat):coP (mW p q) n=eS p q p.length n:=by
 induction p generalizing n with
 |nil=>rfl
 |cons a p ih=>
  rw[mW,lR,jk,List.length_cons,tN];cases n with
  |zero=>rw[ji];grind
  |succ m=>rw[eu];grind
theorem oQ(p q:Lq)(n:Nat):coP (cV p q) n=coP (mW p q) n:=by
 unfold cV;split
 ·rename_i h
  rcases h with rfl|rfl
  rfl;rw[tQ]
  have:∀i,eS p [] i n=0:=by
   intro i
   induction i with
   |zero=>rfl
   |succ i ih=>rw[eS,w4];grind
  rw[this];rfl
 rw[fj,za _ _ _ _ (Nat.le_refl _),tQ]
theorem cM(p q:Lq)(x:Rat):aA (cV p q) x=aA p x* aA q x:=by
 rw[←tA];exact fX (oQ p q) x
def CS:Lq→Rat→Lq
 |[],_=>[]
 |[_],_=>[]
 |_::b::l,r=>aA (b::l) r::CS (b::l) r
theorem uz(p:Lq)(r x:Rat):aA p x=aA (CS p r) x* (x- r)+aA p r:=by
 induction p with
 |nil=>show(0:Rat)=0* _+0;grind
 |cons a l ih=>
  cases l with
  |nil=>show 0* x+a=0* (x- r)+(0* r+a);grind
  |cons b l=>
   rw[CS,bH a,bH a,bH (aA (b::l) r)];grind
theorem Ed(p:Lq)(r:Rat):(CS p r).length=p.length- 1:=by
 induction p with
 |nil=>rfl
 |cons a l ih=>
  cases l with
  |nil=>rfl
  |cons b l=>rw[CS,List.length_cons,ih];simp
theorem sk:∀(n:Nat) (p xs:Lq),p.length≤n→n≤xs.length→xs.Nodup→(∀x∈xs,aA p x=0)→∀x,aA p x=0
 |0,p,_,hp,_,_,_,x=>by
  have:p=[]:=List.length_eq_zero_iff.1 (by omega);rw[this];rfl
 |n+1,p,xs,hp,hx,hnd,hz,x=>by
  cases xs with
  |nil=>grind
  |cons r xs=>
   rw[List.nodup_cons] at hnd;have hr:=hz r (List.mem_cons_self ..)
   have ih:=sk n (CS p r) xs (by rw[Ed];omega) (by grind) hnd.2 fun y hy=>by
    have h1:=uz p r y;grind
   rw[uz p r x];grind
theorem wO(h:∀x,aA p x=0):∀i,coP p i=0:=by
 induction p with
 |nil=>intro i;rfl
 |cons a p ih=>
  have ha:a=0:=by
   have:=h 0;rw[bH] at this;grind
  have hp:∀x,aA p x=0:=by
   -- at all places but 0,so at all
   refine sk p.length p ((List.range p.length).map fun i=>(((i+1:Nat):Int):Rat)) (Nat.le_refl _) (by simp) ?_ ?_;refine List.Pairwise.map _ (fun i j hij=>?_) List.nodup_range;intro e;have:=Rat.intCast_inj.1 e;omega;intro x hx;obtain⟨i,_,rfl⟩:=List.mem_map.1 hx;have h1:=h (((i+1:Nat):Int):Rat);rw[bH] at h1;have h2:aA p (((i+1:Nat):Int):Rat) * (((i+1:Nat):Int):Rat)=0:=by grind
   rcases Rat.mul_eq_zero.1 h2 with h3|h3
   exact h3;have:=Rat.intCast_inj.1 (h3.trans Rat.intCast_zero.symm);omega
  intro i;cases i with
  |zero=>exact ha
  |succ i=>exact ih hp i
theorem jY(h:∀x,aA p x=aA q x):av p=av q:=by
 refine rJ fun i=>?_;have:=wO (p:=fK p q) (fun x=>by rw[uY];grind) i;rw[coP_sub] at this;grind
end
theorem CX{p:Lq}{k:Rat}{s t:Nat}(hp:bdL p s)(hs:1≤s)(hk:qs k≤t):bdL (cj p k) (s+t):=
 w7 fun i=>by
  rw[mj];have h1:=e8 (coP p i) k;have h2:=eO hp hs i;omega
theorem uZ(o:Lq)(x v:Rat):∀j,j< o.length→aA (o.set j v) x=aA o x+(v- coP o j) * x^ j:=by
 induction o with
 |nil=>grind
 |cons a o ih=>
  intro j h;cases j with
  |zero=>rw[List.set_cons_zero,bH,bH,ji];grind
  |succ j=>rw[List.set_cons_succ,bH,bH,eu];grind
theorem A6(q:Lq)(x:Rat)(m:Nat)(h:m< q.length):aA (q.take (m+1)) x=aA (q.take m) x+coP q m* x^ m:=by
 induction q generalizing m with
 |nil=>cases h
 |cons a q ih=>
  cases m with
  |zero=>rw[List.take_succ_cons,Rat.pow_zero];show 0* x+a=0+a* 1;grind
  |succ m=>rw[List.take_succ_cons,List.take_succ_cons,bH,bH,eu];grind
theorem rat_pow_add(x:Rat)(n:Nat):∀m,x^ (n+m)=x^ n* x^ m
 :=by grind
theorem tz(o:Lq)(k:Rat)(q:Lq)(n:Nat)(x:Rat)(h:n+q.length≤o.length):∀m,m≤q.length→aA (fM o k q n m) x=aA o x- k* x^ n* aA (q.take m) x
 |0,_=>by rw[fM];show _=_- _* 0;grind
 |m+1,hm=>by
  rw[fM,xr,uZ _ _ _ _ (by rw[gY];omega),tz o k q n x h m (by omega),A6 q x m (by omega)];grind
theorem FZ(o:Lq)(k:Rat)(q:Lq)(n m:Nat)(hm:m< q.length)(h:n+q.length≤o.length):coP (fM o k q n q.length) (n+m)=coP o (n+m)- k* coP q m:=by
 have:∀j,m< j→j≤q.length→coP (fM o k q n j) (n+m)=coP o (n+m)- k* coP q m:=by
  intro j
  induction j with
  |zero=>grind
  |succ j ih=>
   intro h1 h2;rw[fM,pQ];by_cases e:m=j;subst e;rw[if_pos ⟨rfl,by rw[gY];omega⟩,nX o k q n m (n+m) (by omega)];grind
 grind
theorem vc(q:Lq)(lead:Rat)(hq:q≠[])(hl:coP q (q.length- 1)=lead)(hl0:lead≠0)(x:Rat):∀c u o,(∀i,i< c→coP u i=0)→c≤u.length→c+q.length≤o.length+1→(∀j,c+q.length- 1≤j→coP o j=0)→
    aA (jZ q lead c u o).1 x* aA q x+aA (jZ q lead c u o).2 x=aA u x* aA q x+aA o x∧∀j,q.length- 1≤j→coP (jZ q lead c u o).2 j=0
 |0,u,o,_,_,_,h4=>⟨rfl,fun j hj=>h4 j (by omega)⟩
 |n+1,u,o,h1,h2,h3,h4=>by
  have hlen:=List.length_pos_iff.2 hq;rw[jZ];obtain⟨k,hk⟩:∃k,k=coP o (n+q.length- 1) / lead:=⟨_,rfl⟩;rw[←hk];have hkl:k* lead=coP o (n+q.length- 1):=by grind
  have hu:coP u n=0:=h1 n (by omega)
  have ho:aA (if k=0 then o else fM o k q n q.length) x=aA o x- k* x^ n* aA q x:=by
   by_cases h0:k=0;rw[if_pos h0,h0];grind;rw[if_neg h0,tz o k q n x (by omega) _ (Nat.le_refl _),List.take_length]
  obtain⟨e1,e2⟩:=vc q lead hq hl hl0 x n (u.set n k) (if k=0 then o else fM o k q n q.length) (fun i hi=>by
   rw[wY,if_neg (by omega)];grind) (by grind) (by split <;>(try simp)<;> omega) (fun j hj=>by
   by_cases h0:k=0;rw[if_pos h0];by_cases hj':j=n+q.length- 1;rw[hj',←hkl,h0];grind;exact h4 j (by omega);rw[if_neg h0];by_cases hj':j=n+q.length- 1;have:=FZ o k q n (q.length- 1) (by omega) (by omega);rw[hj',show n+q.length- 1=n+(q.length- 1) by omega,this,hl,hkl,show n+(q.length- 1)=n+q.length- 1 by omega];grind;rw[nX o k q n q.length j (by omega)];grind)
  refine⟨?_,e2⟩;rw[e1,ho,uZ u x k n (by omega),hu];grind
theorem vv{p:Lq}{n:Nat}(h:∀j,n≤j→coP p j=0):(av p).length≤n:=by
 apply Nat.le_of_not_lt;intro hn;have h1:=dV (l:=p) (n:=(av p).length- 1) (by omega);have h2:av p≠[]:=fun e=>by grind
 have h3:=h ((av p).length- 1) (by omega);rw[←fj] at h3;unfold coP at h3;rw[List.getD_eq_getElem?_getD,h1] at h3;exact gu h2 h3
theorem vd(p q:Lq)(hq:av q≠[]):(∀x,aA (fh p q).1 x* aA q x+aA (fh p q).2 x=aA p x)∧(av (fh p q).2).length< (av q).length:=by
 have hlen:=List.length_pos_iff.2 hq
 have hl:coP (av q) ((av q).length- 1)=aS q:=by
  have:=dV (l:=q) (n:=(av q).length- 1) (by omega);unfold coP;grind
 have hz:∀i m,coP (List.replicate m 0) i=0:=fun i m=>by
  unfold coP;grind
 have key:=fun x (h:(av q).length≤(av p).length+1)=>vc (av q) (aS q) hq hl (gu hq) x ((av p).length+1- (av q).length) (List.replicate ((av p).length+1- (av q).length) 0) (av p)
  (fun i _=>hz i _) (by simp) (by omega) (fun j hj=>eK (by omega))
 by_cases h:(av q).length≤(av p).length+1;refine⟨fun x=>?_,?_⟩;have e:=(key x h).1;unfold fh;rw[dQ,dQ,←dQ q,e,nn (fun i=>hz i _),dQ p];grind;have e:=(key 0 h).2;unfold fh;rw[fJ];have:=vv e;omega;unfold fh;rw[show(av p).length+1- (av q).length=0 by omega];refine⟨fun x=>?_,?_⟩;rw[jZ,dQ,dQ,dQ];show 0* _+_=_;grind;rw[jZ,fJ,fJ];omega
section
variable (p q r:Lq)(a b:Rat)
end

inductive Gsn:Int→List Int→List Int→Prop
 |nil {t:Int}:Gsn t [] []
 |solid {t s:Int} {l l':List Int}:s≠0→Gsn s l l'→Gsn t (s::l) (s::l')
 |weak {t x y:Int} {l l':List Int}:(x=0∨x=t∨x= -t)→(y=0∨y=t∨y= -t)→Gsn (-t) l l'→Gsn t (x:: -t::l) (y:: -t::l')
inductive Ch:Lq→Lw→Prop
 |one {u:Lq} {c:Rat}:c≠0→(∀x,aA u x=c)→Ch u []
 |pair {u v:Lq}:Ch v []→Ch u [v]
 |step {u v w:Lq} {L:Lw} {a c:Rat} {q:Lq}:0< a→0< c→(∀x,a* aA u x+c* aA w x=aA q x* aA v x)→Ch v (w::L)→Ch u (v::w::L)

section
variable {p q:Lq}
def nz(p:Lq):Prop:=av p≠[]
def dg(p:Lq):Nat:=(av p).length- 1
def md(p q:Lq):Lq:=(fh p q).2
def Eqv(p q:Lq):Prop:=∀x,aA p x=aA q x
theorem eqv_trim:Eqv p q↔av p=av q:=
 ⟨jY,fun h x=>by rw[←dQ p,h,dQ]⟩
theorem Ai(h:Eqv p q):nz p↔nz q:=by unfold nz;rw[eqv_trim.1 h]
theorem dg_eqv(h:Eqv p q):dg p=dg q:=by unfold dg;rw[eqv_trim.1 h]
theorem Fa(h:Eqv p q):aS p=aS q:=by unfold aS;rw[eqv_trim.1 h]
theorem sP(h:¬nz p):∀x,aA p x=0:=fun x=>by
 have:av p=[]:=by unfold nz at h;grind
 rw[←dQ,this];rfl
def uL(p:Lq)(n:Nat):Prop:=coP p n≠0∧∀i,n< i→coP p i=0
theorem jd(h:nz p):uL p (dg p)∧coP p (dg p)=aS p:=by
 have hl:=List.length_pos_iff.2 h;have h1:=dV (l:=p) (n:=dg p) (by unfold dg;omega)
 have h2:coP p (dg p)=aS p:=by
  rw[←fj];unfold coP;grind
 refine⟨⟨by rw[h2];exact gu h,fun i hi=>?_⟩,h2⟩;rw[←fj];exact eK (by unfold dg at hi;omega)
theorem xY{n:Nat}(h:uL p n):nz p∧dg p=n∧aS p=coP p n:=by
 have h0:nz p:=fun e=>h.1 (trim_nil_iff.1 e n);obtain⟨h1,h2⟩:=jd h0
 have e:dg p=n:=by
  rcases Nat.lt_trichotomy (dg p) n with h3|h3|h3
  exact absurd (h1.2 n h3) h.1;exact h3;exact absurd (h.2 _ h3) h1.1
 grind
theorem w6(h:∀i,coP p i=0)(q:Lq)(k:Nat):coP (mW p q) k=0:=by
 induction p generalizing k with
 |nil=>rfl
 |cons a p ih=>
  have ha:a=0:=h 0;rw[mW,lR,jk];cases k with
  |zero=>rw[ji];grind
  |succ k=>rw[eu,ih fun i=>h (i+1)];grind
theorem oO(p q:Lq):∀(n m:Nat),(∀i,n< i→coP p i=0)→(∀i,m< i→coP q i=0)→coP (mW p q) (n+m)=coP p n* coP q m∧∀k,n+m< k→coP (mW p q) k=0:=by
 induction p with
 |nil=>intro n m _ _;exact⟨by show(0:Rat)=0* _;grind,fun _ _=>rfl⟩
 |cons a p ih=>
  intro n m hn hm;cases n with
  |zero=>
   have h0:∀i,coP p i=0:=fun i=>hn (i+1) (by omega)
   have hk:∀k,coP (mW (a::p) q) k=coP q k* a:=fun k=>by
    rw[mW,lR,jk];cases k with
    |zero=>rw[ji];grind
    |succ k=>rw[eu,w6 h0];grind
   refine⟨by rw[Nat.zero_add,hk,ji];grind,fun k hk'=>?_⟩;grind
  |succ n=>
   obtain⟨h1,h2⟩:=ih n m (fun i hi=>hn (i+1) (by omega)) hm
   have hk:∀k,m< k+1→coP (mW (a::p) q) (k+1)=coP (mW p q) k:=fun k h=>by
    rw[mW,lR,jk,eu,hm _ h];grind
   refine⟨by rw[show n+1+m=(n+m)+1 by omega,hk _ (by omega),h1,eu],fun k hk'=>?_⟩;obtain⟨j,rfl⟩:∃j,k=j+1:=⟨k- 1,by omega⟩;grind
theorem Dh{n m:Nat}(hp:uL p n)(hq:uL q m):uL (cV p q) (n+m)∧coP (cV p q) (n+m)=coP p n* coP q m:=by
 obtain⟨h1,h2⟩:=oO p q n m hp.2 hq.2;refine⟨⟨?_,fun i hi=>by rw[oQ];grind⟩,by rw[oQ];grind⟩;rw[oQ];have a:=hp.1;have b:=hq.1;grind
theorem dg_mul(hp:nz p)(hq:nz q):nz (cV p q)∧dg (cV p q)=dg p+dg q∧aS (cV p q)=aS p* aS q:=by
 obtain⟨a1,a2⟩:=jd hp;obtain⟨b1,b2⟩:=jd hq;obtain⟨c1,c2⟩:=Dh a1 b1;obtain⟨d1,d2,d3⟩:=xY c1;grind
theorem dg_mul'{r:Lq}(hp:nz p)(hq:nz q)(h:∀x,aA r x=aA p x* aA q x):nz r∧dg r=dg p+dg q∧aS r=aS p* aS q:=by
 have e:Eqv r (cV p q):=fun x=>by rw[h,cM]
 obtain⟨h1,h2,h3⟩:=dg_mul hp hq;exact⟨(Ai e).2 h1,(dg_eqv e).trans h2,(Fa e).trans h3⟩
theorem yW{k:Rat}(hp:nz p)(hk:k≠0){r:Lq}(h:∀x,aA r x=aA p x* k):nz r∧dg r=dg p∧aS r=aS p* k:=by
 have hc:uL [k] 0:=⟨hk,fun i hi=>by obtain⟨j,rfl⟩:∃j,i=j+1:=⟨i- 1,by omega⟩;rfl⟩;obtain⟨c1,c2,c3⟩:=xY hc;obtain⟨h1,h2,h3⟩:=dg_mul' hp c1 (r:=r) (fun x=>by show _=_* (0* x+k);grind);exact⟨h1,by omega,by rw[h3,c3];rfl⟩
theorem md_spec(p:Lq)(hq:nz q):(∀x,aA p x=aA (fh p q).1 x* aA q x+aA (md p q) x)∧(nz (md p q)→dg (md p q)< dg q):=by
 obtain⟨h1,h2⟩:=vd p q hq;refine⟨fun x=>(h1 x).symm,fun h=>?_⟩;have:=List.length_pos_iff.2 h;unfold md at *
 unfold dg;omega
end

theorem B8{p:Lq}(h:nz p):aS p≠0:=gu h
def Dv(d p:Lq):Prop:=∃u,∀x,aA p x=aA u x* aA d x
theorem C7{p q r:Lq}(h:∀x,aA r x=aA p x* aA q x)(hr:nz r):nz p∧nz q:=by
 constructor;intro e;have e':¬nz p:=fun h=>h e;exact absurd rfl ((Ai (q:=[]) fun x=>by rw[h,sP e',er];grind).1 hr);intro e;have e':¬nz q:=fun h=>h e;exact absurd rfl ((Ai (q:=[]) fun x=>by rw[h,sP e',er];grind).1 hr)


theorem oJ{p:Lq}(h:nz p):ct p=(dg p:Int):=by
 have:=List.length_pos_iff.2 h;unfold ct dg;omega
theorem degP_nil{p:Lq}:ct p< 0↔¬nz p:=by
 unfold ct nz;constructor;intro h e;have:=List.length_pos_iff.2 e;omega;intro h;have:av p=[]:=Decidable.byContradiction h;rw[this];decide
theorem qo{p:Lq}(h:nz p):(∀x,aA (dP p) x=aA p x* (1/ aS p))∧nz (dP p)∧dg (dP p)=dg p:=by
 have hl:=B8 h;have e:∀x,aA (dP p) x=aA p x* (1/ aS p):=fun x=>by unfold dP;rw[if_neg h,dX]
 have hk:1/ aS p≠0:=fun e=>by have:1/ aS p* aS p=1:=by grind
                              rw[e] at this;grind
 obtain⟨a,b,_⟩:=yW h hk e;exact⟨e,a,b⟩
theorem B5(p:Lq):∃k k':Rat,k* k'=1∧∀x,aA (dP p) x=aA p x* k:=by
 by_cases h:nz p;refine⟨1/ aS p,aS p,Rat.div_mul_cancel (B8 h),(qo h).1⟩;refine⟨1,1,by grind,fun x=>?_⟩;have e:av p=[]:=Decidable.byContradiction h;unfold dP;rw[if_pos e,sP h,er];grind
theorem Dv.zero(d:Lq){r:Lq}(h:∀x,aA r x=0):Dv d r:=⟨[],fun x=>by rw[er];grind⟩
theorem Dv.lin{d p q r:Lq}{u v:Lq}(h:Dv d p)(k:Dv d q)(e:∀x,aA r x=aA u x* aA p x+aA v x* aA q x):Dv d r:=by
 obtain⟨s,hs⟩:=h;obtain⟨t,ht⟩:=k;exact⟨kQ (cV u s) (cV v t),fun x=>by rw[e,mh,cM,cM];grind⟩
theorem yl:∀(f:Nat) (p q g:Lq),mu f p q=some g→nz p∨nz q→nz g∧Dv g p∧Dv g q∧∃a b:Lq,∀x,aA g x=aA a x* aA p x+aA b x* aA q x
 |0,_,_,_,h,_=>by cases h
 |f+1,p,q,g,h,hz=>by
  rw[mu] at h;split at h
  ·rename_i h0
   split at h;cases h;have hq:¬nz q:=fun e=>e h0;have hp:nz p:=hz.resolve_right hq;obtain⟨m1,m2,_⟩:=qo hp;obtain⟨k,k',hk,m⟩:=B5 p;refine⟨m2,⟨[k'],fun x=>by rw[bH,er];grind⟩,.zero _ (sP hq),[k],[],fun x=>by rw[bH,er];grind⟩;cases h
  ·rename_i h0
   split at h;obtain⟨m1,_⟩:=md_spec p h0;obtain⟨k,k',hk,m⟩:=B5 (fh p q).2;obtain⟨g0,g1,g2,a,b,g3⟩:=yl f _ _ _ h (.inl h0);refine⟨g0,g1.lin g2 (u:=(fh p q).1) (v:=[k']) fun x=>?_,g1,cj b k,fK a (cj (cV b (fh p q).1) k),fun x=>?_⟩;rw[m1,bH,er];show _+aA (fh p q).2 x=_;grind;rw[g3,dX,uY,dX,cM,m1 x];show _=_* (_+aA (fh p q).2 x)+_;grind;cases h
inductive Cx:Lq→Lq→Lw→Prop
 |nil {u n:Lq}:¬nz n→Cx u n []
 |cons {u n v n' q:Lq} {L:Lw} {c:Rat}:0< c→(∀x,aA v x=aA n x* c)→nz v→(∀x,aA n' x=aA q x* aA v x- aA u x)→Cx v n' L→Cx u n (v::L)
theorem qs_one:qs 1=1:=by decide
theorem lead_qs{p:Lq}{t:Nat}(h:bdL p t)(ht:1≤t):qs (aS p)≤t:=by
 by_cases h0:av p=[];rw[pt h0];exact Nat.le_trans (by decide:qs 0≤1) ht;have hl:=List.length_pos_iff.2 h0;exact h _ (cX (List.mem_of_getElem? (dV (n:=(av p).length- 1) (by omega))))
def gB:Nat→Nat→Nat→Nat→Nat→Bool
 |0,_,_,_,_=>false
 |f+1,m,n,s,t=>if n=0 then decide (s≤137438953472) else
  decide (2^ (m+1- n) * (s+2* t+1)≤137438953472) && (List.range n).all fun k=>gB f n k t (2* (2^ (m+1- n) * (s+2* t+1))+1)
theorem CW{p:Lq}{k:Rat}(hk:k≠0):(av (cj p k)).length=(av p).length:=by
 by_cases h:nz p;obtain⟨a,b,_⟩:=yW h hk (r:=cj p k) fun x=>dX p k x;have h1:=List.length_pos_iff.2 a;have h2:=List.length_pos_iff.2 h;unfold dg at b;omega;have e:av p=[]:=Classical.byContradiction h
 have e2:av (cj p k)=[]:=by
  have:Eqv (cj p k) []:=fun x=>by rw[dX,sP h,er];grind
  exact eqv_trim.1 this
 rw[e,e2]
theorem Db{r:Lq}{L:Nat}(h:bdL r L)(hL:1≤L):bdL (dP r) (2* L+1)∧(av (dP r)).length=(av r).length∧(dP r).length≤r.length:=by
 by_cases h0:av r=[];unfold dP;rw[if_pos h0,h0];exact⟨fun q hq=>(by cases hq),rfl,by simp⟩;have hl:=gu h0
 have hk:1/ aS r≠0:=fun e=>by have:1/ aS r* aS r=1:=by grind
                              rw[e] at this;grind
 refine⟨?_,?_,mX r⟩;unfold dP;rw[if_neg h0];have h1:=gi 1 (aS r);have h2:=lead_qs h hL;have h3:=qs_one;have:=CX h hL (k:=1/ aS r) (t:=1+L) (by omega);rwa[show L+(1+L)=2* L+1 by omega] at this;unfold dP;rw[if_neg h0];exact CW hk
theorem uM:∀f m n s t (p q:Lq),gB f m n s t=true→(av p).length=m→(av q).length=n→bdL p s→bdL q t→1≤s→1≤t→p.length≤1000→q.length≤1000→∃g,mu f p q=some g∧g.length≤1000
 |0,_,_,_,_,_,_,h,_,_,_,_,_,_,_,_=>by cases h
 |f+1,m,n,s,t,p,q,h,hm,hn,hp,hq,hs,ht,hp1,hq1=>by
  rw[gB] at h;rw[mu];by_cases h0:n=0;rw[if_pos h0] at h;have e:av q=[]:=List.length_eq_zero_iff.1 (by omega);rw[if_pos e,if_pos (jJ hp (of_decide_eq_true h))];exact⟨_,rfl,Nat.le_trans (mX p) hp1⟩;rw[if_neg h0] at h;simp only[Bool.and_eq_true,decide_eq_true_eq,List.all_eq_true,List.mem_range] at h;obtain⟨hL,hk⟩:=h;have hq0:av q≠[]:=fun e=>by rw[e] at hn;simp at hn;omega
  have hmp:=wb hp hs;have hmq:=wb hq ht;have hmono:2^ (m+1- n) * (mxL p+2* mxL q+1)≤2^ (m+1- n) * (s+2* t+1):=Nat.mul_le_mul_left _ (by omega);rw[if_neg hq0,if_pos (show uJ p q from⟨by rw[hm,hn];omega,by omega,by omega⟩)];have hb:=(CA hp hq hs ht hq0 (by rw[hm,hn];exact Nat.le_refl _)).2;have hL1:1≤2^ (m+1- n) * (s+2* t+1):=Nat.mul_pos (Nat.two_pow_pos _) (by omega);obtain⟨b1,b2,b3⟩:=Db hb hL1;have hlen:=(oI (p:=p) (q:=q)).2;have hkn:(av (fh p q).2).length< n:=by rw[←hn];exact(vd p q hq0).2
  exact uM f n _ t _ q _ (hk _ hkn) hn b2 hq b1 ht (by omega) hq1 (by omega)
theorem gB_all:((List.range 6).all fun m=>(List.range 6).all fun n=>gB 20 m n 256 256)=true:=by decide+kernel
theorem Di(p q:Lq)(hp:bdL p 256)(hq:bdL q 256)(hp1:(av p).length≤5)(hq1:(av q).length≤5)(hpl:p.length≤1000)(hql:q.length≤1000):∃g,mu 20 p q=some g∧g.length≤1000:=by
 have:=gB_all;simp only[List.all_eq_true,List.mem_range] at this;exact uM 20 _ _ 256 256 p q (this _ (by omega) _ (by omega)) rfl rfl hp hq (by decide) (by decide) hpl hql




theorem oW{l:Lq}{a b:Nat}(h:bdL l a)(hab:a≤b):bdL l b:=fun q hq=>Nat.le_trans (h q hq) hab
theorem zi{p:Lq}{s:Nat}(h:bdL p s):bdL (av p) s:=fun q hq=>h q (cX hq)








section
variable {a b:Rat}(h:a< b){k:Nat}(hk:1≤k∧k≤4)
include h hk
end

section
variable {a b:Rat}(h:a< b){k:Nat}(hk:1≤k∧k≤4)(ha:qs a≤20)(hb:qs b≤20)
include ha hb
end
section
variable {a b:Rat}(h:a< b){k:Nat}(hk:1≤k∧k≤4)
include h hk
variable (ha:qs a≤20)(hb:qs b≤20)
include ha hb
end
section
variable {a b:Rat}(h:a< b){k:Nat}(hk:1≤k∧k≤4)(ha:qs a≤20)(hb:qs b≤20)
include h hk ha hb
end
section
variable {a b a' b':Rat}(h:a< b)(h':a'< b'){k:Nat}(hk:1≤k∧k≤4)
include h h'
end
section
variable {a b a' b':Rat}(ha:qs a≤20)(hb:qs b≤20)(ha':qs a'≤20)(hb':qs b'≤20)
include ha hb ha' hb'
end


section
variable {a b:Rat}{p q:Nat}(ha:qs a≤256)(hb:qs b≤256)(hp:p≤8)(hq:q≤8)
include ha in
end



section
variable {N:Lq}(hN:nz N)(hm:aS N=1)(h1:1≤dg N)
include hN hm h1
end

theorem oM(p q:Lq)(n:Nat):coP (cV p q) n=eS p q p.length n:=by
 rw[←tQ];exact trim_iff.1 (jY fun x=>by rw[cM,tA]) n
section
variable {m:Lq}{k:Rat}{M n:Nat}(k0:k≠0)(h7:n≤7)
end
section
variable {m:Lq}{s n:Nat}(hm:bdL m s)(hs1:1≤s)(hs:s≤3000)(hl:m.length≤16)(h6:n≤6)
end



section
variable {T:Lq}{n:Nat}(hn:1≤n∧n≤5)(hl:T.length=n+1)(ht:av T=T)(hm:aS T=1)(hb:bdL T 20)
include hn hl ht hm hb
end
section
variable {n k p:Nat}
def sQ(f:Nat→Rat):Nat→Rat
 |0=>0
 |n+1=>sQ f n+f n
theorem c6{f g:Nat→Rat}:∀n,(∀j,j< n→f j=g j)→sQ f n=sQ g n
 |0,_=>rfl
 |n+1,h=>by rw[sQ,sQ,c6 n fun j hj=>h j (by omega),h n (by omega)]
theorem re(f g:Nat→Rat)(u:Rat):∀n,sQ (fun j=>f j- u* g j) n=sQ f n- u* sQ g n
 |0=>by rw[sQ,sQ,sQ];grind
 |n+1=>by rw[sQ,sQ,sQ,re f g u n];grind
theorem zV(f g:Nat→Rat):∀n,sQ (fun j=>f j+g j) n=sQ f n+sQ g n
 |0=>by rw[sQ,sQ,sQ];grind
 |n+1=>by rw[sQ,sQ,sQ,zV f g n];grind
theorem jC(i:Nat)(a:Rat):∀n,sQ (fun j=>if j=i then a else 0) n=if i< n then a else 0
 |0=>by rw[sQ,if_neg (by omega)]
 |n+1=>by
  rw[sQ,jC i a n];grind
abbrev Mx:=Nat→Nat→Rat
def Sol(c:Rat)(M:Mx)(n:Nat)(x:Nat→Rat):Prop:=∀i,i< n→sQ (fun j=>M i j* x j) n=c* M i n
def swM(M:Mx)(k p:Nat):Mx:=fun i j=>if i=k then M p j else if i=p then M k j else M i j
def elM(M:Mx)(k m:Nat):Mx:=fun i j=>if i< m∧i≠k∧k≤j then M i j- M i k/ M k k* M k j else M i j
def pvt(M:Mx)(n k:Nat):Option Nat:=(List.range n).find? fun p=>decide (k≤p∧M p k≠0)
def gjM(M:Mx)(n:Nat):Nat→Option Mx
 |0=>some M
 |k+1=>(gjM M n k).bind fun A=>(pvt A n k).map fun p=>elM (swM A k p) k n
theorem xN{M:Mx}(h:pvt M n k=some p):p< n∧k≤p∧M p k≠0:=by
 have h1:=List.find?_some h;have h2:=List.mem_of_find?_eq_some h;grind
theorem EL{M:Mx}(h:pvt M n k=none):∀i,i< n→k≤i→M i k=0:=fun i hi hk=>by
 have h1:=List.find?_eq_none.1 h i (List.mem_range.2 hi);grind
theorem zP{c:Rat}{M:Mx}{x:Nat→Rat}(hk:k< n)(hp:p< n)(h:Sol c (swM M k p) n x):Sol c M n x:=fun i hi=>by
 by_cases e1:i=k;subst e1;by_cases e2:p=i;have:=h i hi;unfold swM at this;simp only[e2] at this;exact this;have:=h p hp;unfold swM at this;simp only[if_neg e2] at this;exact this;by_cases e2:i=p;subst e2;have:=h k hk;unfold swM at this;simp only[if_pos rfl] at this;exact this;have:=h i hi;unfold swM at this;grind
theorem sol_el{c:Rat}{M:Mx}{x:Nat→Rat}(hk:k< n)(hz:∀j,j< k→M k j=0)(h:Sol c (elM M k n) n x):Sol c M n x:=by
 have hrow:∀i j,i< n→i≠k→elM M k n i j=M i j- M i k/ M k k* M k j:=fun i j hi hik=>by
  unfold elM;grind
 have hkk:∀j,elM M k n k j=M k j:=fun j=>by unfold elM;grind
 have h0:sQ (fun j=>M k j* x j) n=c* M k n:=by
  have:=h k hk;grind
 intro i hi;by_cases e:i=k;rw[e];exact h0;have h1:=h i hi;rw[c6 (g:=fun j=>M i j* x j- M i k/ M k k* (M k j* x j)) n fun j _=>by grind,re] at h1;grind
def zt(M:Mx)(n k:Nat):Prop:=∀j,j< k→M j j≠0∧∀i,i< n→i≠j→M i j=0
theorem CB{M:Mx}(h:zt M n k)(hk:k≤p)(hp:p< n):zt (swM M k p) n k:=fun j hj=>by
 obtain⟨h1,h2⟩:=h j hj;constructor;unfold swM;rw[if_neg (by omega),if_neg (by omega)];exact h1;unfold swM;grind
theorem diag_el{M:Mx}(h:zt M n k)(h0:M k k≠0):zt (elM M k n) n (k+1):=fun j hj=>by
 by_cases e:j=k;subst e;constructor;unfold elM;rw[if_neg (fun e=>e.2.1 rfl)];exact h0;intro i hi hij;unfold elM;grind;obtain⟨h1,h2⟩:=h j (by omega);constructor;unfold elM;rw[if_neg (fun e=>by omega)];exact h1;unfold elM;grind
theorem ot{M:Mx}{n:Nat}:∀k A,k≤n→gjM M n k=some A→(∀c x,Sol c A n x→Sol c M n x)∧zt A n k
 |0,A,_,h=>by cases h;exact⟨fun _ _ h=>h,fun j hj=>by omega⟩
 |k+1,A,hk,h=>by
  rw[gjM] at h;cases e:gjM M n k with
  |none=>grind
  |some B=>
   rw[e,Option.bind_some] at h;obtain⟨i1,i2⟩:=ot k B (by omega) e;cases e2:pvt B n k with
   |none=>grind
   |some p=>
    rw[e2] at h;cases h;obtain⟨p1,p2,p3⟩:=xN e2;have d:=CB i2 p2 p1;have hkk:swM B k p k k≠0:=by unfold swM;grind
    refine⟨fun c x hs=>i1 c x (zP (by omega) p1 (sol_el (by omega) (fun j hj=>(d j hj).2 k (by omega) (by omega)) hs)),diag_el d hkk⟩
theorem Ci{M:Mx}{n:Nat}:∀k,k≤n→gjM M n k=none→∃x:Nat→Rat,(∃j,j< n∧x j≠0)∧Sol 0 M n x
 |0,_,h=>by cases h
 |k+1,hk,h=>by
  rw[gjM] at h;cases e:gjM M n k with
  |none=>exact Ci k (by omega) e
  |some B=>
   obtain⟨i1,i2⟩:=ot k B (by omega) e;cases e2:pvt B n k with
   |some p=>grind
   |none=>
    have hz:=EL e2;refine⟨fun j=>if j=k then 1 else if j< k then -(B j k/ B j j) else 0,⟨k,by omega,by grind⟩,i1 0 _ fun i hi=>?_⟩;rw[c6 (g:=fun j=>(if j=i then(if i< k then -(B i k) else 0) else 0)+(if j=k then B i k else 0)) n fun j hj=>?_,zV,jC,jC];by_cases h1:i< k;grind;grind;by_cases h1:j=k;by_cases h2:j=i;grind;grind;by_cases h2:j< k;obtain⟨d1,d2⟩:=i2 j h2;by_cases h3:j=i;subst h3;grind;grind;grind
theorem AA{M A:Mx}(h:gjM M n n=some A):Sol 1 M n (fun i=>A i n/ A i i):=by
 obtain⟨i1,i2⟩:=ot n A (Nat.le_refl _) h;refine i1 1 _ fun i hi=>?_;obtain⟨d1,d2⟩:=i2 i hi;rw[Rat.one_mul,c6 (g:=fun j=>if j=i then A i n else 0) n fun j hj=>?_,jC,if_pos hi];by_cases e:j=i;subst e;grind;rw[(i2 j hj).2 i hi (fun e'=>e e'.symm)];grind
def bdM(M:Mx)(n s:Nat):Prop:=∀i j,i< n→j≤n→qs (M i j)≤s
theorem bd_sw{M:Mx}{s:Nat}(h:bdM M n s)(hk:k< n)(hp:p< n):bdM (swM M k p) n s:=fun i j hi hj=>by
 unfold swM;split;exact h p j hp hj;split;exact h k j hk hj;exact h i j hi hj
end
end Go.Abs
