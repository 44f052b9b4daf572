/- Part X13 of the proof. -/
import Derived.Test.YtjgokhkahkmpbaaGreatDoorX12
import Derived.Lib.ItoaNum
set_option linter.all false
namespace Go.Abs
theorem ri(p:Lq):(fc p).length≤p.length- 1:=by
 have:=b9 (bR (p.length- 1) fun i=>coP p (i+1) * ((i+1:Nat):Int));simpa[fc] using this
def sqfM(f:Nat)(p:Lq):Option Lq:=
 if smL p∧p.length≤274877906944 then(Dz f p (fc p)).bind fun g=>if av g≠[]∧yf p g then some (jV (j6 p g).1) else none
 else none
def boL(lead:Rat):Lq→Rat→Rat
 |[],m=>m
 |c::l,m=>boL lead l (n5 [m,cj (c/ lead)])
def iT(p:Lq):Rat:=boL (aT p) ((av p).take ((av p).length- 1)) 0+1
def rG(p:Lq):Prop:=mxL p≤34359738368∧p.length≤274877906944
instance (p:Lq):Decidable (rG p):=inferInstanceAs (Decidable (_∧_))
def lr(p:Lq):Int:=if cC p< 0 then 10 else if 40< cC p then 5 else 0
theorem qs_abs(q:Rat):qs (cj q)=qs q:=by
 unfold qs;rw[ux,uy,Int.natAbs_natCast]
theorem maxL_le{l:Lq}{n:Nat}(h:bdL l n)(hn:1≤n):qs (n5 l)≤n:=by
 unfold n5
 have key:∀(bf:Int→Bool) (l:Lq) (o:Rat),qs o≤n→bdL l n→qs (l.foldl (fun o y=>if bf (cZ y o) then y else o) o)≤n:=by
  intro bf l
  induction l with
  |nil=>intro o ho _;exact ho
  |cons y l ih=>
   intro o ho hl;refine ih _ ?_ fun q hq=>hl q (List.mem_cons_of_mem _ hq);show qs (if bf (cZ y o)=true then y else o)≤n;split;exact hl y (List.mem_cons_self ..);exact ho
 cases l with
 |nil=>exact Nat.le_trans (by decide:qs 0≤1) hn
 |cons x l=>exact key (fun c=>decide (0< c)) l x (h x (List.mem_cons_self ..)) fun q hq=>h q (List.mem_cons_of_mem _ hq)
theorem lj(p:Lq):aT (av p)=aT p:=by unfold aT;rw[ft]
def chL:List Int→Int→Int→Int
 |[],n,_=>n
 |s::l,n,last=>if s≠0 then chL l (if s= -last then n+1 else n) s else chL l n last
def xh(f:Nat):Nat→Lq→Lq→Lw→Option Lw
 |0,_,_,_=>none
 |k+1,last,next,acc=>
  if av next=[] then some acc
  else if wj next∧yf last (er next)∧av (er next)≠[] then xh f k (er next) (aW (j6 last (er next)).2 (-1)) (acc++[er next])
  else none
def zW(f:Nat)(p:Lq):Option Lw:=
 if smL p∧wj p∧av p≠[] then xh f f (er p) (fc p) [er p] else none
def cE(l:Lw):Lc:=l.map fun p=>[.arr (pE p)]
@[simp] theorem cE_length (l:Lw):(cE l).length=l.length:=by simp[cE]
theorem ut{l:Lw}{i:Nat}{p:Lq}(h:l[i]?=some p):(cE l)[i]?=some [.arr (pE p)]:=by simp[cE,h]
theorem eN(l:Lw):(cE l).all (·.all AV.one)=true:=by
 simp only[cE,List.all_map,List.all_eq_true];intro q _;rfl
theorem eM(l:Lw):∀e∈cE l,∀c∈e,Closed c:=by
 intro e he c hc;obtain⟨q,_,rfl⟩:=List.mem_map.1 he;rw[List.mem_singleton.1 hc];exact ap q
theorem fK(l:Lw):Closed (.arr (cE l)):=aR (eM l)
theorem xk(l:Lw)(p:Lq):cE (l++[p])=cE l++[[.arr (pE p)]]:=by simp[cE]
theorem AEval.lenC{P:Program}{id:Nat}{ev:Operand→Option AV}{hp:Hq}{c:Call}{x:Operand}{T:Nat}{d:Nat×Nat}{l:Lw}(hc:c.callee= .builtin .len)(ha:c.args= #[x])(ht:c.argTypes= #[T])(hx:ev x=some (.arr (cE l)))(he:dT P T=some d):
    AEval P id ev hp (.call c) ⟨.v (.int .i64 (l.length:Nat)),[]⟩ []:= .len hc ha ht hx (by simp[rn]) he
structure Cnt where
 p:Lq
 ch:Lw
 far:Int
def kC(c:Cnt):La:=[.arr (pE c.p),.arr (cE c.ch),i64 c.far]
abbrev kA(c:Cnt):AV:= .aptr [kC c] 0 0
theorem vw(c:Cnt):∀x∈kC c,Closed x:=ae (ap _) (ae (fK _) (ae (ag _) ai))
theorem gu(c:Cnt):Closed (kA c):=ba (vw c)
def sgI(q:Lq):Int:=if cC q % 2=1 then -sgZ (aT q).num else sgZ (aT q).num
def sgE(x:Rat)(q:Lq):Int:=sgZ (aF q x).num
theorem vU(z:Int): -1≤sgZ z∧sgZ z≤1:=by
 unfold sgZ;split;omega;split <;> omega
theorem sgI_abs(q:Lq): -1≤sgI q∧sgI q≤1:=by
 have:=vU (aT q).num;unfold sgI;split <;> omega
theorem uo:∀(l:List Int) (n last:Int),n≤chL l n last∧chL l n last≤n+l.length
 |[],n,_=>⟨Int.le_refl _,by simp[chL]⟩
 |s::l,n,last=>by
  unfold chL;split;split;have:=uo l (n+1) s;simp only[List.length_cons];omega;have:=uo l n s;simp only[List.length_cons];omega;have:=uo l n last;simp only[List.length_cons];omega
def yg(c:Cnt):Prop:=(∀q∈c.ch,av q≠[]∧q.length≤274877906944)∧c.ch.length≤274877906944∧c.far=chL (c.ch.map sgI) 0 0
instance (c:Cnt):Decidable (yg c):=inferInstanceAs (Decidable (_∧_∧_))
def fU(f:Nat)(p:Lq):Option Cnt:=
 (sqfM f p).bind fun s=>(zW f s).bind fun ch=>if yg ⟨s,ch,chL (ch.map sgI) 0 0⟩ then some ⟨s,ch,chL (ch.map sgI) 0 0⟩ else none
def fq(c:Cnt)(x:Rat):Int:=c.far- chL (c.ch.map (sgE x)) 0 0
def rl(c:Cnt)(x:Rat):Prop:=yg c∧∀q∈c.ch,dP q x
instance (c:Cnt) (x:Rat):Decidable (rl c x):=inferInstanceAs (Decidable (_∧_))
def cx(c:Cnt)(x:Rat):Int:=if aF c.p x=0 then fq c x- 1 else fq c x
def oQ(c:Cnt)(x:Rat):Prop:=rl c x∧dP c.p x
instance (c:Cnt) (x:Rat):Decidable (oQ c x):=inferInstanceAs (Decidable (_∧_))
def D5(c:Cnt):Int:=fq c (iT c.p)
def E1(c:Cnt):Prop:=rG c.p∧av c.p≠[]∧rl c (iT c.p)
instance (c:Cnt):Decidable (E1 c):=inferInstanceAs (Decidable (_∧_∧_))
theorem oo{c:Cnt}{x:Rat}(h:yg c): -274877906944≤fq c x∧fq c x≤274877906944:=by
 have h1:=uo (c.ch.map sgI) 0 0;have h2:=uo (c.ch.map (sgE x)) 0 0;have h3:=h.2.1;rw[←h.2.2] at h1;simp only[List.length_map] at h1 h2;unfold fq;omega
abbrev plA(c:Cnt)(i:Int):AV:= .aptr [[kA c,i64 i]] 0 0
theorem c6(c:Cnt)(i:Int):Closed (plA c i):=ba (ae (gu c) (ae (ag _) ai))
def plC(c:Cnt)(i:Int)(x:Rat):Int:=if i< cx c x then -1 else if cx c x=i∧cx c x< fq c x then 0 else 1
theorem D1{c:Cnt}{x:Rat}(h:yg c): -274877906945≤cx c x∧cx c x≤274877906944:=by
 have:=oo (x:=x) h;unfold cx;split <;> omega
def biM(c:Cnt)(i:Int)(step:Rat):Nat→Rat→Rat→Option Rat
 |0,_,_=>none
 |f+1,lo,hi=>
  if sm lo∧sm hi∧sm (hi- lo) then
   if 0< cZ (hi- lo) 1 then
    if qs (((lo+hi) / 2).floor:Rat)+qs step≤549755813888∧oQ c ((((lo+hi) / 2).floor:Rat) * step) then
     if 0≤plC c i ((((lo+hi) / 2).floor:Rat) * step) then biM c i step f (((lo+hi) / 2).floor:Rat) hi
     else biM c i step f lo (((lo+hi) / 2).floor:Rat)
    else none
   else some lo
  else none
def inK(a v:Rat)(out zeros:Lq):Rat:=(v- aF out a) / aF zeros a
def okIn(a v:Rat)(out zeros:Lq):Prop:=sm a∧sm v∧dP out a∧dP zeros a∧aF zeros a≠0∧sm (inK a v out zeros)∧smL out∧smL zeros∧smL (aW zeros (inK a v out zeros))∧tc zeros [-a,1]∧out.length≤274877906944
instance (a v:Rat) (out zeros:Lq):Decidable (okIn a v out zeros):=inferInstanceAs (Decidable (_∧_∧_∧_∧_∧_∧_∧_∧_∧_∧_))
def yp:Lq→Lq→Lq→Lq→Option Lq
 |[],_,out,_=>some out
 |_::_,[],_,_=>none
 |a::ps,v::vs,out,zeros=>if okIn a v out zeros then yp ps vs (ik out (aW zeros (inK a v out zeros))) (ef zeros [-a,1]) else none
def pK:Lq→Lq→Bool
 |_,[]=>false
 |pre,a::l=>pre.any (fun b=>decide (a=b))||pK (pre++[a]) l
section
variable {p q:Lq}
theorem xc(i:Nat):coP [] i=0:=rfl
theorem uh(a:Rat)(l:Lq):coP (a::l) 0=a:=rfl
theorem gR(a:Rat)(l:Lq)(i:Nat):coP (a::l) (i+1)=coP l i:=rfl
theorem gQ(l:Lq)(i:Nat):coP (av l) i=coP l i:=by
 induction l generalizing i with
 |nil=>rfl
 |cons a l ih=>
  rw[ej];split
  ·rename_i h
   have h0:∀j,coP l j=0:=fun j=>by rw[←ih j,h];rfl
   split
   ·rename_i ha
    cases i with
    |zero=>rw[ha];rfl
    |succ i=>rw[gR,h0];rfl
   cases i with
   |zero=>rfl
   |succ i=>rw[gR,gR,h0];rfl
  cases i with
  |zero=>rfl
  |succ i=>rw[gR,gR,ih]
theorem mY(n:Nat)(f:Nat→Rat)(i:Nat):coP (bR n f) i=if i< n then f i else 0:=by
 unfold coP bR;grind
theorem rV(p q:Lq)(i:Nat):coP (ik p q) i=coP p i+coP q i:=by
 unfold ik;rw[gQ,mY];split;rfl
 ·rw[jf (by omega),jf (by omega)];grind
theorem ig(p:Lq)(k:Rat)(i:Nat):coP (aW p k) i=coP p i* k:=by
 unfold aW;rw[gQ,mY];split;rfl
 ·rw[jf (by omega)];grind
theorem rU(p q:Lq)(i:Nat):coP (dH p q) i=coP p i- coP q i:=by
 unfold dH;rw[rV,ig];grind
theorem Ei(h:∀i,coP p i=coP q i):av p=av q:=by
 induction p generalizing q with
 |nil=>
  induction q with
  |nil=>rfl
  |cons b q ih=>
   have hb:b=0:=(h 0).symm;rw[ej,←ih fun i=>h (i+1),if_pos hb];rfl
 |cons a p ih=>
  cases q with
  |nil=>
   have ha:a=0:=h 0;rw[ej,ih (q:=[]) fun i=>h (i+1),if_pos ha];rfl
  |cons b q=>
   have hab:a=b:=h 0;rw[ej,ej,ih (q:=q) fun i=>h (i+1),hab]
theorem mV(x:Rat):aF [] x=0:=rfl
theorem cK(a:Rat)(l:Lq)(x:Rat):aF (a::l) x=aF l x* x+a:=rfl
theorem tQ(h:∀i,coP p i=0)(x:Rat):aF p x=0:=by
 induction p with
 |nil=>rfl
 |cons a p ih=>
  have ha:a=0:=h 0;rw[cK,ih fun i=>h (i+1)];grind
theorem mW(h:∀i,coP p i=coP q i)(x:Rat):aF p x=aF q x:=by
 induction p generalizing q with
 |nil=>exact(tQ (fun i=>(h i).symm) x).symm
 |cons a p ih=>
  cases q with
  |nil=>exact tQ h x
  |cons b q=>
   have hab:a=b:=h 0;rw[cK,cK,ih (q:=q) fun i=>h (i+1),hab]
theorem tR(p:Lq)(x:Rat):aF (av p) x=aF p x:=mW (gQ p) x
def xy:Lq→Lq→Lq
 |[],q=>q
 |p,[]=>p
 |a::p,b::q=>(a+b)::xy p q
def vV(p:Lq)(k:Rat):Lq:=p.map (· * k)
def Du:Lq→Lq→Lq
 |[],_=>[]
 |a::p,q=>xy (vV q a) (0::Du p q)
theorem zr(p q:Lq)(i:Nat):coP (xy p q) i=coP p i+coP q i:=by
 induction p generalizing q i with
 |nil=>rw[xy,xc];grind
 |cons a p ih=>
  cases q with
  |nil=>rw[xy,xc]; · grind
        grind
  |cons b q=>
   cases i with
   |zero=>rfl
   |succ i=>exact ih q i
theorem ui(p:Lq)(k:Rat)(i:Nat):coP (vV p k) i=coP p i* k:=by
 induction p generalizing i with
 |nil=>show(0:Rat)=0* k;grind
 |cons a p ih=>
  cases i with
  |zero=>rfl
  |succ i=>exact ih i
theorem tU(p q:Lq)(x:Rat):aF (xy p q) x=aF p x+aF q x:=by
 induction p generalizing q with
 |nil=>rw[xy,mV];grind
 |cons a p ih=>
  cases q with
  |nil=>rw[xy,mV]; · grind
        grind
  |cons b q=>rw[xy,cK,cK,cK];grind
theorem px(p:Lq)(k x:Rat):aF (vV p k) x=aF p x* k:=by
 induction p with
 |nil=>show(0:Rat)=0* k;grind
 |cons a p ih=>show aF (vV p k) x* x+a* k=_;rw[cK];grind
theorem Bi(p q:Lq)(x:Rat):aF (Du p q) x=aF p x* aF q x:=by
 induction p with
 |nil=>show(0:Rat)=0* _;grind
 |cons a p ih=>rw[Du,tU,px,cK,cK];grind
theorem jo(p q:Lq)(x:Rat):aF (ik p q) x=aF p x+aF q x:=by
 rw[←tU];exact mW (fun i=>by rw[rV,zr]) x
theorem eS(p:Lq)(k x:Rat):aF (aW p k) x=aF p x* k:=by
 rw[←px];exact mW (fun i=>by rw[ig,ui]) x
theorem mU(p q:Lq)(x:Rat):aF (dH p q) x=aF p x- aF q x:=by
 unfold dH;rw[jo,eS];grind
theorem re(a x:Rat):aF (fe a) x=a:=by
 rw[fe,tR];show 0* x+a=a;grind
def lS(p q:Lq):Nat→Nat→Rat
 |0,_=>0
 |i+1,n=>lS p q i n+(if i≤n then coP p i* coP q (n- i) else 0)
theorem zo(o:Lq)(a:Rat)(q:Lq)(i:Nat)(h:∀k,k< q.length→i+k< o.length):∀k n,k≤q.length→coP (ju o a q i k) n=coP o n+(if i≤n∧n< i+k then a* coP q (n- i) else 0)
 |0,n,_=>by show coP o n=_;grind
 |k+1,n,hk=>by
  rw[ju,qI,xR];by_cases hn:n=i+k;subst hn;rw[if_pos ⟨rfl,h k (by omega)⟩,sT o a q i k (i+k) (by omega),if_pos (by omega),show i+k- i=k by omega];rw[zo o a q i h k n (by omega)];grind
theorem zp(p q:Lq)(n:Nat):∀i,i≤p.length→coP (eW p q i) n=lS p q i n
 |0,_=>by
  show coP (List.replicate _ 0) n=0;unfold coP;grind
 |i+1,hi=>by
  have ih:=zp p q n i (by omega);rw[eW,lS];split
  ·grind
  rw[zo _ _ _ _ (fun k hk=>by rw[qZ];omega) _ _ (Nat.le_refl _),ih];by_cases h1:i≤n;rw[if_pos h1];by_cases h2:n< i+q.length;rw[if_pos ⟨h1,h2⟩];rw[jf (p:=q) (by omega)];grind;grind
theorem uf(a:Rat)(p q:Lq)(n:Nat):∀i,lS (a::p) q (i+1) n=a* coP q n+(match n with|0=>0|m+1=>lS p q i m)
 |0=>by
  show(0:Rat)+(if 0≤n then coP (a::p) 0* coP q (n- 0) else 0)=_;rw[uh];cases n <;> simp[lS,Rat.add_zero,Rat.zero_add]
 |i+1=>by
  rw[lS,uf a p q n i];cases n with
  |zero=>grind
  |succ m=>
   show a* coP q (m+1)+lS p q i m+_=a* coP q (m+1)+(lS p q i m+_);by_cases h:i≤m;rw[gR];grind;grind
theorem zq(p q:Lq)(n:Nat):coP (Du p q) n=lS p q p.length n:=by
 induction p generalizing n with
 |nil=>rfl
 |cons a p ih=>
  rw[Du,zr,ui,List.length_cons,uf];cases n with
  |zero=>rw[uh];grind
  |succ m=>rw[gR];grind
theorem coP_mul(p q:Lq)(n:Nat):coP (ef p q) n=coP (Du p q) n:=by
 unfold ef;split
 ·rename_i h
  rcases h with rfl|rfl
  rfl;rw[zq]
  have:∀i,lS p [] i n=0:=by
   intro i
   induction i with
   |zero=>rfl
   |succ i ih=>rw[lS,xc];grind
  rw[this];rfl
 rw[gQ,zp _ _ _ _ (Nat.le_refl _),zq]
theorem ie(p q:Lq)(x:Rat):aF (ef p q) x=aF p x* aF q x:=by
 rw[←Bi];exact mW (coP_mul p q) x
def Db:Lq→Rat→Lq
 |[],_=>[]
 |[_],_=>[]
 |_::b::l,r=>aF (b::l) r::Db (b::l) r
theorem uQ(p:Lq)(r x:Rat):aF p x=aF (Db p r) x* (x- r)+aF p r:=by
 induction p with
 |nil=>show(0:Rat)=0* _+0;grind
 |cons a l ih=>
  cases l with
  |nil=>show 0* x+a=0* (x- r)+(0* r+a);grind
  |cons b l=>
   rw[Db,cK a,cK a,cK (aF (b::l) r)];grind
theorem Ep(p:Lq)(r:Rat):(Db p r).length=p.length- 1:=by
 induction p with
 |nil=>rfl
 |cons a l ih=>
  cases l with
  |nil=>rfl
  |cons b l=>rw[Db,List.length_cons,ih];simp
theorem sU:∀(n:Nat) (p xs:Lq),p.length≤n→n≤xs.length→xs.Nodup→(∀x∈xs,aF p x=0)→∀x,aF p x=0
 |0,p,_,hp,_,_,_,x=>by
  have:p=[]:=List.length_eq_zero_iff.1 (by omega);rw[this];rfl
 |n+1,p,xs,hp,hx,hnd,hz,x=>by
  cases xs with
  |nil=>grind
  |cons r xs=>
   rw[List.nodup_cons] at hnd;have hr:=hz r (List.mem_cons_self ..)
   have ih:=sU n (Db p r) xs (by rw[Ep];omega) (by grind) hnd.2 fun y hy=>by
    have h1:=uQ p r y;grind
   rw[uQ p r x];grind
theorem wU(h:∀x,aF p x=0):∀i,coP p i=0:=by
 induction p with
 |nil=>intro i;rfl
 |cons a p ih=>
  have ha:a=0:=by
   have:=h 0;rw[cK] at this;grind
  have hp:∀x,aF p x=0:=by
   -- at all places but 0,so at all
   refine sU p.length p ((List.range p.length).map fun i=>(((i+1:Nat):Int):Rat)) (Nat.le_refl _) (by simp) ?_ ?_;refine List.Pairwise.map _ (fun i j hij=>?_) List.nodup_range;intro e;have:=Rat.intCast_inj.1 e;omega;intro x hx;obtain⟨i,_,rfl⟩:=List.mem_map.1 hx;have h1:=h (((i+1:Nat):Int):Rat);rw[cK] at h1;have h2:aF p (((i+1:Nat):Int):Rat) * (((i+1:Nat):Int):Rat)=0:=by grind
   rcases Rat.mul_eq_zero.1 h2 with h3|h3
   exact h3;have:=Rat.intCast_inj.1 (h3.trans Rat.intCast_zero.symm);omega
  intro i;cases i with
  |zero=>exact ha
  |succ i=>exact ih hp i
theorem mj(h:∀x,aF p x=aF q x):av p=av q:=by
 refine Ei fun i=>?_;have:=wU (p:=dH p q) (fun x=>by rw[mU];grind) i;rw[rU] at this;grind
end
theorem Dr(p q:Lq)(hp:p≠[]):(ef p q).length≤p.length+q.length- 1:=by
 unfold ef;split;simp;have:=b9 (eW p q p.length);rwa[qZ] at this
theorem gi{p:Lq}{k:Rat}{s t:Nat}(hp:bdL p s)(hs:1≤s)(hk:qs k≤t):bdL (aW p k) (s+t):=
 j7 fun i=>by
  rw[ig];have h1:=eV (coP p i) k;have h2:=dL hp hs i;omega
theorem xw{p q:Lq}{s t:Nat}(hp:bdL p s)(hq:bdL q t)(hs:1≤s)(ht:1≤t):bdL (ik p q) (s+t+1):=
 j7 fun i=>by
  rw[rV];have h1:=iM (coP p i) (coP q i);have h2:=dL hp hs i;have h3:=dL hq ht i;omega
theorem lH(q:Lq)(x:Rat):∀p,aF (cM q p) x=aF p (aF q x)
 |[]=>rfl
 |a::p=>by rw[cM,jo,ie,re,lH q x p,cK]
theorem tS(q:Lq)(x:Rat)(m:Nat)(h:m< q.length):aF (q.take (m+1)) x=aF (q.take m) x+coP q m* x^ m:=by
 induction q generalizing m with
 |nil=>cases h
 |cons a q ih=>
  cases m with
  |zero=>rw[List.take_succ_cons,Rat.pow_zero];show 0* x+a=0+a* 1;grind
  |succ m=>rw[List.take_succ_cons,List.take_succ_cons,cK,cK,gR];grind
theorem vG{p:Lq}{n:Nat}(h:∀j,n≤j→coP p j=0):(av p).length≤n:=by
 apply Nat.le_of_not_lt;intro hn;have h1:=fi (l:=p) (n:=(av p).length- 1) (by omega);have h2:av p≠[]:=fun e=>by grind
 have h3:=h ((av p).length- 1) (by omega);rw[←gQ] at h3;unfold coP at h3;rw[List.getD_eq_getElem?_getD,h1] at h3;exact l9 h2 h3
section
variable (p q r:Lq)(a b:Rat)
end

inductive Gsn:Int→List Int→List Int→Prop
 |nil {t:Int}:Gsn t [] []
 |solid {t s:Int} {l l':List Int}:s≠0→Gsn s l l'→Gsn t (s::l) (s::l')
 |weak {t x y:Int} {l l':List Int}:(x=0∨x=t∨x= -t)→(y=0∨y=t∨y= -t)→Gsn (-t) l l'→Gsn t (x:: -t::l) (y:: -t::l')
inductive Ch:Lq→Lw→Prop
 |one {u:Lq} {c:Rat}:c≠0→(∀x,aF u x=c)→Ch u []
 |pair {u v:Lq}:Ch v []→Ch u [v]
 |step {u v w:Lq} {L:Lw} {a c:Rat} {q:Lq}:0< a→0< c→(∀x,a* aF u x+c* aF w x=aF q x* aF v x)→Ch v (w::L)→Ch u (v::w::L)

def nz(p:Lq):Prop:=av p≠[]







inductive Cx:Lq→Lq→Lw→Prop
 |nil {u n:Lq}:¬nz n→Cx u n []
 |cons {u n v n' q:Lq} {L:Lw} {c:Rat}:0< c→(∀x,aF v x=aF n x* c)→nz v→(∀x,aF n' x=aF q x* aF v x- aF u x)→Cx v n' L→Cx u n (v::L)





theorem xI(p q:Lq):(dH p q).length≤max p.length q.length:=by
 have h1:=iG p (aW q (-1));have h2:=cm q (-1);unfold dH;omega
theorem dN{l:Lq}{a b:Nat}(h:bdL l a)(hab:a≤b):bdL l b:=fun q hq=>Nat.le_trans (h q hq) hab
section
variable {p:Lq}{s:Nat}
theorem bd_co'(h:bdL p s)(hs:1≤s):∀i,qs (coP p i)≤s:=fun i=>dL h hs i
theorem BD{k:Rat}(h:bdL p s)(hs:1≤s):bdL (aW p k) (s+qs k):=j7 fun i=>by
 rw[ig];have:=eV (coP p i) k;have:=bd_co' h hs i;omega
theorem bdL_neg(h:bdL p s)(hs:1≤s):bdL (aW p (-1)) s:=j7 fun i=>by
 rw[ig,show coP p i* (-1)= -coP p i by grind,fX];exact bd_co' h hs i
def shP(i:Nat)(v:Lq):Lq:=List.replicate i 0++v
theorem Ac(i:Nat)(v:Lq):(shP i v).length=i+v.length:=by simp[shP]
theorem xL(i:Nat)(v:Lq):shP (i+1) v=0::shP i v:=by simp[shP,List.replicate_succ]
theorem y8(v:Lq)(x:Rat):∀i,aF (shP i v) x=aF v x* x^ i
 |0=>by simp[shP]
 |i+1=>by
  rw[xL,cK,y8 v x i,Rat.pow_succ];grind
theorem coP_sh(v:Lq)(i n:Nat):coP (shP i v) n=if n< i then 0 else coP v (n- i):=by
 induction i generalizing n with
 |zero=>simp[shP]
 |succ i ih=>
  rw[xL];cases n with
  |zero=>rw[uh,if_pos (by omega)]
  |succ n=>
   rw[gR,ih,Nat.add_sub_add_right];by_cases h:n< i;rw[if_pos h,if_pos (by omega)];rw[if_neg h,if_neg (by omega)]
def mR(p q:Lq):Nat→Lq
 |0=>[]
 |n+1=>ik (mR p q n) (shP n (aW p (coP q n)))
theorem y9(p q:Lq)(x:Rat):∀n,n≤q.length→aF (mR p q n) x=aF p x* aF (q.take n) x
 |0,_=>by simp[mR,mV]
 |n+1,h=>by
  rw[mR,jo,y9 p q x n (by omega),y8,eS,tS q x n (by omega)];grind
theorem trim_mR(p q:Lq):∀n,av (mR p q n)=mR p q n
 |0=>rfl
 |n+1=>ft _
theorem pL(p q:Lq):av (ef p q)=ef p q:=by
 unfold ef;split;rfl;exact ft _
theorem tg(p q:Lq):mR p q q.length=ef p q:=by
 rw[←trim_mR,←pL];refine mj fun x=>?_;rw[y9 p q x _ (Nat.le_refl _),List.take_length,ie]
theorem wt(p q:Lq):∀n,(mR p q n).length≤n+p.length
 |0=>Nat.zero_le _
 |n+1=>by
  have h1:=wt p q n;have h2:=iG (mR p q n) (shP n (aW p (coP q n)));have h3:=cm p (coP q n);rw[Ac] at h2;rw[mR];omega
theorem Cu{p q:Lq}{s t:Nat}(hp:bdL p s)(hq:bdL q t)(hs:1≤s)(ht:1≤t):∀n,bdL (mR p q n) (n* (s+t+1)+1)
 |0=>fun _ h=>by cases h
 |n+1=>j7 fun i=>by
  rw[mR,rV,coP_sh,Nat.succ_mul];have h1:=bd_co' (Cu hp hq hs ht n) (by omega) i;have h2:=bd_co' hq ht n
  have h3:qs (if i< n then 0 else coP (aW p (coP q n)) (i- n))≤s+t:=by
   split;have:qs 0=1:=by decide
   omega;rw[ig];have:=eV (coP p (i- n)) (coP q n);have:=bd_co' hp hs (i- n);omega
  have:=iM (coP (mR p q n) i) (if i< n then 0 else coP (aW p (coP q n)) (i- n));omega
end
theorem kw{v:Lq}{n:Nat}(h:av v=v)(hn:v.length=n+1):coP v n=aT v:=by
 have:=fi (l:=v) (n:=n) (by rw[h];exact hn);rw[h,bv (by omega)] at this;exact Option.some.inj this







section
variable {a b:Rat}(h:a< b){k:Nat}(hk:1≤k∧k≤4)
include h hk
end

section
variable {a b:Rat}(h:a< b){k:Nat}(hk:1≤k∧k≤4)(ha:qs a≤20)(hb:qs b≤20)
include ha hb
end
section
variable {a b:Rat}(h:a< b){k:Nat}(hk:1≤k∧k≤4)
include h hk
variable (ha:qs a≤20)(hb:qs b≤20)
include ha hb
end
section
variable {a b:Rat}(h:a< b){k:Nat}(hk:1≤k∧k≤4)(ha:qs a≤20)(hb:qs b≤20)
include h hk ha hb
end
section
variable {a b a' b':Rat}(h:a< b)(h':a'< b'){k:Nat}(hk:1≤k∧k≤4)
include h h'
end
section
variable {a b a' b':Rat}(ha:qs a≤20)(hb:qs b≤20)(ha':qs a'≤20)(hb':qs b'≤20)
include ha hb ha' hb'
end


section
variable {a b:Rat}{p q:Nat}(ha:qs a≤256)(hb:qs b≤256)(hp:p≤8)(hq:q≤8)
include ha in
end



section
variable {N:Lq}(hN:nz N)(hm:aT N=1)
end


section
variable {m:Lq}{k:Rat}{M n:Nat}(k0:k≠0)(h7:n≤7)
end
section
variable {m:Lq}{s n:Nat}(hm:bdL m s)(hs1:1≤s)(hs:s≤3000)(hl:m.length≤16)(h6:n≤6)
end



section
variable {T:Lq}{n:Nat}(hn:1≤n∧n≤5)(hl:T.length=n+1)(ht:av T=T)(hm:aT T=1)(hb:bdL T 20)
include hn hl ht hm hb
end
def sQ(f:Nat→Rat):Nat→Rat
 |0=>0
 |n+1=>sQ f n+f n
theorem sJ{f g:Nat→Rat}:∀n,(∀j,j< n→f j=g j)→sQ f n=sQ g n
 |0,_=>rfl
 |n+1,h=>by rw[sQ,sQ,sJ n fun j hj=>h j (by omega),h n (by omega)]

structure Dt where
 X:Lq
 Y:Lq
 W:Lq
def sz1(q:Rat):Prop:=qs q≤100000000000
instance (q:Rat):Decidable (sz1 q):=inferInstanceAs (Decidable (_≤_))
theorem sz1.sm{q:Rat}(h:sz1 q):sm q:=Nat.le_trans h (by decide)
theorem sz1.two{a b:Rat}(ha:sz1 a)(hb:sz1 b):qs a+qs b≤549755813888:=by unfold sz1 at *;omega
theorem cq_lt{a b:Rat}:cZ a b< 0↔a< b:=by
 unfold cZ;by_cases h:a< b;simp[h];by_cases h2:a=b <;> simp[h,h2]
theorem cq_gt{a b:Rat}:0< cZ a b↔b< a:=by
 unfold cZ;by_cases h:a< b;have:¬b< a:=by grind
 simp[h,this];by_cases h2:a=b;subst h2;simp[h];have:b< a:=by grind
 simp[h,h2,this]
theorem cq_eq{a b:Rat}:cZ a b=0↔a=b:=by
 unfold cZ;by_cases h:a< b;have:a≠b:=by grind
 simp[h,this];by_cases h2:a=b <;> simp[h,h2]
def vZ(l:Lq):Bool:=(List.range (l.length- 1)).all fun i=>decide (coP l i< coP l (i+1))
theorem risB_iff{l:Lq}:vZ l=true↔∀i,i+1< l.length→coP l i< coP l (i+1):=by
 unfold vZ;rw[List.all_eq_true];constructor;intro h i hi;exact of_decide_eq_true (h i (List.mem_range.2 (by omega)));intro h i hi;have:=List.mem_range.1 hi;exact decide_eq_true (h i (by omega))
def Dm(d:Dt):Bool:=decide (1≤d.X.length) && (decide (d.X.length≤60) && (decide (d.Y.length=d.X.length) && (vZ d.X && ((decide (d.W.length=0)||decide (d.W.length=d.X.length)) && !d.W.any fun w=>decide (w≤0)))))
def wtD(d:Dt)(i:Nat):Rat:=if d.W.length=0 then 1 else coP d.W i
def msD(d:Dt)(p:Lq)(i:Nat):Rat:=wtD d i* (coP d.Y i- aF p (coP d.X i))
def oZ(f:Nat→Rat):Nat→Nat×Rat
 |0=>(0,0)
 |i+1=>if i=0∨(oZ f i).2< f i then(i,f i) else oZ f i
def woD(d:Dt)(p:Lq):Nat:=(oZ (fun i=>cj (msD d p i)) d.X.length).1
def sdD(d:Dt)(i k:Nat):Rat:=((1- 2* ((i % 2:Nat):Int):Int):Rat) / wtD d k
def prD(d:Dt)(L:Ln)(k:Nat):Nat→Rat
 |0=>1
 |j+1=>if L.getD j 0=k then prD d L k j else prD d L k j* (coP d.X k- coP d.X (L.getD j 0))
def tpD(d:Dt)(L:Ln):Nat→Rat
 |0=>0
 |i+1=>tpD d L i+coP d.Y (L.getD i 0) / prD d L (L.getD i 0) L.length
def btD(d:Dt)(L:Ln):Nat→Rat
 |0=>0
 |i+1=>btD d L i+sdD d i (L.getD i 0) / prD d L (L.getD i 0) L.length
def hD(d:Dt)(L:Ln):Rat:=tpD d L L.length/ btD d L L.length
def xsD(d:Dt)(L:Ln)(n:Nat):Lq:=bR n fun i=>coP d.X (L.getD i 0)
def trD(d:Dt)(L:Ln)(n:Nat):Lq:=bR n fun i=>sdD d i (L.getD i 0)
def ysD(d:Dt)(L:Ln)(h:Rat)(n:Nat):Lq:=bR n fun i=>coP d.Y (L.getD i 0)- h* sdD d i (L.getD i 0)
@[simp] theorem xsD_length (d:Dt)(L:Ln)(n:Nat):(xsD d L n).length=n:=by simp[xsD,bR]
@[simp] theorem trD_length (d:Dt)(L:Ln)(n:Nat):(trD d L n).length=n:=by simp[trD,bR]
@[simp] theorem ysD_length (d:Dt)(L:Ln)(h:Rat)(n:Nat):(ysD d L h n).length=n:=by simp[ysD,bR]
def EW(d:Dt)(L:Ln):Prop:=1≤L.length∧L.length≤15∧(∀k∈L,k< d.X.length∧sz1 (coP d.X k)∧sz1 (coP d.Y k)∧sz1 (wtD d k)∧wtD d k≠0)∧
 (∀k∈L,(∀j,j< L.length+1→sz1 (prD d L k j))∧prD d L k L.length≠0)∧(∀i,i< L.length+1→sz1 (tpD d L i)∧sz1 (btD d L i))∧btD d L L.length≠0∧sz1 (hD d L)∧pK [] (xsD d L (L.length- 1))=false
instance (d:Dt) (L:Ln):Decidable (EW d L):=inferInstanceAs (Decidable (_∧_∧_∧_∧_∧_∧_∧_))
def AA(d:Dt)(L:Ln):Option Lq:=if EW d L then yp (xsD d L (L.length- 1)) (ysD d L (hD d L) (L.length- 1)) [] (fe 1) else none
def sdE(sg:Int)(k:Nat):Int:=if k % 2=1 then -sg else sg
def bsM(t:Nat→Bool):Nat→Nat→Nat→Nat
 |0,i,_=>i
 |f+1,i,j=>if i< j then(if t ((i+j) / 2) then bsM t f ((i+j) / 2+1) j else bsM t f i ((i+j) / 2)) else i
def bsL(L:Ln)(x:Nat):Nat:=bsM (fun h=>decide (L.getD h 0< x)) L.length 0 L.length
def exM(L:Ln)(x:Nat)(sg own:Int):Ln:=
 if bsL L x=0∧sdE sg 0≠own then x::L.take (L.length- 1)
 else if L.length- 1< bsL L x∧sdE sg (L.length- 1)≠own then L.drop 1++[x]
 else if bsL L x=0∨bsL L x≤L.length- 1∧sdE sg (bsL L x)=own then L.set (bsL L x) x
 else L.set (bsL L x- 1) x
def sgO(h:Rat):Int:=if h< 0 then -1 else 1
def okMs(d:Dt)(p:Lq)(i:Nat):Prop:=i< d.X.length∧sz1 (wtD d i)∧sz1 (coP d.Y i)∧dP p (coP d.X i)∧sz1 (aF p (coP d.X i))∧sz1 (coP d.Y i- aF p (coP d.X i))∧sz1 (msD d p i)
instance (d:Dt) (p:Lq) (i:Nat):Decidable (okMs d p i):=inferInstanceAs (Decidable (_∧_∧_∧_∧_∧_∧_))
def EU(d:Dt)(p:Lq):Prop:=d.X.length≤60∧d.Y.length=d.X.length∧(d.W.length=0∨d.W.length=d.X.length)∧∀i,i< d.X.length→okMs d p i
instance (d:Dt) (p:Lq):Decidable (EU d p):=inferInstanceAs (Decidable (_∧_∧_∧_))
def fitM:Nat→Dt→Ln→Option (Lq×Rat×Ln)
 |0,_,_=>none
 |f+1,d,L=>match AA d L with
  |none=>none
  |some p=>if EU d p then(if cj (msD d p (woD d p))≤cj (hD d L) then some (p,cj (hD d L),if hD d L=0 then [] else L) else fitM f d (exM L (woD d p) (sgO (hD d L)) (sgZ (msD d p (woD d p)).num))) else none
def uE(f:Nat)(d:Dt)(n:Nat):Option (Lq×Rat×Ln):=
 if d.X.length≤n+1 then(if d.X.length=d.Y.length∧n≤12∧smL d.X∧pK [] d.X=false then(yp d.X d.Y [] (fe 1)).map fun p=>(p,0,[]) else none) else(if d.Y.length=d.X.length∧(d.W.length=0∨d.W.length=d.X.length)∧n≤12 then fitM f d (List.range (n+2)) else none)
end Go.Abs
namespace Go.Abs
open Go.RowKit
section
variable {i T:Nat}{x:Option Lq}
section
variable {r:Ren}{hp hp':Hq}
theorem ShrL.same{x:Option ABlk}{l:Hp}(hi:Nat.blt i r.n=true)(h:hp (r.s i)=x)(hl:ShrL r hp l):ShrL r hp ((i,x)::l):=by
 refine⟨?_,hl⟩;cases x with
 |none=>trivial
 |some B=>exact⟨Nat.le_of_ble_eq_true hi,B,h,rfl,rfl,rfl⟩
theorem CvH.same{x:Option ABlk}{l:Hp}(hs:Shr r hp hp')(hi:Nat.blt i r.n=true)(h:hp (r.s i)=x)(hc:∀B,x=some B→∀e∈B.es,∀c∈e,Closed c)(hl:CvH r hp hp' l):CvH r hp hp' ((i,x)::l):=by
 refine⟨?_,hl⟩;cases x with
 |none=>trivial
 |some B=>exact⟨Nat.le_of_ble_eq_true hi,B,h,rfl,rfl,cU hs (hc B rfl)⟩
def Ez(i:Nat)(x:Option Lq):AV:=match x with|none=> .emp|some l=> .lsl i 0 l.length none 3
def oE(T:Nat)(x:Option Lq):Option ABlk:=match x with|none=>none|some l=>some ⟨T,3,pE l⟩
theorem bO:∀B,oE T x=some B→∀e∈B.es,∀c∈e,Closed c:=fun B h=>by
 cases x with
 |none=>cases h
 |some l=>cases h;exact aL l
theorem Ca:∀B,oE T x=some B→B.sz=3:=fun B h=>by
 cases x with
 |none=>cases h
 |some l=>cases h;rfl
theorem Cv.row(hs:Shr r hp hp')(hi:Nat.blt i r.n=true)(h:r.s i=i)(h2:hp' i=oE T x):Cv r hp hp' (Ez i x) (Ez i x):=by
 cases x with
 |none=>exact ah hs aS
 |some l=>exact Cv.sl hi h (by rw[h2];rfl)
theorem Top.row{H:Nat→Prop}(h:x.isSome=true→H i):Top H (Ez i x):=by
 cases x with
 |none=>exact .clo aS
 |some l=>exact .sl (h rfl)
end
end
end Go.Abs
namespace Go.Abs
set_option maxRecDepth 20000
theorem cg{k t:Nat}{x:Option ABlk}{l:Hp}(h:k≠t):au ((k,x)::l) t=au l t:=by
 rw[ep];unfold upd;grind
def pd:Nat→Nat→List UInt8
 |0,_=>[]
 |k+1,n=>pd k (n/ 10)++[UInt8.ofNat (48+n % 10)]
theorem uX(k n:Nat):(pd k n).length=k:=by
 induction k generalizing n with
 |zero=>rfl
 |succ k ih=>rw[pd,List.length_append,ih];rfl
theorem EO(j k n:Nat):pd (j+k) n=pd j (n/ 10^ k)++pd k n:=by
 induction k generalizing n with
 |zero=>rw[Nat.add_zero,Nat.pow_zero,Nat.div_one];simp[pd]
 |succ k ih=>rw[←Nat.add_assoc,pd,pd,ih,Nat.div_div_eq_div_mul,Nat.pow_succ,Nat.mul_comm 10,List.append_assoc]
theorem pd_mod(k n:Nat):pd k (n % 10^ k)=pd k n:=by
 induction k generalizing n with
 |zero=>rfl
 |succ k ih=>
  rw[pd,pd,Nat.pow_succ]
  have e1:n % (10^ k* 10) / 10=n/ 10 % 10^ k:=by
   rw[Nat.mul_comm,Nat.mod_mul_right_div_self]
  have e2:n % (10^ k* 10) % 10=n % 10:=by rw[Nat.mod_mul_left_mod]
  rw[e1,e2,ih]
theorem EM(k n:Nat):pd (k+1) n=UInt8.ofNat (48+n/ 10^ k % 10)::pd k n:=by
 rw[Nat.add_comm,EO];rfl
theorem Ck(k:Nat):pd k 0=List.replicate k 48:=by
 induction k with
 |zero=>rfl
 |succ k ih=>rw[pd,ih,List.replicate_succ'];rfl
def jz:List UInt8→List UInt8
 |[]=>[]
 |c::l=>if c=48 then jz l else c::l
theorem wY{a b:List UInt8}(h:jz a≠[]):jz (a++b)=jz a++b:=by
 induction a with
 |nil=>exact absurd rfl h
 |cons c a ih=>
  rw[List.cons_append,jz,jz];rw[jz] at h;by_cases hc:c=48;rw[if_pos hc] at h;rw[if_pos hc,if_pos hc,ih h];rw[if_neg hc,if_neg hc];rfl
theorem ze(k:Nat)(l:List UInt8):jz (List.replicate k 48++l)=jz l:=by
 induction k with
 |zero=>rfl
 |succ k ih=>rw[List.replicate_succ,List.cons_append,jz,if_pos rfl,ih]
theorem dig_ne{n:Nat}(h0:n≠0)(h:n< 10):UInt8.ofNat (48+n)≠48:=by
 have:∀n,n< 10→n≠0→UInt8.ofNat (48+n)≠48:=by decide
 exact this n h h0
theorem pC(n:Nat):Lib.decDigits n≠[]:=by
 intro e;have h1:=Lib.decDigits_length n;rw[e] at h1;have:=Lib.nDigits_pos n;simp at h1;omega
theorem zf:∀(k n:Nat),0< n→n< 10^ k→jz (pd k n)=Lib.decDigits n
 |0,n,h,h2=>by rw[Nat.pow_zero] at h2;omega
 |k+1,n,h,h2=>by
  rw[pd,Lib.decDigits];by_cases h10:n< 10;rw[dif_pos h10,Nat.div_eq_of_lt h10,Ck,ze,Nat.mod_eq_of_lt h10,jz,if_neg (dig_ne (by omega) h10)];rw[dif_neg h10];have ih:=zf k (n/ 10) (by omega) (by rw[Nat.pow_succ] at h2;omega);rw[wY (by rw[ih];exact pC _),ih]
theorem vr:∀(k a b:Nat),0< a→b< 10^ k→Lib.decDigits (a* 10^ k+b)=Lib.decDigits a++pd k b
 |0,a,b,h,hb=>by
  have:b=0:=by rw[Nat.pow_zero] at hb;omega
  subst this;simp[pd]
 |k+1,a,b,h,hb=>by
  have hp:1≤10^ k:=Nat.one_le_pow _ _ (by decide);have hap:1≤a* 10^ k:=Nat.mul_le_mul h hp;have e:a* 10^ (k+1)+b=(a* 10^ k) * 10+b:=by rw[Nat.pow_succ,Nat.mul_assoc]
  rw[e,Lib.decDigits,dif_neg (by omega),show(a* 10^ k* 10+b) / 10=a* 10^ k+b/ 10 by omega,show(a* 10^ k* 10+b) % 10=b % 10 by omega,vr k a (b/ 10) h (by rw[Nat.pow_succ] at hb;omega),pd,List.append_assoc]
theorem EN:∀(k n:Nat),0< n→n< 10^ k→pd k n=List.replicate (k- (Lib.decDigits n).length) 48++Lib.decDigits n
 |0,n,h,h2=>by rw[Nat.pow_zero] at h2;omega
 |k+1,n,h,h2=>by
  rw[pd,Lib.decDigits];by_cases h10:n< 10;rw[dif_pos h10,Nat.div_eq_of_lt h10,Ck,Nat.mod_eq_of_lt h10];rfl;rw[dif_neg h10,EN k (n/ 10) (by omega) (by rw[Nat.pow_succ] at h2;omega),List.length_append,List.append_assoc];congr 2;simp







section
variable {f:Nat}{p:Lq}{c:Cnt}(h:fU f p=some c)(hp:nz p)
include h hp
end

section
variable {f:Nat}{p:Lq}{c:Cnt}(h:fU f p=some c)(hp:nz p)
include h hp
end




section
variable {f:Nat}{q d:Lq}{c:Cnt}{σ:Rat}(h:fU f d=some c)(hd:nz d)(hσ:σ=1∨σ= -1)
end




theorem zk(p:Lq)(n i:Nat):coP (p.take n) i=if i< n then coP p i else 0:=by
 unfold coP;rw[List.getD_eq_getElem?_getD,List.getD_eq_getElem?_getD,List.getElem?_take];split <;> rfl

section
end




abbrev i1Q:Rat:=((1:Int):Rat)
theorem i1Q_eq:i1Q=1:=by decide
theorem ou(p q:Lq):av (ik p q)=ik p q:=ft _
def pwL(u v:Rat):Nat→Lq
 |0=>fe i1Q
 |i+1=>ef (pwL u v i) [u,v]
def cmL(u v:Rat)(p:Lq):Nat→Lq
 |0=>[]
 |i+1=>ik (cmL u v p i) (aW (pwL u v i) (coP p i))
theorem yl(u v x:Rat):aF [u,v] x=u+v* x:=by
 show(0* x+v) * x+u=_;grind
theorem xX(u v x:Rat):∀i,aF (pwL u v i) x=(u+v* x) ^ i
 |0=>by rw[pwL,re,i1Q_eq,Rat.pow_zero]
 |i+1=>by
  rw[pwL,ie,xX u v x i,Rat.pow_succ,yl]
theorem zt(u v:Rat)(p:Lq)(x:Rat):∀i,i≤p.length→aF (cmL u v p i) x=aF (p.take i) (u+v* x)
 |0,_=>rfl
 |i+1,h=>by
  rw[cmL,jo,eS,zt u v p x i (by omega),xX,tS _ _ _ (by omega)];grind
theorem zu(u v:Rat)(p:Lq):cmL u v p p.length=cM [u,v] p:=by
 cases p with
 |nil=>rfl
 |cons a l=>
  have h1:av (cmL u v (a::l) (a::l).length)=av (cM [u,v] (a::l)):=mj fun x=>by
   rw[zt u v _ x _ (Nat.le_refl _),List.take_length,lH,yl]
  have h2:av (cmL u v (a::l) (a::l).length)=cmL u v (a::l) (a::l).length:=by
   rw[List.length_cons,cmL,ou]
  have h3:av (cM [u,v] (a::l))=cM [u,v] (a::l):=by rw[cM,ou]
  rw[←h2,h1,h3]
def oH:Nat→Nat
 |0=>1
 |i+1=>2* (oH i+100+1)+1
theorem Cg{i j:Nat}(h:i≤j):oH i≤oH j:=by
 induction j with
 |zero=>rw[show i=0 by omega];exact Nat.le_refl _
 |succ j ih=>
  by_cases e:i=j+1;rw[e];exact Nat.le_refl _;have:=ih (by omega);rw[oH];omega
theorem oG(i:Nat):1≤oH i:=by cases i <;> simp[oH]
theorem v8(u v:Rat):∀i,(pwL u v i).length≤i+1
 |0=>og _
 |i+1=>by
  have h1:=Dr (p:=[u,v]) (q:=pwL u v i) (by simp)
  have h2:ef (pwL u v i) [u,v]=ef [u,v] (pwL u v i):=by
   have e:=mj (p:=ef (pwL u v i) [u,v]) (q:=ef [u,v] (pwL u v i)) fun x=>by rw[ie,ie];grind
   rwa[pL,pL] at e
  have h3:=v8 u v i;rw[pwL,h2];simp only[List.length_cons,List.length_nil] at h1;omega
theorem xr{u v:Rat}(hu:qs u≤100)(hv:qs v≤100):bdL [u,v] 100:=fun q hq=>by
 rcases List.mem_cons.1 hq with rfl|hq
 exact hu;rw[List.mem_singleton.1 hq];exact hv
theorem Am{u v:Rat}(hu:qs u≤100)(hv:qs v≤100):∀i,bdL (pwL u v i) (oH i)
 |0=>fun q hq=>by
  have h:q=i1Q:=List.mem_singleton.1 (dj (l:=[i1Q]) hq);rw[h];decide
 |i+1=>by
  have h:=Cu (Am hu hv i) (xr hu hv) (oG i) (by decide) 2;have e:=tg (pwL u v i) [u,v];rw[show [u,v].length=2 from rfl] at e;rw[e] at h;exact h
theorem Bu{u v:Rat}{p:Lq}{s:Nat}(hu:qs u≤100)(hv:qs v≤100)(hp:bdL p s)(hs:1≤s)(hl:p.length≤8):∀i,i≤p.length→bdL (cmL u v p i) (i* (53000+s+1)+1)∧(cmL u v p i).length≤i
 |0,_=>⟨fun q hq=>by simp[cmL] at hq,Nat.zero_le _⟩
 |i+1,h=>by
  obtain⟨h1,h2⟩:=Bu hu hv hp hs hl i (by omega);have h3:=gi (Am hu hv i) (oG i) (dL hp hs i);have h4:=xw h1 h3 (by omega) (by have:=oG i;omega);have h5:=iG (cmL u v p i) (aW (pwL u v i) (coP p i));have h6:=cm (pwL u v i) (coP p i);have h7:=v8 u v i;have h8:=Cg (show i≤8 by omega);have h9:oH 8≤53000:=by decide
  rw[cmL];exact⟨dN h4 (by rw[Nat.succ_mul];omega),by omega⟩
theorem tk{u v:Rat}{p:Lq}{s:Nat}(hu:qs u≤100)(hv:qs v≤100)(hp:bdL p s)(hs:1≤s)(hl:p.length≤8):bdL (cM [u,v] p) (8* (53000+s+1)+1)∧(cM [u,v] p).length≤p.length:=by
 obtain⟨h1,h2⟩:=Bu hu hv hp hs hl p.length (Nat.le_refl _);rw[zu] at h1 h2;exact⟨dN h1 (Nat.add_le_add_right (Nat.mul_le_mul_right _ hl) 1),h2⟩
end Go.Abs
