/- Part Y13 of the proof. -/
import Derived.Test.YtjmkjicckobojaaGreatDoorY12
set_option linter.all false
namespace Go.Abs
abbrev RQ:=Rat×Bool
def rok(x:RQ):Prop:=x.2=true->x.1=0
def rC(x:RQ):La:=zZ x.1.num++zZ (if x.2 then 0 else(x.1.den:Int))
def rq(q:Rat):RQ:=(q,false)
theorem zn(q:Rat):rok (rq q):=λh=>by cases h
@[simp] theorem rC_length (x:RQ):(rC x).length=4:=rfl
theorem gO(x:RQ):∀c∈rC x,Closed c:=λc a=>(n7.1 a).elim (gL _ c) (gL _ c)
theorem mq(x:RQ):Closed (.agg (rC x)):=aD (gO x)
theorem rC_rq(q:Rat):rC (rq q)=zZ q.num++zZ (q.den:Int):=rfl
def rE(l:List RQ):Lc:=l.map rC
@[simp] theorem rE_length (l:List RQ):(rE l).length=l.length:=by simp[rE]
theorem rE_get{l:List RQ}{i:Nat}{q:RQ}(h:l[i]?=some q):(rE l)[i]?=some (rC q):=by simp[rE,h]
theorem rE_take(l:List RQ)(k:Nat):(rE l).take k=rE (l.take k):=by simp[rE]
theorem fR(l:List RQ):(rE l).all (·.all AV.one)=true:=by
 simp only[rE,OY,pZ];intro q _;rfl
theorem zH(l:List RQ):∀e∈rE l,e.length=4:=by
 intro e a;obtain⟨q,_,rfl⟩:=sd.1 a;rfl
theorem ku(l:List RQ):∀e∈rE l,∀c∈e,Closed c:=by
 intro e a c b;obtain⟨q,_,rfl⟩:=sd.1 a;exact gO q c b
theorem fJ(l:List RQ):Closed (.arr (rE l)):=aP (ku l)
theorem AEval.lenR{P:Program}{id:Nat}{ev:Operand->Option AV}{hp:Hq}{c:Call}{x:Operand}{T:Nat}{d:Nat×Nat}{l:List RQ}(hc:c.callee= .builtin .len)(ha:c.args= #[x])(ht:c.argTypes= #[T])(hx:ev x=some (.arr (rE l)))(he:eQ P T=some d):
    AEval P id ev hp (.call c) ⟨.v (.int .i64 (l.length:Nat)),[]⟩ []:= .len hc ha ht hx (by simp[sI]) he
theorem HN{n:Int}{d:Nat}(hd:0< d):sgZ (mkRat n d).num=sgZ n:=by
 rw[kj hd];have b:0< Nat.gcd n.natAbs d:=NK _ hd;have a:n≠0->0< n.natAbs/ Nat.gcd n.natAbs d:=λh=>Nat.div_pos (Nat.gcd_le_left _ ω) b;unfold sgZ sgn;by_cases h0:n=0;subst h0;simp;have:=a h0;by_cases hn:n< 0;simp[hn,h0];omega;simp[hn,h0];omega
theorem pJ(n d:Int)(hd:d< 0):Rat.divInt n d=mkRat (-n) d.natAbs:=by
 obtain⟨m,rfl⟩:∃m:Nat,d=Int.negSucc m:=⟨d.natAbs- 1,ω⟩;rfl
theorem pI(n d:Int)(hd:0< d):Rat.divInt n d=mkRat n d.natAbs:=by
 obtain⟨m,rfl⟩:∃m:Nat,d=(m:Int):=⟨d.natAbs,ω⟩;rfl
theorem mV(a b:Rat):a/ b=Rat.divInt (a.num* b.den) (a.den* b.num):=by
 rw[LK,Rat.inv_def]
 conv=>lhs;rw[<-OS a]
 rw[Rat.divInt_mul_divInt]
abbrev nQ(n:Nat):Rat:=((n:Int):Rat)
theorem nQ_eq(n:Nat):nQ n=mkRat n 1:=(Rat.mkRat_one n).symm
theorem nQ_zero{n:Nat}:nQ n=0↔n=0:=ψ
theorem lP{n k:Nat}(h:bl n<=k)(hk:1<=k):qs (nQ n)<=k:=by
 refine OT.2 ⟨?_,?_⟩;show bl ((n:Int)).natAbs<=k;rwa[y2];show bl 1<=k;rw[jx];grind
theorem Kr(a b:Nat):nQ a* nQ b=nQ (a* b):=φ
theorem nQ_sub{a b:Nat}(h:b<=a):nQ a- nQ b=nQ (a- b):=by
 rw[<-Pa];congr 1;omega
theorem zU(a b:Nat)(hb:b≠0):nQ a/ nQ b=mkRat a b:=by
 rw[mV];simp
theorem yb(a b:Nat)(hb:b≠0)(h:b∣a):mkRat a b=nQ (a/ b):=by
 obtain⟨k,rfl⟩:=h;rw[NP _ ω,nQ_eq,O1 hb δ,EA,Int.mul_comm (b:Int)];simp
theorem B2(a b:Nat)(hb:b≠0):(mkRat a b).floor=((a/ b:Nat):Int):=by
 have h:=lX (n:=(a:Int)) (d:=b) ω;rw[y2] at h;rw[Pi,h.1,h.2,<-Nq,<-Nq,Oy,Nat.mul_div_cancel' (Nat.gcd_dvd_right a b)]
def iS:Lq->Nat->Nat
 |[],d=>d
 |c::l,d=>iS l (Nat.lcm d c.den)
def iZ(c:Rat)(D:Nat):Nat:=c.num.natAbs* (D/ c.den)
def ji(D:Nat):Lq->Nat->Nat
 |[],n=>n
 |c::l,n=>ji D l (Nat.gcd n (iZ c D))
def cn(p:Lq):Lq:=aW (am p) (nQ (iS (am p) 1) / nQ (ji (iS (am p) 1) (am p) 0))
def v6(p:Lq):Prop:=(p.length+4) * mxL p<=34359738368/\p.length<=274877906944
instance (p:Lq):Decidable (v6 p):=inferInstanceAs (Decidable (_/\_))
theorem GM{a b:Nat}(ha:a≠0)(hb:b≠0):Nat.lcm a b≠0:=by simp_all
theorem rH:∀(l:Lq) {d:Nat},d≠0->iS l d≠0
 |[],_,h=>h
 |c::l,_,h=>rH l (GM h c.den_nz)
theorem mf:∀(l:Lq) (d:Nat),d∣iS l d/\∀c∈l,c.den∣iS l d
 |[],d=>⟨Nat.dvd_refl d,λ_ h=>by cases h⟩
 |c::l,d=>by
  obtain⟨b,e⟩:=mf l (Nat.lcm d c.den);refine⟨OR (Nat.dvd_lcm_left d c.den) b,λx a=>?_⟩;rcases pY.1 a with rfl|a
  exact OR (Nat.dvd_lcm_right d x.den) b;exact e x a
theorem bl_lcm(a b:Nat):bl (Nat.lcm a b)<=bl a+bl b:=
 fo (fy _ _) (jy a b)
theorem AN{s:Nat}:∀(l:Lq) (d:Nat),bdL l s->bl (iS l d)<=bl d+l.length* s
 |[],d,_=>by simp[iS]
 |c::l,d,h=>by
  have f:=AN l (Nat.lcm d c.den) λq a=>h q (lQ _ a);have b:=bl_lcm d c.den;have g:=eu c;have e:=h c (mu ..);rw[vX,zu];unfold iS;omega
theorem qF(c:Rat)(D:Nat)(h:c.den∣D):fN (c* nQ D)=nQ (iZ c D):=by
 obtain⟨k,rfl⟩:=h;have a:=c.den_nz
 have e:c* nQ (c.den* k)=((c.num* (k:Int):Int):Rat):=by
  rw[oC];show mkRat (c.num* ((c.den* k:Nat):Int)) (c.den* 1)=_;rw[show((c.num* (k:Int):Int):Rat)=mkRat (c.num* k) 1 from(Rat.mkRat_one _).symm,O1 ω δ];grind
 rw[e];unfold fN iZ;show mkRat (((c.num* (k:Int)).natAbs:Nat):Int) 1=_;rw[NP _ ω,NV,y2,nQ_eq]
theorem qD(D:Nat):∀(l:Lq) (n:Nat),ji D l n∣n/\∀c∈l,ji D l n∣iZ c D
 |[],n=>⟨Nat.dvd_refl n,λ_ h=>by cases h⟩
 |c::l,n=>by
  obtain⟨b,d⟩:=qD D l (Nat.gcd n (iZ c D));refine⟨OR b (O4 _ _),λx a=>?_⟩;rcases pY.1 a with rfl|a
  exact OR b (Nat.gcd_dvd_right _ _);exact d x a
theorem Ab{c:Rat}{D:Nat}(h:c.den∣D)(hD:D≠0)(hc:c≠0):iZ c D≠0:=by
 obtain⟨k,rfl⟩:=h;unfold iZ;rw[NP _ c.den_pos];have a:c.num≠0:=λe=>hc (MV.1 e);refine Nat.mul_ne_zero ω λe=>hD φ
theorem Ac(c:Rat)(D:Nat):bl (iZ c D)<=qs c+bl D:=by
 have a:=jy c.num.natAbs (D/ c.den);have b:=fy D c.den;have d:=eJ c;unfold iZ;omega
theorem iC(p:Lq):(aQ p).length<=p.length- 1:=by
 have:=bm (aI (p.length- 1) λi=>coP p (i+1) * ((i+1:Nat):Int));simpa[aQ] using this
def vn(f:Nat)(p:Lq):Option Lq:=
 if smL p/\p.length<=274877906944 then(ut f p (aQ p)).bind λg=>if am g≠[]/\iz p g then some (cV (bJ p g).1) else none
 else none
def boL(lead:Rat):Lq->Rat->Rat
 |[],m=>m
 |c::l,m=>boL lead l (lY [m,fN (c/ lead)])
def cg(p:Lq):Rat:=boL (aL p) ((am p).take ((am p).length- 1)) 0+1
def oz(p:Lq):Prop:=mxL p<=34359738368/\p.length<=274877906944
instance (p:Lq):Decidable (oz p):=inferInstanceAs (Decidable (_/\_))
def pu(p:Lq):Int:=if a8 p< 0 then 10 else if 40< a8 p then 5 else 0
theorem Ea(q:Rat):qs (fN q)=qs q:=by
 unfold qs;rw[Du,Dw,y2]
theorem GI{l:Lq}{n:Nat}(h:bdL l n)(hn:1<=n):qs (lY l)<=n:=by
 unfold lY
 have a:∀(b:Int->Bool) (l:Lq) (o:Rat),qs o<=n->bdL l n->qs (l.foldl (λo y=>if b (eD y o) then y else o) o)<=n:=by
  intro b l
  induction l with
  |nil=>intro o d _;exact d
  |cons y l g=>
   intro o d f;refine g _ ?_ λq e=>f q (lQ _ e);show qs (if b (eD y o)=true then y else o)<=n;split;exact f y (mu ..);exact d
 cases l with
 |nil=>exact fo (by decide:qs 0<=1) hn
 |cons x l=>exact a (λc=>decide (0< c)) l x (h x (mu ..)) λq e=>h q (lQ _ e)
theorem Ex(p:Lq):aL (am p)=aL p:=by unfold aL;rw[bU]
theorem IU(p:Lq):a8 (am p)=a8 p:=by unfold a8;rw[bU]
def chL:List Int->Int->Int->Int
 |[],n,_=>n
 |s::l,n,last=>if s≠0 then chL l (if s= -last then n+1 else n) s else chL l n last
def lF(f:Nat):Nat->Lq->Lq->Lw->Option Lw
 |0,_,_,_=>none
 |k+1,last,next,acc=>
  if am next=[] then some acc
  else if v6 next/\iz last (cn next)/\am (cn next)≠[] then lF f k (cn next) (aW (bJ last (cn next)).2 (-1)) (acc++[cn next])
  else none
def lr(f:Nat)(p:Lq):Option Lw:=
 if smL p/\v6 p/\am p≠[] then lF f f (cn p) (aQ p) [cn p] else none
def cE(l:Lw):Lc:=l.map λp=>[.arr (pE p)]
@[simp] theorem cE_length (l:Lw):(cE l).length=l.length:=by simp[cE]
theorem Fv{l:Lw}{i:Nat}{p:Lq}(h:l[i]?=some p):(cE l)[i]?=some [.arr (pE p)]:=by simp[cE,h]
theorem fW(l:Lw):(cE l).all (·.all AV.one)=true:=by
 simp only[cE,OY,pZ];intro q _;rfl
theorem kw(l:Lw):∀e∈cE l,∀c∈e,Closed c:=by
 intro e a c b;obtain⟨q,_,rfl⟩:=sd.1 a;rw[kI.1 b];exact aw q
theorem oV(l:Lw):Closed (.arr (cE l)):=aP (kw l)
theorem cE_snoc(l:Lw)(p:Lq):cE (l++[p])=cE l++[[.arr (pE p)]]:=by simp[cE]
theorem AEval.lenC{P:Program}{id:Nat}{ev:Operand->Option AV}{hp:Hq}{c:Call}{x:Operand}{T:Nat}{d:Nat×Nat}{l:Lw}(hc:c.callee= .builtin .len)(ha:c.args= #[x])(ht:c.argTypes= #[T])(hx:ev x=some (.arr (cE l)))(he:eQ P T=some d):
    AEval P id ev hp (.call c) ⟨.v (.int .i64 (l.length:Nat)),[]⟩ []:= .len hc ha ht hx (by simp[sI]) he
structure Cnt where
 p:Lq
 ch:Lw
 far:Int
def kC(c:Cnt):La:=[.arr (pE c.p),.arr (cE c.ch),i64 c.far]
abbrev kA(c:Cnt):AV:= .aptr [kC c] 0 0
theorem yG(c:Cnt):∀x∈kC c,Closed x:=ac (aw _) (ac (oV _) (ac (ah _) af))
theorem iD(c:Cnt):Closed (kA c):=aN (yG c)
def sgI(q:Lq):Int:=if a8 q % 2=1 then -sgZ (aL q).num else sgZ (aL q).num
def sgE(x:Rat)(q:Lq):Int:=sgZ (ag q x).num
theorem om(z:Int): -1<=sgZ z/\sgZ z<=1:=by
 unfold sgZ;split;omega;split <;> omega
theorem sgI_abs(q:Lq): -1<=sgI q/\sgI q<=1:=by
 have:=om (aL q).num;unfold sgI;split <;> omega
theorem pP:∀(l:List Int) (n last:Int),n<=chL l n last/\chL l n last<=n+l.length
 |[],n,_=>⟨N5 _,by simp[chL]⟩
 |s::l,n,last=>by
  unfold chL;split;split;have:=pP l (n+1) s;simp only[vX];omega;have:=pP l n s;simp only[vX];omega;have:=pP l n last;simp only[vX];omega
def ya(c:Cnt):Prop:=(∀q∈c.ch,am q≠[]/\q.length<=274877906944)/\c.ch.length<=274877906944/\c.far=chL (c.ch.map sgI) 0 0
instance (c:Cnt):Decidable (ya c):=inferInstanceAs (Decidable (_/\_/\_))
def e8(f:Nat)(p:Lq):Option Cnt:=
 (vn f p).bind λs=>(lr f s).bind λch=>if ya ⟨s,ch,chL (ch.map sgI) 0 0⟩ then some ⟨s,ch,chL (ch.map sgI) 0 0⟩ else none
def dR(c:Cnt)(x:Rat):Int:=c.far- chL (c.ch.map (sgE x)) 0 0
def sv(c:Cnt)(x:Rat):Prop:=ya c/\∀q∈c.ch,eg q x
instance (c:Cnt) (x:Rat):Decidable (sv c x):=inferInstanceAs (Decidable (_/\_))
def dN(c:Cnt)(x:Rat):Int:=if ag c.p x=0 then dR c x- 1 else dR c x
def pp(c:Cnt)(x:Rat):Prop:=sv c x/\eg c.p x
instance (c:Cnt) (x:Rat):Decidable (pp c x):=inferInstanceAs (Decidable (_/\_))
theorem nn{c:Cnt}{x:Rat}(h:ya c): -274877906944<=dR c x/\dR c x<=274877906944:=by
 have a:=pP (c.ch.map sgI) 0 0;have b:=pP (c.ch.map (sgE x)) 0 0;have d:=h.2.1;rw[<-h.2.2] at a;simp only[Ey] at a b;unfold dR;omega
abbrev plA(c:Cnt)(i:Int):AV:= .aptr [[kA c,i64 i]] 0 0
theorem dH(c:Cnt)(i:Int):Closed (plA c i):=aN (ac (iD c) (ac (ah _) af))
def plC(c:Cnt)(i:Int)(x:Rat):Int:=if i< dN c x then -1 else if dN c x=i/\dN c x< dR c x then 0 else 1
theorem yL{c:Cnt}{x:Rat}(h:ya c): -274877906945<=dN c x/\dN c x<=274877906944:=by
 have:=nn (x:=x) h;unfold dN;split <;> omega
def biM(c:Cnt)(i:Int)(step:Rat):Nat->Rat->Rat->Option Rat
 |0,_,_=>none
 |f+1,lo,hi=>
  if sm lo/\sm hi/\sm (hi- lo) then
   if 0< eD (hi- lo) 1 then
    if qs (((lo+hi) / 2).floor:Rat)+qs step<=549755813888/\pp c ((((lo+hi) / 2).floor:Rat) * step) then
     if 0<=plC c i ((((lo+hi) / 2).floor:Rat) * step) then biM c i step f (((lo+hi) / 2).floor:Rat) hi
     else biM c i step f lo (((lo+hi) / 2).floor:Rat)
    else none
   else some lo
  else none

section
variable {p q:Lq}
theorem u4(i:Nat):coP [] i=0:=rfl
theorem fv(a:Rat)(l:Lq):coP (a::l) 0=a:=rfl
theorem ej(a:Rat)(l:Lq)(i:Nat):coP (a::l) (i+1)=coP l i:=rfl
theorem cu(l:Lq)(i:Nat):coP (am l) i=coP l i:=by
 induction l generalizing i with
 |nil=>rfl
 |cons a l b=>
  rw[e9];split
  ·rename_i h
   have c:∀j,coP l j=0:=λj=>by rw[<-b j,h];rfl
   split
   ·rename_i ha
    cases i with
    |zero=>rw[ha];rfl
    |succ i=>rw[ej,c];rfl
   cases i with
   |zero=>rfl
   |succ i=>rw[ej,ej,c];rfl
  cases i with
  |zero=>rfl
  |succ i=>rw[ej,ej,b]
theorem rK(n:Nat)(f:Nat->Rat)(i:Nat):coP (aI n f) i=if i< n then f i else 0:=by
 unfold coP aI;grind
theorem fi(p q:Lq)(i:Nat):coP (ec p q) i=coP p i+coP q i:=by
 unfold ec;rw[cu,rK];split;rfl
 ·rw[eC ω,eC ω];grind
theorem bY(p:Lq)(k:Rat)(i:Nat):coP (aW p k) i=coP p i* k:=by
 unfold aW;rw[cu,rK];split;rfl
 ·rw[eC ω];grind
theorem jE(p q:Lq)(i:Nat):coP (dC p q) i=coP p i- coP q i:=by
 unfold dC;rw[fi,bY];grind
theorem tJ(a:Rat)(i:Nat):coP (dk a) i=if i=0 then a else 0:=by
 unfold dk;rw[cu];cases i <;> rfl
theorem db(p:Lq)(i:Nat):coP (aQ p) i=coP p (i+1) * ((i+1:Nat):Int):=by
 unfold aQ;rw[cu,rK];split;rfl
 ·rw[eC ω];grind
theorem dd(p:Lq)(i:Nat):coP (aH p) i=if i=0 then 0 else coP p (i- 1) / ((i:Nat):Int):=by
 unfold aH;rw[cu,rK];split;rfl
 ·rw[if_neg ω,eC ω,LK,MZ]
theorem kF(h:∀i,coP p i=coP q i):am p=am q:=by
 induction p generalizing q with
 |nil=>
  induction q with
  |nil=>rfl
  |cons b q c=>
   have hb:b=0:=(h 0).symm;rw[e9,<-c λi=>h (i+1),if_pos hb];rfl
 |cons a p c=>
  cases q with
  |nil=>
   have ha:a=0:=h 0;rw[e9,c (q:=[]) λi=>h (i+1),if_pos ha];rfl
  |cons b q=>
   have d:a=b:=h 0;rw[e9,e9,c (q:=q) λi=>h (i+1),d]
theorem trim_iff:am p=am q↔∀i,coP p i=coP q i:=
 ⟨λh i=>by rw[<-cu p,h,cu],kF⟩
theorem trim_nil_iff:am p=[]↔∀i,coP p i=0:=
 ⟨λh i=>by rw[<-cu p,h];rfl,λh=>kF (q:=[]) h⟩
theorem aS(x:Rat):ag [] x=0:=rfl
theorem aO(a:Rat)(l:Lq)(x:Rat):ag (a::l) x=ag l x* x+a:=rfl
theorem jr(h:∀i,coP p i=0)(x:Rat):ag p x=0:=by
 induction p with
 |nil=>rfl
 |cons a p b=>
  have ha:a=0:=h 0;rw[aO,b λi=>h (i+1)];grind
theorem eG(h:∀i,coP p i=coP q i)(x:Rat):ag p x=ag q x:=by
 induction p generalizing q with
 |nil=>exact(jr (λi=>(h i).symm) x).symm
 |cons a p d=>
  cases q with
  |nil=>exact jr h x
  |cons b q=>
   have c:a=b:=h 0;rw[aO,aO,d (q:=q) λi=>h (i+1),c]
theorem b7(p:Lq)(x:Rat):ag (am p) x=ag p x:=eG (cu p) x
def oe:Lq->Lq->Lq
 |[],q=>q
 |p,[]=>p
 |a::p,b::q=>(a+b)::oe p q
def kK(p:Lq)(k:Rat):Lq:=p.map (· * k)
def nG:Lq->Lq->Lq
 |[],_=>[]
 |a::p,q=>oe (kK q a) (0::nG p q)
theorem iW(p q:Lq)(i:Nat):coP (oe p q) i=coP p i+coP q i:=by
 induction p generalizing q i with
 |nil=>rw[oe,u4];grind
 |cons a p c=>
  cases q with
  |nil=>rw[oe,u4]; · grind
        grind
  |cons b q=>
   cases i with
   |zero=>rfl
   |succ i=>exact c q i
theorem gx(p:Lq)(k:Rat)(i:Nat):coP (kK p k) i=coP p i* k:=by
 induction p generalizing i with
 |nil=>show(0:Rat)=0* k;grind
 |cons a p b=>
  cases i with
  |zero=>rfl
  |succ i=>exact b i
theorem io(p q:Lq)(x:Rat):ag (oe p q) x=ag p x+ag q x:=by
 induction p generalizing q with
 |nil=>rw[oe,aS];grind
 |cons a p c=>
  cases q with
  |nil=>rw[oe,aS]; · grind
        grind
  |cons b q=>rw[oe,aO,aO,aO];grind
theorem iQ(p:Lq)(k x:Rat):ag (kK p k) x=ag p x* k:=by
 induction p with
 |nil=>show(0:Rat)=0* k;grind
 |cons a p b=>show ag (kK p k) x* x+a* k=_;rw[aO];grind
theorem pF(p q:Lq)(x:Rat):ag (nG p q) x=ag p x* ag q x:=by
 induction p with
 |nil=>show(0:Rat)=0* _;grind
 |cons a p b=>rw[nG,io,iQ,aO,aO];grind
theorem cb(p q:Lq)(x:Rat):ag (ec p q) x=ag p x+ag q x:=by
 rw[<-io];exact eG (λi=>by rw[fi,iW]) x
theorem aT(p:Lq)(k x:Rat):ag (aW p k) x=ag p x* k:=by
 rw[<-iQ];exact eG (λi=>by rw[bY,gx]) x
theorem cv(p q:Lq)(x:Rat):ag (dC p q) x=ag p x- ag q x:=by
 unfold dC;rw[cb,aT];grind
theorem iB(a x:Rat):ag (dk a) x=a:=by
 rw[dk,b7];show 0* x+a=a;grind
def kX(p q:Lq):Nat->Nat->Rat
 |0,_=>0
 |i+1,n=>kX p q i n+(if i<=n then coP p i* coP q (n- i) else 0)
theorem C6(o:Lq)(a:Rat)(q:Lq)(i:Nat)(h:∀k,k< q.length->i+k< o.length):∀k n,k<=q.length->coP (kN o a q i k) n=coP o n+(if i<=n/\n< i+k then a* coP q (n- i) else 0)
 |0,n,_=>by show coP o n=_;grind
 |k+1,n,hk=>by
  rw[kN,tK,BA];by_cases hn:n=i+k;subst hn;rw[if_pos ⟨rfl,h k ω⟩,vI o a q i k (i+k) ω,if_pos ω,show i+k- i=k by omega];rw[C6 o a q i h k n ω];grind
theorem C8(p q:Lq)(n:Nat):∀i,i<=p.length->coP (fC p q i) n=kX p q i n
 |0,_=>by
  show coP (List.replicate _ 0) n=0;unfold coP;grind
 |i+1,hi=>by
  have a:=C8 p q n i ω;rw[fC,kX];split
  ·grind
  rw[C6 _ _ _ _ (λk b=>by rw[nF];omega) _ _ (ir _),a];by_cases h1:i<=n;rw[if_pos h1];by_cases h2:n< i+q.length;rw[if_pos ⟨h1,h2⟩];rw[eC (p:=q) ω];grind;grind
theorem wW(a:Rat)(p q:Lq)(n:Nat):∀i,kX (a::p) q (i+1) n=a* coP q n+(match n with|0=>0|m+1=>kX p q i m)
 |0=>by
  show(0:Rat)+(if 0<=n then coP (a::p) 0* coP q (n- 0) else 0)=_;rw[fv];cases n <;> simp[kX,Rat.add_zero,Rat.zero_add]
 |i+1=>by
  rw[kX,wW a p q n i];cases n with
  |zero=>grind
  |succ m=>
   show a* coP q (m+1)+kX p q i m+_=a* coP q (m+1)+(kX p q i m+_);by_cases h:i<=m;rw[ej];grind;grind
theorem w6(p q:Lq)(n:Nat):coP (nG p q) n=kX p q p.length n:=by
 induction p generalizing n with
 |nil=>rfl
 |cons a p b=>
  rw[nG,iW,gx,vX,wW];cases n with
  |zero=>rw[fv];grind
  |succ m=>rw[ej];grind
theorem oT(p q:Lq)(n:Nat):coP (aG p q) n=coP (nG p q) n:=by
 unfold aG;split
 ·rename_i h
  rcases h with rfl|rfl
  rfl;rw[w6]
  have:∀i,kX p [] i n=0:=by
   intro i
   induction i with
   |zero=>rfl
   |succ i a=>rw[kX,u4];grind
  rw[this];rfl
 rw[cu,C8 _ _ _ _ (ir _),w6]
theorem az(p q:Lq)(x:Rat):ag (aG p q) x=ag p x* ag q x:=by
 rw[<-pF];exact eG (oT p q) x
def kJ:Lq->Rat->Lq
 |[],_=>[]
 |[_],_=>[]
 |_::b::l,r=>ag (b::l) r::kJ (b::l) r
theorem lJ(p:Lq)(r x:Rat):ag p x=ag (kJ p r) x* (x- r)+ag p r:=by
 induction p with
 |nil=>show(0:Rat)=0* _+0;grind
 |cons a l c=>
  cases l with
  |nil=>show 0* x+a=0* (x- r)+(0* r+a);grind
  |cons b l=>
   rw[kJ,aO a,aO a,aO (ag (b::l) r)];grind
theorem Jl(p:Lq)(r:Rat):(kJ p r).length=p.length- 1:=by
 induction p with
 |nil=>rfl
 |cons a l c=>
  cases l with
  |nil=>rfl
  |cons b l=>rw[kJ,vX,c];simp
theorem mI:∀(n:Nat) (p xs:Lq),p.length<=n->n<=xs.length->xs.Nodup->(∀x∈xs,ag p x=0)->∀x,ag p x=0
 |0,p,_,hp,_,_,_,x=>by
  have:p=[]:=vv.1 ω;rw[this];rfl
 |n+1,p,xs,hp,hx,hnd,hz,x=>by
  cases xs with
  |nil=>grind
  |cons r xs=>
   rw[NN] at hnd;have c:=hz r (mu ..)
   have a:=mI n (kJ p r) xs (by rw[Jl];omega) φ hnd.2 λy b=>by
    have d:=lJ p r y;grind
   rw[lJ p r x];grind
theorem rz(h:∀x,ag p x=0):∀i,coP p i=0:=by
 induction p with
 |nil=>intro i;rfl
 |cons a p c=>
  have ha:a=0:=by
   have:=h 0;rw[aO] at this;grind
  have hp:∀x,ag p x=0:=by
   -- at all places but 0,so at all
   refine mI p.length p ((List.range p.length).map λi=>(((i+1:Nat):Int):Rat)) (ir _) ψ ?_ ?_;refine List.Pairwise.map _ (λi j g=>?_) List.nodup_range;intro e;have:=NL.1 e;omega;intro x k;obtain⟨i,_,rfl⟩:=sd.1 k;have f:=h (((i+1:Nat):Int):Rat);rw[aO] at f;have d:ag p (((i+1:Nat):Int):Rat) * (((i+1:Nat):Int):Rat)=0:=φ
   rcases y4.1 d with b|b
   exact b;have:=NL.1 (b.trans O2.symm);omega
  intro i;cases i with
  |zero=>exact ha
  |succ i=>exact c hp i
theorem eM(h:∀x,ag p x=ag q x):am p=am q:=by
 refine kF λi=>?_;have:=rz (p:=dC p q) (λx=>by rw[cv];grind) i;rw[jE] at this;grind
end
theorem sG(p q:Lq)(hp:p≠[]):(aG p q).length<=p.length+q.length- 1:=by
 unfold aG;split;simp;have:=bm (fC p q p.length);rwa[nF] at this
theorem kV(a x:Rat):ag [-a,1] x=x- a:=by
 show(0* x+1) * x+ -a=x- a;grind
theorem lM{p:Lq}{k:Rat}{s t:Nat}(hp:bdL p s)(hs:1<=s)(hk:qs k<=t):bdL (aW p k) (s+t):=
 iV λi=>by
  rw[bY];have a:=cP (coP p i) k;have b:=dc hp hs i;omega
theorem Hw{p q:Lq}{s t:Nat}(hp:bdL p s)(hq:bdL q t)(hs:1<=s)(ht:1<=t):bdL (ec p q) (s+t+1):=
 iV λi=>by
  rw[fi];have a:=gT (coP p i) (coP q i);have b:=dc hp hs i;have c:=dc hq ht i;omega
def dvE:Lq->Rat->Rat
 |[],_=>0
 |_::l,x=>ag l x+dvE l x* x
theorem eN(a:Rat)(l:Lq)(x:Rat):dvE (a::l) x=ag l x+dvE l x* x:=rfl
theorem CW{p:Lq}(h:∀i,coP p i=0)(x:Rat):dvE p x=0:=by
 induction p with
 |nil=>rfl
 |cons a p b=>rw[eN,b λi=>h (i+1),jr λi=>h (i+1)];grind
theorem AH{p q:Lq}(h:∀i,coP p i=coP q i)(x:Rat):dvE p x=dvE q x:=by
 induction p generalizing q with
 |nil=>exact(CW (λi=>(h i).symm) x).symm
 |cons a p c=>
  cases q with
  |nil=>exact CW h x
  |cons b q=>rw[eN,eN,c (q:=q) λi=>h (i+1),eG (q:=q) λi=>h (i+1)]
theorem CX(p q:Lq)(x:Rat):dvE (oe p q) x=dvE p x+dvE q x:=by
 induction p generalizing q with
 |nil=>show dvE q x=0+dvE q x;grind
 |cons a p c=>
  cases q with
  |nil=>rw[oe]; · show _=_+(0:Rat);grind
        grind
  |cons b q=>rw[oe,eN,eN,eN,io];grind
theorem wR(p:Lq)(k x:Rat):dvE (kK p k) x=dvE p x* k:=by
 induction p with
 |nil=>show(0:Rat)=0* k;grind
 |cons a p b=>show ag (kK p k) x+dvE (kK p k) x* x=_;rw[eN,iQ];grind
theorem LY(p q:Lq)(x:Rat):dvE (nG p q) x=dvE p x* ag q x+ag p x* dvE q x:=by
 induction p with
 |nil=>show(0:Rat)=0* _+0* _;grind
 |cons a p b=>rw[nG,CX,wR,eN,eN,pF,aO];grind
def C1:Lq->Lq
 |[]=>[]
 |_::l=>oe l (0::C1 l)
theorem pG(p:Lq)(x:Rat):ag (C1 p) x=dvE p x:=by
 induction p with
 |nil=>rfl
 |cons a p b=>rw[C1,io,aO,eN];grind
theorem Md(p:Lq)(i:Nat):coP (C1 p) i=coP p (i+1) * ((i+1:Nat):Int):=by
 induction p generalizing i with
 |nil=>show(0:Rat)=0* _;grind
 |cons a p b=>
  rw[C1,iW,ej];cases i with
  |zero=>rw[fv];grind
  |succ i=>rw[ej];grind
theorem cC(p:Lq)(x:Rat):ag (aQ p) x=dvE p x:=by
 rw[<-pG];exact eG (λi=>by rw[db,Md]) x
theorem rG(p q:Lq)(x:Rat):dvE (aG p q) x=dvE p x* ag q x+ag p x* dvE q x:=by
 rw[<-LY];exact AH (oT p q) x
theorem uu(p:Lq):am (aQ (aH p))=am p:=kF λi=>by
 rw[db,dd]
 have h:(((i+1:Nat):Int):Rat)≠0:=by
  intro e;have a:((i+1:Nat):Int)=0:=NL.1 (e.trans O2.symm);omega
 grind
theorem yw(o:Lq)(x v:Rat):∀j,j< o.length->ag (o.set j v) x=ag o x+(v- coP o j) * x^ j:=by
 induction o with
 |nil=>grind
 |cons a o b=>
  intro j h;cases j with
  |zero=>rw[List.set_cons_zero,aO,aO,fv];grind
  |succ j=>rw[List.set_cons_succ,aO,aO,ej];grind
theorem gu(q:Lq)(x:Rat)(m:Nat)(h:m< q.length):ag (q.take (m+1)) x=ag (q.take m) x+coP q m* x^ m:=by
 induction q generalizing m with
 |nil=>cases h
 |cons a q b=>
  cases m with
  |zero=>rw[N9,Nh];show 0* x+a=0+a* 1;grind
  |succ m=>rw[N9,N9,aO,aO,ej];grind
theorem tZ(x:Rat)(n:Nat):∀m,x^ (n+m)=x^ n* x^ m
 :=φ
theorem wO(o:Lq)(k:Rat)(q:Lq)(n:Nat)(x:Rat)(h:n+q.length<=o.length):∀m,m<=q.length->ag (gd o k q n m) x=ag o x- k* x^ n* ag (q.take m) x
 |0,_=>by rw[gd];show _=_- _* 0;grind
 |m+1,hm=>by
  rw[gd,Bk,yw _ _ _ _ (by rw[iy];omega),wO o k q n x h m ω,gu q x m ω];grind
theorem Ma(o:Lq)(k:Rat)(q:Lq)(n m:Nat)(hm:m< q.length)(h:n+q.length<=o.length):coP (gd o k q n q.length) (n+m)=coP o (n+m)- k* coP q m:=by
 have:∀j,m< j->j<=q.length->coP (gd o k q n j) (n+m)=coP o (n+m)- k* coP q m:=by
  intro j
  induction j with
  |zero=>grind
  |succ j a=>
   intro c b;rw[gd,oR];by_cases e:m=j;subst e;rw[if_pos ⟨rfl,by rw[iy];omega⟩,nw o k q n m (n+m) ω];grind
 grind
theorem yB(q:Lq)(lead:Rat)(hq:q≠[])(hl:coP q (q.length- 1)=lead)(hl0:lead≠0)(x:Rat):∀c u o,(∀i,i< c->coP u i=0)->c<=u.length->c+q.length<=o.length+1->(∀j,c+q.length- 1<=j->coP o j=0)->
    ag (j9 q lead c u o).1 x* ag q x+ag (j9 q lead c u o).2 x=ag u x* ag q x+ag o x/\∀j,q.length- 1<=j->coP (j9 q lead c u o).2 j=0
 |0,u,o,_,_,_,h4=>⟨rfl,λj f=>h4 j ω⟩
 |n+1,u,o,h1,h2,h3,h4=>by
  have b:=nB.2 hq;rw[j9];obtain⟨k,d⟩:∃k,k=coP o (n+q.length- 1) / lead:=⟨_,rfl⟩;rw[<-d];have a:k* lead=coP o (n+q.length- 1):=φ
  have g:coP u n=0:=h1 n ω
  have e:ag (if k=0 then o else gd o k q n q.length) x=ag o x- k* x^ n* ag q x:=by
   by_cases h0:k=0;rw[if_pos h0,h0];grind;rw[if_neg h0,wO o k q n x ω _ (ir _),qj]
  obtain⟨e1,e2⟩:=yB q lead hq hl hl0 x n (u.set n k) (if k=0 then o else gd o k q n q.length) (λi h=>by
   rw[u0,if_neg ω];grind) φ (by split <;>(try simp)<;> omega) (λj f=>by
   by_cases h0:k=0;rw[if_pos h0];by_cases hj':j=n+q.length- 1;rw[hj',<-a,h0];grind;exact h4 j ω;rw[if_neg h0];by_cases hj':j=n+q.length- 1;have:=Ma o k q n (q.length- 1) ω ω;rw[hj',show n+q.length- 1=n+(q.length- 1) by omega,this,hl,a,show n+(q.length- 1)=n+q.length- 1 by omega];grind;rw[nw o k q n q.length j ω];grind)
  refine⟨?_,e2⟩;rw[e1,e,yw u x k n ω,g];grind
theorem yZ{p:Lq}{n:Nat}(h:∀j,n<=j->coP p j=0):(am p).length<=n:=by
 apply Ez;intro d;have c:=dt (l:=p) (n:=(am p).length- 1) ω;have b:am p≠[]:=λe=>by grind
 have a:=h ((am p).length- 1) ω;rw[<-cu] at a;unfold coP at a;rw[jH,c] at a;exact df b a
theorem eU(p q:Lq)(hq:am q≠[]):(∀x,ag (bJ p q).1 x* ag q x+ag (bJ p q).2 x=ag p x)/\(am (bJ p q).2).length< (am q).length:=by
 have b:=nB.2 hq
 have d:coP (am q) ((am q).length- 1)=aL q:=by
  have:=dt (l:=q) (n:=(am q).length- 1) ω;unfold coP;grind
 have c:∀i m,coP (List.replicate m 0) i=0:=λi m=>by
  unfold coP;grind
 have a:=λx (h:(am q).length<=(am p).length+1)=>yB (am q) (aL q) hq d (df hq) x ((am p).length+1- (am q).length) (List.replicate ((am p).length+1- (am q).length) 0) (am p)
  (λi _=>c i _) ψ ω (λj f=>eC ω)
 by_cases h:(am q).length<=(am p).length+1;refine⟨λx=>?_,?_⟩;have e:=(a x h).1;unfold bJ;rw[b7,b7,<-b7 q,e,jr (λi=>c i _),b7 p];grind;have e:=(a 0 h).2;unfold bJ;rw[bU];have:=yZ e;omega;unfold bJ;rw[show(am p).length+1- (am q).length=0 by omega];refine⟨λx=>?_,?_⟩;rw[j9,b7,b7,b7];show 0* _+_=_;grind;rw[j9,bU,bU];omega
section
variable (p q r:Lq)(a b:Rat)
end
def ab(x:Rat):Rat:=if x< 0 then -x else x
theorem jb(x:Rat):0<=ab x:=by unfold ab;grind
theorem ab_le{x c:Rat}:ab x<=c↔ -c<=x/\x<=c:=by unfold ab;grind
theorem xj(x y:Rat):ab (x+y)<=ab x+ab y:=by unfold ab;grind
theorem FM(x:Rat):ab (-x)=ab x:=by unfold ab;grind
theorem iY(x y:Rat):ab (x* y)=ab x* ab y:=by
 have c:∀a b:Rat,0<=a->0<=b->ab (a* b)=a* b:=λa b ha hb=>by
  have:=EE ha hb;unfold ab;grind
 by_cases hx:x< 0;by_cases hy:y< 0;have:=c (-x) (-y) φ φ;rw[show x* y= -x* -y by grind,this];unfold ab;rw[if_pos hx,if_pos hy];have:=c (-x) y φ φ;rw[show x* y= -(-x* y) by grind,FM,this];unfold ab;rw[if_pos hx,if_neg hy];by_cases hy:y< 0;have:=c x (-y) φ φ;rw[show x* y= -(x* -y) by grind,FM,this];unfold ab;rw[if_neg hx,if_pos hy];have:=c x y φ φ;rw[this];unfold ab;grind
theorem lW{a b c d:Rat}(h1:a<=b)(h2:c<=d)(h3:0<=c)(h4:0<=b):a* c<=b* d:=by
 have e1:=zf h1 h3;have e2:=vc h2 h4;grind
def bV(R:Rat):Lq->Rat
 |[]=>0
 |a::l=>bV R l* R+ab a
theorem yN{R:Rat}(hR:0<=R):∀l,0<=bV R l
 |[]=>by simp[bV]
 |a::l=>by
  have b:=EE (yN hR l) hR;have c:=jb a;rw[bV];grind
theorem n0{R x:Rat}(hR:0<=R)(hx:ab x<=R):∀l,ab (ag l x)<=bV R l
 |[]=>by rw[aS,bV];decide
 |a::l=>by
  have b:=n0 hR hx l;have d:=lW b hx (jb x) (yN hR l);have c:=xj (ag l x* x) a;rw[iY] at c;rw[aO,bV];grind
def bL(R:Rat):Lq->Rat
 |[]=>0
 |_::l=>bL R l* R+bV R l
theorem Hu{R:Rat}(hR:0<=R):∀l,0<=bL R l
 |[]=>by simp[bL]
 |a::l=>by
  have b:=EE (Hu hR l) hR;have c:=yN hR l;rw[bL];grind
theorem sY{R x y:Rat}(hR:0<=R)(hx:ab x<=R)(hy:ab y<=R):∀l,ab (ag l y- ag l x)<=bL R l* ab (y- x)
 |[]=>by
  rw[aS,aS,bL,MZ];decide+kernel
 |a::l=>by
  have d:=sY hR hx hy l;have c:=n0 hR hx l;have e:ag (a::l) y- ag (a::l) x=(ag l y- ag l x) * y+ag l x* (y- x):=by rw[aO,aO];grind
  have f:=xj ((ag l y- ag l x) * y) (ag l x* (y- x));rw[iY,iY] at f;have b:=jb (y- x);have g:=lW d hy (jb y) (EE (Hu hR l) b);have h:=zf c b;rw[bL];grind
def bT(R:Rat):Lq->Rat
 |[]=>0
 |_::l=>bT R l* R+bL R l
theorem Hs{R:Rat}(hR:0<=R):∀l,0<=bT R l
 |[]=>by simp[bT]
 |a::l=>by
  have b:=EE (Hs hR l) hR;have c:=Hu hR l;rw[bT];grind
theorem sX{R x y:Rat}(hR:0<=R)(hx:ab x<=R)(hy:ab y<=R):∀l,ab (ag l y- ag l x- (y- x) * dvE l x)<=bT R l* (ab (y- x) * ab (y- x))
 |[]=>by
  rw[aS,aS,bT,show dvE [] x=0 from rfl,MZ,Pn];decide+kernel
 |a::l=>by
  have d:=sX hR hx hy l;have c:=sY hR hx hy l;have e:ag (a::l) y- ag (a::l) x- (y- x) * dvE (a::l) x=(ag l y- ag l x- (y- x) * dvE l x) * x+(ag l y- ag l x) * (y- x):=by rw[aO,aO,eN];grind
  have f:=xj ((ag l y- ag l x- (y- x) * dvE l x) * x) ((ag l y- ag l x) * (y- x));rw[iY,iY] at f;have b:=jb (y- x);have g:=lW d hx (jb x) (EE (Hs hR l) (EE b b));have h:=zf c b;rw[e,bT];grind
inductive Gsn:Int->List Int->List Int->Prop
 |nil {t:Int}:Gsn t [] []
 |solid {t s:Int} {l l':List Int}:s≠0->Gsn s l l'->Gsn t (s::l) (s::l')
 |weak {t x y:Int} {l l':List Int}:(x=0\/x=t\/x= -t)->(y=0\/y=t\/y= -t)->Gsn (-t) l l'->Gsn t (x:: -t::l) (y:: -t::l')
theorem rN:∀(l:List Int) (n t:Int),chL l n t=n+chL l 0 t
 |[],n,t=>by simp[chL]
 |s::l,n,t=>by
  unfold chL;by_cases hs:s≠0;rw[if_pos hs,if_pos hs,rN l (if s= -t then n+1 else n),rN l (if s= -t then 0+1 else 0)];split <;> omega;rw[if_neg hs,if_neg hs];exact rN l n t
theorem Db{t x:Int}(ht:t≠0)(hx:x=0\/x=t\/x= -t)(l:List Int)(n:Int):chL (x:: -t::l) n t=chL l (n+1) (-t):=by
 rcases hx with rfl|rfl|rfl
 rw[chL,if_neg ψ,chL,if_pos ω,if_pos rfl];rw[chL,if_pos ht,if_neg ω,chL,if_pos ω,if_pos rfl];rw[chL,if_pos ω,if_pos rfl,chL,if_pos ω,if_neg ω]
theorem Dd{t:Int}{l l':List Int}(h:Gsn t l l'):t≠0->∀n,chL l n t=chL l' n t:=by
 induction h with
 |nil=>exact λ_ _=>rfl
 |solid hs _ a=>
  intro b n;rw[chL,if_pos hs,chL,if_pos hs];exact a hs _
 |weak d c _ a=>
  intro b n;rw[Db b d,Db b c];exact a ω _
theorem Dc{s:Int}{l l':List Int}(hs:s≠0)(h:Gsn s l l'):chL (s::l) 0 0=chL (s::l') 0 0:=by
 rw[chL,if_pos hs,chL,if_pos hs];exact Dd h hs _
theorem De{s s' t:Int}{l l':List Int}(ht:t=1\/t= -1)(hs: -1<=s/\s<=1)(hs': -1<=s'/\s'<=1)(hm:t* s<=t* s')(h:Gsn t l l'):chL (s'::t::l') 0 0<=chL (s::t::l) 0 0:=by
 have a:t≠0:=ω
 have b:∀(u:Int) (k:List Int),-1<=u/\u<=1->chL (u::t::k) 0 0=(if u= -t then 1 else 0)+chL k 0 t:=λu k c=>by
  by_cases h0:u=0;subst h0;rw[chL,if_neg ψ,chL,if_pos a,if_neg ω,if_neg ω];omega;rw[chL,if_pos h0,if_neg ω,chL,if_pos a,rN];by_cases h1:u= -t;rw[if_pos ω,if_pos h1];omega;rw[if_neg ω,if_neg h1]
 rw[b s l hs,b s' l' hs',Dd h a 0];rcases ht with rfl|rfl <;> split <;> split <;> omega
section
variable {q:Lq}{x:Rat}
theorem num_pos{q:Rat}:0< q.num↔0< q:=by
 have a:0<=q.num↔0<=q:=Rat.num_nonneg;have b:q.num=0↔q=0:=MV;grind
theorem oo(h:0< ag q x):sgE x q=1:=by
 have:=sgZ_num_gt.2 h;have:=om (ag q x).num;unfold sgE;omega
theorem uC(h:ag q x< 0):sgE x q= -1:=by
 have:=sgZ_num_lt.2 h;have:=om (ag q x).num;unfold sgE;omega
theorem Bs(h:ag q x=0):sgE x q=0:=sgZ_num_eq.2 h
theorem jd(x:Rat)(q:Lq): -1<=sgE x q/\sgE x q<=1:=om _
theorem iw(x:Rat)(q:Lq):(sgE x q=1/\0< ag q x)\/(sgE x q= -1/\ag q x< 0)\/(sgE x q=0/\ag q x=0):=by
 by_cases h:0< ag q x;exact .inl ⟨oo h,h⟩;by_cases h':ag q x< 0;exact .inr (.inl ⟨uC h',h'⟩);have e:ag q x=0:=φ
 exact .inr (.inr ⟨Bs e,e⟩)
theorem Bt{y:Rat}(h:ag q x<=ag q y):sgE x q<=sgE y q:=by
 rcases iw x q with⟨a,b⟩|⟨a,b⟩|⟨a,b⟩
 rw[a,oo φ];decide;have:=jd y q;omega;by_cases h0:0< ag q y;rw[a,oo h0];decide;rw[a,Bs φ];decide
theorem part(e:Rat){d:Rat}(he:0< e)(hd:0< d):∃h:Rat,0< h/\h* d=e:=by
 refine⟨e/ d,?_,zp φ⟩;have e1:e/ d* d=e:=zp φ;by_cases h:0< e/ d;exact h;have a:e/ d* d<=0* d:=zf φ φ;grind
theorem less(a b:Rat)(ha:0< a)(hb:0< b):∃h:Rat,0< h/\h<=a/\h<=b:=φ
theorem keep(u:Lq){R e:Rat}(hR:0<=R)(he:0< e):∃h:Rat,0< h/\∀x y:Rat,ab x<=R->ab y<=R->ab (y- x)<=h->e<=ab (ag u x)->sgE y u=sgE x u/\sgE x u≠0:=by
 have k:=Hu hR u;obtain⟨h,j,n⟩:=part e (d:=2* (bL R u+1)) he φ;refine⟨h,j,λx y l i g ha=>?_⟩;have m:=sY hR l i u;have p:=vc g k;have o:=ab_le (x:=ag u y- ag u x) (c:=ab (ag u y- ag u x))|>.1 φ;rcases iw x u with⟨a,b⟩|⟨a,b⟩|⟨a,b⟩
 have f:ab (ag u x)=ag u x:=by unfold ab;grind
 rw[a,oo φ];decide;have f:ab (ag u x)= -ag u x:=by unfold ab;grind
 rw[a,uC φ];decide;have f:ab (ag u x)=0:=by rw[b];decide
 grind
inductive Ch:Lq->Lw->Prop
 |one {u:Lq} {c:Rat}:c≠0->(∀x,ag u x=c)->Ch u []
 |pair {u v:Lq}:Ch v []->Ch u [v]
 |step {u v w:Lq} {L:Lw} {a c:Rat} {q:Lq}:0< a->0< c->(∀x,a* ag u x+c* ag w x=ag q x* ag v x)->Ch v (w::L)->Ch u (v::w::L)
def Cl(u:Lq)(L:Lw):Prop:=∀R e:Rat,0<=R->0< e->∃h:Rat,0< h/\∀x y:Rat,ab x<=R->ab y<=R->ab (y- x)<=h->e<=ab (ag u x)->
 sgE y u=sgE x u/\sgE x u≠0/\Gsn (sgE x u) (L.map (sgE x)) (L.map (sgE y))
theorem Ch.const{v:Lq}(h:Ch v []):∃c:Rat,c≠0/\∀x,ag v x=c:=by
 cases h with
 |one a h=>simp_all
theorem Ch.sg{v:Lq}(h:Ch v [])(x y:Rat):sgE y v=sgE x v/\sgE x v≠0:=by
 obtain⟨c,d,h⟩:=h.const;have e:sgE y v=sgE x v:=by unfold sgE;grind
 rcases iw x v with⟨a,b⟩|⟨a,b⟩|⟨a,b⟩
 omega;omega;grind
theorem Ch.cl{u:Lq}{L:Lw}(H:Ch u L):Cl u L/\∀v L',L=v::L'->Cl v L':=by
 induction H with
 | @one u c hc o=>
  refine⟨λR e i r=>?_,λ_ _ h=>by cases h⟩;obtain⟨h,t,j⟩:=keep u i r;exact⟨h,t,λx y b f n ha=>⟨(j x y b f n ha).1,(j x y b f n ha).2,.nil⟩⟩
 | @pair u v hv ih=>
  refine⟨λR e i r=>?_,λ_ _ h=>by grind⟩;obtain⟨h,t,j⟩:=keep u i r;refine⟨h,t,λx y b f n ha=>⟨(j x y b f n ha).1,(j x y b f n ha).2,?_⟩⟩;simp only[zo,Nm];rw[(hv.sg x y).1];exact .solid (hv.sg x y).2 .nil
 | @step u v w L a c q ha hc hrel hv ih=>
  refine⟨λR e i r=>?_,λ_ _ h=>by cases h;exact ih.1⟩;have N:=yN i q;have z:=ED ha r;obtain⟨e1,D,G⟩:=part (a* e) (d:=2* (bV R q+1)) z φ;obtain⟨e2,C,F⟩:=part (a* e) (d:=2* c) z φ;obtain⟨t,V,O⟩:=keep u i r;obtain⟨j,p1,J⟩:=ih.1 R e1 i D;obtain⟨M,p2,U⟩:=ih.2 w L rfl R e2 i C;obtain⟨S,K,Z,W⟩:=less t j V p1;obtain⟨h,p,l,m⟩:=less S M K p2;refine⟨h,p,λx y b f n o=>?_⟩;obtain⟨s1,s2⟩:=O x y b f φ o;refine⟨s1,s2,?_⟩;by_cases hvx:e1<=ab (ag v x);obtain⟨t1,t2,s⟩:=J x y b f φ hvx;simp only[zo] at s⊢;rw[t1];exact .solid t2 s;have b1:=lW (n0 i b q) (show ab (ag v x)<=e1 by grind) (jb _) N;rw[<-iY,<-hrel x] at b1;have b2:=ab_le.1 b1;have X:bV R q* e1+e1=a* e/ 2:=φ
  have k:sgE x w= -sgE x u/\e2<=ab (ag w x):=by
   rcases iw x u with⟨A,B⟩|⟨A,B⟩|⟨A,B⟩
   have E:ab (ag u x)=ag u x:=by unfold ab;rw[if_neg φ]
   rw[E] at o;have Q:=vc o (show 0<=a by grind)
   have T:ag w x<= -e2:=by
    by_cases g:ag w x<= -e2;exact g;have:=ED hc (show 0< ag w x+e2 by grind);grind
   refine⟨by rw[A,uC φ],?_⟩;unfold ab;rw[if_pos φ];grind;have E:ab (ag u x)= -ag u x:=by unfold ab;rw[if_pos B]
   rw[E] at o;have Q:=vc o (show 0<=a by grind)
   have T:e2<=ag w x:=by
    by_cases g:e2<=ag w x;exact g;have:=ED hc (show 0< e2- ag w x by grind);grind
   refine⟨by rw[A,oo φ];decide,?_⟩;unfold ab;rw[if_neg φ];grind;exact absurd A s2
  obtain⟨t1,t2,s⟩:=U x y b f φ k.2;simp only[zo];rw[t1,k.1];rw[k.1] at s;have Y:=jd x u;have c2:=jd x v;have c3:=jd y v;exact .weak ω ω s
theorem Ch.bez{u:Lq}{M:Lw}(H:Ch u M):∀v L,M=v::L->∃a b:Lq,∀x,ag a x* ag u x+ag b x* ag v x=1:=by
 induction H with
 |one e i=>grind
 | @pair u v hv ih=>
  intro f L h;cases h;obtain⟨c,e,h⟩:=hv.const;refine⟨[],[1/ c],λx=>?_⟩;rw[aO,aS];grind
 | @step u v w L a c q ha e hrel hv ih=>
  intro f j h;obtain⟨g,d,h⟩:=ih w L rfl;refine⟨aW d (-(a/ c)),ec g (aW (aG d q) (1/ c)),λx=>?_⟩;rw[aT,cb,aT,az];grind
end
section
variable {h x y v e k:Rat}
theorem arch(c:Rat)(hh:0< h):∃n:Nat,c<=((n:Int):Rat) * h:=by
 by_cases hc:c<=0;exact⟨0,φ⟩;obtain⟨k,a,e⟩:=part c (d:=h) φ hh
 have b:k<=((k.num.natAbs:Int):Rat):=by
  have i:0< k.num:=num_pos.2 a;rw[Rat.le_iff];show k.num* 1<=(k.num.natAbs:Int) * (k.den:Int);have f:=Int.mul_le_mul_of_nonneg_left (show(1:Int)<=(k.den:Int) by have:=k.den_pos;omega) (show 0<=k.num by omega);grind
 have g:=zf b (show 0<=h by grind);grind
theorem grid {f:Rat->Int} (r:Int->Int->Prop) (hr:∀a,r a a) (ht:∀a b c,r a b->r b c->r a c) {lo hi h:Rat} (hh:0< h)
    (hs:∀x y,lo<=x->x<=y->y<=hi->y- x<=h->r (f x) (f y)):∀(n:Nat) (x y:Rat),lo<=x->x<=y->y<=hi->y- x<=((n:Int):Rat) * h->r (f x) (f y)
 |0,x,y,h1,h2,h3,h4=>by grind
 |n+1,x,y,h1,h2,h3,h4=>by
  by_cases hd:y- x<=h;exact hs x y h1 h2 h3 hd;exact ht _ _ _ (hs x (x+h) h1 φ φ φ) (grid r hr ht hh hs n (x+h) y φ φ h3 (φ))
theorem way {f:Rat->Int} (r:Int->Int->Prop) (hr:∀a,r a a) (ht:∀a b c,r a b->r b c->r a c) (hh:0< h) (hxy:x<=y)
    (hs:∀u v,x<=u->u<=v->v<=y->v- u<=h->r (f u) (f v)):r (f x) (f y):=by
 obtain⟨n,d⟩:=arch (y- x) hh;exact grid r hr ht hh hs n x y φ hxy φ d
def chV(l:Lw)(x:Rat):Int:=chL (l.map (sgE x)) 0 0
theorem yS{u:Rat}(h1:x<=u)(h2:u<=y):ab u<=ab x+ab y:=by
 have a:=ab_le (x:=x) (c:=ab x)|>.1 φ;have b:=ab_le (x:=y) (c:=ab y)|>.1 φ;exact ab_le.2 ⟨φ,φ⟩
theorem ab_sub{u:Rat}(h1:u<=v)(h2:v- u<=h):ab (v- u)<=h:=by
 unfold ab;grind
theorem Ch.same{u:Lq}{L:Lw}(H:Ch u L)(he:0< e)(hxy:x<=y)(ha:∀z,x<=z->z<=y->e<=ab (ag u z)):chV (u::L) x=chV (u::L) y:=by
 obtain⟨h,j,i⟩:=H.cl.1 (ab x+ab y) e (by have:=jb x;have:=jb y;grind) he;refine way (f:=chV (u::L)) (· = ·) (λ_=>rfl) (λ_ _ _=>Eq.trans) j hxy λz w a b c d=>?_;obtain⟨s1,s2,g⟩:=i z w (yS a φ) (yS φ c) (ab_sub b d) (ha z a φ);unfold chV;simp only[zo];rw[s1];exact Dc s2 g
theorem J8{T d uz uw D:Rat}(hk:0< k)(h1:k* -T<=k* (uw- uz- d* D))(h2:T* k<=d* e)(h3:d* e<=d* v)(h4:v=k* D):uz<=uw:=by
 subst h4;by_cases h:uz<=uw;exact h;have:=ED hk (show 0< uz- uw by grind);grind
theorem outweigh'{T d uz uw D:Rat}(hk:0< k)(h1:k* (uw- uz- d* D)<=k* T)(h2:T* k<=d* e)(h3:d* e<=d* -v)(h4:v=k* D):uw<=uz:=by
 subst h4;by_cases h:uw<=uz;exact h;have:=ED hk (show 0< uw- uz by grind);grind
theorem Ch.fall{u v:Lq}{L:Lw}(H:Ch u (v::L))(hk:0< k)(hd:∀x,ag v x=k* dvE u x)(hxy:x<=y):chV (u::v::L) y<=chV (u::v::L) x:=by
 have g:0<=ab x+ab y:=by have:=jb x;have:=jb y;grind
 generalize n:ab x+ab y=R at g;obtain⟨a,b,hb⟩:=H.bez v L rfl;have Y:=yN g a;have hB:=yN g b;obtain⟨e,M,Z⟩:=part 1 (d:=2* (bV R a+bV R b+1)) (by decide+kernel) φ;obtain⟨X,p1,O⟩:=H.cl.1 R e g M;obtain⟨T,p2,k2⟩:=H.cl.2 v L rfl R e g M;have W:=Hs g u;obtain⟨A,Q,e3⟩:=part e (d:=k* (bT R u+1)) M (ED hk φ);obtain⟨V,S,l4,m4⟩:=less X T p1 p2;obtain⟨h,p,l,m⟩:=less V A S Q;refine way (f:=chV (u::v::L)) (λs t=>t<=s) (λ_=>N5 _) (λ_ _ _ G N=>Int.le_trans N G) p hxy λz w G N g3 g4=>?_;have o:ab z<=R:=by rw[<-n];exact yS G φ
 have F:ab w<=R:=by rw[<-n];exact yS φ g3
 have D:ab (w- z)=w- z:=by unfold ab;rw[if_neg φ]
 by_cases hu:e<=ab (ag u z);obtain⟨s1,s2,B⟩:=O z w o F φ hu;refine Int.le_of_eq ?_;unfold chV;simp only[zo] at B⊢;rw[s1];exact(Dc s2 B).symm
 have hv:e<=ab (ag v z):=by
  by_cases hv:e<=ab (ag v z);exact hv;have n1:=lW (n0 g o a) (show ab (ag u z)<=e by grind) (jb _) Y;have n2:=lW (n0 g o b) (show ab (ag v z)<=e by grind) (jb _) hB;have U:=xj (ag a z* ag u z) (ag b z* ag v z);rw[hb z,iY,iY,show ab 1=1 by decide+kernel] at U;grind
 obtain⟨s1,s2,B⟩:=k2 z w o F φ hv;have i:=sX g o F u;rw[D] at i;have r:=ab_le.1 i;have C:=hd z
 -- the derivative outweighs what leaves the tangent
 have c:bT R u* ((w- z) * (w- z)) * k<=(w- z) * e:=by
  have q1:=zf (show w- z<=A by grind) (show 0<=w- z by grind);have q2:=vc q1 W;have q3:=zf q2 (show 0<=k by grind);have q4:(w- z) * e=bT R u* (A* (w- z)) * k+(w- z) * A* k:=by rw[<-e3];grind
  have q5:=EE (EE (show 0<=w- z by grind) (show 0<=A by grind)) (show 0<=k by grind);grind
 have q:0<=w- z:=φ
 unfold chV;simp only[zo];rw[s1];rcases iw z v with⟨j,J⟩|⟨j,J⟩|⟨j,J⟩
 have K:ab (ag v z)=ag v z:=by unfold ab;rw[if_neg φ]
 rw[K] at hv;have E:=vc hv q;have up:ag u z<=ag u w:=J8 hk (vc r.1 φ) c E C;exact De (.inl j) (jd z u) (jd w u) (by rw[j];have:=Bt up;omega) B;have K:ab (ag v z)= -ag v z:=by unfold ab;rw[if_pos J]
 rw[K] at hv;have E:=vc hv q;have up:ag u w<=ag u z:=outweigh' hk (vc r.2 φ) c E C;exact De (.inr j) (jd z u) (jd w u) (by rw[j];have:=Bt up;omega) B;exact absurd j s2
end
end Go.Abs
