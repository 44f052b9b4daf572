/- Part W13 of the proof. -/
import Derived.Test.YtjmkjicckobojaaGreatDoorW12
import Derived.Lib.ItoaNum
set_option linter.all false
namespace Go.Abs
abbrev RQ:=Rat×Bool
def rok(x:RQ):Prop:=x.2=true->x.1=0
def rC(x:RQ):La:=zZ x.1.num++zZ (if x.2 then 0 else(x.1.den:Int))
def rq(q:Rat):RQ:=(q,false)
def r0:RQ:=(0,true)
theorem bK(q:Rat):rok (rq q):=λh=>by cases h
theorem rok_r0:rok r0:=λ_=>rfl
@[simp] theorem rC_length (x:RQ):(rC x).length=4:=rfl
theorem cK(x:RQ):∀c∈rC x,Closed c:=λc hc=>(List.mem_append.1 hc).elim (dy _ c) (dy _ c)
theorem c9(x:RQ):Closed (.agg (rC x)):=aE (cK x)
theorem BC(q:Rat):rC (rq q)=zZ q.num++zZ (q.den:Int):=rfl
theorem rC_r0:rC r0=[i64 0,.arr [],i64 0,.arr []]:=by
 show zZ 0++zZ 0=_;rw[Fp];rfl
def rE(l:List RQ):Lc:=l.map rC
@[simp] theorem oO (l:List RQ):(rE l).length=l.length:=by simp[rE]
theorem fV{l:List RQ}{i:Nat}{q:RQ}(h:l[i]?=some q):(rE l)[i]?=some (rC q):=by simp[rE,h]
theorem rE_take(l:List RQ)(k:Nat):(rE l).take k=rE (l.take k):=by simp[rE]
theorem HC(l m:List RQ):rE (l++m)=rE l++rE m:=by simp[rE]
theorem cU(l:List RQ):(rE l).all (·.all AV.one)=true:=by
 simp only[rE,List.all_map,List.all_eq_true];intro q _;rfl
theorem eQ(l:List RQ):∀e∈rE l,e.length=4:=by
 intro e a;obtain⟨q,_,rfl⟩:=List.mem_map.1 a;rfl
theorem cQ(l:List RQ):∀e∈rE l,∀c∈e,Closed c:=by
 intro e a c hc;obtain⟨q,_,rfl⟩:=List.mem_map.1 a;exact cK q c hc
theorem ca(l:List RQ):Closed (.arr (rE l)):=aK (cQ l)
theorem AEval.lenR{P:Program}{id:Nat}{ev:Operand->Option AV}{hp:Hq}{c:Call}{x:Operand}{T:Nat}{d:Nat×Nat}{l:List RQ}(hc:c.callee= .builtin .len)(ha:c.args= #[x])(ht:c.argTypes= #[T])(hx:ev x=some (.arr (rE l)))(he:eK P T=some d):
    AEval P id ev hp (.call c) ⟨.v (.int .i64 (l.length:Nat)),[]⟩ []:= .len hc ha ht hx (by simp[tl]) he
theorem Hs{n:Int}{d:Nat}(hd:0< d):sgZ (mkRat n d).num=sgZ n:=by
 rw[ku hd];have b:0< Nat.gcd n.natAbs d:=Nat.gcd_pos_of_pos_right _ hd;have a:n≠0->0< n.natAbs/ Nat.gcd n.natAbs d:=λh=>Nat.div_pos (Nat.gcd_le_left _ ω) b;unfold sgZ sgn;by_cases h0:n=0;subst h0;simp;have:=a h0;by_cases hn:n< 0;simp[hn,h0];omega;simp[hn,h0];omega
theorem qu(n d:Int)(hd:d< 0):Rat.divInt n d=mkRat (-n) d.natAbs:=by
 obtain⟨m,rfl⟩:∃m:Nat,d=Int.negSucc m:=⟨d.natAbs- 1,ω⟩;rfl
theorem qt(n d:Int)(hd:0< d):Rat.divInt n d=mkRat n d.natAbs:=by
 obtain⟨m,rfl⟩:∃m:Nat,d=(m:Int):=⟨d.natAbs,ω⟩;rfl
theorem k5(a b:Rat):a/ b=Rat.divInt (a.num* b.den) (a.den* b.num):=by
 rw[Rat.div_def,Rat.inv_def]
 conv=>lhs;rw[<-Rat.num_divInt_den a]
 rw[Rat.divInt_mul_divInt]
abbrev nQ(n:Nat):Rat:=((n:Int):Rat)
theorem nQ_eq(n:Nat):nQ n=mkRat n 1:=(Rat.mkRat_one n).symm
theorem nQ_zero{n:Nat}:nQ n=0↔n=0:=ψ
theorem lj{n k:Nat}(h:bl n<=k)(hk:1<=k):qs (nQ n)<=k:=by
 refine Nat.max_le.2 ⟨?_,?_⟩;show bl ((n:Int)).natAbs<=k;rwa[Int.natAbs_natCast];show bl 1<=k;rw[jz];grind
theorem JL(a b:Nat):nQ a* nQ b=nQ (a* b):=φ
theorem nQ_sub{a b:Nat}(h:b<=a):nQ a- nQ b=nQ (a- b):=by
 rw[<-Rat.intCast_sub];congr 1;omega
theorem Ab(a b:Nat)(hb:b≠0):nQ a/ nQ b=mkRat a b:=by
 rw[k5];simp
theorem yB(a b:Nat)(hb:b≠0)(h:b∣a):mkRat a b=nQ (a/ b):=by
 obtain⟨k,rfl⟩:=h;rw[Nat.mul_div_cancel_left _ ω,nQ_eq,Rat.mkRat_eq_iff hb δ,Int.natCast_mul,Int.mul_comm (b:Int)];simp
theorem BT(a b:Nat)(hb:b≠0):(mkRat a b).floor=((a/ b:Nat):Int):=by
 have h:=l5 (n:=(a:Int)) (d:=b) ω;rw[Int.natAbs_natCast] at h;rw[Rat.floor_def,h.1,h.2,<-Int.natCast_ediv,<-Int.natCast_ediv,Nat.div_div_eq_div_mul,Nat.mul_div_cancel' (Nat.gcd_dvd_right a b)]
def gM:Lq->Nat->Nat
 |[],d=>d
 |c::l,d=>gM l (Nat.lcm d c.den)
def gT(c:Rat)(D:Nat):Nat:=c.num.natAbs* (D/ c.den)
def iO(D:Nat):Lq->Nat->Nat
 |[],n=>n
 |c::l,n=>iO D l (Nat.gcd n (gT c D))
def bU(p:Lq):Lq:=aR (ap p) (nQ (gM (ap p) 1) / nQ (iO (gM (ap p) 1) (ap p) 0))
def wo(p:Lq):Prop:=(p.length+4) * mxL p<=34359738368/\p.length<=274877906944
instance (p:Lq):Decidable (wo p):=inferInstanceAs (Decidable (_/\_))
theorem Gi{a b:Nat}(ha:a≠0)(hb:b≠0):Nat.lcm a b≠0:=by simp_all
theorem pa:∀(l:Lq) {d:Nat},d≠0->gM l d≠0
 |[],_,h=>h
 |c::l,_,h=>pa l (Gi h c.den_nz)
theorem jS:∀(l:Lq) (d:Nat),d∣gM l d/\∀c∈l,c.den∣gM l d
 |[],d=>⟨Nat.dvd_refl d,λ_ h=>by cases h⟩
 |c::l,d=>by
  obtain⟨b,e⟩:=jS l (Nat.lcm d c.den);refine⟨Nat.dvd_trans (Nat.dvd_lcm_left d c.den) b,λx a=>?_⟩;rcases List.mem_cons.1 a with rfl|a
  exact Nat.dvd_trans (Nat.dvd_lcm_right d x.den) b;exact e x a
theorem bl_lcm(a b:Nat):bl (Nat.lcm a b)<=bl a+bl b:=
 Nat.le_trans (fv _ _) (im a b)
theorem AZ{s:Nat}:∀(l:Lq) (d:Nat),bdL l s->bl (gM l d)<=bl d+l.length* s
 |[],d,_=>by simp[gM]
 |c::l,d,h=>by
  have f:=AZ l (Nat.lcm d c.den) λq a=>h q (List.mem_cons_of_mem _ a);have b:=bl_lcm d c.den;have g:=dr c;have e:=h c (List.mem_cons_self ..);rw[List.length_cons,Nat.add_mul];unfold gM;omega
theorem nZ(c:Rat)(D:Nat)(h:c.den∣D):eH (c* nQ D)=nQ (gT c D):=by
 obtain⟨k,rfl⟩:=h;have a:=c.den_nz
 have e:c* nQ (c.den* k)=((c.num* (k:Int):Int):Rat):=by
  rw[oT];show mkRat (c.num* ((c.den* k:Nat):Int)) (c.den* 1)=_;rw[show((c.num* (k:Int):Int):Rat)=mkRat (c.num* k) 1 from(Rat.mkRat_one _).symm,Rat.mkRat_eq_iff ω δ];grind
 rw[e];unfold eH gT;show mkRat (((c.num* (k:Int)).natAbs:Nat):Int) 1=_;rw[Nat.mul_div_cancel_left _ ω,Int.natAbs_mul,Int.natAbs_natCast,nQ_eq]
theorem nY(D:Nat):∀(l:Lq) (n:Nat),iO D l n∣n/\∀c∈l,iO D l n∣gT c D
 |[],n=>⟨Nat.dvd_refl n,λ_ h=>by cases h⟩
 |c::l,n=>by
  obtain⟨b,d⟩:=nY D l (Nat.gcd n (gT c D));refine⟨Nat.dvd_trans b (Nat.gcd_dvd_left _ _),λx a=>?_⟩;rcases List.mem_cons.1 a with rfl|a
  exact Nat.dvd_trans b (Nat.gcd_dvd_right _ _);exact d x a
theorem u5{c:Rat}{D:Nat}(h:c.den∣D)(hD:D≠0)(hc:c≠0):gT c D≠0:=by
 obtain⟨k,rfl⟩:=h;unfold gT;rw[Nat.mul_div_cancel_left _ c.den_pos];have a:c.num≠0:=λe=>hc (Rat.num_eq_zero.1 e);refine Nat.mul_ne_zero ω λe=>hD φ
theorem Aj(c:Rat)(D:Nat):bl (gT c D)<=qs c+bl D:=by
 have a:=im c.num.natAbs (D/ c.den);have b:=fv D c.den;have d:=dA c;unfold gT;omega
theorem iz(p:Lq):(aV p).length<=p.length- 1:=by
 have:=bh (aN (p.length- 1) λi=>coP p (i+1) * ((i+1:Nat):Int));simpa[aV] using this
def lT(f:Nat)(p:Lq):Option Lq:=
 if smL p/\p.length<=274877906944 then(ld f p (aV p)).bind λg=>if ap g≠[]/\wt p g then some (ce (cu p g).1) else none
 else none
def boL(lead:Rat):Lq->Rat->Rat
 |[],m=>m
 |c::l,m=>boL lead l (gQ [m,eH (c/ lead)])
def a7(p:Lq):Rat:=boL (aI p) ((ap p).take ((ap p).length- 1)) 0+1
def re(p:Lq):Prop:=mxL p<=34359738368/\p.length<=274877906944
instance (p:Lq):Decidable (re p):=inferInstanceAs (Decidable (_/\_))
def mU(p:Lq):Int:=if dt p< 0 then 10 else if 40< dt p then 5 else 0
theorem we(q:Rat):qs (eH q)=qs q:=by
 unfold qs;rw[xN,xO,Int.natAbs_natCast]
theorem Af{l:Lq}{n:Nat}(h:bdL l n)(hn:1<=n):qs (gQ l)<=n:=by
 unfold gQ
 have a:∀(b:Int->Bool) (l:Lq) (o:Rat),qs o<=n->bdL l n->qs (l.foldl (λo y=>if b (fb y o) then y else o) o)<=n:=by
  intro b l
  induction l with
  |nil=>intro o d _;exact d
  |cons y l g=>
   intro o d f;refine g _ ?_ λq e=>f q (List.mem_cons_of_mem _ e);show qs (if b (fb y o)=true then y else o)<=n;split;exact f y (List.mem_cons_self ..);exact d
 cases l with
 |nil=>exact Nat.le_trans (by decide:qs 0<=1) hn
 |cons x l=>exact a (λc=>decide (0< c)) l x (h x (List.mem_cons_self ..)) λq e=>h q (List.mem_cons_of_mem _ e)
theorem pN(p:Lq):aI (ap p)=aI p:=by unfold aI;rw[b6]
def chL:List Int->Int->Int->Int
 |[],n,_=>n
 |s::l,n,last=>if s≠0 then chL l (if s= -last then n+1 else n) s else chL l n last
def jy(f:Nat):Nat->Lq->Lq->Lw->Option Lw
 |0,_,_,_=>none
 |k+1,last,next,acc=>
  if ap next=[] then some acc
  else if wo next/\wt last (bU next)/\ap (bU next)≠[] then jy f k (bU next) (aR (cu last (bU next)).2 (-1)) (acc++[bU next])
  else none
def kJ(f:Nat)(p:Lq):Option Lw:=
 if smL p/\wo p/\ap p≠[] then jy f f (bU p) (aV p) [bU p] else none
def cE(l:Lw):Lc:=l.map λp=>[.arr (pE p)]
@[simp] theorem cE_length (l:Lw):(cE l).length=l.length:=by simp[cE]
theorem E4{l:Lw}{i:Nat}{p:Lq}(h:l[i]?=some p):(cE l)[i]?=some [.arr (pE p)]:=by simp[cE,h]
theorem c5(l:Lw):(cE l).all (·.all AV.one)=true:=by
 simp only[cE,List.all_map,List.all_eq_true];intro q _;rfl
theorem kz(l:Lw):∀e∈cE l,∀c∈e,Closed c:=by
 intro e a c hc;obtain⟨q,_,rfl⟩:=List.mem_map.1 a;rw[List.mem_singleton.1 hc];exact aD q
theorem pj(l:Lw):Closed (.arr (cE l)):=aK (kz l)
theorem cE_snoc(l:Lw)(p:Lq):cE (l++[p])=cE l++[[.arr (pE p)]]:=by simp[cE]
theorem AEval.lenC{P:Program}{id:Nat}{ev:Operand->Option AV}{hp:Hq}{c:Call}{x:Operand}{T:Nat}{d:Nat×Nat}{l:Lw}(hc:c.callee= .builtin .len)(ha:c.args= #[x])(ht:c.argTypes= #[T])(hx:ev x=some (.arr (cE l)))(he:eK P T=some d):
    AEval P id ev hp (.call c) ⟨.v (.int .i64 (l.length:Nat)),[]⟩ []:= .len hc ha ht hx (by simp[tl]) he
structure Cnt where
 p:Lq
 ch:Lw
 far:Int
def kC(c:Cnt):La:=[.arr (pE c.p),.arr (cE c.ch),i64 c.far]
abbrev kA(c:Cnt):AV:= .aptr [kC c] 0 0
theorem y8(c:Cnt):∀x∈kC c,Closed x:=ae (aD _) (ae (pj _) (ae (ak _) af))
theorem gE(c:Cnt):Closed (kA c):=bi (y8 c)
def sgI(q:Lq):Int:=if dt q % 2=1 then -sgZ (aI q).num else sgZ (aI q).num
def sgE(x:Rat)(q:Lq):Int:=sgZ (an q x).num
theorem oI(z:Int): -1<=sgZ z/\sgZ z<=1:=by
 unfold sgZ;split;omega;split <;> omega
theorem sgI_abs(q:Lq): -1<=sgI q/\sgI q<=1:=by
 have:=oI (aI q).num;unfold sgI;split <;> omega
theorem qB:∀(l:List Int) (n last:Int),n<=chL l n last/\chL l n last<=n+l.length
 |[],n,_=>⟨Int.le_refl _,by simp[chL]⟩
 |s::l,n,last=>by
  unfold chL;split;split;have:=qB l (n+1) s;simp only[List.length_cons];omega;have:=qB l n s;simp only[List.length_cons];omega;have:=qB l n last;simp only[List.length_cons];omega
def wu(c:Cnt):Prop:=(∀q∈c.ch,ap q≠[]/\q.length<=274877906944)/\c.ch.length<=274877906944/\c.far=chL (c.ch.map sgI) 0 0
instance (c:Cnt):Decidable (wu c):=inferInstanceAs (Decidable (_/\_/\_))
def dM(f:Nat)(p:Lq):Option Cnt:=
 (lT f p).bind λs=>(kJ f s).bind λch=>if wu ⟨s,ch,chL (ch.map sgI) 0 0⟩ then some ⟨s,ch,chL (ch.map sgI) 0 0⟩ else none
def cX(c:Cnt)(x:Rat):Int:=c.far- chL (c.ch.map (sgE x)) 0 0
def uL(c:Cnt)(x:Rat):Prop:=wu c/\∀q∈c.ch,fM q x
instance (c:Cnt) (x:Rat):Decidable (uL c x):=inferInstanceAs (Decidable (_/\_))
def cN(c:Cnt)(x:Rat):Int:=if an c.p x=0 then cX c x- 1 else cX c x
def pI(c:Cnt)(x:Rat):Prop:=uL c x/\fM c.p x
instance (c:Cnt) (x:Rat):Decidable (pI c x):=inferInstanceAs (Decidable (_/\_))
def Dc(c:Cnt):Int:=cX c (a7 c.p)
theorem lR{c:Cnt}{x:Rat}(h:wu c): -274877906944<=cX c x/\cX c x<=274877906944:=by
 have a:=qB (c.ch.map sgI) 0 0;have b:=qB (c.ch.map (sgE x)) 0 0;have d:=h.2.1;rw[<-h.2.2] at a;simp only[List.length_map] at a b;unfold cX;omega
abbrev plA(c:Cnt)(i:Int):AV:= .aptr [[kA c,i64 i]] 0 0
theorem dN(c:Cnt)(i:Int):Closed (plA c i):=bi (ae (gE c) (ae (ak _) af))
def plC(c:Cnt)(i:Int)(x:Rat):Int:=if i< cN c x then -1 else if cN c x=i/\cN c x< cX c x then 0 else 1
theorem zc{c:Cnt}{x:Rat}(h:wu c): -274877906945<=cN c x/\cN c x<=274877906944:=by
 have:=lR (x:=x) h;unfold cN;split <;> omega
def biM(c:Cnt)(i:Int)(step:Rat):Nat->Rat->Rat->Option Rat
 |0,_,_=>none
 |f+1,lo,hi=>
  if sm lo/\sm hi/\sm (hi- lo) then
   if 0< fb (hi- lo) 1 then
    if qs (((lo+hi) / 2).floor:Rat)+qs step<=549755813888/\pI c ((((lo+hi) / 2).floor:Rat) * step) then
     if 0<=plC c i ((((lo+hi) / 2).floor:Rat) * step) then biM c i step f (((lo+hi) / 2).floor:Rat) hi
     else biM c i step f lo (((lo+hi) / 2).floor:Rat)
    else none
   else some lo
  else none

section
variable {p q:Lq}
theorem nm(i:Nat):coP [] i=0:=rfl
theorem dC(a:Rat)(l:Lq):coP (a::l) 0=a:=rfl
theorem du(a:Rat)(l:Lq)(i:Nat):coP (a::l) (i+1)=coP l i:=rfl
theorem cj(l:Lq)(i:Nat):coP (ap l) i=coP l i:=by
 induction l generalizing i with
 |nil=>rfl
 |cons a l b=>
  rw[e8];split
  ·rename_i h
   have c:∀j,coP l j=0:=λj=>by rw[<-b j,h];rfl
   split
   ·rename_i ha
    cases i with
    |zero=>rw[ha];rfl
    |succ i=>rw[du,c];rfl
   cases i with
   |zero=>rfl
   |succ i=>rw[du,du,c];rfl
  cases i with
  |zero=>rfl
  |succ i=>rw[du,du,b]
theorem iZ(n:Nat)(f:Nat->Rat)(i:Nat):coP (aN n f) i=if i< n then f i else 0:=by
 unfold coP aN;grind
theorem ic(p q:Lq)(i:Nat):coP (fR p q) i=coP p i+coP q i:=by
 unfold fR;rw[cj,iZ];split;rfl
 ·rw[ee ω,ee ω];grind
theorem cJ(p:Lq)(k:Rat)(i:Nat):coP (aR p k) i=coP p i* k:=by
 unfold aR;rw[cj,iZ];split;rfl
 ·rw[ee ω];grind
theorem pf(p q:Lq)(i:Nat):coP (dQ p q) i=coP p i- coP q i:=by
 unfold dQ;rw[ic,cJ];grind
theorem tW(a:Rat)(i:Nat):coP (eM a) i=if i=0 then a else 0:=by
 unfold eM;rw[cj];cases i <;> rfl
theorem fa(p:Lq)(i:Nat):coP (aV p) i=coP p (i+1) * ((i+1:Nat):Int):=by
 unfold aV;rw[cj,iZ];split;rfl
 ·rw[ee ω];grind
theorem ja(p:Lq)(i:Nat):coP (aM p) i=if i=0 then 0 else coP p (i- 1) / ((i:Nat):Int):=by
 unfold aM;rw[cj,iZ];split;rfl
 ·rw[if_neg ω,ee ω,Rat.div_def,Rat.zero_mul]
theorem nG(h:∀i,coP p i=coP q i):ap p=ap q:=by
 induction p generalizing q with
 |nil=>
  induction q with
  |nil=>rfl
  |cons b q c=>
   have hb:b=0:=(h 0).symm;rw[e8,<-c λi=>h (i+1),if_pos hb];rfl
 |cons a p c=>
  cases q with
  |nil=>
   have ha:a=0:=h 0;rw[e8,c (q:=[]) λi=>h (i+1),if_pos ha];rfl
  |cons b q=>
   have d:a=b:=h 0;rw[e8,e8,c (q:=q) λi=>h (i+1),d]
theorem trim_iff:ap p=ap q↔∀i,coP p i=coP q i:=
 ⟨λh i=>by rw[<-cj p,h,cj],nG⟩
theorem trim_nil_iff:ap p=[]↔∀i,coP p i=0:=
 ⟨λh i=>by rw[<-cj p,h];rfl,λh=>nG (q:=[]) h⟩
theorem aZ(x:Rat):an [] x=0:=rfl
theorem aO(a:Rat)(l:Lq)(x:Rat):an (a::l) x=an l x* x+a:=rfl
theorem na(h:∀i,coP p i=0)(x:Rat):an p x=0:=by
 induction p with
 |nil=>rfl
 |cons a p b=>
  have ha:a=0:=h 0;rw[aO,b λi=>h (i+1)];grind
theorem iy(h:∀i,coP p i=coP q i)(x:Rat):an p x=an q x:=by
 induction p generalizing q with
 |nil=>exact(na (λi=>(h i).symm) x).symm
 |cons a p d=>
  cases q with
  |nil=>exact na h x
  |cons b q=>
   have c:a=b:=h 0;rw[aO,aO,d (q:=q) λi=>h (i+1),c]
theorem cn(p:Lq)(x:Rat):an (ap p) x=an p x:=iy (cj p) x
def qE:Lq->Lq->Lq
 |[],q=>q
 |p,[]=>p
 |a::p,b::q=>(a+b)::qE p q
def lI(p:Lq)(k:Rat):Lq:=p.map (· * k)
def n4:Lq->Lq->Lq
 |[],_=>[]
 |a::p,q=>qE (lI q a) (0::n4 p q)
theorem jT(p q:Lq)(i:Nat):coP (qE p q) i=coP p i+coP q i:=by
 induction p generalizing q i with
 |nil=>rw[qE,nm];grind
 |cons a p c=>
  cases q with
  |nil=>rw[qE,nm]; · grind
        grind
  |cons b q=>
   cases i with
   |zero=>rfl
   |succ i=>exact c q i
theorem ij(p:Lq)(k:Rat)(i:Nat):coP (lI p k) i=coP p i* k:=by
 induction p generalizing i with
 |nil=>show(0:Rat)=0* k;grind
 |cons a p b=>
  cases i with
  |zero=>rfl
  |succ i=>exact b i
theorem nh(p q:Lq)(x:Rat):an (qE p q) x=an p x+an q x:=by
 induction p generalizing q with
 |nil=>rw[qE,aZ];grind
 |cons a p c=>
  cases q with
  |nil=>rw[qE,aZ]; · grind
        grind
  |cons b q=>rw[qE,aO,aO,aO];grind
theorem ki(p:Lq)(k x:Rat):an (lI p k) x=an p x* k:=by
 induction p with
 |nil=>show(0:Rat)=0* k;grind
 |cons a p b=>show an (lI p k) x* x+a* k=_;rw[aO];grind
theorem pV(p q:Lq)(x:Rat):an (n4 p q) x=an p x* an q x:=by
 induction p with
 |nil=>show(0:Rat)=0* _;grind
 |cons a p b=>rw[n4,nh,ki,aO,aO];grind
theorem fq(p q:Lq)(x:Rat):an (fR p q) x=an p x+an q x:=by
 rw[<-nh];exact iy (λi=>by rw[ic,jT]) x
theorem bH(p:Lq)(k x:Rat):an (aR p k) x=an p x* k:=by
 rw[<-ki];exact iy (λi=>by rw[cJ,ij]) x
theorem cP(p q:Lq)(x:Rat):an (dQ p q) x=an p x- an q x:=by
 unfold dQ;rw[fq,bH];grind
theorem uE(a x:Rat):an (eM a) x=a:=by
 rw[eM,cn];show 0* x+a=a;grind
def k7(p q:Lq):Nat->Nat->Rat
 |0,_=>0
 |i+1,n=>k7 p q i n+(if i<=n then coP p i* coP q (n- i) else 0)
theorem CR(o:Lq)(a:Rat)(q:Lq)(i:Nat)(h:∀k,k< q.length->i+k< o.length):∀k n,k<=q.length->coP (kO o a q i k) n=coP o n+(if i<=n/\n< i+k then a* coP q (n- i) else 0)
 |0,n,_=>by show coP o n=_;grind
 |k+1,n,hk=>by
  rw[kO,tX,Bz];by_cases hn:n=i+k;subst hn;rw[if_pos ⟨rfl,h k ω⟩,v6 o a q i k (i+k) ω,if_pos ω,show i+k- i=k by omega];rw[CR o a q i h k n ω];grind
theorem CT(p q:Lq)(n:Nat):∀i,i<=p.length->coP (fy p q i) n=k7 p q i n
 |0,_=>by
  show coP (List.replicate _ 0) n=0;unfold coP;grind
 |i+1,hi=>by
  have a:=CT p q n i ω;rw[fy,k7];split
  ·grind
  rw[CR _ _ _ _ (λk b=>by rw[n0];omega) _ _ (Nat.le_refl _),a];by_cases h1:i<=n;rw[if_pos h1];by_cases h2:n< i+q.length;rw[if_pos ⟨h1,h2⟩];rw[ee (p:=q) ω];grind;grind
theorem xi(a:Rat)(p q:Lq)(n:Nat):∀i,k7 (a::p) q (i+1) n=a* coP q n+(match n with|0=>0|m+1=>k7 p q i m)
 |0=>by
  show(0:Rat)+(if 0<=n then coP (a::p) 0* coP q (n- 0) else 0)=_;rw[dC];cases n <;> simp[k7,Rat.add_zero,Rat.zero_add]
 |i+1=>by
  rw[k7,xi a p q n i];cases n with
  |zero=>grind
  |succ m=>
   show a* coP q (m+1)+k7 p q i m+_=a* coP q (m+1)+(k7 p q i m+_);by_cases h:i<=m;rw[du];grind;grind
theorem xm(p q:Lq)(n:Nat):coP (n4 p q) n=k7 p q p.length n:=by
 induction p generalizing n with
 |nil=>rfl
 |cons a p b=>
  rw[n4,jT,ij,List.length_cons,xi];cases n with
  |zero=>rw[dC];grind
  |succ m=>rw[du];grind
theorem pg(p q:Lq)(n:Nat):coP (aT p q) n=coP (n4 p q) n:=by
 unfold aT;split
 ·rename_i h
  rcases h with rfl|rfl
  rfl;rw[xm]
  have:∀i,k7 p [] i n=0:=by
   intro i
   induction i with
   |zero=>rfl
   |succ i a=>rw[k7,nm];grind
  rw[this];rfl
 rw[cj,CT _ _ _ _ (Nat.le_refl _),xm]
theorem a8(p q:Lq)(x:Rat):an (aT p q) x=an p x* an q x:=by
 rw[<-pV];exact iy (pg p q) x
def Hl:Lq->Rat->Lq
 |[],_=>[]
 |[_],_=>[]
 |_::b::l,r=>an (b::l) r::Hl (b::l) r
theorem yh(p:Lq)(r x:Rat):an p x=an (Hl p r) x* (x- r)+an p r:=by
 induction p with
 |nil=>show(0:Rat)=0* _+0;grind
 |cons a l c=>
  cases l with
  |nil=>show 0* x+a=0* (x- r)+(0* r+a);grind
  |cons b l=>
   rw[Hl,aO a,aO a,aO (an (b::l) r)];grind
theorem IV(p:Lq)(r:Rat):(Hl p r).length=p.length- 1:=by
 induction p with
 |nil=>rfl
 |cons a l c=>
  cases l with
  |nil=>rfl
  |cons b l=>rw[Hl,List.length_cons,c];simp
theorem pH:∀(n:Nat) (p xs:Lq),p.length<=n->n<=xs.length->xs.Nodup->(∀x∈xs,an p x=0)->∀x,an p x=0
 |0,p,_,hp,_,_,_,x=>by
  have:p=[]:=List.length_eq_zero_iff.1 ω;rw[this];rfl
 |n+1,p,xs,hp,hx,hnd,hz,x=>by
  cases xs with
  |nil=>grind
  |cons r xs=>
   rw[List.nodup_cons] at hnd;have c:=hz r (List.mem_cons_self ..)
   have a:=pH n (Hl p r) xs (by rw[IV];omega) φ hnd.2 λy b=>by
    have d:=yh p r y;grind
   rw[yh p r x];grind
theorem AK(h:∀x,an p x=0):∀i,coP p i=0:=by
 induction p with
 |nil=>intro i;rfl
 |cons a p c=>
  have ha:a=0:=by
   have:=h 0;rw[aO] at this;grind
  have hp:∀x,an p x=0:=by
   -- at all places but 0,so at all
   refine pH p.length p ((List.range p.length).map λi=>(((i+1:Nat):Int):Rat)) (Nat.le_refl _) ψ ?_ ?_;refine List.Pairwise.map _ (λi j g=>?_) List.nodup_range;intro e;have:=Rat.intCast_inj.1 e;omega;intro x k;obtain⟨i,_,rfl⟩:=List.mem_map.1 k;have f:=h (((i+1:Nat):Int):Rat);rw[aO] at f;have d:an p (((i+1:Nat):Int):Rat) * (((i+1:Nat):Int):Rat)=0:=φ
   rcases Rat.mul_eq_zero.1 d with b|b
   exact b;have:=Rat.intCast_inj.1 (b.trans Rat.intCast_zero.symm);omega
  intro i;cases i with
  |zero=>exact ha
  |succ i=>exact c hp i
theorem iV(h:∀x,an p x=an q x):ap p=ap q:=by
 refine nG λi=>?_;have:=AK (p:=dQ p q) (λx=>by rw[cP];grind) i;rw[pf] at this;grind
theorem Cy{xs:Lq}(hp:(ap p).length<=xs.length)(hq:(ap q).length<=xs.length)(hnd:xs.Nodup)(h:∀x∈xs,an p x=an q x):ap p=ap q:=by
 refine iV λx=>?_
 have a:(dQ (ap p) (ap q)).length<=xs.length:=by
  have d:=jX (ap p) (aR (ap q) (-1));have c:=dW (ap q) (-1);unfold dQ;omega
 have:=pH xs.length _ xs a (Nat.le_refl _) hnd (λy b=>by rw[cP,cn,cn,h y b];grind) x;rw[cP,cn,cn] at this;grind
end
theorem yA(p q:Lq)(hp:p≠[]):(aT p q).length<=p.length+q.length- 1:=by
 unfold aT;split;simp;have:=bh (fy p q p.length);rwa[n0] at this
theorem nf(a x:Rat):an [-a,1] x=x- a:=by
 show(0* x+1) * x+ -a=x- a;grind
theorem Hx{p:Lq}{k:Rat}{s t:Nat}(hp:bdL p s)(hs:1<=s)(hk:qs k<=t):bdL (aR p k) (s+t):=
 fP λi=>by
  rw[cJ];have a:=cx (coP p i) k;have b:=ej hp hs i;omega
def dvE:Lq->Rat->Rat
 |[],_=>0
 |_::l,x=>an l x+dvE l x* x
theorem eX(a:Rat)(l:Lq)(x:Rat):dvE (a::l) x=an l x+dvE l x* x:=rfl
theorem CF{p:Lq}(h:∀i,coP p i=0)(x:Rat):dvE p x=0:=by
 induction p with
 |nil=>rfl
 |cons a p b=>rw[eX,b λi=>h (i+1),na λi=>h (i+1)];grind
theorem GP{p q:Lq}(h:∀i,coP p i=coP q i)(x:Rat):dvE p x=dvE q x:=by
 induction p generalizing q with
 |nil=>exact(CF (λi=>(h i).symm) x).symm
 |cons a p c=>
  cases q with
  |nil=>exact CF h x
  |cons b q=>rw[eX,eX,c (q:=q) λi=>h (i+1),iy (q:=q) λi=>h (i+1)]
theorem KV(p q:Lq)(x:Rat):dvE (qE p q) x=dvE p x+dvE q x:=by
 induction p generalizing q with
 |nil=>show dvE q x=0+dvE q x;grind
 |cons a p c=>
  cases q with
  |nil=>rw[qE]; · show _=_+(0:Rat);grind
        grind
  |cons b q=>rw[qE,eX,eX,eX,nh];grind
theorem xc(p:Lq)(k x:Rat):dvE (lI p k) x=dvE p x* k:=by
 induction p with
 |nil=>show(0:Rat)=0* k;grind
 |cons a p b=>show an (lI p k) x+dvE (lI p k) x* x=_;rw[eX,ki];grind
theorem KT(p q:Lq)(x:Rat):dvE (n4 p q) x=dvE p x* an q x+an p x* dvE q x:=by
 induction p with
 |nil=>show(0:Rat)=0* _+0* _;grind
 |cons a p b=>rw[n4,KV,xc,eX,eX,pV,aO];grind
def AU:Lq->Lq
 |[]=>[]
 |_::l=>qE l (0::AU l)
theorem ng(p:Lq)(x:Rat):an (AU p) x=dvE p x:=by
 induction p with
 |nil=>rfl
 |cons a p b=>rw[AU,nh,aO,eX];grind
theorem Lb(p:Lq)(i:Nat):coP (AU p) i=coP p (i+1) * ((i+1:Nat):Int):=by
 induction p generalizing i with
 |nil=>show(0:Rat)=0* _;grind
 |cons a p b=>
  rw[AU,jT,du];cases i with
  |zero=>rw[dC];grind
  |succ i=>rw[du];grind
theorem df(p:Lq)(x:Rat):an (aV p) x=dvE p x:=by
 rw[<-ng];exact iy (λi=>by rw[fa,Lb]) x
theorem o7(p q:Lq)(x:Rat):dvE (aT p q) x=dvE p x* an q x+an p x* dvE q x:=by
 rw[<-KT];exact GP (pg p q) x
theorem yZ(o:Lq)(x v:Rat):∀j,j< o.length->an (o.set j v) x=an o x+(v- coP o j) * x^ j:=by
 induction o with
 |nil=>grind
 |cons a o b=>
  intro j h;cases j with
  |zero=>rw[List.set_cons_zero,aO,aO,dC];grind
  |succ j=>rw[List.set_cons_succ,aO,aO,du];grind
theorem pU(q:Lq)(x:Rat)(m:Nat)(h:m< q.length):an (q.take (m+1)) x=an (q.take m) x+coP q m* x^ m:=by
 induction q generalizing m with
 |nil=>cases h
 |cons a q b=>
  cases m with
  |zero=>rw[List.take_succ_cons,Rat.pow_zero];show 0* x+a=0+a* 1;grind
  |succ m=>rw[List.take_succ_cons,List.take_succ_cons,aO,aO,du];grind
theorem uv(x:Rat)(n:Nat):∀m,x^ (n+m)=x^ n* x^ m
 :=φ
theorem xb(o:Lq)(k:Rat)(q:Lq)(n:Nat)(x:Rat)(h:n+q.length<=o.length):∀m,m<=q.length->an (fU o k q n m) x=an o x- k* x^ n* an (q.take m) x
 |0,_=>by rw[fU];show _=_- _* 0;grind
 |m+1,hm=>by
  rw[fU,Bn,yZ _ _ _ _ (by rw[iu];omega),xb o k q n x h m ω,pU q x m ω];grind
theorem K7(o:Lq)(k:Rat)(q:Lq)(n m:Nat)(hm:m< q.length)(h:n+q.length<=o.length):coP (fU o k q n q.length) (n+m)=coP o (n+m)- k* coP q m:=by
 have:∀j,m< j->j<=q.length->coP (fU o k q n j) (n+m)=coP o (n+m)- k* coP q m:=by
  intro j
  induction j with
  |zero=>grind
  |succ j a=>
   intro c b;rw[fU,pe];by_cases e:m=j;subst e;rw[if_pos ⟨rfl,by rw[iu];omega⟩,nM o k q n m (n+m) ω];grind
 grind
theorem y4(q:Lq)(lead:Rat)(hq:q≠[])(hl:coP q (q.length- 1)=lead)(hl0:lead≠0)(x:Rat):∀c u o,(∀i,i< c->coP u i=0)->c<=u.length->c+q.length<=o.length+1->(∀j,c+q.length- 1<=j->coP o j=0)->
    an (k6 q lead c u o).1 x* an q x+an (k6 q lead c u o).2 x=an u x* an q x+an o x/\∀j,q.length- 1<=j->coP (k6 q lead c u o).2 j=0
 |0,u,o,_,_,_,h4=>⟨rfl,λj f=>h4 j ω⟩
 |n+1,u,o,h1,h2,h3,h4=>by
  have b:=List.length_pos_iff.2 hq;rw[k6];obtain⟨k,d⟩:∃k,k=coP o (n+q.length- 1) / lead:=⟨_,rfl⟩;rw[<-d];have a:k* lead=coP o (n+q.length- 1):=φ
  have g:coP u n=0:=h1 n ω
  have e:an (if k=0 then o else fU o k q n q.length) x=an o x- k* x^ n* an q x:=by
   by_cases h0:k=0;rw[if_pos h0,h0];grind;rw[if_neg h0,xb o k q n x ω _ (Nat.le_refl _),List.take_length]
  obtain⟨e1,e2⟩:=y4 q lead hq hl hl0 x n (u.set n k) (if k=0 then o else fU o k q n q.length) (λi h=>by
   rw[vi,if_neg ω];grind) φ (by split <;>(try simp)<;> omega) (λj f=>by
   by_cases h0:k=0;rw[if_pos h0];by_cases hj':j=n+q.length- 1;rw[hj',<-a,h0];grind;exact h4 j ω;rw[if_neg h0];by_cases hj':j=n+q.length- 1;have:=K7 o k q n (q.length- 1) ω ω;rw[hj',show n+q.length- 1=n+(q.length- 1) by omega,this,hl,a,show n+(q.length- 1)=n+q.length- 1 by omega];grind;rw[nM o k q n q.length j ω];grind)
  refine⟨?_,e2⟩;rw[e1,e,yZ u x k n ω,g];grind
theorem qI{p:Lq}{n:Nat}(h:∀j,n<=j->coP p j=0):(ap p).length<=n:=by
 apply Nat.le_of_not_lt;intro d;have c:=dj (l:=p) (n:=(ap p).length- 1) ω;have b:ap p≠[]:=λe=>by grind
 have a:=h ((ap p).length- 1) ω;rw[<-cj] at a;unfold coP at a;rw[List.getD_eq_getElem?_getD,c] at a;exact dd b a
theorem mh(p q:Lq)(hq:ap q≠[]):(∀x,an (cu p q).1 x* an q x+an (cu p q).2 x=an p x)/\(ap (cu p q).2).length< (ap q).length:=by
 have b:=List.length_pos_iff.2 hq
 have d:coP (ap q) ((ap q).length- 1)=aI q:=by
  have:=dj (l:=q) (n:=(ap q).length- 1) ω;unfold coP;grind
 have c:∀i m,coP (List.replicate m 0) i=0:=λi m=>by
  unfold coP;grind
 have a:=λx (h:(ap q).length<=(ap p).length+1)=>y4 (ap q) (aI q) hq d (dd hq) x ((ap p).length+1- (ap q).length) (List.replicate ((ap p).length+1- (ap q).length) 0) (ap p)
  (λi _=>c i _) ψ ω (λj f=>ee ω)
 by_cases h:(ap q).length<=(ap p).length+1;refine⟨λx=>?_,?_⟩;have e:=(a x h).1;unfold cu;rw[cn,cn,<-cn q,e,na (λi=>c i _),cn p];grind;have e:=(a 0 h).2;unfold cu;rw[b6];have:=qI e;omega;unfold cu;rw[show(ap p).length+1- (ap q).length=0 by omega];refine⟨λx=>?_,?_⟩;rw[k6,cn,cn,cn];show 0* _+_=_;grind;rw[k6,b6,b6];omega
section
variable (p q r:Lq)(a b:Rat)
end
section
variable {p q:Lq}
def nz(p:Lq):Prop:=ap p≠[]
def dg(p:Lq):Nat:=(ap p).length- 1
def md(p q:Lq):Lq:=(cu p q).2
def Eqv(p q:Lq):Prop:=∀x,an p x=an q x
theorem eqv_trim:Eqv p q↔ap p=ap q:=
 ⟨iV,λh x=>by rw[<-cn p,h,cn]⟩
theorem DS(h:Eqv p q):nz p↔nz q:=by unfold nz;rw[eqv_trim.1 h]
theorem dg_eqv(h:Eqv p q):dg p=dg q:=by unfold dg;rw[eqv_trim.1 h]
theorem JT(h:Eqv p q):aI p=aI q:=by unfold aI;rw[eqv_trim.1 h]
theorem jm(h:¬nz p):∀x,an p x=0:=λx=>by
 have:ap p=[]:=by unfold nz at h;grind
 rw[<-cn,this];rfl
def wI(p:Lq)(n:Nat):Prop:=coP p n≠0/\∀i,n< i->coP p i=0
theorem fZ(h:nz p):wI p (dg p)/\coP p (dg p)=aI p:=by
 have c:=List.length_pos_iff.2 h;have d:=dj (l:=p) (n:=dg p) (by unfold dg;omega)
 have a:coP p (dg p)=aI p:=by
  rw[<-cj];unfold coP;grind
 refine⟨⟨by rw[a];exact dd h,λi b=>?_⟩,a⟩;rw[<-cj];exact ee (by unfold dg at b;omega)
theorem nX{n:Nat}(h:wI p n):nz p/\dg p=n/\aI p=coP p n:=by
 have c:nz p:=λe=>h.1 (trim_nil_iff.1 e n);obtain⟨b,d⟩:=fZ c
 have e:dg p=n:=by
  rcases Nat.lt_trichotomy (dg p) n with a|a|a
  exact absurd (b.2 n a) h.1;exact a;exact absurd (h.2 _ a) b.1
 grind
theorem A7(h:∀i,coP p i=0)(q:Lq)(k:Nat):coP (n4 p q) k=0:=by
 induction p generalizing k with
 |nil=>rfl
 |cons a p b=>
  have ha:a=0:=h 0;rw[n4,jT,ij];cases k with
  |zero=>rw[dC];grind
  |succ k=>rw[du,b λi=>h (i+1)];grind
theorem A6(p q:Lq):∀(n m:Nat),(∀i,n< i->coP p i=0)->(∀i,m< i->coP q i=0)->coP (n4 p q) (n+m)=coP p n* coP q m/\∀k,n+m< k->coP (n4 p q) k=0:=by
 induction p with
 |nil=>intro n m _ _;exact⟨by show(0:Rat)=0* _;grind,λ_ _=>rfl⟩
 |cons a p l=>
  intro n m d e;cases n with
  |zero=>
   have f:∀i,coP p i=0:=λi=>d (i+1) ω
   have b:∀k,coP (n4 (a::p) q) k=coP q k* a:=λk=>by
    rw[n4,jT,ij];cases k with
    |zero=>rw[dC];grind
    |succ k=>rw[du,A7 f];grind
   refine⟨by rw[Nat.zero_add,b,dC];grind,λk c=>?_⟩;grind
  |succ n=>
   obtain⟨g,o⟩:=l n m (λi r=>d (i+1) ω) e
   have b:∀k,m< k+1->coP (n4 (a::p) q) (k+1)=coP (n4 p q) k:=λk h=>by
    rw[n4,jT,ij,du,e _ h];grind
   refine⟨by rw[show n+1+m=(n+m)+1 by omega,b _ ω,g,du],λk c=>?_⟩;obtain⟨j,rfl⟩:∃j,k=j+1:=⟨k- 1,ω⟩;grind
theorem HN{n m:Nat}(hp:wI p n)(hq:wI q m):wI (aT p q) (n+m)/\coP (aT p q) (n+m)=coP p n* coP q m:=by
 obtain⟨d,c⟩:=A6 p q n m hp.2 hq.2;refine⟨⟨?_,λi e=>by rw[pg];grind⟩,by rw[pg];grind⟩;rw[pg];have a:=hp.1;have b:=hq.1;grind
theorem K1(hp:nz p)(hq:nz q):nz (aT p q)/\dg (aT p q)=dg p+dg q/\aI (aT p q)=aI p* aI q:=by
 obtain⟨a,a2⟩:=fZ hp;obtain⟨b1,b2⟩:=fZ hq;obtain⟨b,c⟩:=HN a b1;obtain⟨d1,d2,d⟩:=nX b;grind
theorem dg_mul'{r:Lq}(hp:nz p)(hq:nz q)(h:∀x,an r x=an p x* an q x):nz r/\dg r=dg p+dg q/\aI r=aI p* aI q:=by
 have e:Eqv r (aT p q):=λx=>by rw[h,a8]
 obtain⟨b,a,c⟩:=K1 hp hq;exact⟨(DS e).2 b,(dg_eqv e).trans a,(JT e).trans c⟩
theorem jQ{k:Rat}(hp:nz p)(hk:k≠0){r:Lq}(h:∀x,an r x=an p x* k):nz r/\dg r=dg p/\aI r=aI p* k:=by
 have hc:wI [k] 0:=⟨hk,λi g=>by obtain⟨j,rfl⟩:∃j,i=j+1:=⟨i- 1,ω⟩;rfl⟩;obtain⟨d,e,a⟩:=nX hc;obtain⟨b,f,c⟩:=dg_mul' hp d (r:=r) (λx=>by show _=_* (0* x+k);grind);exact⟨b,ω,by rw[c,a];rfl⟩
theorem iP(p:Lq)(hq:nz q):(∀x,an p x=an (cu p q).1 x* an q x+an (md p q) x)/\(nz (md p q)->dg (md p q)< dg q):=by
 obtain⟨a,b⟩:=mh p q hq;refine⟨λx=>(a x).symm,λh=>?_⟩;have:=List.length_pos_iff.2 h;unfold md at *
 unfold dg;omega
theorem oV{u v:Lq}(hq:nz q)(h:∀x,an p x=an u x* an q x+an v x)(hv:nz v->dg v< dg q):Eqv (md p q) v:=by
 obtain⟨f,d⟩:=iP p hq;by_cases hw:nz (dQ u (cu p q).1)
 obtain⟨b,c,_⟩:=dg_mul' hw hq (r:=dQ (md p q) v) (λx=>by
  rw[cP,cP];grind)
 have a:∀r,(nz r->dg r< dg q)->∀i,dg q<=i->coP r i=0:=λr e i g=>by
  by_cases a:nz r;exact(fZ a).1.2 i φ;exact trim_nil_iff.1 (Decidable.byContradiction a) i
 have:=(fZ b).1.1;rw[pf] at this;grind;intro x;have:=jm hw x;rw[cP] at this;grind
end
theorem mT{p:Lq}(h:nz p):aI p≠0:=dd h
def Dv(d p:Lq):Prop:=∃u,∀x,an p x=an u x* an d x
theorem iv{p q r:Lq}(h:∀x,an r x=an p x* an q x)(hr:nz r):nz p/\nz q:=by
 constructor;intro e;have a:¬nz p:=λh=>h e;exact absurd rfl ((DS (q:=[]) λx=>by rw[h,jm a,aZ];grind).1 hr);intro e;have a:¬nz q:=λh=>h e;exact absurd rfl ((DS (q:=[]) λx=>by rw[h,jm a,aZ];grind).1 hr)


theorem A1{p:Lq}(h:nz p):dt p=(dg p:Int):=by
 have:=List.length_pos_iff.2 h;unfold dt dg;omega
theorem iw{p:Lq}(h:nz p):(∀x,an (ce p) x=an p x* (1/ aI p))/\nz (ce p)/\dg (ce p)=dg p:=by
 have hl:=mT h;have e:∀x,an (ce p) x=an p x* (1/ aI p):=λx=>by unfold ce;rw[if_neg h,bH]
 have hk:1/ aI p≠0:=λe=>by have:1/ aI p* aI p=1:=φ
                           rw[e] at this;grind
 obtain⟨a,b,_⟩:=jQ h hk e;exact⟨e,a,b⟩
theorem ta:qs 1=1:=δ
theorem rp{p:Lq}{t:Nat}(h:bdL p t)(ht:1<=t):qs (aI p)<=t:=by
 by_cases h0:ap p=[];rw[tn h0];exact Nat.le_trans (by decide:qs 0<=1) ht;have a:=List.length_pos_iff.2 h0;exact h _ (cz (List.mem_of_getElem? (dj (n:=(ap p).length- 1) ω)))
theorem lV{p:Lq}{k:Rat}(hk:k≠0):(ap (aR p k)).length=(ap p).length:=by
 by_cases h:nz p;obtain⟨a,b,_⟩:=jQ h hk (r:=aR p k) λx=>bH p k x;have d:=List.length_pos_iff.2 a;have c:=List.length_pos_iff.2 h;unfold dg at b;omega;have e:ap p=[]:=Classical.byContradiction h
 have e2:ap (aR p k)=[]:=by
  have:Eqv (aR p k) []:=λx=>by rw[bH,jm h,aZ];grind
  exact eqv_trim.1 this
 rw[e,e2]
def lag(v:Lq):Nat->Rat
 |0=>0
 |m+1=>coP v m
theorem CU(v:Lq)(c:Rat)(n:Nat):coP (aT v [c,1]) n=coP v n* c+lag v n:=by
 have e:ap (aT v [c,1])=ap (aT [c,1] v):=iV λx=>by rw[a8,a8];grind
 rw[trim_iff.1 e n,pg];show coP (qE (lI v c) (0::qE (lI v 1) (0::[]))) n=_;rw[jT,ij];cases n with
 |zero=>rw[dC];rfl
 |succ m=>
  rw[du,jT,ij];have:coP [(0:Rat)] m=0:=by cases m <;> rfl
  rw[this];show _+(coP v m* 1+0)=_+coP v m;grind
theorem rl{v:Lq}{c:Rat}{B t:Nat}(hv:bdL v B)(hB:1<=B)(hc:qs c<=t):bdL (aT v [c,1]) (2* B+t+1):=
 fP λi=>by
  rw[CU];have d:=ej hv hB i;have a:=cx (coP v i) c;have e:=e9 (coP v i* c) (lag v i)
  have b:qs (lag v i)<=B:=by
   cases i with
   |zero=>exact Nat.le_trans (by decide:qs 0<=1) hB
   |succ m=>exact ej hv hB m
  omega
theorem jD(v:Lq)(c:Rat):(aT v [c,1]).length<=v.length+1:=by
 by_cases h:v=[];subst h;unfold aT;simp;have:=yA v [c,1] h;simpa using this
theorem gS(p:Lq):(aM p).length<=p.length+1:=by
 have:=bh (aN (p.length+1) λi=>if i=0 then 0 else coP p (i- 1) / ((i:Nat):Int));simp at this;unfold aM;omega
theorem IY(p q:Lq):(dQ p q).length<=max p.length q.length:=by
 have a:=jX p (aR q (-1));have b:=dW q (-1);unfold dQ;omega
theorem lb{l:Lq}{a b:Nat}(h:bdL l a)(hab:a<=b):bdL l b:=λq c=>Nat.le_trans (h q c) hab
def pd:Nat->Nat->List UInt8
 |0,_=>[]
 |k+1,n=>pd k (n/ 10)++[UInt8.ofNat (48+n % 10)]
theorem yp(k n:Nat):(pd k n).length=k:=by
 induction k generalizing n with
 |zero=>rfl
 |succ k a=>rw[pd,List.length_append,a];rfl
theorem JB(j k n:Nat):pd (j+k) n=pd j (n/ 10^ k)++pd k n:=by
 induction k generalizing n with
 |zero=>rw[Nat.add_zero,Nat.pow_zero,Nat.div_one];simp[pd]
 |succ k a=>rw[<-Nat.add_assoc,pd,pd,a,Nat.div_div_eq_div_mul,Nat.pow_succ,Nat.mul_comm 10,List.append_assoc]
theorem pd_mod(k n:Nat):pd k (n % 10^ k)=pd k n:=by
 induction k generalizing n with
 |zero=>rfl
 |succ k a=>
  rw[pd,pd,Nat.pow_succ]
  have e1:n % (10^ k* 10) / 10=n/ 10 % 10^ k:=by
   rw[Nat.mul_comm,Nat.mod_mul_right_div_self]
  have e2:n % (10^ k* 10) % 10=n % 10:=by rw[Nat.mod_mul_left_mod]
  rw[e1,e2,a]
theorem Jz(k n:Nat):pd (k+1) n=UInt8.ofNat (48+n/ 10^ k % 10)::pd k n:=by
 rw[Nat.add_comm,JB];rfl
theorem F2(k:Nat):pd k 0=List.replicate k 48:=by
 induction k with
 |zero=>rfl
 |succ k a=>rw[pd,a,List.replicate_succ'];rfl
def kZ:List UInt8->List UInt8
 |[]=>[]
 |c::l=>if c=48 then kZ l else c::l
theorem AP{a b:List UInt8}(h:kZ a≠[]):kZ (a++b)=kZ a++b:=by
 induction a with
 |nil=>exact absurd rfl h
 |cons c a d=>
  rw[List.cons_append,kZ,kZ];rw[kZ] at h;by_cases hc:c=48;rw[if_pos hc] at h;rw[if_pos hc,if_pos hc,d h];rw[if_neg hc,if_neg hc];rfl
theorem CH(k:Nat)(l:List UInt8):kZ (List.replicate k 48++l)=kZ l:=by
 induction k with
 |zero=>rfl
 |succ k a=>rw[List.replicate_succ,List.cons_append,kZ,if_pos rfl,a]
theorem dig_ne{n:Nat}(h0:n≠0)(h:n< 10):UInt8.ofNat (48+n)≠48:=by
 have:∀n,n< 10->n≠0->UInt8.ofNat (48+n)≠48:=δ
 exact this n h h0
theorem si(n:Nat):Lib.decDigits n≠[]:=by
 intro e;have a:=Lib.decDigits_length n;rw[e] at a;have:=Lib.nDigits_pos n;simp at a;omega
theorem CI:∀(k n:Nat),0< n->n< 10^ k->kZ (pd k n)=Lib.decDigits n
 |0,n,h,h2=>by rw[Nat.pow_zero] at h2;omega
 |k+1,n,h,h2=>by
  rw[pd,Lib.decDigits];by_cases h10:n< 10;rw[dif_pos h10,Nat.div_eq_of_lt h10,F2,CH,Nat.mod_eq_of_lt h10,kZ,if_neg (dig_ne ω h10)];rw[dif_neg h10];have a:=CI k (n/ 10) ω (by rw[Nat.pow_succ] at h2;omega);rw[AP (by rw[a];exact si _),a]
theorem y6:∀(k a b:Nat),0< a->b< 10^ k->Lib.decDigits (a* 10^ k+b)=Lib.decDigits a++pd k b
 |0,a,b,h,hb=>by
  have:b=0:=by rw[Nat.pow_zero] at hb;omega
  subst this;simp[pd]
 |k+1,a,b,h,hb=>by
  have hp:1<=10^ k:=Nat.one_le_pow _ _ δ;have c:1<=a* 10^ k:=Nat.mul_le_mul h hp;have e:a* 10^ (k+1)+b=(a* 10^ k) * 10+b:=by rw[Nat.pow_succ,Nat.mul_assoc]
  rw[e,Lib.decDigits,dif_neg ω,show(a* 10^ k* 10+b) / 10=a* 10^ k+b/ 10 by omega,show(a* 10^ k* 10+b) % 10=b % 10 by omega,y6 k a (b/ 10) h (by rw[Nat.pow_succ] at hb;omega),pd,List.append_assoc]
theorem JA:∀(k n:Nat),0< n->n< 10^ k->pd k n=List.replicate (k- (Lib.decDigits n).length) 48++Lib.decDigits n
 |0,n,h,h2=>by rw[Nat.pow_zero] at h2;omega
 |k+1,n,h,h2=>by
  rw[pd,Lib.decDigits];by_cases h10:n< 10;rw[dif_pos h10,Nat.div_eq_of_lt h10,F2,Nat.mod_eq_of_lt h10];rfl;rw[dif_neg h10,JA k (n/ 10) ω (by rw[Nat.pow_succ] at h2;omega),List.length_append,List.append_assoc];congr 2;simp
section
variable {p:Lq}{s:Nat}
theorem bd_co'(h:bdL p s)(hs:1<=s):∀i,qs (coP p i)<=s:=λi=>ej h hs i
theorem xH{k:Rat}(h:bdL p s)(hs:1<=s):bdL (aR p k) (s+qs k):=fP λi=>by
 rw[cJ];have:=cx (coP p i) k;have:=bd_co' h hs i;omega
theorem G6(h:bdL p s)(hs:1<=s):bdL (aR p (-1)) s:=fP λi=>by
 rw[cJ,show coP p i* (-1)= -coP p i by grind,dJ];exact bd_co' h hs i
theorem xI{q:Lq}{t:Nat}(hp:bdL p s)(hq:bdL q t)(hs:1<=s)(ht:1<=t):bdL (fR p q) (s+t+1):=fP λi=>by
 rw[ic];have:=e9 (coP p i) (coP q i);have:=bd_co' hp hs i;have:=bd_co' hq ht i;omega
theorem Lr{q:Lq}{t:Nat}(hp:bdL p s)(hq:bdL q t)(hs:1<=s)(ht:1<=t):bdL (dQ p q) (s+t+1):=xI hp (G6 hq ht) hs ht
theorem sE(h:bdL p s):bdL (ap p) s:=λq a=>h q (cz a)
def shP(i:Nat)(v:Lq):Lq:=List.replicate i 0++v
theorem kL(i:Nat)(v:Lq):(shP i v).length=i+v.length:=by simp[shP]
theorem Bt(i:Nat)(v:Lq):shP (i+1) v=0::shP i v:=by simp[shP,List.replicate_succ]
theorem CA(v:Lq)(x:Rat):∀i,an (shP i v) x=an v x* x^ i
 |0=>by simp[shP]
 |i+1=>by
  rw[Bt,aO,CA v x i,Rat.pow_succ];grind
theorem qw(v:Lq)(i n:Nat):coP (shP i v) n=if n< i then 0 else coP v (n- i):=by
 induction i generalizing n with
 |zero=>simp[shP]
 |succ i a=>
  rw[Bt];cases n with
  |zero=>rw[dC,if_pos ω]
  |succ n=>
   rw[du,a,Nat.add_sub_add_right];by_cases h:n< i;rw[if_pos h,if_pos ω];rw[if_neg h,if_neg ω]
def mR(p q:Lq):Nat->Lq
 |0=>[]
 |n+1=>fR (mR p q n) (shP n (aR p (coP q n)))
theorem CB(p q:Lq)(x:Rat):∀n,n<=q.length->an (mR p q n) x=an p x* an (q.take n) x
 |0,_=>by simp[mR,aZ]
 |n+1,h=>by
  rw[mR,fq,CB p q x n ω,CA,bH,pU q x n ω];grind
theorem trim_mR(p q:Lq):∀n,ap (mR p q n)=mR p q n
 |0=>rfl
 |n+1=>b6 _
theorem Hh(p q:Lq):ap (aT p q)=aT p q:=by
 unfold aT;split;rfl;exact b6 _
theorem Ag(p q:Lq):mR p q q.length=aT p q:=by
 rw[<-trim_mR,<-Hh];refine iV λx=>?_;rw[CB p q x _ (Nat.le_refl _),List.take_length,a8]
theorem DZ(p q:Lq):∀n,(mR p q n).length<=n+p.length
 |0=>Nat.zero_le _
 |n+1=>by
  have b:=DZ p q n;have a:=jX (mR p q n) (shP n (aR p (coP q n)));have c:=dW p (coP q n);rw[kL] at a;rw[mR];omega
theorem JP{p q:Lq}{s t:Nat}(hp:bdL p s)(hq:bdL q t)(hs:1<=s)(ht:1<=t):∀n,bdL (mR p q n) (n* (s+t+1)+1)
 |0=>λ_ h=>by cases h
 |n+1=>fP λi=>by
  rw[mR,ic,qw,Nat.succ_mul];have b:=bd_co' (JP hp hq hs ht n) ω i;have a:=bd_co' hq ht n
  have c:qs (if i< n then 0 else coP (aR p (coP q n)) (i- n))<=s+t:=by
   split;have:qs 0=1:=δ
   omega;rw[cJ];have:=cx (coP p (i- n)) (coP q n);have:=bd_co' hp hs (i- n);omega
  have:=e9 (coP (mR p q n) i) (if i< n then 0 else coP (aR p (coP q n)) (i- n));omega
theorem u0{p:Lq}{a:Rat}{d:Nat}:∀n,n<=d->mR p (shP d [a]) n=[]
 |0,_=>rfl
 |n+1,h=>by
  rw[mR,u0 n ω];refine trim_nil_iff.2 λi=>?_;have b:coP (shP d [a]) n=0:=by rw[qw,if_pos ω]
  have c:coP (aN (max ([]:Lq).length (shP n (aR p (coP (shP d [a]) n))).length) λi=>coP [] i+coP (shP n (aR p (coP (shP d [a]) n))) i) i=coP [] i+coP (shP n (aR p (coP (shP d [a]) n))) i:=by
   rw[<-cj];exact ic _ _ i
  rw[c,nm,qw,cJ,b];split <;> grind
theorem wB{a:Rat}{d:Nat}(hp:bdL p s)(hs:1<=s)(n:Nat)(hn:n<=d+1):bdL (mR p (shP d [a]) n) (s+qs a+2):=by
 by_cases h:n<=d;rw[u0 n h];exact λ_ h=>by cases h
 have:n=d+1:=ω
 subst this;refine fP λi=>?_;rw[mR,ic,u0 d (Nat.le_refl _),nm,Rat.zero_add,qw];split;have:qs 0=1:=δ
 omega;rw[cJ,qw,if_neg ω,Nat.sub_self,dC];have:=cx (coP p (i- d)) a;have:=bd_co' hp hs (i- d);omega
end
theorem K9(d:Lq)(a:Rat)(k j:Nat):coP (aT d (shP k [a])) j=if j< k then 0 else coP d (j- k) * a:=by
 have e:mR d (shP k [a]) (shP k [a]).length=aT d (shP k [a]):=Ag _ _;rw[<-e,show(shP k [a]).length=k+1 by rw[kL];rfl,mR,ic,u0 k (Nat.le_refl _),nm,Rat.zero_add,qw,cJ,qw,if_neg (Nat.lt_irrefl k),Nat.sub_self,dC]
theorem BW{v:Lq}{n:Nat}(h:ap v=v)(hn:v.length=n+1):coP v n=aI v:=by
 have:=dj (l:=v) (n:=n) (by rw[h];exact hn);rw[h,ci ω] at this;exact Option.some.inj this
theorem IZ{v d:Lq}(hv:ap v=v)(hd:ap d=d)(hd0:d≠[])(hl:d.length<=v.length):(dQ v (aT d (shP (v.length- d.length) [aI v/ aI d]))).length< v.length:=by
 have g:=List.length_pos_iff.2 hd0;obtain⟨m,c⟩:∃m,d.length=m+1:=⟨d.length- 1,ω⟩;obtain⟨n,i⟩:∃n,v.length=n+1:=⟨v.length- 1,ω⟩;have b:aI d≠0:=dd (by rw[hd];exact hd0)
 have a:∀j,n<=j->coP (dQ v (aT d (shP (v.length- d.length) [aI v/ aI d]))) j=0:=λj k=>by
  rw[pf,K9,if_neg ω];by_cases h:j=n;subst h;rw[BW hv i,show j- (v.length- d.length)=m by omega,BW hd c];grind;rw[ee (p:=v) ω,ee (p:=d) ω];grind
 have f:=qI a;have e:ap (dQ v (aT d (shP (v.length- d.length) [aI v/ aI d])))=dQ v (aT d (shP (v.length- d.length) [aI v/ aI d])):=b6 _;rw[e] at f;omega
theorem Hg(p q:Lq):ap (dQ p q)=dQ p q:=b6 _
theorem FD{v d:Lq}{b t:Nat}(hv:bdL v b)(hd:bdL d t)(hb:1<=b)(ht:1<=t)(hd0:d≠[])(k:Nat):qs (aI v/ aI d)<=b+t/\bdL (aT d (shP k [aI v/ aI d])) (2* t+b+2)/\bdL (dQ v (aT d (shP k [aI v/ aI d]))) (2* b+2* t+3):=by
 have e:=rp hv hb;have f:=rp hd ht;have g:=fL (aI v) (aI d)
 have c:bdL (aT d (shP k [aI v/ aI d])) (2* t+b+2):=by
  have:=wB (a:=aI v/ aI d) (d:=k) hd ht (k+1) (Nat.le_refl _);rw[show k+1=(shP k [aI v/ aI d]).length by rw[kL];rfl,Ag] at this;exact lb this ω
 exact⟨ω,c,lb (Lr hv c hb ω) ω⟩
theorem Ls{v:Lq}{b:Nat}(h:bdL v b)(hb:1<=b)(k:Nat):bdL (shP k v) b:=λq c=>by
 rcases List.mem_append.1 c with a|a
 rw[List.eq_of_mem_replicate a];have:qs 0=1:=δ
 omega;exact h q a
theorem IP(p q:Lq):ap (cu p q).1=(cu p q).1/\ap (cu p q).2=(cu p q).2:=⟨b6 _,b6 _⟩
theorem KY{p q u v:Lq}(hq:nz q)(h:∀x,an p x=an u x* an q x+an v x)(hv:(ap v).length< (ap q).length):ap u=(cu p q).1/\ap v=(cu p q).2:=by
 have g:=List.length_pos_iff.2 hq
 have b:nz v->dg v< dg q:=λa=>by
  have:=List.length_pos_iff.2 a;unfold dg;omega
 have e:=oV hq h b;obtain⟨c,_⟩:=iP p hq;obtain⟨t1,t2⟩:=IP p q;refine⟨?_,by rw[<-eqv_trim.1 e];exact t2⟩;rw[<-t1]
 have a:¬nz (dQ u (cu p q).1):=λf=>by
  have d:=dg_mul' f hq (r:=[]) (λx=>by
   have:=h x;have:=c x;have:=e x;rw[cP,aZ];grind)
  exact absurd rfl d.1
 refine iV λx=>?_;have:=jm a x;rw[cP] at this;grind
end Go.Abs
