/- Part Y13 of the proof. -/
import Derived.Test.YtjgokhkahkmpbaaGreatDoorY12
set_option linter.all false
namespace Go.Abs
abbrev RQ:=Rat×Bool
def rok(x:RQ):Prop:=x.2=true->x.1=0
def rC(x:RQ):La:=zZ x.1.num++zZ (if x.2 then 0 else(x.1.den:Int))
def rq(q:Rat):RQ:=(q,false)
def r0:RQ:=(0,true)
theorem ft(q:Rat):rok (rq q):=λh=>by cases h
theorem rok_r0:rok r0:=λ_=>rfl
@[simp] theorem rC_length (x:RQ):(rC x).length=4:=rfl
theorem fi(x:RQ):∀c∈rC x,Closed c:=λc hc=>(List.mem_append.1 hc).elim (dV _ c) (dV _ c)
theorem gr(x:RQ):Closed (.agg (rC x)):=aN (fi x)
theorem Gf(q:Rat):rC (rq q)=zZ q.num++zZ (q.den:Int):=rfl
theorem rC_r0:rC r0=[i64 0,.arr [],i64 0,.arr []]:=by
 show zZ 0++zZ 0=_;rw[CR];rfl
def rE(l:List RQ):Lc:=l.map rC
@[simp] theorem vX (l:List RQ):(rE l).length=l.length:=by simp[rE]
theorem mh{l:List RQ}{i:Nat}{q:RQ}(h:l[i]?=some q):(rE l)[i]?=some (rC q):=by simp[rE,h]
theorem rE_take(l:List RQ)(k:Nat):(rE l).take k=rE (l.take k):=by simp[rE]
theorem qz(l m:List RQ):rE (l++m)=rE l++rE m:=by simp[rE]
theorem rE_set(l:List RQ)(i:Nat)(q:RQ):(rE l).set i (rC q)=rE (l.set i q):=by simp[rE,List.map_set]
theorem cS(l:List RQ):(rE l).all (·.all AV.one)=true:=by
 simp only[rE,List.all_map,List.all_eq_true];intro q _;rfl
theorem jf(l:List RQ):∀e∈rE l,e.length=4:=by
 intro e he;obtain⟨q,_,rfl⟩:=List.mem_map.1 he;rfl
theorem b8(l:List RQ):∀e∈rE l,∀c∈e,Closed c:=by
 intro e he c hc;obtain⟨q,_,rfl⟩:=List.mem_map.1 he;exact fi q c hc
theorem bp(l:List RQ):Closed (.arr (rE l)):=aU (b8 l)
theorem AEval.lenR{P:Program}{id:Nat}{ev:Operand->Option AV}{hp:Hq}{c:Call}{x:Operand}{T:Nat}{d:Nat×Nat}{l:List RQ}(hc:c.callee= .builtin .len)(ha:c.args= #[x])(ht:c.argTypes= #[T])(hx:ev x=some (.arr (rE l)))(he:eg P T=some d):
    AEval P id ev hp (.call c) ⟨.v (.int .i64 (l.length:Nat)),[]⟩ []:= .len hc ha ht hx (by simp[qN]) he
theorem Ee{n:Int}{d:Nat}(hd:0< d):sgZ (mkRat n d).num=sgZ n:=by
 rw[jp hd];have hg:0< Nat.gcd n.natAbs d:=Nat.gcd_pos_of_pos_right _ hd;have h1:n≠0->0< n.natAbs/ Nat.gcd n.natAbs d:=λh=>Nat.div_pos (Nat.gcd_le_left _ ω) hg;unfold sgZ sgn;by_cases h0:n=0;subst h0;simp;have:=h1 h0;by_cases hn:n< 0;simp[hn,h0];omega;simp[hn,h0];omega
theorem oq(n d:Int)(hd:d< 0):Rat.divInt n d=mkRat (-n) d.natAbs:=by
 obtain⟨m,rfl⟩:∃m:Nat,d=Int.negSucc m:=⟨d.natAbs- 1,ω⟩;rfl
theorem oo(n d:Int)(hd:0< d):Rat.divInt n d=mkRat n d.natAbs:=by
 obtain⟨m,rfl⟩:∃m:Nat,d=(m:Int):=⟨d.natAbs,ω⟩;rfl
theorem uI(a b:Rat):a/ b=Rat.divInt (a.num* b.den) (a.den* b.num):=by
 rw[Rat.div_def,Rat.inv_def]
 conv=>lhs;rw[<-Rat.num_divInt_den a]
 rw[Rat.divInt_mul_divInt]
abbrev nQ(n:Nat):Rat:=((n:Int):Rat)
theorem nQ_eq(n:Nat):nQ n=mkRat n 1:=(Rat.mkRat_one n).symm
theorem nQ_zero{n:Nat}:nQ n=0↔n=0:=ψ
theorem nS{n k:Nat}(h:bl n<=k)(hk:1<=k):qs (nQ n)<=k:=by
 refine Nat.max_le.2 ⟨?_,?_⟩;show bl ((n:Int)).natAbs<=k;rwa[Int.natAbs_natCast];show bl 1<=k;rw[ko];grind
theorem GF(a b:Nat):nQ a* nQ b=nQ (a* b):=φ
theorem nQ_sub{a b:Nat}(h:b<=a):nQ a- nQ b=nQ (a- b):=by
 rw[<-Rat.intCast_sub];congr 1;omega
theorem Bz(a b:Nat)(hb:b≠0):nQ a/ nQ b=mkRat a b:=by
 rw[uI];simp
theorem Ex(a b:Nat)(hb:b≠0)(h:b∣a):mkRat a b=nQ (a/ b):=by
 obtain⟨k,rfl⟩:=h;rw[Nat.mul_div_cancel_left _ ω,nQ_eq,Rat.mkRat_eq_iff hb δ,Int.natCast_mul,Int.mul_comm (b:Int)];simp
theorem zD(a b:Nat)(hb:b≠0):(mkRat a b).floor=((a/ b:Nat):Int):=by
 have h:=kH (n:=(a:Int)) (d:=b) ω;rw[Int.natAbs_natCast] at h;rw[Rat.floor_def,h.1,h.2,<-Int.natCast_ediv,<-Int.natCast_ediv,Nat.div_div_eq_div_mul,Nat.mul_div_cancel' (Nat.gcd_dvd_right a b)]
def uM:Lq->Nat->Nat
 |[],d=>d
 |c::l,d=>uM l (Nat.lcm d c.den)
def sj(c:Rat)(D:Nat):Nat:=c.num.natAbs* (D/ c.den)
def Er(D:Nat):Lq->Nat->Nat
 |[],n=>n
 |c::l,n=>Er D l (Nat.gcd n (sj c D))
def eD(p:Lq):Lq:=cI (aA p) (nQ (uM (aA p) 1) / nQ (Er (uM (aA p) 1) (aA p) 0))
def xk(p:Lq):Prop:=(p.length+4) * mxL p<=34359738368/\p.length<=274877906944
instance (p:Lq):Decidable (xk p):=inferInstanceAs (Decidable (_/\_))
theorem Dz{a b:Nat}(ha:a≠0)(hb:b≠0):Nat.lcm a b≠0:=by simp_all
theorem DW:∀(l:Lq) {d:Nat},d≠0->uM l d≠0
 |[],_,h=>h
 |c::l,_,h=>DW l (Dz h c.den_nz)
theorem uL:∀(l:Lq) (d:Nat),d∣uM l d/\∀c∈l,c.den∣uM l d
 |[],d=>⟨Nat.dvd_refl d,λ_ h=>by cases h⟩
 |c::l,d=>by
  obtain⟨h1,h2⟩:=uL l (Nat.lcm d c.den);refine⟨Nat.dvd_trans (Nat.dvd_lcm_left d c.den) h1,λx hx=>?_⟩;rcases List.mem_cons.1 hx with rfl|hx
  exact Nat.dvd_trans (Nat.dvd_lcm_right d x.den) h1;exact h2 x hx
theorem bl_lcm(a b:Nat):bl (Nat.lcm a b)<=bl a+bl b:=
 Nat.le_trans (eP _ _) (gV a b)
theorem DX{s:Nat}:∀(l:Lq) (d:Nat),bdL l s->bl (uM l d)<=bl d+l.length* s
 |[],d,_=>by simp[uM]
 |c::l,d,h=>by
  have h1:=DX l (Nat.lcm d c.den) λq hq=>h q (List.mem_cons_of_mem _ hq);have h2:=bl_lcm d c.den;have h3:=dp c;have h4:=h c (List.mem_cons_self ..);rw[List.length_cons,Nat.add_mul];unfold uM;omega
theorem GM(c:Rat)(D:Nat)(h:c.den∣D):c8 (c* nQ D)=nQ (sj c D):=by
 obtain⟨k,rfl⟩:=h;have hd:=c.den_nz
 have e:c* nQ (c.den* k)=((c.num* (k:Int):Int):Rat):=by
  rw[nn];show mkRat (c.num* ((c.den* k:Nat):Int)) (c.den* 1)=_;rw[show((c.num* (k:Int):Int):Rat)=mkRat (c.num* k) 1 from(Rat.mkRat_one _).symm,Rat.mkRat_eq_iff ω δ];grind
 rw[e];unfold c8 sj;show mkRat (((c.num* (k:Int)).natAbs:Nat):Int) 1=_;rw[Nat.mul_div_cancel_left _ ω,Int.natAbs_mul,Int.natAbs_natCast,nQ_eq]
theorem zv(D:Nat):∀(l:Lq) (n:Nat),Er D l n∣n/\∀c∈l,Er D l n∣sj c D
 |[],n=>⟨Nat.dvd_refl n,λ_ h=>by cases h⟩
 |c::l,n=>by
  obtain⟨h1,h2⟩:=zv D l (Nat.gcd n (sj c D));refine⟨Nat.dvd_trans h1 (Nat.gcd_dvd_left _ _),λx hx=>?_⟩;rcases List.mem_cons.1 hx with rfl|hx
  exact Nat.dvd_trans h1 (Nat.gcd_dvd_right _ _);exact h2 x hx
theorem intC_ne{c:Rat}{D:Nat}(h:c.den∣D)(hD:D≠0)(hc:c≠0):sj c D≠0:=by
 obtain⟨k,rfl⟩:=h;unfold sj;rw[Nat.mul_div_cancel_left _ c.den_pos];have h1:c.num≠0:=λe=>hc (Rat.num_eq_zero.1 e);refine Nat.mul_ne_zero ω λe=>hD φ
theorem DD(c:Rat)(D:Nat):bl (sj c D)<=qs c+bl D:=by
 have h1:=gV c.num.natAbs (D/ c.den);have h2:=eP D c.den;have h3:=dB c;unfold sj;omega
theorem se(p:Lq):(fc p).length<=p.length- 1:=by
 have:=cv (aH (p.length- 1) λi=>coP p (i+1) * ((i+1:Nat):Int));simpa[fc] using this
def sqfM(f:Nat)(p:Lq):Option Lq:=
 if smL p/\p.length<=274877906944 then(ED f p (fc p)).bind λg=>if aA g≠[]/\zr p g then some (j7 (kj p g).1) else none
 else none
def boL(lead:Rat):Lq->Rat->Rat
 |[],m=>m
 |c::l,m=>boL lead l (oc [m,c8 (c/ lead)])
def iY(p:Lq):Rat:=boL (bu p) ((aA p).take ((aA p).length- 1)) 0+1
def sH(p:Lq):Prop:=mxL p<=34359738368/\p.length<=274877906944
instance (p:Lq):Decidable (sH p):=inferInstanceAs (Decidable (_/\_))
def lu(p:Lq):Int:=if db p< 0 then 10 else if 40< db p then 5 else 0
theorem qs_abs(q:Rat):qs (c8 q)=qs q:=by
 unfold qs;rw[AT,AU,Int.natAbs_natCast]
theorem maxL_le{l:Lq}{n:Nat}(h:bdL l n)(hn:1<=n):qs (oc l)<=n:=by
 unfold oc
 have key:∀(bf:Int->Bool) (l:Lq) (o:Rat),qs o<=n->bdL l n->qs (l.foldl (λo y=>if bf (dr y o) then y else o) o)<=n:=by
  intro bf l
  induction l with
  |nil=>intro o ho _;exact ho
  |cons y l ih=>
   intro o ho hl;refine ih _ ?_ λq hq=>hl q (List.mem_cons_of_mem _ hq);show qs (if bf (dr y o)=true then y else o)<=n;split;exact hl y (List.mem_cons_self ..);exact ho
 cases l with
 |nil=>exact Nat.le_trans (by decide:qs 0<=1) hn
 |cons x l=>exact key (λc=>decide (0< c)) l x (h x (List.mem_cons_self ..)) λq hq=>h q (List.mem_cons_of_mem _ hq)
theorem BI(p:Lq):bu (aA p)=bu p:=by unfold bu;rw[ju]
def chL:List Int->Int->Int->Int
 |[],n,_=>n
 |s::l,n,last=>if s≠0 then chL l (if s= -last then n+1 else n) s else chL l n last
def yp(f:Nat):Nat->Lq->Lq->Lw->Option Lw
 |0,_,_,_=>none
 |k+1,last,next,acc=>
  if aA next=[] then some acc
  else if xk next/\zr last (eD next)/\aA (eD next)≠[] then yp f k (eD next) (cI (kj last (eD next)).2 (-1)) (acc++[eD next])
  else none
def Ba(f:Nat)(p:Lq):Option Lw:=
 if smL p/\xk p/\aA p≠[] then yp f f (eD p) (fc p) [eD p] else none
def cE(l:Lw):Lc:=l.map λp=>[.arr (pE p)]
@[simp] theorem cE_length (l:Lw):(cE l).length=l.length:=by simp[cE]
theorem vg{l:Lw}{i:Nat}{p:Lq}(h:l[i]?=some p):(cE l)[i]?=some [.arr (pE p)]:=by simp[cE,h]
theorem cW(l:Lw):(cE l).all (·.all AV.one)=true:=by
 simp only[cE,List.all_map,List.all_eq_true];intro q _;rfl
theorem eO(l:Lw):∀e∈cE l,∀c∈e,Closed c:=by
 intro e he c hc;obtain⟨q,_,rfl⟩:=List.mem_map.1 he;rw[List.mem_singleton.1 hc];exact aq q
theorem fH(l:Lw):Closed (.arr (cE l)):=aU (eO l)
theorem yr(l:Lw)(p:Lq):cE (l++[p])=cE l++[[.arr (pE p)]]:=by simp[cE]
theorem AEval.lenC{P:Program}{id:Nat}{ev:Operand->Option AV}{hp:Hq}{c:Call}{x:Operand}{T:Nat}{d:Nat×Nat}{l:Lw}(hc:c.callee= .builtin .len)(ha:c.args= #[x])(ht:c.argTypes= #[T])(hx:ev x=some (.arr (cE l)))(he:eg P T=some d):
    AEval P id ev hp (.call c) ⟨.v (.int .i64 (l.length:Nat)),[]⟩ []:= .len hc ha ht hx (by simp[qN]) he
structure Cnt where
 p:Lq
 ch:Lw
 far:Int
def kC(c:Cnt):La:=[.arr (pE c.p),.arr (cE c.ch),i64 c.far]
abbrev kA(c:Cnt):AV:= .aptr [kC c] 0 0
theorem wB(c:Cnt):∀x∈kC c,Closed x:=ae (aq _) (ae (fH _) (ae (ag _) ai))
theorem gu(c:Cnt):Closed (kA c):=aW (wB c)
def sgI(q:Lq):Int:=if db q % 2=1 then -sgZ (bu q).num else sgZ (bu q).num
def sgE(x:Rat)(q:Lq):Int:=sgZ (aO q x).num
theorem w4(z:Int): -1<=sgZ z/\sgZ z<=1:=by
 unfold sgZ;split;omega;split <;> omega
theorem sgI_abs(q:Lq): -1<=sgI q/\sgI q<=1:=by
 have:=w4 (bu q).num;unfold sgI;split <;> omega
theorem vd:∀(l:List Int) (n last:Int),n<=chL l n last/\chL l n last<=n+l.length
 |[],n,_=>⟨Int.le_refl _,by simp[chL]⟩
 |s::l,n,last=>by
  unfold chL;split;split;have:=vd l (n+1) s;simp only[List.length_cons];omega;have:=vd l n s;simp only[List.length_cons];omega;have:=vd l n last;simp only[List.length_cons];omega
def zt(c:Cnt):Prop:=(∀q∈c.ch,aA q≠[]/\q.length<=274877906944)/\c.ch.length<=274877906944/\c.far=chL (c.ch.map sgI) 0 0
instance (c:Cnt):Decidable (zt c):=inferInstanceAs (Decidable (_/\_/\_))
def fS(f:Nat)(p:Lq):Option Cnt:=
 (sqfM f p).bind λs=>(Ba f s).bind λch=>if zt ⟨s,ch,chL (ch.map sgI) 0 0⟩ then some ⟨s,ch,chL (ch.map sgI) 0 0⟩ else none
def fo(c:Cnt)(x:Rat):Int:=c.far- chL (c.ch.map (sgE x)) 0 0
def sh(c:Cnt)(x:Rat):Prop:=zt c/\∀q∈c.ch,ea q x
instance (c:Cnt) (x:Rat):Decidable (sh c x):=inferInstanceAs (Decidable (_/\_))
def cG(c:Cnt)(x:Rat):Int:=if aO c.p x=0 then fo c x- 1 else fo c x
def pv(c:Cnt)(x:Rat):Prop:=sh c x/\ea c.p x
instance (c:Cnt) (x:Rat):Decidable (pv c x):=inferInstanceAs (Decidable (_/\_))
def Fj(c:Cnt):Int:=fo c (iY c.p)
def GE(c:Cnt):Prop:=sH c.p/\aA c.p≠[]/\sh c (iY c.p)
instance (c:Cnt):Decidable (GE c):=inferInstanceAs (Decidable (_/\_/\_))
theorem oU{c:Cnt}{x:Rat}(h:zt c): -274877906944<=fo c x/\fo c x<=274877906944:=by
 have h1:=vd (c.ch.map sgI) 0 0;have h2:=vd (c.ch.map (sgE x)) 0 0;have h3:=h.2.1;rw[<-h.2.2] at h1;simp only[List.length_map] at h1 h2;unfold fo;omega
abbrev plA(c:Cnt)(i:Int):AV:= .aptr [[kA c,i64 i]] 0 0
theorem dh(c:Cnt)(i:Int):Closed (plA c i):=aW (ae (gu c) (ae (ag _) ai))
def plC(c:Cnt)(i:Int)(x:Rat):Int:=if i< cG c x then -1 else if cG c x=i/\cG c x< fo c x then 0 else 1
theorem Ff{c:Cnt}{x:Rat}(h:zt c): -274877906945<=cG c x/\cG c x<=274877906944:=by
 have:=oU (x:=x) h;unfold cG;split <;> omega
def biM(c:Cnt)(i:Int)(step:Rat):Nat->Rat->Rat->Option Rat
 |0,_,_=>none
 |f+1,lo,hi=>
  if sm lo/\sm hi/\sm (hi- lo) then
   if 0< dr (hi- lo) 1 then
    if qs (((lo+hi) / 2).floor:Rat)+qs step<=549755813888/\pv c ((((lo+hi) / 2).floor:Rat) * step) then
     if 0<=plC c i ((((lo+hi) / 2).floor:Rat) * step) then biM c i step f (((lo+hi) / 2).floor:Rat) hi
     else biM c i step f lo (((lo+hi) / 2).floor:Rat)
    else none
   else some lo
  else none
def inK(a v:Rat)(out zeros:Lq):Rat:=(v- aO out a) / aO zeros a
def okIn(a v:Rat)(out zeros:Lq):Prop:=sm a/\sm v/\ea out a/\ea zeros a/\aO zeros a≠0/\sm (inK a v out zeros)/\smL out/\smL zeros/\smL (cI zeros (inK a v out zeros))/\nT zeros [-a,1]/\out.length<=274877906944
instance (a v:Rat) (out zeros:Lq):Decidable (okIn a v out zeros):=inferInstanceAs (Decidable (_/\_/\_/\_/\_/\_/\_/\_/\_/\_/\_))
def zJ:Lq->Lq->Lq->Lq->Option Lq
 |[],_,out,_=>some out
 |_::_,[],_,_=>none
 |a::ps,v::vs,out,zeros=>if okIn a v out zeros then zJ ps vs (lR out (cI zeros (inK a v out zeros))) (ep zeros [-a,1]) else none
def qp:Lq->Lq->Bool
 |_,[]=>false
 |pre,a::l=>pre.any (λb=>decide (a=b))||qp (pre++[a]) l
section
variable {p q:Lq}
theorem yj(i:Nat):coP [] i=0:=rfl
theorem uV(a:Rat)(l:Lq):coP (a::l) 0=a:=rfl
theorem gT(a:Rat)(l:Lq)(i:Nat):coP (a::l) (i+1)=coP l i:=rfl
theorem kQ(l:Lq)(i:Nat):coP (aA l) i=coP l i:=by
 induction l generalizing i with
 |nil=>rfl
 |cons a l ih=>
  rw[eA];split
  ·rename_i h
   have h0:∀j,coP l j=0:=λj=>by rw[<-ih j,h];rfl
   split
   ·rename_i ha
    cases i with
    |zero=>rw[ha];rfl
    |succ i=>rw[gT,h0];rfl
   cases i with
   |zero=>rfl
   |succ i=>rw[gT,gT,h0];rfl
  cases i with
  |zero=>rfl
  |succ i=>rw[gT,gT,ih]
theorem jZ(n:Nat)(f:Nat->Rat)(i:Nat):coP (aH n f) i=if i< n then f i else 0:=by
 unfold coP aH;grind
theorem yk(p q:Lq)(i:Nat):coP (lR p q) i=coP p i+coP q i:=by
 unfold lR;rw[kQ,jZ];split;rfl
 ·rw[lJ ω,lJ ω];grind
theorem nF(p:Lq)(k:Rat)(i:Nat):coP (cI p k) i=coP p i* k:=by
 unfold cI;rw[kQ,jZ];split;rfl
 ·rw[lJ ω];grind
theorem coP_sub(p q:Lq)(i:Nat):coP (gz p q) i=coP p i- coP q i:=by
 unfold gz;rw[yk,nF];grind
theorem yJ(h:∀i,coP p i=coP q i):aA p=aA q:=by
 induction p generalizing q with
 |nil=>
  induction q with
  |nil=>rfl
  |cons b q ih=>
   have hb:b=0:=(h 0).symm;rw[eA,<-ih λi=>h (i+1),if_pos hb];rfl
 |cons a p ih=>
  cases q with
  |nil=>
   have ha:a=0:=h 0;rw[eA,ih (q:=[]) λi=>h (i+1),if_pos ha];rfl
  |cons b q=>
   have hab:a=b:=h 0;rw[eA,eA,ih (q:=q) λi=>h (i+1),hab]
theorem trim_iff:aA p=aA q↔∀i,coP p i=coP q i:=
 ⟨λh i=>by rw[<-kQ p,h,kQ],yJ⟩
theorem rc(x:Rat):aO [] x=0:=rfl
theorem cZ(a:Rat)(l:Lq)(x:Rat):aO (a::l) x=aO l x* x+a:=rfl
theorem uE(h:∀i,coP p i=0)(x:Rat):aO p x=0:=by
 induction p with
 |nil=>rfl
 |cons a p ih=>
  have ha:a=0:=h 0;rw[cZ,ih λi=>h (i+1)];grind
theorem nB(h:∀i,coP p i=coP q i)(x:Rat):aO p x=aO q x:=by
 induction p generalizing q with
 |nil=>exact(uE (λi=>(h i).symm) x).symm
 |cons a p ih=>
  cases q with
  |nil=>exact uE h x
  |cons b q=>
   have hab:a=b:=h 0;rw[cZ,cZ,ih (q:=q) λi=>h (i+1),hab]
theorem Co(p:Lq)(x:Rat):aO (aA p) x=aO p x:=nB (kQ p) x
def yB:Lq->Lq->Lq
 |[],q=>q
 |p,[]=>p
 |a::p,b::q=>(a+b)::yB p q
def w6(p:Lq)(k:Rat):Lq:=p.map (· * k)
def Ew:Lq->Lq->Lq
 |[],_=>[]
 |a::p,q=>yB (w6 q a) (0::Ew p q)
theorem AG(p q:Lq)(i:Nat):coP (yB p q) i=coP p i+coP q i:=by
 induction p generalizing q i with
 |nil=>rw[yB,yj];grind
 |cons a p ih=>
  cases q with
  |nil=>rw[yB,yj]; · grind
        grind
  |cons b q=>
   cases i with
   |zero=>rfl
   |succ i=>exact ih q i
theorem uX(p:Lq)(k:Rat)(i:Nat):coP (w6 p k) i=coP p i* k:=by
 induction p generalizing i with
 |nil=>show(0:Rat)=0* k;grind
 |cons a p ih=>
  cases i with
  |zero=>rfl
  |succ i=>exact ih i
theorem uH(p q:Lq)(x:Rat):aO (yB p q) x=aO p x+aO q x:=by
 induction p generalizing q with
 |nil=>rw[yB,rc];grind
 |cons a p ih=>
  cases q with
  |nil=>rw[yB,rc]; · grind
        grind
  |cons b q=>rw[yB,cZ,cZ,cZ];grind
theorem qe(p:Lq)(k x:Rat):aO (w6 p k) x=aO p x* k:=by
 induction p with
 |nil=>show(0:Rat)=0* k;grind
 |cons a p ih=>show aO (w6 p k) x* x+a* k=_;rw[cZ];grind
theorem uF(p q:Lq)(x:Rat):aO (Ew p q) x=aO p x* aO q x:=by
 induction p with
 |nil=>show(0:Rat)=0* _;grind
 |cons a p ih=>rw[Ew,uH,qe,cZ,cZ];grind
theorem wv(p q:Lq)(x:Rat):aO (lR p q) x=aO p x+aO q x:=by
 rw[<-uH];exact nB (λi=>by rw[yk,AG]) x
theorem sa(p:Lq)(k x:Rat):aO (cI p k) x=aO p x* k:=by
 rw[<-qe];exact nB (λi=>by rw[nF,uX]) x
theorem E2(p q:Lq)(x:Rat):aO (gz p q) x=aO p x- aO q x:=by
 unfold gz;rw[wv,sa];grind
def iI(p q:Lq):Nat->Nat->Rat
 |0,_=>0
 |i+1,n=>iI p q i n+(if i<=n then coP p i* coP q (n- i) else 0)
theorem AD(o:Lq)(a:Rat)(q:Lq)(i:Nat)(h:∀k,k< q.length->i+k< o.length):∀k n,k<=q.length->coP (jC o a q i k) n=coP o n+(if i<=n/\n< i+k then a* coP q (n- i) else 0)
 |0,n,_=>by show coP o n=_;grind
 |k+1,n,hk=>by
  rw[jC,rn,y7];by_cases hn:n=i+k;subst hn;rw[if_pos ⟨rfl,h k ω⟩,tM o a q i k (i+k) ω,if_pos ω,show i+k- i=k by omega];rw[AD o a q i h k n ω];grind
theorem AE(p q:Lq)(n:Nat):∀i,i<=p.length->coP (eW p q i) n=iI p q i n
 |0,_=>by
  show coP (List.replicate _ 0) n=0;unfold coP;grind
 |i+1,hi=>by
  have ih:=AE p q n i ω;rw[eW,iI];split
  ·grind
  rw[AD _ _ _ _ (λk hk=>by rw[rZ];omega) _ _ (Nat.le_refl _),ih];by_cases h1:i<=n;rw[if_pos h1];by_cases h2:n< i+q.length;rw[if_pos ⟨h1,h2⟩];rw[lJ (p:=q) ω];grind;grind
theorem uS(a:Rat)(p q:Lq)(n:Nat):∀i,iI (a::p) q (i+1) n=a* coP q n+(match n with|0=>0|m+1=>iI p q i m)
 |0=>by
  show(0:Rat)+(if 0<=n then coP (a::p) 0* coP q (n- 0) else 0)=_;rw[uV];cases n <;> simp[iI,Rat.add_zero,Rat.zero_add]
 |i+1=>by
  rw[iI,uS a p q n i];cases n with
  |zero=>grind
  |succ m=>
   show a* coP q (m+1)+iI p q i m+_=a* coP q (m+1)+(iI p q i m+_);by_cases h:i<=m;rw[gT];grind;grind
theorem uY(p q:Lq)(n:Nat):coP (Ew p q) n=iI p q p.length n:=by
 induction p generalizing n with
 |nil=>rfl
 |cons a p ih=>
  rw[Ew,AG,uX,List.length_cons,uS];cases n with
  |zero=>rw[uV];grind
  |succ m=>rw[gT];grind
theorem coP_mul(p q:Lq)(n:Nat):coP (ep p q) n=coP (Ew p q) n:=by
 unfold ep;split
 ·rename_i h
  rcases h with rfl|rfl
  rfl;rw[uY]
  have:∀i,iI p [] i n=0:=by
   intro i
   induction i with
   |zero=>rfl
   |succ i ih=>rw[iI,yj];grind
  rw[this];rfl
 rw[kQ,AE _ _ _ _ (Nat.le_refl _),uY]
theorem jr(p q:Lq)(x:Rat):aO (ep p q) x=aO p x* aO q x:=by
 rw[<-uF];exact nB (coP_mul p q) x
def Ed:Lq->Rat->Lq
 |[],_=>[]
 |[_],_=>[]
 |_::b::l,r=>aO (b::l) r::Ed (b::l) r
theorem vM(p:Lq)(r x:Rat):aO p x=aO (Ed p r) x* (x- r)+aO p r:=by
 induction p with
 |nil=>show(0:Rat)=0* _+0;grind
 |cons a l ih=>
  cases l with
  |nil=>show 0* x+a=0* (x- r)+(0* r+a);grind
  |cons b l=>
   rw[Ed,cZ a,cZ a,cZ (aO (b::l) r)];grind
theorem FG(p:Lq)(r:Rat):(Ed p r).length=p.length- 1:=by
 induction p with
 |nil=>rfl
 |cons a l ih=>
  cases l with
  |nil=>rfl
  |cons b l=>rw[Ed,List.length_cons,ih];simp
theorem tN:∀(n:Nat) (p xs:Lq),p.length<=n->n<=xs.length->xs.Nodup->(∀x∈xs,aO p x=0)->∀x,aO p x=0
 |0,p,_,hp,_,_,_,x=>by
  have:p=[]:=List.length_eq_zero_iff.1 ω;rw[this];rfl
 |n+1,p,xs,hp,hx,hnd,hz,x=>by
  cases xs with
  |nil=>grind
  |cons r xs=>
   rw[List.nodup_cons] at hnd;have hr:=hz r (List.mem_cons_self ..)
   have ih:=tN n (Ed p r) xs (by rw[FG];omega) φ hnd.2 λy hy=>by
    have h1:=vM p r y;grind
   rw[vM p r x];grind
theorem x8(h:∀x,aO p x=0):∀i,coP p i=0:=by
 induction p with
 |nil=>intro i;rfl
 |cons a p ih=>
  have ha:a=0:=by
   have:=h 0;rw[cZ] at this;grind
  have hp:∀x,aO p x=0:=by
   -- at all places but 0,so at all
   refine tN p.length p ((List.range p.length).map λi=>(((i+1:Nat):Int):Rat)) (Nat.le_refl _) ψ ?_ ?_;refine List.Pairwise.map _ (λi j hij=>?_) List.nodup_range;intro e;have:=Rat.intCast_inj.1 e;omega;intro x hx;obtain⟨i,_,rfl⟩:=List.mem_map.1 hx;have h1:=h (((i+1:Nat):Int):Rat);rw[cZ] at h1;have h2:aO p (((i+1:Nat):Int):Rat) * (((i+1:Nat):Int):Rat)=0:=φ
   rcases Rat.mul_eq_zero.1 h2 with h3|h3
   exact h3;have:=Rat.intCast_inj.1 (h3.trans Rat.intCast_zero.symm);omega
  intro i;cases i with
  |zero=>exact ha
  |succ i=>exact ih hp i
theorem pZ(h:∀x,aO p x=aO q x):aA p=aA q:=by
 refine yJ λi=>?_;have:=x8 (p:=gz p q) (λx=>by rw[E2];grind) i;rw[coP_sub] at this;grind
end

theorem Cp(q:Lq)(x:Rat)(m:Nat)(h:m< q.length):aO (q.take (m+1)) x=aO (q.take m) x+coP q m* x^ m:=by
 induction q generalizing m with
 |nil=>cases h
 |cons a q ih=>
  cases m with
  |zero=>rw[List.take_succ_cons,Rat.pow_zero];show 0* x+a=0+a* 1;grind
  |succ m=>rw[List.take_succ_cons,List.take_succ_cons,cZ,cZ,gT];grind
section
variable (p q r:Lq)(a b:Rat)
end

inductive Gsn:Int->List Int->List Int->Prop
 |nil {t:Int}:Gsn t [] []
 |solid {t s:Int} {l l':List Int}:s≠0->Gsn s l l'->Gsn t (s::l) (s::l')
 |weak {t x y:Int} {l l':List Int}:(x=0\/x=t\/x= -t)->(y=0\/y=t\/y= -t)->Gsn (-t) l l'->Gsn t (x:: -t::l) (y:: -t::l')
inductive Ch:Lq->Lw->Prop
 |one {u:Lq} {c:Rat}:c≠0->(∀x,aO u x=c)->Ch u []
 |pair {u v:Lq}:Ch v []->Ch u [v]
 |step {u v w:Lq} {L:Lw} {a c:Rat} {q:Lq}:0< a->0< c->(∀x,a* aO u x+c* aO w x=aO q x* aO v x)->Ch v (w::L)->Ch u (v::w::L)

def nz(p:Lq):Prop:=aA p≠[]







inductive Cx:Lq->Lq->Lw->Prop
 |nil {u n:Lq}:¬nz n->Cx u n []
 |cons {u n v n' q:Lq} {L:Lw} {c:Rat}:0< c->(∀x,aO v x=aO n x* c)->nz v->(∀x,aO n' x=aO q x* aO v x- aO u x)->Cx v n' L->Cx u n (v::L)





theorem mM{l:Lq}{a b:Nat}(h:bdL l a)(hab:a<=b):bdL l b:=λq hq=>Nat.le_trans (h q hq) hab
section
variable {p:Lq}{s:Nat}
theorem bd_co'(h:bdL p s)(hs:1<=s):∀i,qs (coP p i)<=s:=λi=>gY h hs i
theorem CM{k:Rat}(h:bdL p s)(hs:1<=s):bdL (cI p k) (s+qs k):=uZ λi=>by
 rw[nF];have:=eV (coP p i) k;have:=bd_co' h hs i;omega
theorem vi(h:bdL p s):bdL (aA p) s:=λq hq=>h q (dy hq)
def shP(i:Nat)(v:Lq):Lq:=List.replicate i 0++v
theorem Bg(i:Nat)(v:Lq):(shP i v).length=i+v.length:=by simp[shP]
theorem yR(i:Nat)(v:Lq):shP (i+1) v=0::shP i v:=by simp[shP,List.replicate_succ]
theorem Ar(v:Lq)(x:Rat):∀i,aO (shP i v) x=aO v x* x^ i
 |0=>by simp[shP]
 |i+1=>by
  rw[yR,cZ,Ar v x i,Rat.pow_succ];grind
theorem coP_sh(v:Lq)(i n:Nat):coP (shP i v) n=if n< i then 0 else coP v (n- i):=by
 induction i generalizing n with
 |zero=>simp[shP]
 |succ i ih=>
  rw[yR];cases n with
  |zero=>rw[uV,if_pos ω]
  |succ n=>
   rw[gT,ih,Nat.add_sub_add_right];by_cases h:n< i;rw[if_pos h,if_pos ω];rw[if_neg h,if_neg ω]
def mR(p q:Lq):Nat->Lq
 |0=>[]
 |n+1=>lR (mR p q n) (shP n (cI p (coP q n)))
theorem As(p q:Lq)(x:Rat):∀n,n<=q.length->aO (mR p q n) x=aO p x* aO (q.take n) x
 |0,_=>by simp[mR,rc]
 |n+1,h=>by
  rw[mR,wv,As p q x n ω,Ar,sa,Cp q x n ω];grind
theorem trim_mR(p q:Lq):∀n,aA (mR p q n)=mR p q n
 |0=>rfl
 |n+1=>ju _
theorem Eb(p q:Lq):aA (ep p q)=ep p q:=by
 unfold ep;split;rfl;exact ju _
theorem BD(p q:Lq):mR p q q.length=ep p q:=by
 rw[<-trim_mR,<-Eb];refine pZ λx=>?_;rw[As p q x _ (Nat.le_refl _),List.take_length,jr]
theorem BE(p q:Lq):∀n,(mR p q n).length<=n+p.length
 |0=>Nat.zero_le _
 |n+1=>by
  have h1:=BE p q n;have h2:=AQ (mR p q n) (shP n (cI p (coP q n)));have h3:=eB p (coP q n);rw[Bg] at h2;rw[mR];omega
theorem GR{p q:Lq}{s t:Nat}(hp:bdL p s)(hq:bdL q t)(hs:1<=s)(ht:1<=t):∀n,bdL (mR p q n) (n* (s+t+1)+1)
 |0=>λ_ h=>by cases h
 |n+1=>uZ λi=>by
  rw[mR,yk,coP_sh,Nat.succ_mul];have h1:=bd_co' (GR hp hq hs ht n) ω i;have h2:=bd_co' hq ht n
  have h3:qs (if i< n then 0 else coP (cI p (coP q n)) (i- n))<=s+t:=by
   split;have:qs 0=1:=δ
   omega;rw[nF];have:=eV (coP p (i- n)) (coP q n);have:=bd_co' hp hs (i- n);omega
  have:=qD (coP (mR p q n) i) (if i< n then 0 else coP (cI p (coP q n)) (i- n));omega
end








section
variable {a b:Rat}(h:a< b){k:Nat}(hk:1<=k/\k<=4)
include h hk
end

section
variable {a b:Rat}(h:a< b){k:Nat}(hk:1<=k/\k<=4)(ha:qs a<=20)(hb:qs b<=20)
include ha hb
end
section
variable {a b:Rat}(h:a< b){k:Nat}(hk:1<=k/\k<=4)
include h hk
variable (ha:qs a<=20)(hb:qs b<=20)
include ha hb
end
section
variable {a b:Rat}(h:a< b){k:Nat}(hk:1<=k/\k<=4)(ha:qs a<=20)(hb:qs b<=20)
include h hk ha hb
end
section
variable {a b a' b':Rat}(h:a< b)(h':a'< b'){k:Nat}(hk:1<=k/\k<=4)
include h h'
end
section
variable {a b a' b':Rat}(ha:qs a<=20)(hb:qs b<=20)(ha':qs a'<=20)(hb':qs b'<=20)
include ha hb ha' hb'
end


section
variable {a b:Rat}{p q:Nat}(ha:qs a<=256)(hb:qs b<=256)(hp:p<=8)(hq:q<=8)
include ha in
end



section
variable {N:Lq}(hN:nz N)(hm:bu N=1)
end

theorem AF(p q:Lq)(n:Nat):coP (ep p q) n=iI p q p.length n:=by
 rw[<-uY];exact trim_iff.1 (pZ λx=>by rw[jr,uF]) n
section
variable {m:Lq}{k:Rat}{M n:Nat}(k0:k≠0)(h7:n<=7)
end
section
variable {m:Lq}{s n:Nat}(hm:bdL m s)(hs1:1<=s)(hs:s<=3000)(hl:m.length<=16)(h6:n<=6)
end



section
variable {T:Lq}{n:Nat}(hn:1<=n/\n<=5)(hl:T.length=n+1)(ht:aA T=T)(hm:bu T=1)(hb:bdL T 20)
include hn hl ht hm hb
end
section
variable {n k p s:Nat}
def sQ(f:Nat->Rat):Nat->Rat
 |0=>0
 |n+1=>sQ f n+f n
theorem dM{f g:Nat->Rat}:∀n,(∀j,j< n->f j=g j)->sQ f n=sQ g n
 |0,_=>rfl
 |n+1,h=>by rw[sQ,sQ,dM n λj hj=>h j ω,h n ω]
theorem pf(f g:Nat->Rat)(u:Rat):∀n,sQ (λj=>f j- u* g j) n=sQ f n- u* sQ g n
 |0=>by rw[sQ,sQ,sQ];grind
 |n+1=>by rw[sQ,sQ,sQ,pf f g u n];grind
theorem Bj(f g:Nat->Rat):∀n,sQ (λj=>f j+g j) n=sQ f n+sQ g n
 |0=>by rw[sQ,sQ,sQ];grind
 |n+1=>by rw[sQ,sQ,sQ,Bj f g n];grind
theorem j4(i:Nat)(a:Rat):∀n,sQ (λj=>if j=i then a else 0) n=if i< n then a else 0
 |0=>by rw[sQ,if_neg ω]
 |n+1=>by
  rw[sQ,j4 i a n];grind
abbrev Mx:=Nat->Nat->Rat
def Sol(c:Rat)(M:Mx)(n:Nat)(x:Nat->Rat):Prop:=∀i,i< n->sQ (λj=>M i j* x j) n=c* M i n
def swM(M:Mx)(k p:Nat):Mx:=λi j=>if i=k then M p j else if i=p then M k j else M i j
def elM(M:Mx)(k m:Nat):Mx:=λi j=>if i< m/\i≠k/\k<=j then M i j- M i k/ M k k* M k j else M i j
def pvt(M:Mx)(n k:Nat):Option Nat:=(List.range n).find? λp=>decide (k<=p/\M p k≠0)
def gjM(M:Mx)(n:Nat):Nat->Option Mx
 |0=>some M
 |k+1=>(gjM M n k).bind λA=>(pvt A n k).map λp=>elM (swM A k p) k n
theorem po{M:Mx}(h:pvt M n k=some p):p< n/\k<=p/\M p k≠0:=by
 have h1:=List.find?_some h;have h2:=List.mem_of_find?_eq_some h;grind
theorem zc{M:Mx}(h:pvt M n k=none):∀i,i< n->k<=i->M i k=0:=λi hi hk=>by
 have h1:=List.find?_eq_none.1 h i (List.mem_range.2 hi);grind
theorem pvt_of{M:Mx}(hp:p< n)(hk:k<=p)(h:M p k≠0)(hb:∀i,k<=i->i< p->M i k=0):pvt M n k=some p:=by
 cases e:pvt M n k with
 |none=>exact absurd (zc e p hp hk) h
 |some q=>
  unfold pvt at e;rw[List.find?_range_eq_some] at e;grind
theorem pvt_no{M:Mx}(hb:∀i,k<=i->i< n->M i k=0):pvt M n k=none:=by
 cases e:pvt M n k with
 |none=>rfl
 |some q=>
  obtain⟨q1,q2,q3⟩:=po e;grind
theorem Bd{c:Rat}{M:Mx}{x:Nat->Rat}(hk:k< n)(hp:p< n)(h:Sol c (swM M k p) n x):Sol c M n x:=λi hi=>by
 by_cases e1:i=k;subst e1;by_cases e2:p=i;have:=h i hi;unfold swM at this;simp only[e2] at this;exact this;have:=h p hp;unfold swM at this;simp only[if_neg e2] at this;exact this;by_cases e2:i=p;subst e2;have:=h k hk;unfold swM at this;simp only[if_pos rfl] at this;exact this;have:=h i hi;unfold swM at this;grind
theorem sol_el{c:Rat}{M:Mx}{x:Nat->Rat}(hk:k< n)(hz:∀j,j< k->M k j=0)(h:Sol c (elM M k n) n x):Sol c M n x:=by
 have hrow:∀i j,i< n->i≠k->elM M k n i j=M i j- M i k/ M k k* M k j:=λi j hi hik=>by
  unfold elM;grind
 have hkk:∀j,elM M k n k j=M k j:=λj=>by unfold elM;grind
 have h0:sQ (λj=>M k j* x j) n=c* M k n:=by
  have:=h k hk;grind
 intro i hi;by_cases e:i=k;rw[e];exact h0;have h1:=h i hi;rw[dM (g:=λj=>M i j* x j- M i k/ M k k* (M k j* x j)) n λj _=>by grind,pf] at h1;grind
def AW(M:Mx)(n k:Nat):Prop:=∀j,j< k->M j j≠0/\∀i,i< n->i≠j->M i j=0
theorem DV{M:Mx}(h:AW M n k)(hk:k<=p)(hp:p< n):AW (swM M k p) n k:=λj hj=>by
 obtain⟨h1,h2⟩:=h j hj;constructor;unfold swM;rw[if_neg ω,if_neg ω];exact h1;unfold swM;grind
theorem diag_el{M:Mx}(h:AW M n k)(h0:M k k≠0):AW (elM M k n) n (k+1):=λj hj=>by
 by_cases e:j=k;subst e;constructor;unfold elM;rw[if_neg (λe=>e.2.1 rfl)];exact h0;intro i hi hij;unfold elM;grind;obtain⟨h1,h2⟩:=h j ω;constructor;unfold elM;rw[if_neg (λe=>ω)];exact h1;unfold elM;grind
theorem lE{M:Mx}{n:Nat}:∀k A,k<=n->gjM M n k=some A->(∀c x,Sol c A n x->Sol c M n x)/\AW A n k
 |0,A,_,h=>by cases h;exact⟨λ_ _ h=>h,λj hj=>by omega⟩
 |k+1,A,hk,h=>by
  rw[gjM] at h;cases e:gjM M n k with
  |none=>grind
  |some B=>
   rw[e,Option.bind_some] at h;obtain⟨i1,i2⟩:=lE k B ω e;cases e2:pvt B n k with
   |none=>grind
   |some p=>
    rw[e2] at h;cases h;obtain⟨p1,p2,p3⟩:=po e2;have d:=DV i2 p2 p1;have hkk:swM B k p k k≠0:=by unfold swM;grind
    refine⟨λc x hs=>i1 c x (Bd ω p1 (sol_el ω (λj hj=>(d j hj).2 k ω ω) hs)),diag_el d hkk⟩
theorem DJ{M:Mx}{n:Nat}:∀k,k<=n->gjM M n k=none->∃x:Nat->Rat,(∃j,j< n/\x j≠0)/\Sol 0 M n x
 |0,_,h=>by cases h
 |k+1,hk,h=>by
  rw[gjM] at h;cases e:gjM M n k with
  |none=>exact DJ k ω e
  |some B=>
   obtain⟨i1,i2⟩:=lE k B ω e;cases e2:pvt B n k with
   |some p=>grind
   |none=>
    have hz:=zc e2;refine⟨λj=>if j=k then 1 else if j< k then -(B j k/ B j j) else 0,⟨k,ω,φ⟩,i1 0 _ λi hi=>?_⟩;rw[dM (g:=λj=>(if j=i then(if i< k then -(B i k) else 0) else 0)+(if j=k then B i k else 0)) n λj hj=>?_,Bj,j4,j4];by_cases h1:i< k;grind;grind;by_cases h1:j=k;by_cases h2:j=i;grind;grind;by_cases h2:j< k;obtain⟨d1,d2⟩:=i2 j h2;by_cases h3:j=i;subst h3;grind;grind;grind
theorem Ha{M A:Mx}(h:gjM M n n=some A):Sol 1 M n (λi=>A i n/ A i i):=by
 obtain⟨i1,i2⟩:=lE n A (Nat.le_refl _) h;refine i1 1 _ λi hi=>?_;obtain⟨d1,d2⟩:=i2 i hi;rw[Rat.one_mul,dM (g:=λj=>if j=i then A i n else 0) n λj hj=>?_,j4,if_pos hi];by_cases e:j=i;subst e;grind;rw[(i2 j hj).2 i hi (λe'=>e e'.symm)];grind
def bdM(M:Mx)(n s:Nat):Prop:=∀i j,i< n->j<=n->qs (M i j)<=s
def gjB(s:Nat):Nat->Nat
 |0=>s
 |k+1=>4* gjB s k+1
theorem AM{M:Mx}(h:bdM M n s)(hk:k< n)(hp:p< n):bdM (swM M k p) n s:=λi j hi hj=>by
 unfold swM;split;exact h p j hp hj;split;exact h k j hk hj;exact h i j hi hj
theorem bd_el{M:Mx}{m:Nat}(h:bdM M n s)(hk:k< n):bdM (elM M k m) n (4* s+1):=λi j hi hj=>by
 have h1:=h i j hi hj;unfold elM;split;have h2:=h i k hi ω;have h3:=h k k hk ω;have h4:=h k j hk hj;have h5:=fu (M i k) (M k k);have h6:=eV (M i k/ M k k) (M k j);have h7:=tT (M i j) (M i k/ M k k* M k j);omega;omega
theorem DK{M:Mx}{n s:Nat}(hs:bdM M n s):∀k A,k<=n->gjM M n k=some A->bdM A n (gjB s k)
 |0,A,_,h=>by cases h;exact hs
 |k+1,A,hk,h=>by
  rw[gjM] at h;cases e:gjM M n k with
  |none=>grind
  |some B=>
   rw[e,Option.bind_some] at h;have i1:=DK hs k B ω e;cases e2:pvt B n k with
   |none=>grind
   |some p=>
    rw[e2] at h;cases h;exact bd_el (AM i1 ω (po e2).1) ω
theorem gB_mono(h:k<=n):gjB s k<=gjB s n:=by
 induction n with
 |zero=>grind
 |succ n ih=>
  by_cases e:k=n+1;rw[e];exact Nat.le_refl _;rw[gjB];omega
end
section
variable {c n r:Nat}{M A:Mx}{x:Nat->Rat}{L:Ln}
def scM(M:Mx)(r:Nat)(f:Rat):Mx:=λi j=>if i=r then M i j* f else M i j
def rdM(M:Mx)(r k:Nat):Mx:=λi j=>if i=r then M i j else M i j- M i k* M r j
theorem FT(f:Nat->Rat)(u:Rat):∀n,sQ (λj=>f j* u) n=sQ f n* u
 |0=>by rw[sQ,sQ];grind
 |n+1=>by rw[sQ,sQ,FT f u n];grind
theorem C5{c:Rat}{k p:Nat}(hk:k< n)(hp:p< n):Sol c (swM M k p) n x↔Sol c M n x:=by
 refine⟨Bd hk hp,λh=>?_⟩;refine Bd (k:=k) (p:=p) hk hp λi hi=>?_
 have e:∀j,swM (swM M k p) k p i j=M i j:=λj=>by
  unfold swM;by_cases h1:i=k;subst h1;by_cases h2:p=i;subst h2;simp;simp[h2];by_cases h2:i=p;subst h2;simp[h1];simp[h1,h2]
 rw[e,dM (g:=λj=>M i j* x j) n λj _=>by rw[e]];exact h i hi
theorem sol_sc{c f:Rat}(hf:f≠0):Sol c (scM M r f) n x↔Sol c M n x:=by
 have key:∀i,(sQ (λj=>scM M r f i j* x j) n=c* scM M r f i n)↔(sQ (λj=>M i j* x j) n=c* M i n):=λi=>by
  unfold scM;by_cases e:i=r;simp only[if_pos e];rw[dM (g:=λj=>M i j* x j* f) n λj _=>by grind,FT];generalize sQ (λj=>M i j* x j) n=s;constructor;intro h;have h2:f* (s- c* M i n)=0:=φ
  rcases Rat.mul_eq_zero.1 h2 with g|g
  exact absurd g hf;grind;intro h;rw[h];grind;simp only[if_neg e]
 exact⟨λh i hi=>(key i).1 (h i hi),λh i hi=>(key i).2 (h i hi)⟩
theorem sol_rd{c:Rat}{k:Nat}(hr:r< n):Sol c (rdM M r k) n x↔Sol c M n x:=by
 have e0:∀j,rdM M r k r j=M r j:=λj=>if_pos rfl;have e1:∀i j,i≠r->rdM M r k i j=M i j- M i k* M r j:=λi j h=>if_neg h
 have s1:∀i,i≠r->sQ (λj=>rdM M r k i j* x j) n=sQ (λj=>M i j* x j) n- M i k* sQ (λj=>M r j* x j) n:=λi h=>by
  rw[<-pf];exact dM n λj _=>by rw[e1 i j h];grind
 have s0:sQ (λj=>rdM M r k r j* x j) n=sQ (λj=>M r j* x j) n:=dM n λj _=>by rw[e0]
 constructor;intro h i hi;have h0:=h r hr;rw[s0,e0] at h0;by_cases e:i=r;rw[e];exact h0;have h1:=h i hi;rw[s1 i e,e1 i n e,h0] at h1;grind;intro h i hi;have h0:=h r hr;by_cases e:i=r;rw[e,s0,e0];exact h0;rw[s1 i e,e1 i n e,h0,h i hi];grind
def pvR(M:Mx)(n r c:Nat):Option Nat:=(List.range n).find? λp=>decide (r<=p/\M p c≠0)
theorem kD{p:Nat}(h:pvR M n r c=some p):p< n/\r<=p/\M p c≠0:=by
 have h1:=List.find?_some h;have h2:=List.mem_of_find?_eq_some h;grind
theorem ze(h:pvR M n r c=none):∀i,i< n->r<=i->M i c=0:=λi hi hk=>by
 have h1:=List.find?_eq_none.1 h i (List.mem_range.2 hi);grind
def slC(A:Mx)(n:Nat)(L:Ln)(c:Nat):Mx×Ln:=match pvR A n L.length c with
 |none=>(A,L)
 |some p=>(rdM (scM (swM A L.length p) L.length (1/ A p c)) L.length c,L++[c])
def slM(M:Mx)(n:Nat):Nat->Mx×Ln
 |0=>(M,[])
 |c+1=>slC (slM M n c).1 n (slM M n c).2 c
structure Ech (A:Mx)(n c:Nat)(L:Ln):Prop where
 len:L.length<=c
 len2:L.length<=n
 lt:∀(i l:Nat),L[i]?=some l->l< c
 inc:∀(i j l m:Nat),L[i]?=some l->L[j]?=some m->i< j->l< m
 one:∀(i l k:Nat),L[i]?=some l->k< n->A k l=if k=i then 1 else 0
 low:∀(i l j:Nat),L[i]?=some l->j< l->A i j=0
 rest:∀i j,L.length<=i->i< n->j< c->A i j=0
theorem Ech.step(h:Ech A n c L):Ech (slC A n L c).1 n (c+1) (slC A n L c).2:=by
 unfold slC;cases e:pvR A n L.length c with
 |none=>
  show Ech A n (c+1) L;refine⟨by have:=h.len;omega,h.len2,λi l hl=>by have:=h.lt i l hl;omega,h.inc,h.one,h.low,λi j h1 h2 h3=>?_⟩;by_cases e2:j=c;rw[e2];exact ze e i h2 h1;exact h.rest i j h1 h2 ω
 |some p=>
  obtain⟨p1,p2,p3⟩:=kD e;show Ech (rdM (scM (swM A L.length p) L.length (1/ A p c)) L.length c) n (c+1) (L++[c]);have hr:L.length< n:=ω
  have hL:∀i l,L[i]?=some l->i< L.length:=λi l hl=>(List.getElem?_eq_some_iff.1 hl).1
  -- the rows after the exchange
  have sw1:∀i j,i< L.length->swM A L.length p i j=A i j:=λi j hi=>by unfold swM;rw[if_neg ω,if_neg ω]
  have swr:∀j,swM A L.length p L.length j=A p j:=λj=>by unfold swM;rw[if_pos rfl]
  have sw2:∀i j,L.length<=i->i< n->j< c->swM A L.length p i j=0:=λi j h1 h2 h3=>by
   unfold swM;split;exact h.rest p j p2 p1 h3;split;exact h.rest _ j (Nat.le_refl _) hr h3;exact h.rest i j h1 h2 h3
  have swl:∀i l k,L[i]?=some l->k< n->swM A L.length p k l=if k=i then 1 else 0:=λi l k hl hk=>by
   by_cases g:k< L.length;rw[sw1 k l g];exact h.one i l k hl hk;have:=hL i l hl;rw[sw2 k l ω hk (h.lt i l hl),if_neg ω]
  generalize hB:swM A L.length p=B at *
  have sc0:∀i j,i≠L.length->scM B L.length (1/ A p c) i j=B i j:=λi j g=>if_neg g;have scr:∀j,scM B L.length (1/ A p c) L.length j=B L.length j* (1/ A p c):=λj=>if_pos rfl
  have lead:scM B L.length (1/ A p c) L.length c=1:=by
   rw[scr,swr];have:=Rat.div_mul_cancel (a:=1) p3;grind
  have scz:∀j,j< c->scM B L.length (1/ A p c) L.length j=0:=λj hj=>by rw[scr,sw2 _ j (Nat.le_refl _) hr hj];grind
  generalize hC:scM B L.length (1/ A p c)=C at *
  have rd0:∀j,rdM C L.length c L.length j=C L.length j:=λj=>if_pos rfl;have rd1:∀i j,i≠L.length->rdM C L.length c i j=C i j- C i c* C L.length j:=λi j g=>if_neg g
  have snoc:∀i l,(L++[c])[i]?=some l->(i< L.length/\L[i]?=some l)\/(i=L.length/\l=c):=λi l hl=>by
   rw[List.getElem?_append] at hl;split at hl
   ·rename_i g;exact .inl ⟨g,hl⟩
   ·rename_i g
    have:i- L.length=0:=by
     have:=(List.getElem?_eq_some_iff.1 hl).1;simp at this;omega
    rw[this] at hl;cases hl;exact .inr ⟨ω,rfl⟩
  refine⟨by have:=h.len;simp;omega,χ,λi l hl=>?_,λi j l m hl hm hij=>?_,λi l k hl hk=>?_,λi l j hl hj=>?_,λi j h1 h2 h3=>?_⟩;rcases snoc i l hl with⟨_,g⟩|⟨_,g⟩
  have:=h.lt i l g;omega;omega;rcases snoc i l hl with⟨a1,g⟩|⟨a1,g⟩<;> rcases snoc j m hm with⟨b1,g'⟩|⟨b1,g'⟩
  exact h.inc i j l m g g' hij;rw[g'];exact h.lt i l g;omega;omega;rcases snoc i l hl with⟨a1,g⟩|⟨a1,g⟩
  by_cases e1:k=L.length;subst e1;rw[rd0,scz l (h.lt i l g),if_neg ω];rw[rd1 k l e1,sc0 k l e1,swl i l k g hk,scz l (h.lt i l g)];grind;subst a1 g;by_cases e1:k=L.length;rw[if_pos e1,e1,rd0,lead];rw[if_neg e1,rd1 k l e1,lead];grind;rcases snoc i l hl with⟨a1,g⟩|⟨a1,g⟩
  have hlc:=h.lt i l g;rw[rd1 i j ω,sc0 i j ω,sw1 i j a1,h.low i l j g hj,scz j ω];grind;subst a1 g;rw[rd0,scz j hj];grind
theorem slC_sol{c0:Rat}:Sol c0 (slC A n L c).1 n x↔Sol c0 A n x:=by
 unfold slC;cases e:pvR A n L.length c with
 |none=>exact Iff.rfl
 |some p=>
  obtain⟨p1,p2,p3⟩:=kD e
  have hf:1/ A p c≠0:=λg=>by
   have:=Rat.div_mul_cancel (a:=1) p3;rw[g] at this;grind
  exact(sol_rd ω).trans ((sol_sc hf).trans (C5 ω p1))
theorem mZ(M:Mx)(n:Nat):∀c,Ech (slM M n c).1 n c (slM M n c).2
 |0=>⟨Nat.le_refl _,Nat.zero_le _,λi l h=>by simp[slM] at h,λi j l m h=>by simp[slM] at h,λi l k h=>by simp[slM] at h,λi l j h=>by simp[slM] at h,λi j _ _ h=>by omega⟩
 |c+1=>(mZ M n c).step
theorem pa{c0:Rat}{M:Mx}{n:Nat}{x:Nat->Rat}:∀c,Sol c0 (slM M n c).1 n x↔Sol c0 M n x
 |0=>Iff.rfl
 |c+1=>slC_sol.trans (pa c)
theorem Ech.row(h:Ech A n n L)(hx:∀j,j< n->j∉L->x j=0){i l:Nat}(hl:L[i]?=some l):sQ (λj=>A i j* x j) n=x l:=by
 have hi:i< n:=Nat.lt_of_lt_of_le (List.getElem?_eq_some_iff.1 hl).1 h.len2;have hl2:=h.lt i l hl;rw[dM (g:=λj=>if j=l then x l else 0) n λj hj=>?_,j4,if_pos hl2];by_cases e:j=l;rw[if_pos e,e,h.one i l i hl hi,if_pos rfl];grind;rw[if_neg e];by_cases g:j∈L;obtain⟨k,hk⟩:=List.getElem?_of_mem g;rw[h.one k j i hk hi,if_neg (λe'=>e (by rw[e',hk] at hl;cases hl;rfl))];grind;rw[hx j hj g];grind
def oneX(A:Mx)(n:Nat)(L:Ln)(j:Nat):Rat:=if L.contains j then A (L.idxOf j) n else 0
theorem Ech.idx(h:Ech A n c L){i l:Nat}(hl:L[i]?=some l):L.idxOf l=i:=by
 have hm:=List.mem_of_getElem? hl;have h2:L[L.idxOf l]?=some l:=φ
 by_cases e1:L.idxOf l< i;have:=h.inc _ _ _ _ h2 hl e1;omega;by_cases e2:i< L.idxOf l;have:=h.inc _ _ _ _ hl h2 e2;omega;omega
theorem Ech.oneX(h:Ech A n n L)(h0:∀i,L.length<=i->i< n->A i n=0):Sol 1 A n (Abs.oneX A n L):=λi hi=>by
 have hx:∀j,j< n->j∉L->Abs.oneX A n L j=0:=λj _ g=>by unfold Abs.oneX;rw[if_neg (by simpa using g)]
 by_cases g:i< L.length;have hl:L[i]?=some L[i]:=List.getElem?_eq_getElem g;rw[h.row hx hl];unfold Abs.oneX;rw[if_pos ψ,h.idx hl];grind;rw[h0 i ω hi,dM (g:=λj=>if j=n then 0 else 0) n λj hj=>by rw[h.rest i j ω hi hj];grind,j4];split <;> grind
def zerX(A:Mx)(L:Ln)(f j:Nat):Rat:=if L.contains j then -A (L.idxOf j) f else if j=f then 1 else 0
theorem Ech.zerX(h:Ech A n n L){f:Nat}(hf:f< n)(hfL:f∉L):Sol 0 A n (Abs.zerX A L f):=λi hi=>by
 -- split into the part on the leads and the free number
 have e1:∀j,j< n->A i j* Abs.zerX A L f j=A i j* (if L.contains j then -A (L.idxOf j) f else 0)+(if j=f then A i f else 0):=λj hj=>by
  unfold Abs.zerX;by_cases g:j∈L;rw[if_pos (by simpa using g),if_pos (by simpa using g),if_neg (fun(e:j=f)=>hfL (by rw[<-e];exact g))];grind;rw[if_neg (show¬L.contains j=true by simpa using g),if_neg (show¬L.contains j=true by simpa using g)];by_cases e:j=f;rw[if_pos e,if_pos e,e];grind;rw[if_neg e,if_neg e];grind
 rw[dM n e1,Bj,j4,if_pos hf]
 have hx:∀j,j< n->j∉L->(λj=>if L.contains j then -A (L.idxOf j) f else 0) j=(0:Rat):=λj _ g=>by
  show(if L.contains j then _ else _)=_;rw[if_neg (by simpa using g)]
 by_cases g:i< L.length;have hl:L[i]?=some L[i]:=List.getElem?_eq_getElem g;rw[h.row hx hl];show(if L.contains L[i]=true then -A (L.idxOf L[i]) f else 0)+A i f=_;rw[if_pos ψ,h.idx hl];grind;rw[dM (g:=λj=>if j=n then 0 else 0) n λj hj=>by rw[h.rest i j ω hi hj];grind,j4,h.rest i f ω hi hf];split <;> grind
theorem Ech.uniq(h:Ech A n n L){y:Nat->Rat}{c0:Rat}(hx:Sol c0 A n x)(hy:Sol c0 A n y)(hf:∀j,j< n->j∉L->x j=y j):∀j,j< n->x j=y j:=λj hj=>by
 by_cases g:j∈L;obtain⟨i,hi⟩:=List.getElem?_of_mem g;have hin:i< n:=Nat.lt_of_lt_of_le (List.getElem?_eq_some_iff.1 hi).1 h.len2;have h1:=h.row (x:=λj=>x j- y j) (λj hj g=>by show x j- y j=0;rw[hf j hj g];grind) hi;have h2:=hx i hin;have h3:=hy i hin;rw[dM (g:=λj=>A i j* x j- 1* (A i j* y j)) n λj _=>by grind,pf,h2,h3] at h1;grind;exact hf j hj g
end
end Go.Abs
