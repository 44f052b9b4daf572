/- Part V12 of the proof. -/
import Derived.Test.YtkbjakfniejkcaaGreatDoorV11
set_option linter.all false
namespace Go.Abs
section
variable {n:Int}{d k:Nat}
def zI(z:Int):La:=[mag z.natAbs,bln (decide (z< 0))]
def qC(q:Rat):La:=[mag q.num.natAbs,bln (decide (q.num< 0)),mag (q.den- 1)]
def sgn(b:Bool)(m:Nat):Int:=if b then -(m:Int) else m
theorem xY(z:Int):∀c∈zI z,Closed c:=ac (ce _) (ac (ag _) af)
theorem bC(q:Rat):∀c∈qC q,Closed c:=ac (ce _) (ac (ag _) (ac (ce _) af))
theorem iV(z:Int):Closed (.agg (zI z)):=az (xY z)
theorem aS(q:Rat):Closed (.agg (qC q)):=az (bC q)
theorem closed_mA(n:Nat):Closed (.agg [mag n]):=az (ac (ce n) af)
theorem fD(b:Bool)(m:Nat):(sgn b m).natAbs=m:=by unfold sgn;grind
theorem sgn_neg(b:Bool)(m:Nat):decide (sgn b m< 0)=(b && !(m==0)):=by
 unfold sgn;grind
theorem pU(z:Int):sgn (decide (z< 0)) z.natAbs=z:=by
 unfold sgn;grind
def qs(q:Rat):Nat:=max (bl q.num.natAbs) (bl q.den)
theorem lm(hd:0< d):(mkRat n d).num=n/ (Nat.gcd n.natAbs d:Int)/\(mkRat n d).den=d/ Nat.gcd n.natAbs d:=by
 unfold mkRat;rw[dif_neg (by omega),Rat.normalize_eq];grind
theorem jO(hd:0< d):(mkRat n d).num=sgn (decide (n< 0)) (n.natAbs/ Nat.gcd n.natAbs d):=by
 rw[(lm hd).1];have b:0< Nat.gcd n.natAbs d:=Nat.gcd_pos_of_pos_right _ hd;obtain⟨k,a⟩:=Nat.gcd_dvd_left n.natAbs d;generalize Nat.gcd n.natAbs d=g at b a⊢;rw[a,Nat.mul_div_cancel_left _ b];unfold sgn;split
 ·rename_i h
  have:=of_decide_eq_true h;have e:n=(g:Int) * (-(k:Int)):=by rw[Int.mul_neg,<-Int.natCast_mul];omega
  rw[e,Int.mul_ediv_cancel_left _ (by omega)]
 ·have e:n=(g:Int) * (k:Int):=by grind
  rw[e,Int.mul_ediv_cancel_left _ (by omega)]
theorem eY(a b:Nat):bl (a/ b)<=bl a:=dI (Nat.div_le_self _ _)
theorem fF(hd:0< d)(h1:bl n.natAbs<=k)(h2:bl d<=k):qs (mkRat n d)<=k:=by
 unfold qs;rw[jO hd,fD,(lm hd).2];exact Nat.max_le.2 ⟨Nat.le_trans (eY _ _) h1,Nat.le_trans (eY _ _) h2⟩
theorem ye(a b:Rat):a+b=mkRat (a.num* b.den+b.num* a.den) (a.den* b.den):=by
 rw[Rat.add_def];unfold mkRat;grind
theorem oE(a b:Rat):a* b=mkRat (a.num* b.num) (a.den* b.den):=by
 rw[Rat.mul_def];unfold mkRat;grind
theorem ez(a:Rat):bl a.num.natAbs<=qs a:=Nat.le_max_left _ _
theorem ed(a:Rat):bl a.den<=qs a:=Nat.le_max_right _ _
theorem sO{x y:Int}(hx:bl x.natAbs<=k)(hy:bl y.natAbs<=k):bl (x+y).natAbs<=k+1:=by
 have a:=dI (Int.natAbs_add_le x y);have b:=Ae x.natAbs y.natAbs;omega
theorem dC{x y:Int}{j:Nat}(hx:bl x.natAbs<=j)(hy:bl y.natAbs<=k):bl (x* y).natAbs<=j+k:=by
 rw[Int.natAbs_mul];have:=ja x.natAbs y.natAbs;omega
theorem yd(a b:Rat):bl (a.num* b.den+b.num* a.den).natAbs<=qs a+qs b+1/\bl (a.den* b.den)<=qs a+qs b:=by
 have c:=ez a;have d:=ed a;have e:=ez b;have f:=ed b;refine⟨sO (dC c (by grind)) ?_,?_⟩;have:=dC (x:=b.num) (y:=a.den) e (by simpa using d);omega;have:=ja a.den b.den;omega
theorem rV(a b:Rat):bl (a.num* b.num).natAbs<=qs a+qs b/\bl (a.den* b.den)<=qs a+qs b:=by
 have c:=ez a;have e:=ed a;have d:=ez b;have f:=ed b;refine⟨dC c d,?_⟩;have:=ja a.den b.den;omega
theorem n8(a b:Rat):0< a.den* b.den:=Nat.mul_pos a.den_pos b.den_pos
theorem gx(a b:Rat):qs (a+b)<=qs a+qs b+1:=by
 rw[ye];have h:=yd a b;exact fF (n8 a b) h.1 (by omega)
theorem dw(a b:Rat):qs (a* b)<=qs a+qs b:=by
 rw[oE];have h:=rV a b;exact fF (n8 a b) h.1 h.2
theorem fw(a:Rat):qs (-a)=qs a:=by unfold qs;simp
theorem me(a b:Rat):qs (a- b)<=qs a+qs b+1:=by
 rw[Rat.sub_eq_add_neg];have:=gx a (-b);rwa[fw] at this
theorem sG(a b:Rat)(hb:b≠0):a/ b=mkRat (a.num* sgn (decide (b.num< 0)) b.den) (a.den* b.num.natAbs):=by
 rw[Rat.div_def,Rat.inv_def]
 conv=>lhs;rw[<-Rat.num_divInt_den a]
 rw[Rat.divInt_mul_divInt];unfold sgn;split
 ·rename_i h
  have c:=of_decide_eq_true h;have hp:0< a.den* b.num.natAbs:=Nat.mul_pos a.den_pos (by omega);have e:(a.den:Int) * b.num= -((a.den* b.num.natAbs:Nat):Int):=by grind
  rw[e,Int.mul_neg];generalize a.den* b.num.natAbs=d at hp⊢;cases d with
  |zero=>omega
  |succ d=>
   rfl
 ·have e:(a.den:Int) * b.num=((a.den* b.num.natAbs:Nat):Int):=by grind
  rw[e];rfl
theorem xQ(a b:Rat):bl (a.num* sgn (decide (b.num< 0)) b.den).natAbs<=qs a+qs b/\bl (a.den* b.num.natAbs)<=qs a+qs b:=by
 have c:=ez a;have d:=ed a;have f:=ez b;have e:=ed b;refine⟨dC c (by rw[fD];grind),?_⟩;have:=ja a.den b.num.natAbs;omega
theorem ik(a b:Rat):qs (a/ b)<=qs a+qs b:=by
 by_cases hb:b=0;subst hb;rw[Rat.div_def,Rat.inv_zero,Rat.mul_zero];omega;rw[sG a b hb];have h:=xQ a b;have c:b.num≠0:=fun h=>hb (Rat.num_eq_zero.1 h);exact fF (Nat.mul_pos a.den_pos (by omega)) h.1 h.2
end
def sm(q:Rat):Prop:=qs q<=137438953472
instance (q:Rat):Decidable (sm q):=inferInstanceAs (Decidable (_<=_))
theorem sm2{a b:Rat}(ha:sm a)(hb:sm b):qs a+qs b<=549755813888:=by unfold sm at ha hb;omega
def sgZ(z:Int):Int:=if z=0 then 0 else if z< 0 then -1 else 1
def fi(a b:Rat):Int:=if a< b then -1 else if a=b then 0 else 1
theorem sgZ_num_lt{q:Rat}:sgZ q.num< 0↔q< 0:=by
 unfold sgZ;have c:q.num=0↔q=0:=Rat.num_eq_zero;have a:0<=q.num↔0<=q:=Rat.num_nonneg;have b:q< 0↔¬0<=q:=Rat.not_le.symm;rw[b,<-a];split;omega;split <;> omega
theorem sgZ_num_eq{q:Rat}:sgZ q.num=0↔q=0:=by
 unfold sgZ;rw[<-Rat.num_eq_zero];split;simp[*];split <;> simp[*]
theorem sgZ_num_gt{q:Rat}:0< sgZ q.num↔0< q:=by
 have a:= @sgZ_num_lt q;have b:= @sgZ_num_eq q
 have c:0< q↔¬(q< 0\/q=0):=by
  rw[<-Rat.not_le,Rat.le_iff_lt_or_eq]
 rw[c,<-a,<-b];omega
theorem FW(a b:Rat):fi a b=if a.num* b.den< b.num* a.den then -1 else if a.num* b.den=b.num* a.den then 0 else 1:=by
 unfold fi;have d:=Rat.lt_iff a b
 have c:a=b↔a.num* b.den=b.num* a.den:=by
  constructor;rintro rfl;rfl;intro h;have:=(Rat.mkRat_eq_iff (n₁:=a.num) (n₂:=b.num) a.den_nz b.den_nz).2 h;rwa[Rat.mkRat_self,Rat.mkRat_self] at this
 by_cases h:a< b;rw[if_pos h,if_pos (d.1 h)];rw[if_neg h,if_neg (fun x=>h (d.2 x))];by_cases h':a=b;rw[if_pos h',if_pos (c.1 h')];rw[if_neg h',if_neg (fun x=>h' (c.2 x))]
def gI(k:Nat):Rat:=mkRat 1 (2^ k)
theorem qo(q:Rat):q.num< 0↔q< 0:=by
 rw[<-sgZ_num_lt];unfold sgZ;split;omega;split <;> omega
def fq(q:Rat):Rat:=mkRat q.num.natAbs q.den
theorem o4(q:Rat):fq q=if q< 0 then -q else q:=by
 unfold fq;by_cases h:q< 0;have a:q.num< 0:=(qo q).2 h;rw[if_pos h];have e:(q.num.natAbs:Int)=(-q).num:=by rw[Rat.neg_num];omega
 rw[e,<-Rat.neg_den,Rat.mkRat_self];have a:¬q.num< 0:=fun e=>h ((qo q).1 e);rw[if_neg h];have e:(q.num.natAbs:Int)=q.num:=by omega
 rw[e,Rat.mkRat_self]
theorem Cp(q:Rat):(fq q).num=(q.num.natAbs:Int):=by
 rw[o4];by_cases h:q< 0;rw[if_pos h,Rat.neg_num];have a:q.num< 0:=(qo q).2 h;omega;rw[if_neg h];have a:¬q.num< 0:=fun e=>h ((qo q).1 e);omega
theorem Cq(q:Rat):(fq q).den=q.den:=by
 rw[o4];split;exact Rat.neg_den ..;rfl
theorem qC_abs(q:Rat):qC (fq q)=zI (sgn false q.num.natAbs)++[mag (q.den- 1)]:=by
 unfold qC zI;rw[Cp,Cq];rfl
def pE(l:Lq):Lc:=l.map qC
def pA(l:Lq):AV:= .arr (pE l)
def spC(a b:Rat):La:=qC a++qC b
@[simp] theorem qC_length (q:Rat):(qC q).length=3:=rfl
@[simp] theorem spC_length (a b:Rat):(spC a b).length=6:=rfl
@[simp] theorem Gk (l:Lq):(pE l).length=l.length:=by simp[pE]
theorem pE_get{l:Lq}{i:Nat}{q:Rat}(h:l[i]?=some q):(pE l)[i]?=some (qC q):=by simp[pE,h]
theorem tG(l:Lq)(k:Nat):(pE l).take k=pE (l.take k):=by simp[pE]
theorem lh(l m:Lq):pE (l++m)=pE l++pE m:=by simp[pE]
theorem jy(l:Lq)(i:Nat)(q:Rat):(pE l).set i (qC q)=pE (l.set i q):=by simp[pE,List.map_set]
theorem dy(l:Lq):(pE l).all (·.all AV.one)=true:=by
 simp only[pE,List.all_map,List.all_eq_true];intro q _;rfl
theorem mj(l:Lq):∀e∈pE l,e.length=3:=by intro e a;simp[pE] at a;obtain⟨q,_,rfl⟩:=a;rfl
theorem aJ(l:Lq):∀e∈pE l,∀c∈e,Closed c:=by
 intro e a c b;simp[pE] at a;obtain⟨q,_,rfl⟩:=a;exact bC q c b
theorem aB(l:Lq):Closed (pA l):=aG (aJ l)
theorem aZ(a b:Rat):∀c∈spC a b,Closed c:=fun c d=>(List.mem_append.1 d).elim (bC a c) (bC b c)
theorem b5(a b:Rat):Closed (.agg (spC a b)):=az (aZ a b)
def zC:La:=[.emp,bln false,.emp]
theorem mag0:mag 0= .arr []:=by unfold mag;rw[cL];rfl
theorem qC0:qC 0=[.arr [],bln false,.arr []]:=by
 show [mag 0,bln (decide ((0:Int)< 0)),mag (1- 1)]=_;rw[mag0];rfl
def smL(l:Lq):Prop:=∀q∈l,sm q
instance (l:Lq):Decidable (smL l):=inferInstanceAs (Decidable (∀q∈l,sm q))
def eo(bf:Int->Bool):Lq->Rat
 |[]=>0
 |x::l=>l.foldl (fun o y=>if bf (fi y o) then y else o) x
theorem Ac(bf:Int->Bool)(l:Lq)(y:Rat):eo bf (l++[y])=if l=[]\/bf (fi y (eo bf l))=true then y else eo bf l:=by
 cases l with
 |nil=>simp[eo]
 |cons x l=>simp[eo,List.foldl_append]
theorem pH{bf:Int->Bool}:∀{l:Lq},smL l->sm (eo bf l)
 |[],_=>(by decide:sm 0)
 |x::l,h=>by
  have a:∀(l:Lq) (o:Rat),sm o->smL l->sm (l.foldl (fun o y=>if bf (fi y o) then y else o) o):=by
   intro l
   induction l with
   |nil=>intro o b _;exact b
   |cons y l e=>
    intro o b d;refine e _ ?_ fun q c=>d q (List.mem_cons_of_mem _ c);show sm (if bf (fi y o)=true then y else o);split;exact d y (List.mem_cons_self ..);exact b
  exact a l x (h x (List.mem_cons_self ..)) fun q c=>h q (List.mem_cons_of_mem _ c)
def Dg(l:Lq):Rat:=eo (fun c=>decide (c< 0)) l
def lr(l:Lq):Rat:=eo (fun c=>decide (0< c)) l
theorem AEval.lenP{P:Program}{id:Nat}{ev:Operand->Option AV}{hp:Hq}{c:Call}{x:Operand}{T:Nat}{d:Nat×Nat}{l:Lq}(hc:c.callee= .builtin .len)(ha:c.args= #[x])(ht:c.argTypes= #[T])(hx:ev x=some (.arr (pE l)))(he:eB P T=some d):
    AEval P id ev hp (.call c) ⟨.v (.int .i64 (l.length:Nat)),[]⟩ []:= .len hc ha ht hx (by simp[rX]) he
section
variable {l p:Lq}
def ao:Lq->Lq
 |[]=>[]
 |a::l=>match ao l with
  |[]=>if a=0 then [] else [a]
  |b::m=>a::b::m
theorem eI(a:Rat)(l:Lq):ao (a::l)=if ao l=[] then(if a=0 then [] else [a]) else a::ao l:=by
 rw[ao];grind
theorem l3(l:Lq)(a:Rat):ao (l++[a])=if a=0 then ao l else l++[a]:=by
 induction l with
 |nil=>simp[ao]
 |cons b l c=>
  rw[List.cons_append,eI,c,eI];by_cases h:a=0;simp only[if_pos h];simp_all
theorem bR(l:Lq):(ao l).length<=l.length:=by
 induction l with
 |nil=>simp[ao]
 |cons a l b=>rw[eI];grind
theorem wR(l:Lq):ao l=l.take (ao l).length:=by
 induction l with
 |nil=>simp[ao]
 |cons a l b=>
  rw[eI];grind
theorem cI{q:Rat}(h:q∈ao l):q∈l:=by
 rw[wR] at h;grind
theorem ut{q:Rat}(h:(ao l).getLast?=some q):q≠0:=by
 induction l with
 |nil=>simp[ao] at h
 |cons a l b=>
  rw[eI] at h;grind
theorem cw(l:Lq):ao (ao l)=ao l:=by
 rcases List.eq_nil_or_concat (ao l) with h|⟨m,q,h⟩
 rw[h];rfl;have a:q≠0:=ut (l:=l) (by grind);rw[h,List.concat_eq_append,l3,if_neg a]
theorem nv(h:smL l):smL (ao l):=fun q a=>h q (cI a)
def bO(l:Lq):Int:=(ao l).length- 1
def aM(l:Lq):Rat:=(ao l).getLastD 0
theorem dd(h:ao l≠[]):aM l≠0:=by
 refine ut (l:=l) (q:=(ao l).getLastD 0) ?_;rw[List.getLastD_eq_getLast?];cases hl:(ao l).getLast? with
 |none=>simp_all
 |some q=>rfl
theorem rY(h:ao l=[]):aM l=0:=by unfold aM;grind
theorem dn{n:Nat}(h:(ao l).length=n+1):(ao l)[n]?=some (aM l):=by
 unfold aM;grind
theorem IH(h:smL l):sm (aM l):=by
 by_cases h0:ao l=[];rw[rY h0];decide;obtain⟨n,a⟩:∃n,(ao l).length=n+1:=⟨(ao l).length- 1,by have:=List.length_pos_iff.2 h0;omega⟩;exact h _ (cI (List.mem_of_getElem? (dn a)))
def aN(n:Nat)(f:Nat->Rat):Lq:=(List.range n).map f
@[simp] theorem sX (n:Nat)(f:Nat->Rat):(aN n f).length=n:=by simp[aN]
def coP(p:Lq)(i:Nat):Rat:=p.getD i 0
def fQ(p q:Lq):Lq:=ao (aN (max p.length q.length) fun i=>coP p i+coP q i)
def ba(p:Lq)(k:Rat):Lq:=ao (aN p.length fun i=>coP p i* k)
def eg(p q:Lq):Lq:=fQ p (ba q (-1))
def eJ(a:Rat):Lq:=ao [a]
def bi(p:Lq):Lq:=ao (aN (p.length- 1) fun i=>coP p (i+1) * ((i+1:Nat):Int))
def aH(p:Lq):Lq:=ao (aN (p.length+1) fun i=>if i=0 then 0 else coP p (i- 1) / ((i:Nat):Int))
def sameP(p q:Lq):Bool:=decide (ao p=ao q)
def cu(p:Lq):Lq:=if ao p=[] then [] else ba p (1/ aM p)
theorem oa(h:smL p)(i:Nat):sm (coP p i):=by
 unfold coP;rw[List.getD_eq_getElem?_getD];cases hi:p[i]? with
 |none=>exact(by decide:sm 0)
 |some q=>exact h q (List.mem_of_getElem? hi)
theorem ci{i:Nat}(h:i< p.length):p[i]?=some (coP p i):=by
 unfold coP;grind
theorem eH{i:Nat}(h:p.length<=i):coP p i=0:=by
 unfold coP;grind
theorem oX:∀c∈zC,Closed c:=ac dl (ac (ag _) (ac dl af))
end
def bdL(l:Lq)(n:Nat):Prop:=∀q∈l,qs q<=n
instance (l:Lq) (n:Nat):Decidable (bdL l n):=inferInstanceAs (Decidable (∀q∈l,qs q<=n))
theorem dG{l:Lq}{n:Nat}(h:bdL l n)(hn:n<=137438953472):smL l:=fun q a=>Nat.le_trans (h q a) hn
theorem eM{l:Lq}{n:Nat}(h:bdL l n)(hn:1<=n)(i:Nat):qs (coP l i)<=n:=by
 unfold coP;rw[List.getD_eq_getElem?_getD];cases hi:l[i]? with
 |none=>exact Nat.le_trans (by decide:qs 0<=1) hn
 |some q=>exact h q (List.mem_of_getElem? hi)
def Co(o:Lq)(j:Nat)(x:Rat):Lq:=o.set j (coP o j+x)
def j2(o:Lq)(a:Rat)(q:Lq)(i:Nat):Nat->Lq
 |0=>o
 |k+1=>Co (j2 o a q i k) (i+k) (a* coP q k)
def e9(p q:Lq):Nat->Lq
 |0=>List.replicate (p.length+q.length- 1) 0
 |i+1=>if coP p i=0 then e9 p q i else j2 (e9 p q i) (coP p i) q i q.length
def aK(p q:Lq):Lq:=if p=[]\/q=[] then [] else ao (e9 p q p.length)
@[simp] theorem Ag (o:Lq)(j:Nat)(x:Rat):(Co o j x).length=o.length:=by simp[Co]
@[simp] theorem AD (o:Lq)(a:Rat)(q:Lq)(i k:Nat):(j2 o a q i k).length=o.length:=by
 induction k with
 |zero=>rfl
 |succ k ih=>rw[j2,Ag,ih]
@[simp] theorem nJ (p q:Lq)(i:Nat):(e9 p q i).length=p.length+q.length- 1:=by
 induction i with
 |zero=>simp[e9]
 |succ i ih=>rw[e9];split <;> simp[ih]
theorem sK(o:Lq)(j n:Nat)(x:Rat):coP (Co o j x) n=if n=j/\j< o.length then coP o j+x else coP o n:=by
 unfold Co coP;rw[List.getD_eq_getElem?_getD,List.getElem?_set,List.getD_eq_getElem?_getD,List.getD_eq_getElem?_getD];by_cases h:j=n;subst h;by_cases h2:j< o.length;simp[h2];simp[h2];rw[if_neg h,if_neg (by omega)]
theorem k6{o:Lq}{n:Nat}(h:∀i,qs (coP o i)<=n):bdL o n:=by
 intro q a;obtain⟨i,b,rfl⟩:=List.getElem_of_mem a;have:=h i;unfold coP at this;rwa[List.getD_eq_getElem?_getD,List.getElem?_eq_getElem b] at this
theorem uN(o:Lq)(a:Rat)(q:Lq)(i k n:Nat)(h:n< i\/i+k<=n):coP (j2 o a q i k) n=coP o n:=by
 induction k with
 |zero=>rfl
 |succ k b=>rw[j2,sK,if_neg (by omega),b (by omega)]
theorem EU{o:Lq}{a:Rat}{q:Lq}{B s t:Nat}(i:Nat)(ho:∀n,qs (coP o n)<=B)(ha:qs a<=s)(hq:∀n,qs (coP q n)<=t):∀k n,qs (coP (j2 o a q i k) n)<=B+(s+t+1)
 |0,n=>Nat.le_trans (ho n) (by omega)
 |k+1,n=>by
  rw[j2,sK];split;rw[uN o a q i k (i+k) (by omega)];have b:=gx (coP o (i+k)) (a* coP q k);have c:=dw a (coP q k);have e:=ho (i+k);have d:=hq k;omega;exact EU i ho ha hq k n
theorem tK{p q:Lq}{s t:Nat}(hp:∀n,qs (coP p n)<=s)(hq:∀n,qs (coP q n)<=t):∀i n,qs (coP (e9 p q i) n)<=i* (s+t+1)+1
 |0,n=>by
  have:coP (e9 p q 0) n=0:=by
   unfold e9 coP;rw[List.getD_eq_getElem?_getD,List.getElem?_replicate];split <;> rfl
  rw[this];exact Nat.le_add_left 1 _
 |i+1,n=>by
  rw[e9,Nat.add_mul,Nat.one_mul];split;have:=tK hp hq i n;omega;have:=EU (B:=i* (s+t+1)+1) i (tK hp hq i) (hp i) hq q.length n;omega
theorem tM{p q:Lq}{s t:Nat}(hp:bdL p s)(hq:bdL q t)(hs:1<=s)(ht:1<=t):bdL (aK p q) (p.length* (s+t+1)+1):=by
 unfold aK;split;intro q hq;cases hq;intro x a;exact k6 (tK (eM hp hs) (eM hq ht) p.length) x (cI a)
theorem CvLL.zeros{r:Ren}{hp hp':Hq}(h:Shr r hp hp')(n:Nat):CvLL r hp hp' (List.replicate n zC) (pE (List.replicate n 0)):=by
 induction n with
 |zero=>rfl
 |succ n a=>
  refine⟨qC 0,_,rfl,?_,a⟩;rw[qC0];exact ah (Cv.emp _) (ah (an h (ag _)) (ah (Cv.emp _) av))
def Ar(o:Lq)(j:Nat)(x:Rat):Lq:=o.set j (coP o j- x)
def fE(o:Lq)(k:Rat)(q:Lq)(n:Nat):Nat->Lq
 |0=>o
 |i+1=>Ar (fE o k q n i) (n+i) (k* coP q i)
def kx(q:Lq)(lead:Rat):Nat->Lq->Lq->Lq×Lq
 |0,u,o=>(u,o)
 |n+1,u,o=>kx q lead n (u.set n (coP o (n+q.length- 1) / lead)) (if coP o (n+q.length- 1) / lead=0 then o else fE o (coP o (n+q.length- 1) / lead) q n q.length)
def dq(p q:Lq):Lq×Lq:=
 let r:=kx (ao q) (aM q) ((ao p).length+1- (ao q).length) (List.replicate ((ao p).length+1- (ao q).length) 0) (ao p)
 (ao r.1,ao r.2)
@[simp] theorem yo (o:Lq)(j:Nat)(x:Rat):(Ar o j x).length=o.length:=by simp[Ar]
@[simp] theorem gV (o:Lq)(a:Rat)(q:Lq)(i k:Nat):(fE o a q i k).length=o.length:=by
 induction k with
 |zero=>rfl
 |succ k ih=>rw[fE,yo,ih]
theorem kP(q:Lq)(lead:Rat):∀c u o,(kx q lead c u o).1.length=u.length/\(kx q lead c u o).2.length=o.length
 |0,u,o=>⟨rfl,rfl⟩
 |n+1,u,o=>by
  refine⟨(kP q lead n _ _).1.trans (by simp),(kP q lead n _ _).2.trans ?_⟩;split <;> simp
theorem ud(o:Lq)(j n:Nat)(x:Rat):coP (o.set j x) n=if n=j/\j< o.length then x else coP o n:=by
 unfold coP;grind
theorem oU(o:Lq)(j n:Nat)(x:Rat):coP (Ar o j x) n=if n=j/\j< o.length then coP o j- x else coP o n:=ud o j n _
theorem nB(o:Lq)(a:Rat)(q:Lq)(i k n:Nat)(h:n< i\/i+k<=n):coP (fE o a q i k) n=coP o n:=by
 induction k with
 |zero=>rfl
 |succ k b=>rw[fE,oU,if_neg (by omega),b (by omega)]
theorem EV{o:Lq}{a:Rat}{q:Lq}{B s t:Nat}(i:Nat)(ho:∀n,qs (coP o n)<=B)(ha:qs a<=s)(hq:∀n,qs (coP q n)<=t):∀k n,qs (coP (fE o a q i k) n)<=B+(s+t+1)
 |0,n=>Nat.le_trans (ho n) (by omega)
 |k+1,n=>by
  rw[fE,oU];split;rw[nB o a q i k (i+k) (by omega)];have b:=me (coP o (i+k)) (a* coP q k);have c:=dw a (coP q k);have e:=ho (i+k);have d:=hq k;omega;exact EV i ho ha hq k n
def D6(q:Lq)(lead:Rat)(L c:Nat)(u o:Lq):Prop:=
 ∃B t,(∀n,qs (coP o n)<=B)/\(∀n,qs (coP q n)<=t)/\qs lead<=t/\1<=t/\(∀n,qs (coP u n)<=L)/\2^ c* (B+2* t+1)<=L
theorem BT{q:Lq}{lead:Rat}{L c:Nat}{u o:Lq}(h:D6 q lead L c u o):∃B t,(∀n,qs (coP o n)<=B)/\(∀n,qs (coP q n)<=t)/\qs lead<=t/\B+2* t+1<=L:=by
 obtain⟨B,t,d,b,e,f,g,a⟩:=h;refine⟨B,t,d,b,e,Nat.le_trans ?_ a⟩;have:=Nat.mul_le_mul_right (B+2* t+1) (Nat.one_le_two_pow (n:=c));omega
theorem xT{q:Lq}{lead:Rat}{L n:Nat}{u o:Lq}(h:D6 q lead L (n+1) u o):
    D6 q lead L n (u.set n (coP o (n+q.length- 1) / lead)) (if coP o (n+q.length- 1) / lead=0 then o else fE o (coP o (n+q.length- 1) / lead) q n q.length):=by
 obtain⟨B,t,d,c,i,g,r,e⟩:=h;obtain⟨k,f⟩:∃k,k=coP o (n+q.length- 1) / lead:=⟨_,rfl⟩
 have b:qs k<=B+t:=by
  have e1:=ik (coP o (n+q.length- 1)) lead;grind
 rw[<-f];obtain⟨W,l⟩:∃W,W=2^ n:=⟨_,rfl⟩;have a:1<=W:=by grind
 rw[Nat.pow_succ] at e;have p:W* (2* B+2* t+1+2* t+1)<=L:=by grind
 have m:2* B+2* t+1+2* t+1<=L:=by
  have:=Nat.mul_le_mul_right (2* B+2* t+1+2* t+1) a;omega
 refine⟨2* B+2* t+1,t,fun j=>?_,c,i,g,fun j=>?_,by grind⟩;split;have:=d j;omega;have:=EV n d b c q.length j;omega;rw[ud];grind
theorem zS{q:Lq}{lead:Rat}{L:Nat}:∀{c u o},D6 q lead L c u o->(∀n,qs (coP (kx q lead c u o).1 n)<=L)/\(∀n,qs (coP (kx q lead c u o).2 n)<=L)
 |0,u,o,h=>by
  obtain⟨B,t,a,e,f,d⟩:=BT h;obtain⟨_,_,_,_,_,_,b,_⟩:=h;exact⟨b,fun n=>Nat.le_trans (a n) (by omega)⟩
 |n+1,u,o,h=>zS (c:=n) (xT h)
section
variable {p q:Lq}
def mxL(l:Lq):Nat:=l.foldr (fun q n=>max (qs q) n) 1
theorem eO(l:Lq):1<=mxL l:=by
 induction l with
 |nil=>exact Nat.le_refl _
 |cons q l a=>exact Nat.le_trans a (Nat.le_max_right _ _)
theorem e8(l:Lq):bdL l (mxL l):=by
 induction l with
 |nil=>intro q b;grind
 |cons a l c=>
  intro q b;rcases List.mem_cons.1 b with rfl|b
  exact Nat.le_max_left _ _;exact Nat.le_trans (c q b) (Nat.le_max_right _ _)
theorem mxL_le{l:Lq}{n:Nat}(h:bdL l n)(hn:1<=n):mxL l<=n:=by
 induction l with
 |nil=>exact hn
 |cons a l c=>exact Nat.max_le.2 ⟨h a (List.mem_cons_self ..),c fun q b=>h q (List.mem_cons_of_mem _ b)⟩
def u7(p q:Lq):Prop:=2^ ((ao p).length+1- (ao q).length) * (mxL p+2* mxL q+1)<=137438953472/\p.length<=274877906944/\q.length<=274877906944
instance (p q:Lq):Decidable (u7 p q):=inferInstanceAs (Decidable (_/\_/\_))
theorem D5{s t L:Nat}(hp:bdL p s)(hq:bdL q t)(hs:1<=s)(ht:1<=t)(hq0:ao q≠[])(m:Nat)(h:2^ m* (s+2* t+1)<=L):D6 (ao q) (aM q) L m (List.replicate m 0) (ao p):=by
 have b:1<=L:=by
  have d:=Nat.mul_le_mul_right (s+2* t+1) (Nat.one_le_two_pow (n:=m));omega
 have c:=List.length_pos_iff.2 hq0;refine⟨s,t,eM (fun x a=>hp x (cI a)) hs,eM (fun x a=>hq x (cI a)) ht,hq _ (cI (List.mem_of_getElem? (dn (n:=(ao q).length- 1) (by omega)))),ht,fun n=>?_,h⟩
 have:coP (List.replicate m 0) n=0:=by
  unfold coP;rw[List.getD_eq_getElem?_getD,List.getElem?_replicate];split <;> rfl
 rw[this];exact Nat.le_trans (by decide:qs 0<=1) b
theorem FN{s t L:Nat}(hp:bdL p s)(hq:bdL q t)(hs:1<=s)(ht:1<=t)(hq0:ao q≠[])(h:2^ ((ao p).length+1- (ao q).length) * (s+2* t+1)<=L):bdL (dq p q).1 L/\bdL (dq p q).2 L:=by
 have:=zS (D5 hp hq hs ht hq0 _ h);exact⟨fun x a=>k6 this.1 x (cI a),fun x a=>k6 this.2 x (cI a)⟩
theorem zT(h:u7 p q)(hq0:ao q≠[]):smL (dq p q).1/\smL (dq p q).2:=
 have:=FN (e8 p) (e8 q) (eO p) (eO q) hq0 h.1
 ⟨dG this.1 (Nat.le_refl _),dG this.2 (Nat.le_refl _)⟩
theorem rf:(dq p q).1.length<=p.length+1/\(dq p q).2.length<=p.length:=by
 have a:=kP (ao q) (aM q) ((ao p).length+1- (ao q).length) (List.replicate ((ao p).length+1- (ao q).length) 0) (ao p);have d:=bR p;have c:=bR (kx (ao q) (aM q) ((ao p).length+1- (ao q).length) (List.replicate ((ao p).length+1- (ao q).length) 0) (ao p)).1;have b:=bR (kx (ao q) (aM q) ((ao p).length+1- (ao q).length) (List.replicate ((ao p).length+1- (ao q).length) 0) (ao p)).2;rw[a.1,List.length_replicate] at c;rw[a.2] at b;exact⟨by unfold dq;simp only;omega,by unfold dq;simp only;omega⟩
theorem dJ(p:Lq)(k:Rat):(ba p k).length<=p.length:=by
 have:=bR (aN p.length fun i=>coP p i* k);simpa[ba] using this
theorem pp(p:Lq):(cu p).length<=p.length:=by
 unfold cu;split;simp;exact dJ _ _
def pu:Nat->Lq->Lq->Option Lq
 |0,_,_=>none
 |f+1,p,q=>if ao q=[] then(if smL p then some (cu p) else none) else if u7 p q then pu f q (cu (dq p q).2) else none
end
def ak:Lq->Rat->Rat
 |[],_=>0
 |a::l,x=>ak l x* x+a
def lT(l:Lq)(k:Nat):Option La:=if k< l.length then some [i64 ((l.length- 1- k:Nat):Int),.agg (qC (coP l (l.length- 1- k)))] else none
theorem sD{l:Lq}{k:Nat}(h:k< l.length):l.drop (l.length- (k+1))=coP l (l.length- 1- k)::l.drop (l.length- k):=by
 have a:l.length- (k+1)< l.length:=by omega
 rw[List.drop_eq_getElem_cons a,show l.length- (k+1)+1=l.length- k by omega];congr 1;have:=ci a;rw[List.getElem?_eq_getElem a] at this;rw[show l.length- 1- k=l.length- (k+1) by omega];exact Option.some.inj this
theorem lJ{x:Rat}{s t:Nat}(hx:qs x<=t):∀{l:Lq},bdL l s->qs (ak l x)<=l.length* (s+t+1)+1
 |[],_=>by show qs 0<=_;exact Nat.le_trans (by decide:qs 0<=1) (Nat.le_add_left 1 _)
 |a::l,h=>by
  have c:=lJ (l:=l) hx fun q b=>h q (List.mem_cons_of_mem _ b);have ha:=h a (List.mem_cons_self ..);have e:=gx (ak l x* x) a;have d:=dw (ak l x) x;show qs (ak l x* x+a)<=(l.length+1) * (s+t+1)+1;rw[Nat.add_mul,Nat.one_mul];omega
def gz(p:Lq)(x:Rat):Prop:=p.length* (mxL p+qs x+1)+mxL p+qs x+2<=137438953472/\p.length<=274877906944
instance (p:Lq) (x:Rat):Decidable (gz p x):=inferInstanceAs (Decidable (_/\_))
theorem DZ{p:Lq}{x:Rat}(h:gz p x)(k:Nat)(hk:k< p.length):qs (ak (p.drop (p.length- k)) x)+qs x<=549755813888/\qs (ak (p.drop (p.length- k)) x* x)+qs (coP p (p.length- 1- k))<=549755813888:=by
 have d:=lJ (t:=qs x) (Nat.le_refl _) (l:=p.drop (p.length- k)) (s:=mxL p) fun q a=>e8 p q (List.mem_of_mem_drop a);have b:=dw (ak (p.drop (p.length- k)) x) x;have f:=eM (e8 p) (eO p) (p.length- 1- k);have c:=h.1;have e:(p.drop (p.length- k)).length* (mxL p+qs x+1)<=p.length* (mxL p+qs x+1):=Nat.mul_le_mul_right _ (by simp);omega
theorem vJ{p:Lq}{x:Rat}(h:gz p x):sm (ak p x):=by
 have a:=lJ (t:=qs x) (Nat.le_refl _) (e8 p);have b:=h.1;unfold sm;omega
abbrev Sp:=Rat×Rat
def AO(a b:Sp):Lq:=[a.1* b.1,a.1* b.2,a.2* b.1,a.2* b.2]
def uC(a b:Sp):Sp:=(Dg (AO a b),lr (AO a b))
def EH(a b:Sp):Sp:=(a.1+b.1,a.2+b.2)
def smS(a:Sp):Prop:=sm a.1/\sm a.2
instance (a:Sp):Decidable (smS a):=inferInstanceAs (Decidable (_/\_))
def ovP(v0 s:Sp):Lq->Sp
 |[]=>v0
 |a::l=>EH (uC (ovP v0 s l) s) (a,a)
def Gl(v0 s:Sp):Lq->Prop
 |[]=>smS v0
 |a::l=>Gl v0 s l/\smL (AO (ovP v0 s l) s)/\sm a/\smS (EH (uC (ovP v0 s l) s) (a,a))
instance okOv_dec (v0 s:Sp):(l:Lq)->Decidable (Gl v0 s l)
 |[]=>inferInstanceAs (Decidable (smS v0))
 |a::l=> @instDecidableAnd _ _ (okOv_dec v0 s l) (inferInstanceAs (Decidable (_/\_/\_)))
theorem okOv_sm{v0 s:Sp}:∀{l:Lq},Gl v0 s l->smS (ovP v0 s l)
 |[],h=>h
 |_::_,h=>h.2.2.2
theorem xd{v0 s:Sp}:∀{l:Lq} (n:Nat),Gl v0 s l->Gl v0 s (l.drop n)
 |_,0,h=>h
 |[],_+1,h=>h
 |_::_,n+1,h=>xd n h.1
def iH(p:Lq)(s:Sp):Sp:=if¬fi s.1 s.2<=0\/ao p=[] then(0,0) else ovP (aM p,aM p) s ((ao p).take ((ao p).length- 1))
def yW(p:Lq)(s:Sp):Prop:=smL p/\smS s/\p.length<=274877906944/\Gl (aM p,aM p) s ((ao p).take ((ao p).length- 1))
instance (p:Lq) (s:Sp):Decidable (yW p s):=inferInstanceAs (Decidable (_/\_/\_/\_))
def j7(p q:Lq):Prop:=p.length* (mxL p+mxL q+1)+1<=137438953472/\mxL q<=137438953472/\p.length<=274877906944/\q.length<=274877906944
instance (p q:Lq):Decidable (j7 p q):=inferInstanceAs (Decidable (_/\_/\_/\_))
theorem u6{p q:Lq}(h:j7 p q):smL (aK p q):=
 dG (tM (e8 p) (e8 q) (eO p) (eO q)) h.1
theorem lX(p q:Lq):(fQ p q).length<=max p.length q.length:=by
 have:=bR (aN (max p.length q.length) fun i=>coP p i+coP q i);simpa[fQ] using this
theorem vd(p q:Lq):(aK p q).length<=p.length+q.length:=by
 unfold aK;split;simp;have:=bR (e9 p q p.length);rw[nJ] at this;omega
theorem pF(a:Rat):(eJ a).length<=1:=bR [a]
def cn(q:Lq):Lq->Lq
 |[]=>[]
 |a::l=>fQ (aK (cn q l) q) (eJ a)
def gP(q:Lq):Lq->Prop
 |[]=>True
 |a::l=>gP q l/\j7 (cn q l) q/\sm a/\(aK (cn q l) q).length<=274877906944
instance okComp_dec (q:Lq):(l:Lq)->Decidable (gP q l)
 |[]=>inferInstanceAs (Decidable True)
 |a::l=> @instDecidableAnd _ _ (okComp_dec q l) (inferInstanceAs (Decidable (_/\_/\_)))
theorem td{q:Lq}:∀{l:Lq} (n:Nat),gP q l->gP q (l.drop n)
 |_,0,h=>h
 |[],_+1,h=>h
 |_::_,n+1,h=>td n h.1
section
variable {α:Type}{k d b n:Nat}{l:Ln}
theorem iq(b:Nat)(s:Ln)(v:Nat):ofD b (s++[v])=ofD b s+b^ s.length* v:=by rw[gQ];simp[ofD]
theorem cJ{l:List α}{x:α}(h:l[k]?=some x):l.take (k+1)=l.take k++[x]:=by
 rw[List.take_add_one,h];rfl
theorem cX(b:Nat)(h:l[k]?=some d):ofD b (l.take (k+1))=ofD b (l.take k)+b^ k* d:=by
 have a:k< l.length:=(List.getElem?_eq_some_iff.1 h).1;rw[cJ h,iq,List.length_take,Nat.min_eq_left (by omega)]
theorem eT(b:Nat)(l:Ln)(k:Nat):ofD b (l.take (k+1))=ofD b (l.take k)+b^ k* (l[k]?.getD 0):=by
 cases h:l[k]? with
 |some d=>exact cX b h
 |none=>rw[List.getElem?_eq_none_iff] at h;rw[List.take_of_length_le (by omega),List.take_of_length_le (by omega)];simp
theorem io(b:Nat)(h:l.length<=k):ofD b (l.take k)=ofD b l:=by rw[List.take_of_length_le h]
theorem lj(b:Nat)(h:l[k]?=some d):ofD b (l.drop k)=d+b* ofD b (l.drop (k+1)):=by
 rw[List.drop_eq_getElem_cons (List.getElem?_eq_some_iff.1 h).1,ofD];grind
theorem ql(b:Nat):∀{l:Ln} {j d:Nat} (v:Nat),l[j]?=some d->ofD b (l.set j v)+b^ j* d=ofD b l+b^ j* v
 |[],_,_,_,h=>by grind
 |x::l,0,d,v,h=>by simp at h;simp[ofD];omega
 |x::l,j+1,d,v,h=>by
  simp only[List.getElem?_cons_succ] at h;have:=ql b v h;rw[List.set_cons_succ,ofD,ofD];grind
theorem tN{j v:Nat}{p:Nat->Prop}(h:∀d∈l,p d)(hv:p v):∀d∈l.set j v,p d:=by grind
theorem Ge{cs vs:List α}(h:vs.length=cs.length):fa cs 0 vs=vs:=by
 apply List.ext_getElem?;intro j;rw[eP];grind
theorem AB{cs vs:List α}(h:vs.length<=cs.length):fa cs 0 vs=vs++cs.drop vs.length:=by
 apply List.ext_getElem?;intro j;rw[eP];grind
theorem Ay(s:Ln)(m v i:Nat)(hi:i=s.length):(s++List.replicate (m+1) 0).set i v=(s++[v])++List.replicate m 0:=by
 subst hi;grind
theorem Bg(s:Ln)(m i:Nat)(hi:i=s.length):(s++List.replicate (m+1) 0)[i]?=some 0:=by grind
theorem cO{i:Nat}(hb:1< b)(h:(aw b n)[i]?=some d):d< b:=ec hb n d (List.mem_of_getElem? h)
theorem D7(h0:0< n)(h:n< MB):aw MB n=[n]:=by
 rw[fo (by decide) h0,Nat.div_eq_of_lt h,cL,Nat.mod_eq_of_lt h]
theorem G8(hb:1< b)(n k:Nat):(aw b n).drop k=aw b (ofD b ((aw b n).drop k)):=by
 symm;refine vS hb ⟨fun d a=>ec hb n d (List.mem_of_mem_drop a),?_⟩;by_cases hk:k< (aw b n).length;rw[List.getLast?_drop,if_neg (by omega)];exact sH hb n;grind
theorem tk(hb:1< b):b^ ((aw b n).length- 1)<=n\/n=0:=by
 rcases Nat.eq_zero_or_pos n with h|h
 exact .inr h;have a:aw b n≠[]:=fun e=>by have:=(jm hb).1 e;omega
 have c:=sH hb n;obtain⟨s,x,e⟩:∃s x,aw b n=s++[x]:=⟨_,_,(List.dropLast_concat_getLast a).symm⟩;have d:=bU hb n;rw[e,iq] at d;rw[e] at c;simp at c;rw[e];simp;have:b^ s.length* 1<=b^ s.length* x:=Nat.mul_le_mul_left _ (by omega);omega
theorem jP{m:Nat}(hb:1< b)(h:(aw b m).length< (aw b n).length):m< n:=by
 have c:=fG (b:=b) (ec hb m);rw[bU hb] at c;rcases tk (n:=n) hb with a|a
 have:b^ (aw b m).length<=b^ ((aw b n).length- 1):=Nat.pow_le_pow_right (by omega) (by omega);omega;subst a;rw[cL] at h;grind
theorem A8{m:Nat}(hb:1< b)(h:m<=n):(aw b m).length<=(aw b n).length:=by
 rcases Nat.lt_or_ge (aw b n).length (aw b m).length with a|a
 have:=jP hb a;omega;grind
def kJ(n k:Nat):Nat:=ofD MB ((aw MB n).drop k)
def wD(n k:Nat):Ln:=(aw MB n).take k
theorem uQ(n:Nat):kJ n 0=n:=bU (by decide) n
theorem iK(n:Nat):wD n 0=[]:=rfl
theorem Ii(n:Nat):wD n (aw MB n).length=aw MB n:=List.take_length
theorem nC(h:k<=(aw MB n).length):(wD n k).length=k:=by simp[wD,Nat.min_eq_left h]
theorem uR(h:k< (aw MB n).length):kJ n (k+1)=kJ n k/ MB/\wD n (k+1)=wD n k++[kJ n k % MB]:=by
 have a:(aw MB n)[k]?=some (aw MB n)[k]:=List.getElem?_eq_getElem h;have c:=lj MB a;have b:(aw MB n)[k]< MB:=cO (by decide) a;constructor;unfold kJ;rw[c,Nat.add_mul_div_left _ _ (by decide),Nat.div_eq_of_lt b];omega;unfold wD kJ;rw[cJ a,c,Nat.add_mul_mod_self_left,Nat.mod_eq_of_lt b]
theorem H3(hk:k<=(aw MB n).length):kJ n k<=n:=by
 have:=er MB k _ hk;rw[bU (by decide)] at this;have a:=Nat.le_mul_of_pos_left (ofD MB ((aw MB n).drop k)) (Nat.pow_pos (n:=k) (show 0< MB by decide));unfold kJ;omega
theorem H4(hk:k<=(aw MB n).length):kJ n k=0↔k=(aw MB n).length:=by
 constructor;intro e;have:=G8 (b:=MB) (by decide) n k;rw[show ofD MB ((aw MB n).drop k)=0 from e,cL,List.drop_eq_nil_iff] at this;omega;intro e;unfold kJ;rw[e,List.drop_length];rfl
end
def eN(a b:Int):Int:=if a< b then -1 else if b< a then 1 else 0
theorem mX{a b:Int}(h:a< b):eN a b= -1:=by simp[eN,h]
theorem oW{a b:Int}(h:b< a):eN a b=1:=by simp[eN];omega
theorem FV{a b:Int}(h:a=b):eN a b=0:=by simp[eN];omega
theorem ug{a b:Int}:eN a b≠0↔a≠b:=by unfold eN;split <;>(try split)<;> omega
theorem oG{b i x y:Nat}{l m:Ln}(hl:∀d∈l,d< b)(hx:l[i]?=some x)(hy:m[i]?=some y)(hd:l.drop (i+1)=m.drop (i+1))(hlt:x< y):ofD b l< ofD b m:=by
 have f:i< l.length:=(List.getElem?_eq_some_iff.1 hx).1;have c:i< m.length:=(List.getElem?_eq_some_iff.1 hy).1;rw[er b i l (by omega),er b i m (by omega),lj b hx,lj b hy,hd]
 have e:ofD b (l.take i)< b^ i:=by
  have:=fG (b:=b) (l:=l.take i) fun d hd=>hl d (List.mem_of_mem_take hd);rwa[List.length_take,Nat.min_eq_left (by omega)] at this
 have a:b^ i* (x+b* ofD b (m.drop (i+1))+1)<=b^ i* (y+b* ofD b (m.drop (i+1))):=Nat.mul_le_mul_left _ (by omega);rw[Nat.mul_add _ _ 1] at a;omega
theorem qF(s t:Ln)(x:Nat)(i:Nat)(hi:i=s.length):(s++x::t)[i]?=some x:=by subst hi;simp
theorem pX(s t:Ln)(x v:Nat)(i:Nat)(hi:i=s.length):(s++x::t).set i v=(s++[v])++t:=by
 subst hi;rw[List.set_append_right _ _ (Nat.le_refl _)];simp
theorem fY{l:Ln}{i x:Nat}(h:l[i]?=some x):l.drop i=x::l.drop (i+1):=by
 rw[List.drop_eq_getElem_cons (List.getElem?_eq_some_iff.1 h).1,(List.getElem?_eq_some_iff.1 h).2]
section
variable {l:Ln}
abbrev UB:Nat:=32768
def iE(l:Ln):Lc:=l.map fun(d:Nat)=>[i64 d]
def hv(l:Ln):Nat:=ofD UB l.reverse
def zd(n:Nat):Ln:=(aw UB n).reverse
def zZ(z:Int):La:=[i64 (sgZ z),.arr (iE (zd z.natAbs))]
def gu:Ln->Ln
 |[]=>[]
 |d::l=>if d=0 then gu l else d::l
@[simp] theorem r6 (l:Ln):(iE l).length=l.length:=by simp[iE]
theorem kY{i d:Nat}(h:l[i]?=some d):(iE l)[i]?=some [i64 d]:=by simp[iE,h]
theorem iE_take(l:Ln)(k:Nat):(iE l).take k=iE (l.take k):=by simp[iE]
theorem oK(l m:Ln):iE (l++m)=iE l++iE m:=by simp[iE]
theorem pt(l:Ln)(i d:Nat):(iE l).set i [i64 d]=iE (l.set i d):=by simp[iE,List.map_set]
theorem jI(k:Nat):List.replicate k [i64 0]=iE (List.replicate k 0):=by simp[iE]
theorem dT(l:Ln):(iE l).all (·.all AV.one)=true:=by
 simp only[iE,List.all_map,List.all_eq_true];intro d _;rfl
theorem mr(l:Ln):∀e∈iE l,e.length=1:=by intro e a;simp[iE] at a;obtain⟨d,_,rfl⟩:=a;rfl
theorem dK(l:Ln):∀e∈iE l,∀c∈e,Closed c:=by
 intro e a c b;simp[iE] at a;obtain⟨d,_,rfl⟩:=a;simp at b;subst b;exact ag _
theorem eX(l:Ln):Closed (.arr (iE l)):=aG (dK l)
theorem ga(z:Int):∀c∈zZ z,Closed c:=ac (ag _) (ac (eX _) af)
theorem c7(z:Int):Closed (.agg (zZ z)):=az (ga z)
theorem CH(m:Ln)(d:Nat):fl (m++[d])=if d=0 then fl m else m++[d]:=by
 induction m with
 |nil=>simp[fl]
 |cons a m b=>
  rw[List.cons_append,fl,b];by_cases hd:d=0;rw[if_pos hd,if_pos hd];rfl;rw[if_neg hd,if_neg hd];cases m <;> rfl
theorem As(l:Ln):gu l=(fl l.reverse).reverse:=by
 induction l with
 |nil=>rfl
 |cons d l a=>
  rw[gu,List.reverse_cons,CH];split;exact a;simp
theorem fT(h:∀d∈l,d< UB):gu l=zd (hv l):=by
 rw[As,jV (b:=UB) (by decide) (fun d a=>h d (List.mem_reverse.1 a))];rfl
theorem lC(n:Nat):hv (zd n)=n:=by unfold hv zd;rw[List.reverse_reverse,bU (by decide)]
theorem jU(n:Nat):∀d∈zd n,d< UB:=fun d a=>ec (by decide) n d (List.mem_reverse.1 a)
theorem c5(n:Nat):(zd n).length=(aw UB n).length:=List.length_reverse
theorem qD(d:Nat)(l:Ln):hv (d::l)=hv l+UB^ l.length* d:=by
 unfold hv;rw[List.reverse_cons,iq,List.length_reverse]
theorem qB(l:Ln)(d:Nat):hv (l++[d])=hv l* UB+d:=by
 unfold hv;simp[ofD];rw[Nat.mul_comm,Nat.add_comm]
theorem vi:hv []=0:=rfl
theorem pL:zd 0=[]:=by unfold zd;rw[cL];rfl
theorem zd_eq_nil{n:Nat}:zd n=[]↔n=0:=by
 unfold zd;rw[List.reverse_eq_nil_iff];exact jm (by decide)
theorem uA(h:∀d∈l,d< UB):gu l=[]↔hv l=0:=by rw[fT h];exact zd_eq_nil
theorem zZ_zero:zZ 0=[i64 0,.arr []]:=by unfold zZ;show [i64 0,AV.arr (iE (zd 0))]=_;rw[pL];rfl
theorem Fp(h:∀d∈l,d< UB):hv l< UB^ l.length:=by
 have:=fG (b:=UB) (l:=l.reverse) fun d a=>h d (List.mem_reverse.1 a);rwa[List.length_reverse] at this
theorem AEval.lenI{P:Program}{id:Nat}{ev:Operand->Option AV}{hp:Hq}{c:Call}{x:Operand}{T:Nat}{d:Nat×Nat}(hc:c.callee= .builtin .len)(ha:c.args= #[x])(ht:c.argTypes= #[T])(hx:ev x=some (.arr (iE l)))(he:eB P T=some d):
    AEval P id ev hp (.call c) ⟨.v (.int .i64 (l.length:Nat)),[]⟩ []:= .len hc ha ht hx (by simp[rX]) he
end
abbrev RQ:=Rat×Bool
def rok(x:RQ):Prop:=x.2=true->x.1=0
def rC(x:RQ):La:=zZ x.1.num++zZ (if x.2 then 0 else(x.1.den:Int))
def rq(q:Rat):RQ:=(q,false)
theorem yH(q:Rat):rok (rq q):=fun h=>by cases h
@[simp] theorem rC_length (x:RQ):(rC x).length=4:=rfl
theorem gd(x:RQ):∀c∈rC x,Closed c:=fun c a=>(List.mem_append.1 a).elim (ga _ c) (ga _ c)
theorem lP(x:RQ):Closed (.agg (rC x)):=az (gd x)
theorem rC_rq(q:Rat):rC (rq q)=zZ q.num++zZ (q.den:Int):=rfl
def rE(l:List RQ):Lc:=l.map rC
@[simp] theorem rE_length (l:List RQ):(rE l).length=l.length:=by simp[rE]
theorem rE_get{l:List RQ}{i:Nat}{q:RQ}(h:l[i]?=some q):(rE l)[i]?=some (rC q):=by simp[rE,h]
theorem rE_take(l:List RQ)(k:Nat):(rE l).take k=rE (l.take k):=by simp[rE]
theorem dS(l:List RQ):(rE l).all (·.all AV.one)=true:=by
 simp only[rE,List.all_map,List.all_eq_true];intro q _;rfl
theorem yN(l:List RQ):∀e∈rE l,e.length=4:=by
 intro e a;obtain⟨q,_,rfl⟩:=List.mem_map.1 a;rfl
theorem jQ(l:List RQ):∀e∈rE l,∀c∈e,Closed c:=by
 intro e a c b;obtain⟨q,_,rfl⟩:=List.mem_map.1 a;exact gd q c b
theorem fj(l:List RQ):Closed (.arr (rE l)):=aG (jQ l)
theorem AEval.lenR{P:Program}{id:Nat}{ev:Operand->Option AV}{hp:Hq}{c:Call}{x:Operand}{T:Nat}{d:Nat×Nat}{l:List RQ}(hc:c.callee= .builtin .len)(ha:c.args= #[x])(ht:c.argTypes= #[T])(hx:ev x=some (.arr (rE l)))(he:eB P T=some d):
    AEval P id ev hp (.call c) ⟨.v (.int .i64 (l.length:Nat)),[]⟩ []:= .len hc ha ht hx (by simp[rX]) he
theorem Gd{n:Int}{d:Nat}(hd:0< d):sgZ (mkRat n d).num=sgZ n:=by
 rw[jO hd];have b:0< Nat.gcd n.natAbs d:=Nat.gcd_pos_of_pos_right _ hd;have a:n≠0->0< n.natAbs/ Nat.gcd n.natAbs d:=fun h=>Nat.div_pos (Nat.gcd_le_left _ (by omega)) b;unfold sgZ sgn;by_cases h0:n=0;subst h0;simp;have:=a h0;by_cases hn:n< 0;simp[hn,h0];omega;simp[hn,h0];omega
theorem pD(n d:Int)(hd:d< 0):Rat.divInt n d=mkRat (-n) d.natAbs:=by
 obtain⟨m,rfl⟩:∃m:Nat,d=Int.negSucc m:=⟨d.natAbs- 1,by omega⟩;rfl
theorem pC(n d:Int)(hd:0< d):Rat.divInt n d=mkRat n d.natAbs:=by
 obtain⟨m,rfl⟩:∃m:Nat,d=(m:Int):=⟨d.natAbs,by omega⟩;rfl
theorem mW(a b:Rat):a/ b=Rat.divInt (a.num* b.den) (a.den* b.num):=by
 rw[Rat.div_def,Rat.inv_def]
 conv=>lhs;rw[<-Rat.num_divInt_den a]
 rw[Rat.divInt_mul_divInt]
abbrev nQ(n:Nat):Rat:=((n:Int):Rat)
theorem nQ_eq(n:Nat):nQ n=mkRat n 1:=(Rat.mkRat_one n).symm
theorem nQ_zero{n:Nat}:nQ n=0↔n=0:=by simp
theorem nh{n k:Nat}(h:bl n<=k)(hk:1<=k):qs (nQ n)<=k:=by
 refine Nat.max_le.2 ⟨?_,?_⟩;show bl ((n:Int)).natAbs<=k;rwa[Int.natAbs_natCast];show bl 1<=k;rw[jE];grind
theorem Iz(a b:Nat):nQ a* nQ b=nQ (a* b):=by grind
theorem nQ_sub{a b:Nat}(h:b<=a):nQ a- nQ b=nQ (a- b):=by
 rw[<-Rat.intCast_sub];congr 1;omega
theorem yY(a b:Nat)(hb:b≠0):nQ a/ nQ b=mkRat a b:=by
 rw[mW];simp
theorem xj(a b:Nat)(hb:b≠0)(h:b∣a):mkRat a b=nQ (a/ b):=by
 obtain⟨k,rfl⟩:=h;rw[Nat.mul_div_cancel_left _ (by omega),nQ_eq,Rat.mkRat_eq_iff hb (by decide),Int.natCast_mul,Int.mul_comm (b:Int)];simp
theorem A5(a b:Nat)(hb:b≠0):(mkRat a b).floor=((a/ b:Nat):Int):=by
 have h:=lm (n:=(a:Int)) (d:=b) (by omega);rw[Int.natAbs_natCast] at h;rw[Rat.floor_def,h.1,h.2,<-Int.natCast_ediv,<-Int.natCast_ediv,Nat.div_div_eq_div_mul,Nat.mul_div_cancel' (Nat.gcd_dvd_right a b)]
def iy:Lq->Nat->Nat
 |[],d=>d
 |c::l,d=>iy l (Nat.lcm d c.den)
def iF(c:Rat)(D:Nat):Nat:=c.num.natAbs* (D/ c.den)
def iN(D:Nat):Lq->Nat->Nat
 |[],n=>n
 |c::l,n=>iN D l (Nat.gcd n (iF c D))
def b4(p:Lq):Lq:=ba (ao p) (nQ (iy (ao p) 1) / nQ (iN (iy (ao p) 1) (ao p) 0))
def u4(p:Lq):Prop:=(p.length+4) * mxL p<=34359738368/\p.length<=274877906944
instance (p:Lq):Decidable (u4 p):=inferInstanceAs (Decidable (_/\_))
theorem Fg{a b:Nat}(ha:a≠0)(hb:b≠0):Nat.lcm a b≠0:=by simp_all
theorem ri:∀(l:Lq) {d:Nat},d≠0->iy l d≠0
 |[],_,h=>h
 |c::l,_,h=>ri l (Fg h c.den_nz)
theorem lL:∀(l:Lq) (d:Nat),d∣iy l d/\∀c∈l,c.den∣iy l d
 |[],d=>⟨Nat.dvd_refl d,fun _ h=>by cases h⟩
 |c::l,d=>by
  obtain⟨b,e⟩:=lL l (Nat.lcm d c.den);refine⟨Nat.dvd_trans (Nat.dvd_lcm_left d c.den) b,fun x a=>?_⟩;rcases List.mem_cons.1 a with rfl|a
  exact Nat.dvd_trans (Nat.dvd_lcm_right d x.den) b;exact e x a
theorem bl_lcm(a b:Nat):bl (Nat.lcm a b)<=bl a+bl b:=
 Nat.le_trans (eY _ _) (ja a b)
theorem zW{s:Nat}:∀(l:Lq) (d:Nat),bdL l s->bl (iy l d)<=bl d+l.length* s
 |[],d,_=>by simp[iy]
 |c::l,d,h=>by
  have f:=zW l (Nat.lcm d c.den) fun q a=>h q (List.mem_cons_of_mem _ a);have b:=bl_lcm d c.den;have g:=ed c;have e:=h c (List.mem_cons_self ..);rw[List.length_cons,Nat.add_mul];unfold iy;omega
theorem qt(c:Rat)(D:Nat)(h:c.den∣D):fq (c* nQ D)=nQ (iF c D):=by
 obtain⟨k,rfl⟩:=h;have a:=c.den_nz
 have e:c* nQ (c.den* k)=((c.num* (k:Int):Int):Rat):=by
  rw[oE];show mkRat (c.num* ((c.den* k:Nat):Int)) (c.den* 1)=_;rw[show((c.num* (k:Int):Int):Rat)=mkRat (c.num* k) 1 from(Rat.mkRat_one _).symm,Rat.mkRat_eq_iff (by omega) (by decide)];grind
 rw[e];unfold fq iF;show mkRat (((c.num* (k:Int)).natAbs:Nat):Int) 1=_;rw[Nat.mul_div_cancel_left _ (by omega),Int.natAbs_mul,Int.natAbs_natCast,nQ_eq]
theorem qq(D:Nat):∀(l:Lq) (n:Nat),iN D l n∣n/\∀c∈l,iN D l n∣iF c D
 |[],n=>⟨Nat.dvd_refl n,fun _ h=>by cases h⟩
 |c::l,n=>by
  obtain⟨b,d⟩:=qq D l (Nat.gcd n (iF c D));refine⟨Nat.dvd_trans b (Nat.gcd_dvd_left _ _),fun x a=>?_⟩;rcases List.mem_cons.1 a with rfl|a
  exact Nat.dvd_trans b (Nat.gcd_dvd_right _ _);exact d x a
theorem y8{c:Rat}{D:Nat}(h:c.den∣D)(hD:D≠0)(hc:c≠0):iF c D≠0:=by
 obtain⟨k,rfl⟩:=h;unfold iF;rw[Nat.mul_div_cancel_left _ c.den_pos];have a:c.num≠0:=fun e=>hc (Rat.num_eq_zero.1 e);refine Nat.mul_ne_zero (by omega) fun e=>hD (by grind)
theorem y9(c:Rat)(D:Nat):bl (iF c D)<=qs c+bl D:=by
 have a:=ja c.num.natAbs (D/ c.den);have b:=eY D c.den;have d:=ez c;unfold iF;omega
theorem kQ(p:Lq):(bi p).length<=p.length- 1:=by
 have:=bR (aN (p.length- 1) fun i=>coP p (i+1) * ((i+1:Nat):Int));simpa[bi] using this
def o5(f:Nat)(p:Lq):Option Lq:=
 if smL p/\p.length<=274877906944 then(pu f p (bi p)).bind fun g=>if ao g≠[]/\u7 p g then some (cu (dq p g).1) else none
 else none
def boL(lead:Rat):Lq->Rat->Rat
 |[],m=>m
 |c::l,m=>boL lead l (lr [m,fq (c/ lead)])
def a8(p:Lq):Rat:=boL (aM p) ((ao p).take ((ao p).length- 1)) 0+1
def oD(p:Lq):Prop:=mxL p<=34359738368/\p.length<=274877906944
instance (p:Lq):Decidable (oD p):=inferInstanceAs (Decidable (_/\_))
def kX(p:Lq):Int:=if bO p< 0 then 10 else if 40< bO p then 5 else 0
theorem C4(q:Rat):qs (fq q)=qs q:=by
 unfold qs;rw[Cp,Cq,Int.natAbs_natCast]
theorem Fc{l:Lq}{n:Nat}(h:bdL l n)(hn:1<=n):qs (lr l)<=n:=by
 unfold lr
 have a:∀(b:Int->Bool) (l:Lq) (o:Rat),qs o<=n->bdL l n->qs (l.foldl (fun o y=>if b (fi y o) then y else o) o)<=n:=by
  intro b l
  induction l with
  |nil=>intro o d _;exact d
  |cons y l g=>
   intro o d f;refine g _ ?_ fun q e=>f q (List.mem_cons_of_mem _ e);show qs (if b (fi y o)=true then y else o)<=n;split;exact f y (List.mem_cons_self ..);exact d
 cases l with
 |nil=>exact Nat.le_trans (by decide:qs 0<=1) hn
 |cons x l=>exact a (fun c=>decide (0< c)) l x (h x (List.mem_cons_self ..)) fun q e=>h q (List.mem_cons_of_mem _ e)
theorem Dj(p:Lq):aM (ao p)=aM p:=by unfold aM;rw[cw]
theorem G9(p:Lq):bO (ao p)=bO p:=by unfold bO;rw[cw]
def chL:List Int->Int->Int->Int
 |[],n,_=>n
 |s::l,n,last=>if s≠0 then chL l (if s= -last then n+1 else n) s else chL l n last
def oc(f:Nat):Nat->Lq->Lq->Lw->Option Lw
 |0,_,_,_=>none
 |k+1,last,next,acc=>
  if ao next=[] then some acc
  else if u4 next/\u7 last (b4 next)/\ao (b4 next)≠[] then oc f k (b4 next) (ba (dq last (b4 next)).2 (-1)) (acc++[b4 next])
  else none
def l8(f:Nat)(p:Lq):Option Lw:=
 if smL p/\u4 p/\ao p≠[] then oc f f (b4 p) (bi p) [b4 p] else none
def cE(l:Lw):Lc:=l.map fun p=>[.arr (pE p)]
@[simp] theorem cE_length (l:Lw):(cE l).length=l.length:=by simp[cE]
theorem Eg{l:Lw}{i:Nat}{p:Lq}(h:l[i]?=some p):(cE l)[i]?=some [.arr (pE p)]:=by simp[cE,h]
theorem dX(l:Lw):(cE l).all (·.all AV.one)=true:=by
 simp only[cE,List.all_map,List.all_eq_true];intro q _;rfl
theorem jR(l:Lw):∀e∈cE l,∀c∈e,Closed c:=by
 intro e a c b;obtain⟨q,_,rfl⟩:=List.mem_map.1 a;rw[List.mem_singleton.1 b];exact aB q
theorem oY(l:Lw):Closed (.arr (cE l)):=aG (jR l)
theorem cE_snoc(l:Lw)(p:Lq):cE (l++[p])=cE l++[[.arr (pE p)]]:=by simp[cE]
theorem AEval.lenC{P:Program}{id:Nat}{ev:Operand->Option AV}{hp:Hq}{c:Call}{x:Operand}{T:Nat}{d:Nat×Nat}{l:Lw}(hc:c.callee= .builtin .len)(ha:c.args= #[x])(ht:c.argTypes= #[T])(hx:ev x=some (.arr (cE l)))(he:eB P T=some d):
    AEval P id ev hp (.call c) ⟨.v (.int .i64 (l.length:Nat)),[]⟩ []:= .len hc ha ht hx (by simp[rX]) he
structure Cnt where
 p:Lq
 ch:Lw
 far:Int
def kC(c:Cnt):La:=[.arr (pE c.p),.arr (cE c.ch),i64 c.far]
abbrev kA(c:Cnt):AV:= .aptr [kC c] 0 0
theorem xZ(c:Cnt):∀x∈kC c,Closed x:=ac (aB _) (ac (oY _) (ac (ag _) af))
theorem fv(c:Cnt):Closed (kA c):=bq (xZ c)
def sgI(q:Lq):Int:=if bO q % 2=1 then -sgZ (aM q).num else sgZ (aM q).num
def sgE(x:Rat)(q:Lq):Int:=sgZ (ak q x).num
theorem ot(z:Int): -1<=sgZ z/\sgZ z<=1:=by
 unfold sgZ;split;omega;split <;> omega
theorem sgI_abs(q:Lq): -1<=sgI q/\sgI q<=1:=by
 have:=ot (aM q).num;unfold sgI;split <;> omega
theorem wl:∀(l:List Int) (n last:Int),n<=chL l n last/\chL l n last<=n+l.length
 |[],n,_=>⟨Int.le_refl _,by simp[chL]⟩
 |s::l,n,last=>by
  unfold chL;split;split;have:=wl l (n+1) s;simp only[List.length_cons];omega;have:=wl l n s;simp only[List.length_cons];omega;have:=wl l n last;simp only[List.length_cons];omega
def xf(c:Cnt):Prop:=(∀q∈c.ch,ao q≠[]/\q.length<=274877906944)/\c.ch.length<=274877906944/\c.far=chL (c.ch.map sgI) 0 0
instance (c:Cnt):Decidable (xf c):=inferInstanceAs (Decidable (_/\_/\_))
def dz(f:Nat)(p:Lq):Option Cnt:=
 (o5 f p).bind fun s=>(l8 f s).bind fun ch=>if xf ⟨s,ch,chL (ch.map sgI) 0 0⟩ then some ⟨s,ch,chL (ch.map sgI) 0 0⟩ else none
def cD(c:Cnt)(x:Rat):Int:=c.far- chL (c.ch.map (sgE x)) 0 0
def qi(c:Cnt)(x:Rat):Prop:=xf c/\∀q∈c.ch,gz q x
instance (c:Cnt) (x:Rat):Decidable (qi c x):=inferInstanceAs (Decidable (_/\_))
def ca(c:Cnt)(x:Rat):Int:=if ak c.p x=0 then cD c x- 1 else cD c x
def nI(c:Cnt)(x:Rat):Prop:=qi c x/\gz c.p x
instance (c:Cnt) (x:Rat):Decidable (nI c x):=inferInstanceAs (Decidable (_/\_))
def Hg(c:Cnt):Int:=cD c (a8 c.p)
def Ix(c:Cnt):Prop:=oD c.p/\ao c.p≠[]/\qi c (a8 c.p)
instance (c:Cnt):Decidable (Ix c):=inferInstanceAs (Decidable (_/\_/\_))
theorem k8{c:Cnt}{x:Rat}(h:xf c): -274877906944<=cD c x/\cD c x<=274877906944:=by
 have a:=wl (c.ch.map sgI) 0 0;have b:=wl (c.ch.map (sgE x)) 0 0;have d:=h.2.1;rw[<-h.2.2] at a;simp only[List.length_map] at a b;unfold cD;omega
end Go.Abs
