/- Part V12. -/
import Derived.Test.YtiodeiecpoopgaaGreatDoorV11
set_option linter.all false
namespace Go.Abs
section
variable {n:Int}{d k:Nat}
def zI(z:Int):La:=[mag z.natAbs,bln (decide (z< 0))]
def qC(q:Rat):La:=[mag q.num.natAbs,bln (decide (q.num< 0)),mag (q.den- 1)]
def sgn(b:Bool)(m:Nat):Int:=if b then -(m:Int) else m
theorem xF(z:Int):∀c∈zI z,Closed c:=ac (bY _) (ac (ag _) af)
theorem bi(q:Rat):∀c∈qC q,Closed c:=ac (bY _) (ac (ag _) (ac (bY _) af))
theorem iP(z:Int):Closed (.agg (zI z)):=aD (xF z)
theorem aO(q:Rat):Closed (.agg (qC q)):=aD (bi q)
theorem closed_mA(n:Nat):Closed (.agg [mag n]):=aD (ac (bY n) af)
theorem fE(b:Bool)(m:Nat):(sgn b m).natAbs=m:=by unfold sgn;grind
theorem sgn_neg(b:Bool)(m:Nat):decide (sgn b m< 0)=(b && !(m==0)):=by
 unfold sgn;grind
theorem o6(z:Int):sgn (decide (z< 0)) z.natAbs=z:=by
 unfold sgn;grind
def qs(q:Rat):Nat:=max (bl q.num.natAbs) (bl q.den)
theorem lh(hd:0< d):(mkRat n d).num=n/ (Nat.gcd n.natAbs d:Int)/\(mkRat n d).den=d/ Nat.gcd n.natAbs d:=by
 unfold mkRat;rw[dif_neg (by omega),Rat.normalize_eq];grind
theorem jJ(hd:0< d):(mkRat n d).num=sgn (decide (n< 0)) (n.natAbs/ Nat.gcd n.natAbs d):=by
 rw[(lh hd).1];have b:0< Nat.gcd n.natAbs d:=Nat.gcd_pos_of_pos_right _ hd;obtain⟨k,a⟩:=Nat.gcd_dvd_left n.natAbs d;generalize Nat.gcd n.natAbs d=g at b a⊢;rw[a,Nat.mul_div_cancel_left _ b];unfold sgn;split
 ·rename_i h
  have:=of_decide_eq_true h;have e:n=(g:Int) * (-(k:Int)):=by rw[Int.mul_neg,<-Int.natCast_mul];omega
  rw[e,Int.mul_ediv_cancel_left _ (by omega)]
 ·have e:n=(g:Int) * (k:Int):=by grind
  rw[e,Int.mul_ediv_cancel_left _ (by omega)]
theorem eX(a b:Nat):bl (a/ b)<=bl a:=dG (Nat.div_le_self _ _)
theorem fF(hd:0< d)(h1:bl n.natAbs<=k)(h2:bl d<=k):qs (mkRat n d)<=k:=by
 unfold qs;rw[jJ hd,fE,(lh hd).2];exact Nat.max_le.2 ⟨Nat.le_trans (eX _ _) h1,Nat.le_trans (eX _ _) h2⟩
theorem sG(a b:Rat):a+b=mkRat (a.num* b.den+b.num* a.den) (a.den* b.den):=by
 rw[Rat.add_def];unfold mkRat;grind
theorem nS(a b:Rat):a* b=mkRat (a.num* b.num) (a.den* b.den):=by
 rw[Rat.mul_def];unfold mkRat;grind
theorem di(a:Rat):bl a.num.natAbs<=qs a:=Nat.le_max_left _ _
theorem c7(a:Rat):bl a.den<=qs a:=Nat.le_max_right _ _
theorem xI{x y:Int}(hx:bl x.natAbs<=k)(hy:bl y.natAbs<=k):bl (x+y).natAbs<=k+1:=by
 have a:=dG (Int.natAbs_add_le x y);have b:=zP x.natAbs y.natAbs;omega
theorem dz{x y:Int}{j:Nat}(hx:bl x.natAbs<=j)(hy:bl y.natAbs<=k):bl (x* y).natAbs<=j+k:=by
 rw[Int.natAbs_mul];have:=iT x.natAbs y.natAbs;omega
theorem sE(a b:Rat):bl (a.num* b.den+b.num* a.den).natAbs<=qs a+qs b+1/\bl (a.den* b.den)<=qs a+qs b:=by
 have c:=di a;have d:=c7 a;have e:=di b;have f:=c7 b;refine⟨xI (dz c (by grind)) ?_,?_⟩;have:=dz (x:=b.num) (y:=a.den) e (by simpa using d);omega;have:=iT a.den b.den;omega
theorem rH(a b:Rat):bl (a.num* b.num).natAbs<=qs a+qs b/\bl (a.den* b.den)<=qs a+qs b:=by
 have c:=di a;have e:=c7 a;have d:=di b;have f:=c7 b;refine⟨dz c d,?_⟩;have:=iT a.den b.den;omega
theorem lD(a b:Rat):0< a.den* b.den:=Nat.mul_pos a.den_pos b.den_pos
theorem kQ(a b:Rat):qs (a+b)<=qs a+qs b+1:=by
 rw[sG];have h:=sE a b;exact fF (lD a b) h.1 (by omega)
theorem dS(a b:Rat):qs (a* b)<=qs a+qs b:=by
 rw[nS];have h:=rH a b;exact fF (lD a b) h.1 h.2
theorem iB(a:Rat):qs (-a)=qs a:=by unfold qs;simp
theorem uM(a b:Rat):qs (a- b)<=qs a+qs b+1:=by
 rw[Rat.sub_eq_add_neg];have:=kQ a (-b);rwa[iB] at this
theorem si(a b:Rat)(hb:b≠0):a/ b=mkRat (a.num* sgn (decide (b.num< 0)) b.den) (a.den* b.num.natAbs):=by
 rw[Rat.div_def,Rat.inv_def]
 conv=>lhs;rw[<-Rat.num_divInt_den a]
 rw[Rat.divInt_mul_divInt];unfold sgn;split
 ·rename_i h
  have c:=of_decide_eq_true h;have hp:0< a.den* b.num.natAbs:=Nat.mul_pos a.den_pos (by omega);have e:(a.den:Int) * b.num= -((a.den* b.num.natAbs:Nat):Int):=by grind
  rw[e,Int.mul_neg];generalize a.den* b.num.natAbs=d at hp⊢;cases d with
  |zero=>omega
  |succ d=>
   rfl
 ·have e:(a.den:Int) * b.num=((a.den* b.num.natAbs:Nat):Int):=by grind
  rw[e];rfl
theorem xz(a b:Rat):bl (a.num* sgn (decide (b.num< 0)) b.den).natAbs<=qs a+qs b/\bl (a.den* b.num.natAbs)<=qs a+qs b:=by
 have c:=di a;have d:=c7 a;have f:=di b;have e:=c7 b;refine⟨dz c (by rw[fE];grind),?_⟩;have:=iT a.den b.num.natAbs;omega
theorem iC(a b:Rat):qs (a/ b)<=qs a+qs b:=by
 by_cases hb:b=0;subst hb;rw[Rat.div_def,Rat.inv_zero,Rat.mul_zero];omega;rw[si a b hb];have h:=xz a b;have c:b.num≠0:=fun h=>hb (Rat.num_eq_zero.1 h);exact fF (Nat.mul_pos a.den_pos (by omega)) h.1 h.2
end
def sm(q:Rat):Prop:=qs q<=137438953472
instance (q:Rat):Decidable (sm q):=inferInstanceAs (Decidable (_<=_))
theorem sm2{a b:Rat}(ha:sm a)(hb:sm b):qs a+qs b<=549755813888:=by unfold sm at ha hb;omega
def sgZ(z:Int):Int:=if z=0 then 0 else if z< 0 then -1 else 1
def fl(a b:Rat):Int:=if a< b then -1 else if a=b then 0 else 1
theorem sgZ_num_lt{q:Rat}:sgZ q.num< 0↔q< 0:=by
 unfold sgZ;have c:q.num=0↔q=0:=Rat.num_eq_zero;have a:0<=q.num↔0<=q:=Rat.num_nonneg;have b:q< 0↔¬0<=q:=Rat.not_le.symm;rw[b,<-a];split;omega;split <;> omega
theorem sgZ_num_eq{q:Rat}:sgZ q.num=0↔q=0:=by
 unfold sgZ;rw[<-Rat.num_eq_zero];split;simp[*];split <;> simp[*]
theorem sgZ_num_gt{q:Rat}:0< sgZ q.num↔0< q:=by
 have a:= @sgZ_num_lt q;have b:= @sgZ_num_eq q
 have c:0< q↔¬(q< 0\/q=0):=by
  rw[<-Rat.not_le,Rat.le_iff_lt_or_eq]
 rw[c,<-a,<-b];omega
theorem cmpQ_eq(a b:Rat):fl a b=if a.num* b.den< b.num* a.den then -1 else if a.num* b.den=b.num* a.den then 0 else 1:=by
 unfold fl;have d:=Rat.lt_iff a b
 have c:a=b↔a.num* b.den=b.num* a.den:=by
  constructor;rintro rfl;rfl;intro h;have:=(Rat.mkRat_eq_iff (n₁:=a.num) (n₂:=b.num) a.den_nz b.den_nz).2 h;rwa[Rat.mkRat_self,Rat.mkRat_self] at this
 by_cases h:a< b;rw[if_pos h,if_pos (d.1 h)];rw[if_neg h,if_neg (fun x=>h (d.2 x))];by_cases h':a=b;rw[if_pos h',if_pos (c.1 h')];rw[if_neg h',if_neg (fun x=>h' (c.2 x))]
def gF(k:Nat):Rat:=mkRat 1 (2^ k)
theorem pq(q:Rat):q.num< 0↔q< 0:=by
 rw[<-sgZ_num_lt];unfold sgZ;split;omega;split <;> omega
def gi(q:Rat):Rat:=mkRat q.num.natAbs q.den
theorem zW(q:Rat):gi q=if q< 0 then -q else q:=by
 unfold gi;by_cases h:q< 0;have a:q.num< 0:=(pq q).2 h;rw[if_pos h];have e:(q.num.natAbs:Int)=(-q).num:=by rw[Rat.neg_num];omega
 rw[e,<-Rat.neg_den,Rat.mkRat_self];have a:¬q.num< 0:=fun e=>h ((pq q).1 e);rw[if_neg h];have e:(q.num.natAbs:Int)=q.num:=by omega
 rw[e,Rat.mkRat_self]
theorem B3(q:Rat):(gi q).num=(q.num.natAbs:Int):=by
 rw[zW];by_cases h:q< 0;rw[if_pos h,Rat.neg_num];have a:q.num< 0:=(pq q).2 h;omega;rw[if_neg h];have a:¬q.num< 0:=fun e=>h ((pq q).1 e);omega
theorem B4(q:Rat):(gi q).den=q.den:=by
 rw[zW];split;exact Rat.neg_den ..;rfl
theorem qC_abs(q:Rat):qC (gi q)=zI (sgn false q.num.natAbs)++[mag (q.den- 1)]:=by
 unfold qC zI;rw[B3,B4];rfl
def pE(l:Lq):Lc:=l.map qC
def pA(l:Lq):AV:= .arr (pE l)
def spC(a b:Rat):La:=qC a++qC b
@[simp] theorem qC_length (q:Rat):(qC q).length=3:=rfl
@[simp] theorem spC_length (a b:Rat):(spC a b).length=6:=rfl
@[simp] theorem Gp (l:Lq):(pE l).length=l.length:=by simp[pE]
theorem dT{l:Lq}{i:Nat}{q:Rat}(h:l[i]?=some q):(pE l)[i]?=some (qC q):=by simp[pE,h]
theorem tz(l:Lq)(k:Nat):(pE l).take k=pE (l.take k):=by simp[pE]
theorem ld(l m:Lq):pE (l++m)=pE l++pE m:=by simp[pE]
theorem ju(l:Lq)(i:Nat)(q:Rat):(pE l).set i (qC q)=pE (l.set i q):=by simp[pE,List.map_set]
theorem dZ(l:Lq):(pE l).all (·.all AV.one)=true:=by
 simp only[pE,List.all_map,List.all_eq_true];intro q _;rfl
theorem lY(l:Lq):∀e∈pE l,e.length=3:=by intro e a;simp[pE] at a;obtain⟨q,_,rfl⟩:=a;rfl
theorem aP(l:Lq):∀e∈pE l,∀c∈e,Closed c:=by
 intro e a c b;simp[pE] at a;obtain⟨q,_,rfl⟩:=a;exact bi q c b
theorem az(l:Lq):Closed (pA l):=aG (aP l)
theorem bh(a b:Rat):∀c∈spC a b,Closed c:=fun c d=>(List.mem_append.1 d).elim (bi a c) (bi b c)
theorem bD(a b:Rat):Closed (.agg (spC a b)):=aD (bh a b)
def zC:La:=[.emp,bln false,.emp]
theorem mag0:mag 0= .arr []:=by unfold mag;rw[cg];rfl
theorem qC0:qC 0=[.arr [],bln false,.arr []]:=by
 show [mag 0,bln (decide ((0:Int)< 0)),mag (1- 1)]=_;rw[mag0];rfl
def smL(l:Lq):Prop:=∀q∈l,sm q
instance (l:Lq):Decidable (smL l):=inferInstanceAs (Decidable (∀q∈l,sm q))
def ee(bf:Int->Bool):Lq->Rat
 |[]=>0
 |x::l=>l.foldl (fun o y=>if bf (fl y o) then y else o) x
theorem zM(bf:Int->Bool)(l:Lq)(y:Rat):ee bf (l++[y])=if l=[]\/bf (fl y (ee bf l))=true then y else ee bf l:=by
 cases l with
 |nil=>simp[ee]
 |cons x l=>simp[ee,List.foldl_append]
theorem oR{bf:Int->Bool}:∀{l:Lq},smL l->sm (ee bf l)
 |[],_=>(by decide:sm 0)
 |x::l,h=>by
  have a:∀(l:Lq) (o:Rat),sm o->smL l->sm (l.foldl (fun o y=>if bf (fl y o) then y else o) o):=by
   intro l
   induction l with
   |nil=>intro o b _;exact b
   |cons y l d=>
    intro o b hl;refine d _ ?_ fun q c=>hl q (List.mem_cons_of_mem _ c);show sm (if bf (fl y o)=true then y else o);split;exact hl y (List.mem_cons_self ..);exact b
  exact a l x (h x (List.mem_cons_self ..)) fun q c=>h q (List.mem_cons_of_mem _ c)
def C1(l:Lq):Rat:=ee (fun c=>decide (c< 0)) l
def oz(l:Lq):Rat:=ee (fun c=>decide (0< c)) l
theorem AEval.lenP{P:Program}{id:Nat}{ev:Operand->Option AV}{hp:Hq}{c:Call}{x:Operand}{T:Nat}{d:Nat×Nat}{l:Lq}(hc:c.callee= .builtin .len)(ha:c.args= #[x])(ht:c.argTypes= #[T])(hx:ev x=some (.arr (pE l)))(he:ef P T=some d):
    AEval P id ev hp (.call c) ⟨.v (.int .i64 (l.length:Nat)),[]⟩ []:= .len hc ha ht hx (by simp[pv]) he
section
variable {l p:Lq}
def ar:Lq->Lq
 |[]=>[]
 |a::l=>match ar l with
  |[]=>if a=0 then [] else [a]
  |b::m=>a::b::m
theorem eC(a:Rat)(l:Lq):ar (a::l)=if ar l=[] then(if a=0 then [] else [a]) else a::ar l:=by
 rw[ar];grind
theorem lS(l:Lq)(a:Rat):ar (l++[a])=if a=0 then ar l else l++[a]:=by
 induction l with
 |nil=>simp[ar]
 |cons b l c=>
  rw[List.cons_append,eC,c,eC];by_cases h:a=0;simp only[if_pos h];simp_all
theorem bw(l:Lq):(ar l).length<=l.length:=by
 induction l with
 |nil=>simp[ar]
 |cons a l b=>rw[eC];grind
theorem qY(l:Lq):ar l=l.take (ar l).length:=by
 induction l with
 |nil=>simp[ar]
 |cons a l b=>
  rw[eC];grind
theorem c5{q:Rat}(h:q∈ar l):q∈l:=by
 rw[qY] at h;grind
theorem ug{q:Rat}(h:(ar l).getLast?=some q):q≠0:=by
 induction l with
 |nil=>simp[ar] at h
 |cons a l b=>
  rw[eC] at h;grind
theorem dX(l:Lq):ar (ar l)=ar l:=by
 rcases List.eq_nil_or_concat (ar l) with h|⟨m,q,h⟩
 rw[h];rfl;have a:q≠0:=ug (l:=l) (by grind);rw[h,List.concat_eq_append,lS,if_neg a]
theorem mM(h:smL l):smL (ar l):=fun q a=>h q (c5 a)
def a8(l:Lq):Int:=(ar l).length- 1
def ba(l:Lq):Rat:=(ar l).getLastD 0
theorem je(h:ar l≠[]):ba l≠0:=by
 refine ug (l:=l) (q:=(ar l).getLastD 0) ?_;rw[List.getLastD_eq_getLast?];cases hl:(ar l).getLast? with
 |none=>simp_all
 |some q=>rfl
theorem rJ(h:ar l=[]):ba l=0:=by unfold ba;grind
theorem fo{n:Nat}(h:(ar l).length=n+1):(ar l)[n]?=some (ba l):=by
 unfold ba;grind
theorem I9(h:smL l):sm (ba l):=by
 by_cases h0:ar l=[];rw[rJ h0];decide;obtain⟨n,a⟩:∃n,(ar l).length=n+1:=⟨(ar l).length- 1,by have:=List.length_pos_iff.2 h0;omega⟩;exact h _ (c5 (List.mem_of_getElem? (fo a)))
def aJ(n:Nat)(f:Nat->Rat):Lq:=(List.range n).map f
@[simp] theorem sJ (n:Nat)(f:Nat->Rat):(aJ n f).length=n:=by simp[aJ]
def coP(p:Lq)(i:Nat):Rat:=p.getD i 0
def fy(p q:Lq):Lq:=ar (aJ (max p.length q.length) fun i=>coP p i+coP q i)
def a7(p:Lq)(k:Rat):Lq:=ar (aJ p.length fun i=>coP p i* k)
def dP(p q:Lq):Lq:=fy p (a7 q (-1))
def eE(a:Rat):Lq:=ar [a]
def fh(p:Lq):Lq:=ar (aJ (p.length- 1) fun i=>coP p (i+1) * ((i+1:Nat):Int))
def aL(p:Lq):Lq:=ar (aJ (p.length+1) fun i=>if i=0 then 0 else coP p (i- 1) / ((i:Nat):Int))
def o8(p q:Lq):Bool:=decide (ar p=ar q)
def kS(p:Lq):Lq:=if ar p=[] then [] else a7 p (1/ ba p)
theorem nv(h:smL p)(i:Nat):sm (coP p i):=by
 unfold coP;rw[List.getD_eq_getElem?_getD];cases hi:p[i]? with
 |none=>exact(by decide:sm 0)
 |some q=>exact h q (List.mem_of_getElem? hi)
theorem ci{i:Nat}(h:i< p.length):p[i]?=some (coP p i):=by
 unfold coP;grind
theorem eJ{i:Nat}(h:p.length<=i):coP p i=0:=by
 unfold coP;grind
theorem n6:∀c∈zC,Closed c:=ac b9 (ac (ag _) (ac b9 af))
end
def bdL(l:Lq)(n:Nat):Prop:=∀q∈l,qs q<=n
instance (l:Lq) (n:Nat):Decidable (bdL l n):=inferInstanceAs (Decidable (∀q∈l,qs q<=n))
theorem dI{l:Lq}{n:Nat}(h:bdL l n)(hn:n<=137438953472):smL l:=fun q a=>Nat.le_trans (h q a) hn
theorem ej{l:Lq}{n:Nat}(h:bdL l n)(hn:1<=n)(i:Nat):qs (coP l i)<=n:=by
 unfold coP;rw[List.getD_eq_getElem?_getD];cases hi:l[i]? with
 |none=>exact Nat.le_trans (by decide:qs 0<=1) hn
 |some q=>exact h q (List.mem_of_getElem? hi)
def B2(o:Lq)(j:Nat)(x:Rat):Lq:=o.set j (coP o j+x)
def jV(o:Lq)(a:Rat)(q:Lq)(i:Nat):Nat->Lq
 |0=>o
 |k+1=>B2 (jV o a q i k) (i+k) (a* coP q k)
def fa(p q:Lq):Nat->Lq
 |0=>List.replicate (p.length+q.length- 1) 0
 |i+1=>if coP p i=0 then fa p q i else jV (fa p q i) (coP p i) q i q.length
def aX(p q:Lq):Lq:=if p=[]\/q=[] then [] else ar (fa p q p.length)
@[simp] theorem zV (o:Lq)(j:Nat)(x:Rat):(B2 o j x).length=o.length:=by simp[B2]
@[simp] theorem Ar (o:Lq)(a:Rat)(q:Lq)(i k:Nat):(jV o a q i k).length=o.length:=by
 induction k with
 |zero=>rfl
 |succ k ih=>rw[jV,zV,ih]
@[simp] theorem mZ (p q:Lq)(i:Nat):(fa p q i).length=p.length+q.length- 1:=by
 induction i with
 |zero=>simp[fa]
 |succ i ih=>rw[fa];split <;> simp[ih]
theorem sr(o:Lq)(j n:Nat)(x:Rat):coP (B2 o j x) n=if n=j/\j< o.length then coP o j+x else coP o n:=by
 unfold B2 coP;rw[List.getD_eq_getElem?_getD,List.getElem?_set,List.getD_eq_getElem?_getD,List.getD_eq_getElem?_getD];by_cases h:j=n;subst h;by_cases h2:j< o.length;simp[h2];simp[h2];rw[if_neg h,if_neg (by omega)]
theorem k5{o:Lq}{n:Nat}(h:∀i,qs (coP o i)<=n):bdL o n:=by
 intro q a;obtain⟨i,b,rfl⟩:=List.getElem_of_mem a;have:=h i;unfold coP at this;rwa[List.getD_eq_getElem?_getD,List.getElem?_eq_getElem b] at this
theorem uE(o:Lq)(a:Rat)(q:Lq)(i k n:Nat)(h:n< i\/i+k<=n):coP (jV o a q i k) n=coP o n:=by
 induction k with
 |zero=>rfl
 |succ k b=>rw[jV,sr,if_neg (by omega),b (by omega)]
theorem ET{o:Lq}{a:Rat}{q:Lq}{B s t:Nat}(i:Nat)(ho:∀n,qs (coP o n)<=B)(ha:qs a<=s)(hq:∀n,qs (coP q n)<=t):∀k n,qs (coP (jV o a q i k) n)<=B+(s+t+1)
 |0,n=>Nat.le_trans (ho n) (by omega)
 |k+1,n=>by
  rw[jV,sr];split;rw[uE o a q i k (i+k) (by omega)];have b:=kQ (coP o (i+k)) (a* coP q k);have c:=dS a (coP q k);have e:=ho (i+k);have d:=hq k;omega;exact ET i ho ha hq k n
theorem tE{p q:Lq}{s t:Nat}(hp:∀n,qs (coP p n)<=s)(hq:∀n,qs (coP q n)<=t):∀i n,qs (coP (fa p q i) n)<=i* (s+t+1)+1
 |0,n=>by
  have:coP (fa p q 0) n=0:=by
   unfold fa coP;rw[List.getD_eq_getElem?_getD,List.getElem?_replicate];split <;> rfl
  rw[this];exact Nat.le_add_left 1 _
 |i+1,n=>by
  rw[fa,Nat.add_mul,Nat.one_mul];split;have:=tE hp hq i n;omega;have:=ET (B:=i* (s+t+1)+1) i (tE hp hq i) (hp i) hq q.length n;omega
theorem yN{p q:Lq}{s t:Nat}(hp:bdL p s)(hq:bdL q t)(hs:1<=s)(ht:1<=t):bdL (aX p q) (p.length* (s+t+1)+1):=by
 unfold aX;split;intro q hq;cases hq;intro x a;exact k5 (tE (ej hp hs) (ej hq ht) p.length) x (c5 a)
theorem CvLL.zeros{r:Ren}{hp hp':Hq}(h:Shr r hp hp')(n:Nat):CvLL r hp hp' (List.replicate n zC) (pE (List.replicate n 0)):=by
 induction n with
 |zero=>rfl
 |succ n a=>
  refine⟨qC 0,_,rfl,?_,a⟩;rw[qC0];exact ak (Cv.emp _) (ak (ai h (ag _)) (ak (Cv.emp _) aq))
def EC(o:Lq)(j:Nat)(x:Rat):Lq:=o.set j (coP o j- x)
def jW(o:Lq)(k:Rat)(q:Lq)(n:Nat):Nat->Lq
 |0=>o
 |i+1=>EC (jW o k q n i) (n+i) (k* coP q i)
def qM(q:Lq)(lead:Rat):Nat->Lq->Lq->Lq×Lq
 |0,u,o=>(u,o)
 |n+1,u,o=>qM q lead n (u.set n (coP o (n+q.length- 1) / lead)) (if coP o (n+q.length- 1) / lead=0 then o else jW o (coP o (n+q.length- 1) / lead) q n q.length)
def k4(p q:Lq):Lq×Lq:=
 let r:=qM (ar q) (ba q) ((ar p).length+1- (ar q).length) (List.replicate ((ar p).length+1- (ar q).length) 0) (ar p)
 (ar r.1,ar r.2)
@[simp] theorem xZ (o:Lq)(j:Nat)(x:Rat):(EC o j x).length=o.length:=by simp[EC]
@[simp] theorem mQ (o:Lq)(a:Rat)(q:Lq)(i k:Nat):(jW o a q i k).length=o.length:=by
 induction k with
 |zero=>rfl
 |succ k ih=>rw[jW,xZ,ih]
theorem kH(q:Lq)(lead:Rat):∀c u o,(qM q lead c u o).1.length=u.length/\(qM q lead c u o).2.length=o.length
 |0,u,o=>⟨rfl,rfl⟩
 |n+1,u,o=>by
  refine⟨(kH q lead n _ _).1.trans (by simp),(kH q lead n _ _).2.trans ?_⟩;split <;> simp
theorem FW(o:Lq)(j n:Nat)(x:Rat):coP (o.set j x) n=if n=j/\j< o.length then x else coP o n:=by
 unfold coP;grind
theorem xE(o:Lq)(j n:Nat)(x:Rat):coP (EC o j x) n=if n=j/\j< o.length then coP o j- x else coP o n:=FW o j n _
theorem As(o:Lq)(a:Rat)(q:Lq)(i k n:Nat)(h:n< i\/i+k<=n):coP (jW o a q i k) n=coP o n:=by
 induction k with
 |zero=>rfl
 |succ k b=>rw[jW,xE,if_neg (by omega),b (by omega)]
theorem EU{o:Lq}{a:Rat}{q:Lq}{B s t:Nat}(i:Nat)(ho:∀n,qs (coP o n)<=B)(ha:qs a<=s)(hq:∀n,qs (coP q n)<=t):∀k n,qs (coP (jW o a q i k) n)<=B+(s+t+1)
 |0,n=>Nat.le_trans (ho n) (by omega)
 |k+1,n=>by
  rw[jW,xE];split;rw[As o a q i k (i+k) (by omega)];have b:=uM (coP o (i+k)) (a* coP q k);have c:=dS a (coP q k);have e:=ho (i+k);have d:=hq k;omega;exact EU i ho ha hq k n
def DQ(q:Lq)(lead:Rat)(L c:Nat)(u o:Lq):Prop:=
 ∃B t,(∀n,qs (coP o n)<=B)/\(∀n,qs (coP q n)<=t)/\qs lead<=t/\1<=t/\(∀n,qs (coP u n)<=L)/\2^ c* (B+2* t+1)<=L
theorem BJ{q:Lq}{lead:Rat}{L c:Nat}{u o:Lq}(h:DQ q lead L c u o):∃B t,(∀n,qs (coP o n)<=B)/\(∀n,qs (coP q n)<=t)/\qs lead<=t/\B+2* t+1<=L:=by
 obtain⟨B,t,d,b,e,f,g,a⟩:=h;refine⟨B,t,d,b,e,Nat.le_trans ?_ a⟩;have:=Nat.mul_le_mul_right (B+2* t+1) (Nat.one_le_two_pow (n:=c));omega
theorem xC{q:Lq}{lead:Rat}{L n:Nat}{u o:Lq}(h:DQ q lead L (n+1) u o):
    DQ q lead L n (u.set n (coP o (n+q.length- 1) / lead)) (if coP o (n+q.length- 1) / lead=0 then o else jW o (coP o (n+q.length- 1) / lead) q n q.length):=by
 obtain⟨B,t,d,c,i,g,r,e⟩:=h;obtain⟨k,f⟩:∃k,k=coP o (n+q.length- 1) / lead:=⟨_,rfl⟩
 have b:qs k<=B+t:=by
  have e1:=iC (coP o (n+q.length- 1)) lead;grind
 rw[<-f];obtain⟨W,l⟩:∃W,W=2^ n:=⟨_,rfl⟩;have a:1<=W:=by grind
 rw[Nat.pow_succ] at e;have p:W* (2* B+2* t+1+2* t+1)<=L:=by grind
 have m:2* B+2* t+1+2* t+1<=L:=by
  have:=Nat.mul_le_mul_right (2* B+2* t+1+2* t+1) a;omega
 refine⟨2* B+2* t+1,t,fun j=>?_,c,i,g,fun j=>?_,by grind⟩;split;have:=d j;omega;have:=EU n d b c q.length j;omega;rw[FW];grind
theorem zx{q:Lq}{lead:Rat}{L:Nat}:∀{c u o},DQ q lead L c u o->(∀n,qs (coP (qM q lead c u o).1 n)<=L)/\(∀n,qs (coP (qM q lead c u o).2 n)<=L)
 |0,u,o,h=>by
  obtain⟨B,t,a,e,f,d⟩:=BJ h;obtain⟨_,_,_,_,_,_,b,_⟩:=h;exact⟨b,fun n=>Nat.le_trans (a n) (by omega)⟩
 |n+1,u,o,h=>zx (c:=n) (xC h)
section
variable {p q:Lq}
def mxL(l:Lq):Nat:=l.foldr (fun q n=>max (qs q) n) 1
theorem eI(l:Lq):1<=mxL l:=by
 induction l with
 |nil=>exact Nat.le_refl _
 |cons q l a=>exact Nat.le_trans a (Nat.le_max_right _ _)
theorem e8(l:Lq):bdL l (mxL l):=by
 induction l with
 |nil=>intro q b;grind
 |cons a l c=>
  intro q b;rcases List.mem_cons.1 b with rfl|b
  exact Nat.le_max_left _ _;exact Nat.le_trans (c q b) (Nat.le_max_right _ _)
theorem mxL_le{l:Lq}{n:Nat}(h:bdL l n)(hn:1<=n):mxL l<=n:=by
 induction l with
 |nil=>exact hn
 |cons a l c=>exact Nat.max_le.2 ⟨h a (List.mem_cons_self ..),c fun q b=>h q (List.mem_cons_of_mem _ b)⟩
def AI(p q:Lq):Prop:=2^ ((ar p).length+1- (ar q).length) * (mxL p+2* mxL q+1)<=137438953472/\p.length<=274877906944/\q.length<=274877906944
instance (p q:Lq):Decidable (AI p q):=inferInstanceAs (Decidable (_/\_/\_))
theorem DP{s t L:Nat}(hp:bdL p s)(hq:bdL q t)(hs:1<=s)(ht:1<=t)(hq0:ar q≠[])(m:Nat)(h:2^ m* (s+2* t+1)<=L):DQ (ar q) (ba q) L m (List.replicate m 0) (ar p):=by
 have b:1<=L:=by
  have d:=Nat.mul_le_mul_right (s+2* t+1) (Nat.one_le_two_pow (n:=m));omega
 have c:=List.length_pos_iff.2 hq0;refine⟨s,t,ej (fun x a=>hp x (c5 a)) hs,ej (fun x a=>hq x (c5 a)) ht,hq _ (c5 (List.mem_of_getElem? (fo (n:=(ar q).length- 1) (by omega)))),ht,fun n=>?_,h⟩
 have:coP (List.replicate m 0) n=0:=by
  unfold coP;rw[List.getD_eq_getElem?_getD,List.getElem?_replicate];split <;> rfl
 rw[this];exact Nat.le_trans (by decide:qs 0<=1) b
theorem divP_bd{s t L:Nat}(hp:bdL p s)(hq:bdL q t)(hs:1<=s)(ht:1<=t)(hq0:ar q≠[])(h:2^ ((ar p).length+1- (ar q).length) * (s+2* t+1)<=L):bdL (k4 p q).1 L/\bdL (k4 p q).2 L:=by
 have:=zx (DP hp hq hs ht hq0 _ h);exact⟨fun x a=>k5 this.1 x (c5 a),fun x a=>k5 this.2 x (c5 a)⟩
theorem zy(h:AI p q)(hq0:ar q≠[]):smL (k4 p q).1/\smL (k4 p q).2:=
 have:=divP_bd (e8 p) (e8 q) (eI p) (eI q) hq0 h.1
 ⟨dI this.1 (Nat.le_refl _),dI this.2 (Nat.le_refl _)⟩
theorem vJ:(k4 p q).1.length<=p.length+1/\(k4 p q).2.length<=p.length:=by
 have a:=kH (ar q) (ba q) ((ar p).length+1- (ar q).length) (List.replicate ((ar p).length+1- (ar q).length) 0) (ar p);have d:=bw p;have c:=bw (qM (ar q) (ba q) ((ar p).length+1- (ar q).length) (List.replicate ((ar p).length+1- (ar q).length) 0) (ar p)).1;have b:=bw (qM (ar q) (ba q) ((ar p).length+1- (ar q).length) (List.replicate ((ar p).length+1- (ar q).length) 0) (ar p)).2;rw[a.1,List.length_replicate] at c;rw[a.2] at b;exact⟨by unfold k4;simp only;omega,by unfold k4;simp only;omega⟩
theorem b8(p:Lq)(k:Rat):(a7 p k).length<=p.length:=by
 have:=bw (aJ p.length fun i=>coP p i* k);simpa[a7] using this
theorem C0(p:Lq):(kS p).length<=p.length:=by
 unfold kS;split;simp;exact b8 _ _
def GC:Nat->Lq->Lq->Option Lq
 |0,_,_=>none
 |f+1,p,q=>if ar q=[] then(if smL p then some (kS p) else none) else if AI p q then GC f q (kS (k4 p q).2) else none
end
def aE:Lq->Rat->Rat
 |[],_=>0
 |a::l,x=>aE l x* x+a
def lM(l:Lq)(k:Nat):Option La:=if k< l.length then some [i64 ((l.length- 1- k:Nat):Int),.agg (qC (coP l (l.length- 1- k)))] else none
theorem se{l:Lq}{k:Nat}(h:k< l.length):l.drop (l.length- (k+1))=coP l (l.length- 1- k)::l.drop (l.length- k):=by
 have a:l.length- (k+1)< l.length:=by omega
 rw[List.drop_eq_getElem_cons a,show l.length- (k+1)+1=l.length- k by omega];congr 1;have:=ci a;rw[List.getElem?_eq_getElem a] at this;rw[show l.length- 1- k=l.length- (k+1) by omega];exact Option.some.inj this
theorem j7{x:Rat}{s t:Nat}(hx:qs x<=t):∀{l:Lq},bdL l s->qs (aE l x)<=l.length* (s+t+1)+1
 |[],_=>by show qs 0<=_;exact Nat.le_trans (by decide:qs 0<=1) (Nat.le_add_left 1 _)
 |a::l,h=>by
  have c:=j7 (l:=l) hx fun q b=>h q (List.mem_cons_of_mem _ b);have ha:=h a (List.mem_cons_self ..);have e:=kQ (aE l x* x) a;have d:=dS (aE l x) x;show qs (aE l x* x+a)<=(l.length+1) * (s+t+1)+1;rw[Nat.add_mul,Nat.one_mul];omega
def hZ(p:Lq)(x:Rat):Prop:=p.length* (mxL p+qs x+1)+mxL p+qs x+2<=137438953472/\p.length<=274877906944
instance (p:Lq) (x:Rat):Decidable (hZ p x):=inferInstanceAs (Decidable (_/\_))
theorem DJ{p:Lq}{x:Rat}(h:hZ p x)(k:Nat)(hk:k< p.length):qs (aE (p.drop (p.length- k)) x)+qs x<=549755813888/\qs (aE (p.drop (p.length- k)) x* x)+qs (coP p (p.length- 1- k))<=549755813888:=by
 have d:=j7 (t:=qs x) (Nat.le_refl _) (l:=p.drop (p.length- k)) (s:=mxL p) fun q a=>e8 p q (List.mem_of_mem_drop a);have b:=dS (aE (p.drop (p.length- k)) x) x;have f:=ej (e8 p) (eI p) (p.length- 1- k);have c:=h.1;have e:(p.drop (p.length- k)).length* (mxL p+qs x+1)<=p.length* (mxL p+qs x+1):=Nat.mul_le_mul_right _ (by simp);omega
theorem vD{p:Lq}{x:Rat}(h:hZ p x):sm (aE p x):=by
 have a:=j7 (t:=qs x) (Nat.le_refl _) (e8 p);have b:=h.1;unfold sm;omega
abbrev Sp:=Rat×Rat
def AB(a b:Sp):Lq:=[a.1* b.1,a.1* b.2,a.2* b.1,a.2* b.2]
def ut(a b:Sp):Sp:=(C1 (AB a b),oz (AB a b))
def ED(a b:Sp):Sp:=(a.1+b.1,a.2+b.2)
def smS(a:Sp):Prop:=sm a.1/\sm a.2
instance (a:Sp):Decidable (smS a):=inferInstanceAs (Decidable (_/\_))
def ovP(v0 s:Sp):Lq->Sp
 |[]=>v0
 |a::l=>ED (ut (ovP v0 s l) s) (a,a)
def Gq(v0 s:Sp):Lq->Prop
 |[]=>smS v0
 |a::l=>Gq v0 s l/\smL (AB (ovP v0 s l) s)/\sm a/\smS (ED (ut (ovP v0 s l) s) (a,a))
instance okOv_dec (v0 s:Sp):(l:Lq)->Decidable (Gq v0 s l)
 |[]=>inferInstanceAs (Decidable (smS v0))
 |a::l=> @instDecidableAnd _ _ (okOv_dec v0 s l) (inferInstanceAs (Decidable (_/\_/\_)))
theorem okOv_sm{v0 s:Sp}:∀{l:Lq},Gq v0 s l->smS (ovP v0 s l)
 |[],h=>h
 |_::_,h=>h.2.2.2
theorem wV{v0 s:Sp}:∀{l:Lq} (n:Nat),Gq v0 s l->Gq v0 s (l.drop n)
 |_,0,h=>h
 |[],_+1,h=>h
 |_::_,n+1,h=>wV n h.1
def iw(p:Lq)(s:Sp):Sp:=if¬fl s.1 s.2<=0\/ar p=[] then(0,0) else ovP (ba p,ba p) s ((ar p).take ((ar p).length- 1))
def yG(p:Lq)(s:Sp):Prop:=smL p/\smS s/\p.length<=274877906944/\Gq (ba p,ba p) s ((ar p).take ((ar p).length- 1))
instance (p:Lq) (s:Sp):Decidable (yG p s):=inferInstanceAs (Decidable (_/\_/\_/\_))
def jZ(p q:Lq):Prop:=p.length* (mxL p+mxL q+1)+1<=137438953472/\mxL q<=137438953472/\p.length<=274877906944/\q.length<=274877906944
instance (p q:Lq):Decidable (jZ p q):=inferInstanceAs (Decidable (_/\_/\_/\_))
theorem uV{p q:Lq}(h:jZ p q):smL (aX p q):=
 dI (yN (e8 p) (e8 q) (eI p) (eI q)) h.1
theorem jm(p q:Lq):(fy p q).length<=max p.length q.length:=by
 have:=bw (aJ (max p.length q.length) fun i=>coP p i+coP q i);simpa[fy] using this
theorem AP(p q:Lq):(aX p q).length<=p.length+q.length:=by
 unfold aX;split;simp;have:=bw (fa p q p.length);rw[mZ] at this;omega
theorem oM(a:Rat):(eE a).length<=1:=bw [a]
def cb(q:Lq):Lq->Lq
 |[]=>[]
 |a::l=>fy (aX (cb q l) q) (eE a)
def gI(q:Lq):Lq->Prop
 |[]=>True
 |a::l=>gI q l/\jZ (cb q l) q/\sm a/\(aX (cb q l) q).length<=274877906944
instance okComp_dec (q:Lq):(l:Lq)->Decidable (gI q l)
 |[]=>inferInstanceAs (Decidable True)
 |a::l=> @instDecidableAnd _ _ (okComp_dec q l) (inferInstanceAs (Decidable (_/\_/\_)))
theorem sR{q:Lq}:∀{l:Lq} (n:Nat),gI q l->gI q (l.drop n)
 |_,0,h=>h
 |[],_+1,h=>h
 |_::_,n+1,h=>sR n h.1
section
variable {α:Type}{k d b n:Nat}{l:Ln}
theorem ie(b:Nat)(s:Ln)(v:Nat):ofD b (s++[v])=ofD b s+b^ s.length* v:=by rw[gL];simp[ofD]
theorem cm{l:List α}{x:α}(h:l[k]?=some x):l.take (k+1)=l.take k++[x]:=by
 rw[List.take_add_one,h];rfl
theorem cS(b:Nat)(h:l[k]?=some d):ofD b (l.take (k+1))=ofD b (l.take k)+b^ k* d:=by
 have a:k< l.length:=(List.getElem?_eq_some_iff.1 h).1;rw[cm h,ie,List.length_take,Nat.min_eq_left (by omega)]
theorem eO(b:Nat)(l:Ln)(k:Nat):ofD b (l.take (k+1))=ofD b (l.take k)+b^ k* (l[k]?.getD 0):=by
 cases h:l[k]? with
 |some d=>exact cS b h
 |none=>rw[List.getElem?_eq_none_iff] at h;rw[List.take_of_length_le (by omega),List.take_of_length_le (by omega)];simp
theorem ic(b:Nat)(h:l.length<=k):ofD b (l.take k)=ofD b l:=by rw[List.take_of_length_le h]
theorem lf(b:Nat)(h:l[k]?=some d):ofD b (l.drop k)=d+b* ofD b (l.drop (k+1)):=by
 rw[List.drop_eq_getElem_cons (List.getElem?_eq_some_iff.1 h).1,ofD];grind
theorem po(b:Nat):∀{l:Ln} {j d:Nat} (v:Nat),l[j]?=some d->ofD b (l.set j v)+b^ j* d=ofD b l+b^ j* v
 |[],_,_,_,h=>by grind
 |x::l,0,d,v,h=>by simp at h;simp[ofD];omega
 |x::l,j+1,d,v,h=>by
  simp only[List.getElem?_cons_succ] at h;have:=po b v h;rw[List.set_cons_succ,ofD,ofD];grind
theorem tF{j v:Nat}{p:Nat->Prop}(h:∀d∈l,p d)(hv:p v):∀d∈l.set j v,p d:=by grind
theorem Gi{cs vs:List α}(h:vs.length=cs.length):fb cs 0 vs=vs:=by
 apply List.ext_getElem?;intro j;rw[eK];grind
theorem Ao{cs vs:List α}(h:vs.length<=cs.length):fb cs 0 vs=vs++cs.drop vs.length:=by
 apply List.ext_getElem?;intro j;rw[eK];grind
theorem Al(s:Ln)(m v i:Nat)(hi:i=s.length):(s++List.replicate (m+1) 0).set i v=(s++[v])++List.replicate m 0:=by
 subst hi;grind
theorem A8(s:Ln)(m i:Nat)(hi:i=s.length):(s++List.replicate (m+1) 0)[i]?=some 0:=by grind
theorem cI{i:Nat}(hb:1< b)(h:(av b n)[i]?=some d):d< b:=dr hb n d (List.mem_of_getElem? h)
theorem DR(h0:0< n)(h:n< MB):av MB n=[n]:=by
 rw[eB (by decide) h0,Nat.div_eq_of_lt h,cg,Nat.mod_eq_of_lt h]
theorem Hi(hb:1< b)(n k:Nat):(av b n).drop k=av b (ofD b ((av b n).drop k)):=by
 symm;refine vK hb ⟨fun d a=>dr hb n d (List.mem_of_mem_drop a),?_⟩;by_cases hk:k< (av b n).length;rw[List.getLast?_drop,if_neg (by omega)];exact sj hb n;grind
theorem s8(hb:1< b):b^ ((av b n).length- 1)<=n\/n=0:=by
 rcases Nat.eq_zero_or_pos n with h|h
 exact .inr h;have a:av b n≠[]:=fun e=>by have:=(fP hb).1 e;omega
 have hl:=sj hb n;obtain⟨s,x,e⟩:∃s x,av b n=s++[x]:=⟨_,_,(List.dropLast_concat_getLast a).symm⟩;have c:=bz hb n;rw[e,ie] at c;rw[e] at hl;simp at hl;rw[e];simp;have:b^ s.length* 1<=b^ s.length* x:=Nat.mul_le_mul_left _ (by omega);omega
theorem jK{m:Nat}(hb:1< b)(h:(av b m).length< (av b n).length):m< n:=by
 have c:=fG (b:=b) (dr hb m);rw[bz hb] at c;rcases s8 (n:=n) hb with a|a
 have:b^ (av b m).length<=b^ ((av b n).length- 1):=Nat.pow_le_pow_right (by omega) (by omega);omega;subst a;rw[cg] at h;grind
theorem AU{m:Nat}(hb:1< b)(h:m<=n):(av b m).length<=(av b n).length:=by
 rcases Nat.lt_or_ge (av b n).length (av b m).length with a|a
 have:=jK hb a;omega;grind
def kr(n k:Nat):Nat:=ofD MB ((av MB n).drop k)
def wt(n k:Nat):Ln:=(av MB n).take k
theorem uH(n:Nat):kr n 0=n:=bz (by decide) n
theorem iD(n:Nat):wt n 0=[]:=rfl
theorem IH(n:Nat):wt n (av MB n).length=av MB n:=List.take_length
theorem mS(h:k<=(av MB n).length):(wt n k).length=k:=by simp[wt,Nat.min_eq_left h]
theorem uI(h:k< (av MB n).length):kr n (k+1)=kr n k/ MB/\wt n (k+1)=wt n k++[kr n k % MB]:=by
 have a:(av MB n)[k]?=some (av MB n)[k]:=List.getElem?_eq_getElem h;have c:=lf MB a;have b:(av MB n)[k]< MB:=cI (by decide) a;constructor;unfold kr;rw[c,Nat.add_mul_div_left _ _ (by decide),Nat.div_eq_of_lt b];omega;unfold wt kr;rw[cm a,c,Nat.add_mul_mod_self_left,Nat.mod_eq_of_lt b]
theorem Ip(hk:k<=(av MB n).length):kr n k<=n:=by
 have:=dU MB k _ hk;rw[bz (by decide)] at this;have a:=Nat.le_mul_of_pos_left (ofD MB ((av MB n).drop k)) (Nat.pow_pos (n:=k) (show 0< MB by decide));unfold kr;omega
theorem Iq(hk:k<=(av MB n).length):kr n k=0↔k=(av MB n).length:=by
 constructor;intro e;have:=Hi (b:=MB) (by decide) n k;rw[show ofD MB ((av MB n).drop k)=0 from e,cg,List.drop_eq_nil_iff] at this;omega;intro e;unfold kr;rw[e,List.drop_length];rfl
end
def eH(a b:Int):Int:=if a< b then -1 else if b< a then 1 else 0
theorem mj{a b:Int}(h:a< b):eH a b= -1:=by simp[eH,h]
theorem n5{a b:Int}(h:b< a):eH a b=1:=by simp[eH];omega
theorem F0{a b:Int}(h:a=b):eH a b=0:=by simp[eH];omega
theorem tR{a b:Int}:eH a b≠0↔a≠b:=by unfold eH;split <;>(try split)<;> omega
theorem nU{b i x y:Nat}{l m:Ln}(hl:∀d∈l,d< b)(hx:l[i]?=some x)(hy:m[i]?=some y)(hd:l.drop (i+1)=m.drop (i+1))(hlt:x< y):ofD b l< ofD b m:=by
 have f:i< l.length:=(List.getElem?_eq_some_iff.1 hx).1;have c:i< m.length:=(List.getElem?_eq_some_iff.1 hy).1;rw[dU b i l (by omega),dU b i m (by omega),lf b hx,lf b hy,hd]
 have e:ofD b (l.take i)< b^ i:=by
  have:=fG (b:=b) (l:=l.take i) fun d hd=>hl d (List.mem_of_mem_take hd);rwa[List.length_take,Nat.min_eq_left (by omega)] at this
 have a:b^ i* (x+b* ofD b (m.drop (i+1))+1)<=b^ i* (y+b* ofD b (m.drop (i+1))):=Nat.mul_le_mul_left _ (by omega);rw[Nat.mul_add _ _ 1] at a;omega
theorem pG(s t:Ln)(x:Nat)(i:Nat)(hi:i=s.length):(s++x::t)[i]?=some x:=by subst hi;simp
theorem o7(s t:Ln)(x v:Nat)(i:Nat)(hi:i=s.length):(s++x::t).set i v=(s++[v])++t:=by
 subst hi;rw[List.set_append_right _ _ (Nat.le_refl _)];simp
theorem gf{l:Ln}{i x:Nat}(h:l[i]?=some x):l.drop i=x::l.drop (i+1):=by
 rw[List.drop_eq_getElem_cons (List.getElem?_eq_some_iff.1 h).1,(List.getElem?_eq_some_iff.1 h).2]
section
variable {l:Ln}
abbrev UB:Nat:=32768
def iE(l:Ln):Lc:=l.map fun(d:Nat)=>[i64 d]
def hv(l:Ln):Nat:=ofD UB l.reverse
def zd(n:Nat):Ln:=(av UB n).reverse
def zZ(z:Int):La:=[i64 (sgZ z),.arr (iE (zd z.natAbs))]
def gu:Ln->Ln
 |[]=>[]
 |d::l=>if d=0 then gu l else d::l
@[simp] theorem rM (l:Ln):(iE l).length=l.length:=by simp[iE]
theorem kT{i d:Nat}(h:l[i]?=some d):(iE l)[i]?=some [i64 d]:=by simp[iE,h]
theorem iE_take(l:Ln)(k:Nat):(iE l).take k=iE (l.take k):=by simp[iE]
theorem nY(l m:Ln):iE (l++m)=iE l++iE m:=by simp[iE]
theorem oD(l:Ln)(i d:Nat):(iE l).set i [i64 d]=iE (l.set i d):=by simp[iE,List.map_set]
theorem jD(k:Nat):List.replicate k [i64 0]=iE (List.replicate k 0):=by simp[iE]
theorem eP(l:Ln):(iE l).all (·.all AV.one)=true:=by
 simp only[iE,List.all_map,List.all_eq_true];intro d _;rfl
theorem l7(l:Ln):∀e∈iE l,e.length=1:=by intro e a;simp[iE] at a;obtain⟨d,_,rfl⟩:=a;rfl
theorem dt(l:Ln):∀e∈iE l,∀c∈e,Closed c:=by
 intro e a c b;simp[iE] at a;obtain⟨d,_,rfl⟩:=a;simp at b;subst b;exact ag _
theorem eV(l:Ln):Closed (.arr (iE l)):=aG (dt l)
theorem dM(z:Int):∀c∈zZ z,Closed c:=ac (ag _) (ac (eV _) af)
theorem cY(z:Int):Closed (.agg (zZ z)):=aD (dM z)
theorem Ck(m:Ln)(d:Nat):fj (m++[d])=if d=0 then fj m else m++[d]:=by
 induction m with
 |nil=>simp[fj]
 |cons a m b=>
  rw[List.cons_append,fj,b];by_cases hd:d=0;rw[if_pos hd,if_pos hd];rfl;rw[if_neg hd,if_neg hd];cases m <;> rfl
theorem Ac(l:Ln):gu l=(fj l.reverse).reverse:=by
 induction l with
 |nil=>rfl
 |cons d l a=>
  rw[gu,List.reverse_cons,Ck];split;exact a;simp
theorem fX(h:∀d∈l,d< UB):gu l=zd (hv l):=by
 rw[Ac,jQ (b:=UB) (by decide) (fun d a=>h d (List.mem_reverse.1 a))];rfl
theorem ky(n:Nat):hv (zd n)=n:=by unfold hv zd;rw[List.reverse_reverse,bz (by decide)]
theorem jw(n:Nat):∀d∈zd n,d< UB:=fun d a=>dr (by decide) n d (List.mem_reverse.1 a)
theorem cy(n:Nat):(zd n).length=(av UB n).length:=List.length_reverse
theorem pD(d:Nat)(l:Ln):hv (d::l)=hv l+UB^ l.length* d:=by
 unfold hv;rw[List.reverse_cons,ie,List.length_reverse]
theorem pC(l:Ln)(d:Nat):hv (l++[d])=hv l* UB+d:=by
 unfold hv;simp[ofD];rw[Nat.mul_comm,Nat.add_comm]
theorem u9:hv []=0:=rfl
theorem nE:zd 0=[]:=by unfold zd;rw[cg];rfl
theorem zd_eq_nil{n:Nat}:zd n=[]↔n=0:=by
 unfold zd;rw[List.reverse_eq_nil_iff];exact fP (by decide)
theorem uq(h:∀d∈l,d< UB):gu l=[]↔hv l=0:=by rw[fX h];exact zd_eq_nil
theorem Em:zZ 0=[i64 0,.arr []]:=by unfold zZ;show [i64 0,AV.arr (iE (zd 0))]=_;rw[nE];rfl
theorem Fq(h:∀d∈l,d< UB):hv l< UB^ l.length:=by
 have:=fG (b:=UB) (l:=l.reverse) fun d a=>h d (List.mem_reverse.1 a);rwa[List.length_reverse] at this
theorem AEval.lenI{P:Program}{id:Nat}{ev:Operand->Option AV}{hp:Hq}{c:Call}{x:Operand}{T:Nat}{d:Nat×Nat}(hc:c.callee= .builtin .len)(ha:c.args= #[x])(ht:c.argTypes= #[T])(hx:ev x=some (.arr (iE l)))(he:ef P T=some d):
    AEval P id ev hp (.call c) ⟨.v (.int .i64 (l.length:Nat)),[]⟩ []:= .len hc ha ht hx (by simp[pv]) he
end
abbrev RQ:=Rat×Bool
def rok(x:RQ):Prop:=x.2=true->x.1=0
def rC(x:RQ):La:=zZ x.1.num++zZ (if x.2 then 0 else(x.1.den:Int))
def rq(q:Rat):RQ:=(q,false)
def r0:RQ:=(0,true)
theorem cK(q:Rat):rok (rq q):=fun h=>by cases h
theorem CL:rok r0:=fun _=>rfl
@[simp] theorem rC_length (x:RQ):(rC x).length=4:=rfl
theorem b6(x:RQ):∀c∈rC x,Closed c:=fun c a=>(List.mem_append.1 a).elim (dM _ c) (dM _ c)
theorem eU(x:RQ):Closed (.agg (rC x)):=aD (b6 x)
theorem Iy(q:Rat):rC (rq q)=zZ q.num++zZ (q.den:Int):=rfl
theorem rC_r0:rC r0=[i64 0,.arr [],i64 0,.arr []]:=by
 show zZ 0++zZ 0=_;rw[Em];rfl
def rE(l:List RQ):Lc:=l.map rC
@[simp] theorem rE_length (l:List RQ):(rE l).length=l.length:=by simp[rE]
theorem gX{l:List RQ}{i:Nat}{q:RQ}(h:l[i]?=some q):(rE l)[i]?=some (rC q):=by simp[rE,h]
theorem rE_take(l:List RQ)(k:Nat):(rE l).take k=rE (l.take k):=by simp[rE]
theorem CQ(l:List RQ)(i:Nat)(q:RQ):(rE l).set i (rC q)=rE (l.set i q):=by simp[rE,List.map_set]
theorem eg(l:List RQ):(rE l).all (·.all AV.one)=true:=by
 simp only[rE,List.all_map,List.all_eq_true];intro q _;rfl
theorem tv(l:List RQ):∀e∈rE l,e.length=4:=by
 intro e a;obtain⟨q,_,rfl⟩:=List.mem_map.1 a;rfl
theorem cC(l:List RQ):∀e∈rE l,∀c∈e,Closed c:=by
 intro e a c b;obtain⟨q,_,rfl⟩:=List.mem_map.1 a;exact b6 q c b
theorem aY(l:List RQ):Closed (.arr (rE l)):=aG (cC l)
theorem AEval.lenR{P:Program}{id:Nat}{ev:Operand->Option AV}{hp:Hq}{c:Call}{x:Operand}{T:Nat}{d:Nat×Nat}{l:List RQ}(hc:c.callee= .builtin .len)(ha:c.args= #[x])(ht:c.argTypes= #[T])(hx:ev x=some (.arr (rE l)))(he:ef P T=some d):
    AEval P id ev hp (.call c) ⟨.v (.int .i64 (l.length:Nat)),[]⟩ []:= .len hc ha ht hx (by simp[pv]) he
theorem Gh{n:Int}{d:Nat}(hd:0< d):sgZ (mkRat n d).num=sgZ n:=by
 rw[jJ hd];have b:0< Nat.gcd n.natAbs d:=Nat.gcd_pos_of_pos_right _ hd;have a:n≠0->0< n.natAbs/ Nat.gcd n.natAbs d:=fun h=>Nat.div_pos (Nat.gcd_le_left _ (by omega)) b;unfold sgZ sgn;by_cases h0:n=0;subst h0;simp;have:=a h0;by_cases hn:n< 0;simp[hn,h0];omega;simp[hn,h0];omega
theorem oK(n d:Int)(hd:d< 0):Rat.divInt n d=mkRat (-n) d.natAbs:=by
 obtain⟨m,rfl⟩:∃m:Nat,d=Int.negSucc m:=⟨d.natAbs- 1,by omega⟩;rfl
theorem oJ(n d:Int)(hd:0< d):Rat.divInt n d=mkRat n d.natAbs:=by
 obtain⟨m,rfl⟩:∃m:Nat,d=(m:Int):=⟨d.natAbs,by omega⟩;rfl
theorem mf(a b:Rat):a/ b=Rat.divInt (a.num* b.den) (a.den* b.num):=by
 rw[Rat.div_def,Rat.inv_def]
 conv=>lhs;rw[<-Rat.num_divInt_den a]
 rw[Rat.divInt_mul_divInt]
abbrev nQ(n:Nat):Rat:=((n:Int):Rat)
theorem nQ_eq(n:Nat):nQ n=mkRat n 1:=(Rat.mkRat_one n).symm
theorem nQ_zero{n:Nat}:nQ n=0↔n=0:=by simp
theorem ob{n k:Nat}(h:bl n<=k)(hk:1<=k):qs (nQ n)<=k:=by
 refine Nat.max_le.2 ⟨?_,?_⟩;show bl ((n:Int)).natAbs<=k;rwa[Int.natAbs_natCast];show bl 1<=k;rw[kj];grind
theorem IY(a b:Nat):nQ a* nQ b=nQ (a* b):=by grind
theorem nQ_sub{a b:Nat}(h:b<=a):nQ a- nQ b=nQ (a- b):=by
 rw[<-Rat.intCast_sub];congr 1;omega
theorem CZ(a b:Nat)(hb:b≠0):nQ a/ nQ b=mkRat a b:=by
 rw[mf];simp
theorem Gv(a b:Nat)(hb:b≠0)(h:b∣a):mkRat a b=nQ (a/ b):=by
 obtain⟨k,rfl⟩:=h;rw[Nat.mul_div_cancel_left _ (by omega),nQ_eq,Rat.mkRat_eq_iff hb (by decide),Int.natCast_mul,Int.mul_comm (b:Int)];simp
theorem AQ(a b:Nat)(hb:b≠0):(mkRat a b).floor=((a/ b:Nat):Int):=by
 have h:=lh (n:=(a:Int)) (d:=b) (by omega);rw[Int.natAbs_natCast] at h;rw[Rat.floor_def,h.1,h.2,<-Int.natCast_ediv,<-Int.natCast_ediv,Nat.div_div_eq_div_mul,Nat.mul_div_cancel' (Nat.gcd_dvd_right a b)]
def vM:Lq->Nat->Nat
 |[],d=>d
 |c::l,d=>vM l (Nat.lcm d c.den)
def th(c:Rat)(D:Nat):Nat:=c.num.natAbs* (D/ c.den)
def Gr(D:Nat):Lq->Nat->Nat
 |[],n=>n
 |c::l,n=>Gr D l (Nat.gcd n (th c D))
def eG(p:Lq):Lq:=a7 (ar p) (nQ (vM (ar p) 1) / nQ (Gr (vM (ar p) 1) (ar p) 0))
def yF(p:Lq):Prop:=(p.length+4) * mxL p<=34359738368/\p.length<=274877906944
instance (p:Lq):Decidable (yF p):=inferInstanceAs (Decidable (_/\_))
theorem Fh{a b:Nat}(ha:a≠0)(hb:b≠0):Nat.lcm a b≠0:=by simp_all
theorem FN:∀(l:Lq) {d:Nat},d≠0->vM l d≠0
 |[],_,h=>h
 |c::l,_,h=>FN l (Fh h c.den_nz)
theorem vL:∀(l:Lq) (d:Nat),d∣vM l d/\∀c∈l,c.den∣vM l d
 |[],d=>⟨Nat.dvd_refl d,fun _ h=>by cases h⟩
 |c::l,d=>by
  obtain⟨b,e⟩:=vL l (Nat.lcm d c.den);refine⟨Nat.dvd_trans (Nat.dvd_lcm_left d c.den) b,fun x a=>?_⟩;rcases List.mem_cons.1 a with rfl|a
  exact Nat.dvd_trans (Nat.dvd_lcm_right d x.den) b;exact e x a
theorem bl_lcm(a b:Nat):bl (Nat.lcm a b)<=bl a+bl b:=
 Nat.le_trans (eX _ _) (iT a b)
theorem FO{s:Nat}:∀(l:Lq) (d:Nat),bdL l s->bl (vM l d)<=bl d+l.length* s
 |[],d,_=>by simp[vM]
 |c::l,d,h=>by
  have f:=FO l (Nat.lcm d c.den) fun q a=>h q (List.mem_cons_of_mem _ a);have b:=bl_lcm d c.den;have g:=c7 c;have e:=h c (List.mem_cons_self ..);rw[List.length_cons,Nat.add_mul];unfold vM;omega
theorem I2(c:Rat)(D:Nat)(h:c.den∣D):gi (c* nQ D)=nQ (th c D):=by
 obtain⟨k,rfl⟩:=h;have a:=c.den_nz
 have e:c* nQ (c.den* k)=((c.num* (k:Int):Int):Rat):=by
  rw[nS];show mkRat (c.num* ((c.den* k:Nat):Int)) (c.den* 1)=_;rw[show((c.num* (k:Int):Int):Rat)=mkRat (c.num* k) 1 from(Rat.mkRat_one _).symm,Rat.mkRat_eq_iff (by omega) (by decide)];grind
 rw[e];unfold gi th;show mkRat (((c.num* (k:Int)).natAbs:Nat):Int) 1=_;rw[Nat.mul_div_cancel_left _ (by omega),Int.natAbs_mul,Int.natAbs_natCast,nQ_eq]
theorem AK(D:Nat):∀(l:Lq) (n:Nat),Gr D l n∣n/\∀c∈l,Gr D l n∣th c D
 |[],n=>⟨Nat.dvd_refl n,fun _ h=>by cases h⟩
 |c::l,n=>by
  obtain⟨b,d⟩:=AK D l (Nat.gcd n (th c D));refine⟨Nat.dvd_trans b (Nat.gcd_dvd_left _ _),fun x a=>?_⟩;rcases List.mem_cons.1 a with rfl|a
  exact Nat.dvd_trans b (Nat.gcd_dvd_right _ _);exact d x a
theorem intC_ne{c:Rat}{D:Nat}(h:c.den∣D)(hD:D≠0)(hc:c≠0):th c D≠0:=by
 obtain⟨k,rfl⟩:=h;unfold th;rw[Nat.mul_div_cancel_left _ c.den_pos];have a:c.num≠0:=fun e=>hc (Rat.num_eq_zero.1 e);refine Nat.mul_ne_zero (by omega) fun e=>hD (by grind)
theorem Fm(c:Rat)(D:Nat):bl (th c D)<=qs c+bl D:=by
 have a:=iT c.num.natAbs (D/ c.den);have b:=eX D c.den;have d:=di c;unfold th;omega
theorem nu(p:Lq):(fh p).length<=p.length- 1:=by
 have:=bw (aJ (p.length- 1) fun i=>coP p (i+1) * ((i+1:Nat):Int));simpa[fh] using this
def sqfM(f:Nat)(p:Lq):Option Lq:=
 if smL p/\p.length<=274877906944 then(GC f p (fh p)).bind fun g=>if ar g≠[]/\AI p g then some (kS (k4 p g).1) else none
 else none
def boL(lead:Rat):Lq->Rat->Rat
 |[],m=>m
 |c::l,m=>boL lead l (oz [m,gi (c/ lead)])
def mn(p:Lq):Rat:=boL (ba p) ((ar p).take ((ar p).length- 1)) 0+1
def yI(p:Lq):Prop:=mxL p<=34359738368/\p.length<=274877906944
instance (p:Lq):Decidable (yI p):=inferInstanceAs (Decidable (_/\_))
theorem qs_abs(q:Rat):qs (gi q)=qs q:=by
 unfold qs;rw[B3,B4,Int.natAbs_natCast]
theorem maxL_le{l:Lq}{n:Nat}(h:bdL l n)(hn:1<=n):qs (oz l)<=n:=by
 unfold oz
 have a:∀(b:Int->Bool) (l:Lq) (o:Rat),qs o<=n->bdL l n->qs (l.foldl (fun o y=>if b (fl y o) then y else o) o)<=n:=by
  intro b l
  induction l with
  |nil=>intro o d _;exact d
  |cons y l f=>
   intro o d hl;refine f _ ?_ fun q e=>hl q (List.mem_cons_of_mem _ e);show qs (if b (fl y o)=true then y else o)<=n;split;exact hl y (List.mem_cons_self ..);exact d
 cases l with
 |nil=>exact Nat.le_trans (by decide:qs 0<=1) hn
 |cons x l=>exact a (fun c=>decide (0< c)) l x (h x (List.mem_cons_self ..)) fun q e=>h q (List.mem_cons_of_mem _ e)
theorem C4(p:Lq):ba (ar p)=ba p:=by unfold ba;rw[dX]
def chL:List Int->Int->Int->Int
 |[],n,_=>n
 |s::l,n,last=>if s≠0 then chL l (if s= -last then n+1 else n) s else chL l n last
def zN(f:Nat):Nat->Lq->Lq->Lw->Option Lw
 |0,_,_,_=>none
 |k+1,last,next,acc=>
  if ar next=[] then some acc
  else if yF next/\AI last (eG next)/\ar (eG next)≠[] then zN f k (eG next) (a7 (k4 last (eG next)).2 (-1)) (acc++[eG next])
  else none
def Cp(f:Nat)(p:Lq):Option Lw:=
 if smL p/\yF p/\ar p≠[] then zN f f (eG p) (fh p) [eG p] else none
def cE(l:Lw):Lc:=l.map fun p=>[.arr (pE p)]
@[simp] theorem cE_length (l:Lw):(cE l).length=l.length:=by simp[cE]
theorem D1{l:Lw}{i:Nat}{p:Lq}(h:l[i]?=some p):(cE l)[i]?=some [.arr (pE p)]:=by simp[cE,h]
theorem eW(l:Lw):(cE l).all (·.all AV.one)=true:=by
 simp only[cE,List.all_map,List.all_eq_true];intro q _;rfl
theorem jN(l:Lw):∀e∈cE l,∀c∈e,Closed c:=by
 intro e a c b;obtain⟨q,_,rfl⟩:=List.mem_map.1 a;rw[List.mem_singleton.1 b];exact az q
theorem n7(l:Lw):Closed (.arr (cE l)):=aG (jN l)
theorem cE_snoc(l:Lw)(p:Lq):cE (l++[p])=cE l++[[.arr (pE p)]]:=by simp[cE]
theorem AEval.lenC{P:Program}{id:Nat}{ev:Operand->Option AV}{hp:Hq}{c:Call}{x:Operand}{T:Nat}{d:Nat×Nat}{l:Lw}(hc:c.callee= .builtin .len)(ha:c.args= #[x])(ht:c.argTypes= #[T])(hx:ev x=some (.arr (cE l)))(he:ef P T=some d):
    AEval P id ev hp (.call c) ⟨.v (.int .i64 (l.length:Nat)),[]⟩ []:= .len hc ha ht hx (by simp[pv]) he
structure Cnt where
 p:Lq
 ch:Lw
 far:Int
def kC(c:Cnt):La:=[.arr (pE c.p),.arr (cE c.ch),i64 c.far]
abbrev kA(c:Cnt):AV:= .aptr [kC c] 0 0
theorem xG(c:Cnt):∀x∈kC c,Closed x:=ac (az _) (ac (n7 _) (ac (ag _) af))
theorem gO(c:Cnt):Closed (kA c):=aU (xG c)
def sgI(q:Lq):Int:=if a8 q % 2=1 then -sgZ (ba q).num else sgZ (ba q).num
def sgE(x:Rat)(q:Lq):Int:=sgZ (aE q x).num
theorem yh(z:Int): -1<=sgZ z/\sgZ z<=1:=by
 unfold sgZ;split;omega;split <;> omega
theorem sgI_abs(q:Lq): -1<=sgI q/\sgI q<=1:=by
 have:=yh (ba q).num;unfold sgI;split <;> omega
theorem v7:∀(l:List Int) (n last:Int),n<=chL l n last/\chL l n last<=n+l.length
 |[],n,_=>⟨Int.le_refl _,by simp[chL]⟩
 |s::l,n,last=>by
  unfold chL;split;split;have:=v7 l (n+1) s;simp only[List.length_cons];omega;have:=v7 l n s;simp only[List.length_cons];omega;have:=v7 l n last;simp only[List.length_cons];omega
def AJ(c:Cnt):Prop:=(∀q∈c.ch,ar q≠[]/\q.length<=274877906944)/\c.ch.length<=274877906944/\c.far=chL (c.ch.map sgI) 0 0
instance (c:Cnt):Decidable (AJ c):=inferInstanceAs (Decidable (_/\_/\_))
def kI(f:Nat)(p:Lq):Option Cnt:=
 (sqfM f p).bind fun s=>(Cp f s).bind fun ch=>if AJ ⟨s,ch,chL (ch.map sgI) 0 0⟩ then some ⟨s,ch,chL (ch.map sgI) 0 0⟩ else none
def fz(c:Cnt)(x:Rat):Int:=c.far- chL (c.ch.map (sgE x)) 0 0
def yE(c:Cnt)(x:Rat):Prop:=AJ c/\∀q∈c.ch,hZ q x
instance (c:Cnt) (x:Rat):Decidable (yE c x):=inferInstanceAs (Decidable (_/\_))
def ed(c:Cnt)(x:Rat):Int:=if aE c.p x=0 then fz c x- 1 else fz c x
def tf(c:Cnt)(x:Rat):Prop:=yE c x/\hZ c.p x
instance (c:Cnt) (x:Rat):Decidable (tf c x):=inferInstanceAs (Decidable (_/\_))
theorem oV{c:Cnt}{x:Rat}(h:AJ c): -274877906944<=fz c x/\fz c x<=274877906944:=by
 have a:=v7 (c.ch.map sgI) 0 0;have b:=v7 (c.ch.map (sgE x)) 0 0;have d:=h.2.1;rw[<-h.2.2] at a;simp only[List.length_map] at a b;unfold fz;omega
end Go.Abs
