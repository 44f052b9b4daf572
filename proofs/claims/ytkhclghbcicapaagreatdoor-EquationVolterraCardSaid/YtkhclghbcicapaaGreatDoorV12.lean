/- Part V12 of the proof. -/
import Derived.Test.YtkhclghbcicapaaGreatDoorV11
set_option linter.all false
namespace Go.Abs
def af:List Rat→Rat→Rat
 |[],_=>0
 |a::l,x=>af l x* x+a
def lL(l:List Rat)(k:Nat):Option (List AV):=if k< l.length then some [i64 ((l.length- 1- k:Nat):Int),.agg (qC (coP l (l.length- 1- k)))] else none
theorem sd{l:List Rat}{k:Nat}(h:k< l.length):l.drop (l.length- (k+1))=coP l (l.length- 1- k)::l.drop (l.length- k):=by
 have h1:l.length- (k+1)< l.length:=by omega
 rw[List.drop_eq_getElem_cons h1,show l.length- (k+1)+1=l.length- k by omega];congr 1;have:=cG h1;rw[List.getElem?_eq_getElem h1] at this;rw[show l.length- 1- k=l.length- (k+1) by omega];exact Option.some.inj this
theorem nf{x:Rat}{s t:Nat}(hx:qs x≤t):∀{l:List Rat},bdL l s→qs (af l x)≤l.length* (s+t+1)+1
 |[],_=>by show qs 0≤_;exact Nat.le_trans (by decide:qs 0≤1) (Nat.le_add_left 1 _)
 |a::l,h=>by
  have c:=nf (l:=l) hx fun q b=>h q (List.mem_cons_of_mem _ b);have ha:=h a (List.mem_cons_self ..);have h1:=fQ (af l x* x) a;have d:=dh (af l x) x;show qs (af l x* x+a)≤(l.length+1) * (s+t+1)+1;rw[Nat.add_mul,Nat.one_mul];omega
def eW(p:List Rat)(x:Rat):Prop:=p.length* (mxL p+qs x+1)+mxL p+qs x+2≤137438953472∧p.length≤274877906944
instance (p:List Rat) (x:Rat):Decidable (eW p x):=inferInstanceAs (Decidable (_∧_))
theorem CJ{p:List Rat}{x:Rat}(h:eW p x)(k:Nat)(hk:k< p.length):qs (af (p.drop (p.length- k)) x)+qs x≤549755813888∧qs (af (p.drop (p.length- k)) x* x)+qs (coP p (p.length- 1- k))≤549755813888:=by
 have h1:=nf (t:=qs x) (Nat.le_refl _) (l:=p.drop (p.length- k)) (s:=mxL p) fun q a=>fa p q (List.mem_of_mem_drop a);have b:=dh (af (p.drop (p.length- k)) x) x;have e:=fy (fa p) (ff p) (p.length- 1- k);have d:=h.1;have c:(p.drop (p.length- k)).length* (mxL p+qs x+1)≤p.length* (mxL p+qs x+1):=Nat.mul_le_mul_right _ (by simp);omega
theorem vg{p:List Rat}{x:Rat}(h:eW p x):sm (af p x):=by
 have h1:=nf (t:=qs x) (Nat.le_refl _) (fa p);have a:=h.1;unfold sm;omega
abbrev Sp:=Rat×Rat
def fE(a b:Sp):List Rat:=[a.1* b.1,a.1* b.2,a.2* b.1,a.2* b.2]
def g9(a b:Sp):Sp:=(eN (fE a b),dH (fE a b))
def zp(a b:Sp):Sp:=(a.1+b.1,a.2+b.2)
def smS(a:Sp):Prop:=sm a.1∧sm a.2
instance (a:Sp):Decidable (smS a):=inferInstanceAs (Decidable (_∧_))
def ovP(v0 s:Sp):List Rat→Sp
 |[]=>v0
 |a::l=>zp (g9 (ovP v0 s l) s) (a,a)
def B1(v0 s:Sp):List Rat→Prop
 |[]=>smS v0
 |a::l=>B1 v0 s l∧smL (fE (ovP v0 s l) s)∧sm a∧smS (zp (g9 (ovP v0 s l) s) (a,a))
instance okOv_dec (v0 s:Sp):(l:List Rat)→Decidable (B1 v0 s l)
 |[]=>inferInstanceAs (Decidable (smS v0))
 |a::l=> @instDecidableAnd _ _ (okOv_dec v0 s l) (inferInstanceAs (Decidable (_∧_∧_)))
theorem okOv_sm{v0 s:Sp}:∀{l:List Rat},B1 v0 s l→smS (ovP v0 s l)
 |[],h=>h
 |_::_,h=>h.2.2.2
theorem wB{v0 s:Sp}:∀{l:List Rat} (n:Nat),B1 v0 s l→B1 v0 s (l.drop n)
 |_,0,h=>h
 |[],_+1,h=>h
 |_::_,n+1,h=>wB n h.1
def di(p:List Rat)(s:Sp):Sp:=if¬dy s.1 s.2≤0∨aj p=[] then(0,0) else ovP (aF p,aF p) s ((aj p).take ((aj p).length- 1))
def uM(p:List Rat)(s:Sp):Prop:=smL p∧smS s∧p.length≤274877906944∧B1 (aF p,aF p) s ((aj p).take ((aj p).length- 1))
instance (p:List Rat) (s:Sp):Decidable (uM p s):=inferInstanceAs (Decidable (_∧_∧_∧_))
def fl(p q:List Rat):Prop:=p.length* (mxL p+mxL q+1)+1≤137438953472∧mxL q≤137438953472∧p.length≤274877906944∧q.length≤274877906944
instance (p q:List Rat):Decidable (fl p q):=inferInstanceAs (Decidable (_∧_∧_∧_))
theorem mT{p q:List Rat}(h:fl p q):smL (aJ p q):=
 eH (yc (fa p) (fa q) (ff p) (ff q)) h.1
theorem ki(p q:List Rat):(fO p q).length≤max p.length q.length:=by
 have:=bJ (aW (max p.length q.length) fun i=>coP p i+coP q i);simpa[fO] using this
theorem lb(p q:List Rat):(aJ p q).length≤p.length+q.length:=by
 unfold aJ;split;simp;have:=bJ (fz p q p.length);rw[mU] at this;omega
theorem j9(a:Rat):(b6 a).length≤1:=bJ [a]
def b7(q:List Rat):List Rat→List Rat
 |[]=>[]
 |a::l=>fO (aJ (b7 q l) q) (b6 a)
def gT(q:List Rat):List Rat→Prop
 |[]=>True
 |a::l=>gT q l∧fl (b7 q l) q∧sm a∧(aJ (b7 q l) q).length≤274877906944
instance okComp_dec (q:List Rat):(l:List Rat)→Decidable (gT q l)
 |[]=>inferInstanceAs (Decidable True)
 |a::l=> @instDecidableAnd _ _ (okComp_dec q l) (inferInstanceAs (Decidable (_∧_∧_)))
theorem sT{q:List Rat}:∀{l:List Rat} (n:Nat),gT q l→gT q (l.drop n)
 |_,0,h=>h
 |[],_+1,h=>h
 |_::_,n+1,h=>sT n h.1
theorem iu(b:Nat)(s:List Nat)(v:Nat):ofD b (s++[v])=ofD b s+b^ s.length* v:=by rw[gU];simp[ofD]
theorem dp{α:Type}{l:List α}{k:Nat}{x:α}(h:l[k]?=some x):l.take (k+1)=l.take k++[x]:=by
 rw[List.take_add_one,h];rfl
theorem c9(b:Nat){l:List Nat}{k d:Nat}(h:l[k]?=some d):ofD b (l.take (k+1))=ofD b (l.take k)+b^ k* d:=by
 have a:k< l.length:=(List.getElem?_eq_some_iff.1 h).1;rw[dp h,iu,List.length_take,Nat.min_eq_left (by omega)]
theorem fm(b:Nat)(l:List Nat)(k:Nat):ofD b (l.take (k+1))=ofD b (l.take k)+b^ k* (l[k]?.getD 0):=by
 cases h:l[k]? with
 |some d=>exact c9 b h
 |none=>rw[List.getElem?_eq_none_iff] at h;rw[List.take_of_length_le (by omega),List.take_of_length_le (by omega)];simp
theorem ir(b:Nat){l:List Nat}{k:Nat}(h:l.length≤k):ofD b (l.take k)=ofD b l:=by rw[List.take_of_length_le h]
theorem la(b:Nat){l:List Nat}{k d:Nat}(h:l[k]?=some d):ofD b (l.drop k)=d+b* ofD b (l.drop (k+1)):=by
 rw[List.drop_eq_getElem_cons (List.getElem?_eq_some_iff.1 h).1,ofD];grind
theorem qe(b:Nat):∀{l:List Nat} {j d:Nat} (v:Nat),l[j]?=some d→ofD b (l.set j v)+b^ j* d=ofD b l+b^ j* v
 |[],_,_,_,h=>by grind
 |x::l,0,d,v,h=>by simp at h;simp[ofD];omega
 |x::l,j+1,d,v,h=>by
  simp only[List.getElem?_cons_succ] at h;have:=qe b v h;rw[List.set_cons_succ,ofD,ofD];grind
theorem tD{l:List Nat}{j v:Nat}{p:Nat→Prop}(h:∀d∈l,p d)(hv:p v):∀d∈l.set j v,p d:=by grind
theorem Ez{α:Type}{cs vs:List α}(h:vs.length=cs.length):fD cs 0 vs=vs:=by
 apply List.ext_getElem?;intro j;rw[fg];grind
theorem zB{α:Type}{cs vs:List α}(h:vs.length≤cs.length):fD cs 0 vs=vs++cs.drop vs.length:=by
 apply List.ext_getElem?;intro j;rw[fg];grind
theorem zx(s:List Nat)(m v i:Nat)(hi:i=s.length):(s++List.replicate (m+1) 0).set i v=(s++[v])++List.replicate m 0:=by
 subst hi;grind
theorem Ae(s:List Nat)(m i:Nat)(hi:i=s.length):(s++List.replicate (m+1) 0)[i]?=some 0:=by grind
theorem cQ{b n i d:Nat}(hb:1< b)(h:(av b n)[i]?=some d):d< b:=dZ hb n d (List.mem_of_getElem? h)
theorem CQ{n:Nat}(h0:0< n)(h:n< MB):av MB n=[n]:=by
 rw[fN (by decide) h0,Nat.div_eq_of_lt h,cM,Nat.mod_eq_of_lt h]
theorem Fn{b:Nat}(hb:1< b)(n k:Nat):(av b n).drop k=av b (ofD b ((av b n).drop k)):=by
 symm;refine vj hb ⟨fun d a=>dZ hb n d (List.mem_of_mem_drop a),?_⟩;by_cases hk:k< (av b n).length;rw[List.getLast?_drop,if_neg (by omega)];exact si hb n;grind
theorem s8{b n:Nat}(hb:1< b):b^ ((av b n).length- 1)≤n∨n=0:=by
 rcases Nat.eq_zero_or_pos n with h|h
 exact .inr h;have a:av b n≠[]:=fun e=>by have:=(jr hb).1 e;omega
 have c:=si hb n;obtain⟨s,x,e⟩:∃s x,av b n=s++[x]:=⟨_,_,(List.dropLast_concat_getLast a).symm⟩;have h1:=bD hb n;rw[e,iu] at h1;rw[e] at c;simp at c;rw[e];simp;have:b^ s.length* 1≤b^ s.length* x:=Nat.mul_le_mul_left _ (by omega);omega
theorem jO{b m n:Nat}(hb:1< b)(h:(av b m).length< (av b n).length):m< n:=by
 have h1:=gc (b:=b) (dZ hb m);rw[bD hb] at h1;rcases s8 (n:=n) hb with a|a
 have:b^ (av b m).length≤b^ ((av b n).length- 1):=Nat.pow_le_pow_right (by omega) (by omega);omega;subst a;rw[cM] at h;grind
theorem z8{b m n:Nat}(hb:1< b)(h:m≤n):(av b m).length≤(av b n).length:=by
 rcases Nat.lt_or_ge (av b n).length (av b m).length with h1|h1
 have:=jO hb h1;omega;grind
def kz(n k:Nat):Nat:=ofD MB ((av MB n).drop k)
def vZ(n k:Nat):List Nat:=(av MB n).take k
theorem uD(n:Nat):kz n 0=n:=bD (by decide) n
theorem iI(n:Nat):vZ n 0=[]:=rfl
theorem Gl(n:Nat):vZ n (av MB n).length=av MB n:=List.take_length
theorem mN{n k:Nat}(h:k≤(av MB n).length):(vZ n k).length=k:=by simp[vZ,Nat.min_eq_left h]
theorem uE{n k:Nat}(h:k< (av MB n).length):kz n (k+1)=kz n k/ MB∧vZ n (k+1)=vZ n k++[kz n k % MB]:=by
 have a:(av MB n)[k]?=some (av MB n)[k]:=List.getElem?_eq_getElem h;have h1:=la MB a;have b:(av MB n)[k]< MB:=cQ (by decide) a;constructor;unfold kz;rw[h1,Nat.add_mul_div_left _ _ (by decide),Nat.div_eq_of_lt b];omega;unfold vZ kz;rw[dp a,h1,Nat.add_mul_mod_self_left,Nat.mod_eq_of_lt b]
theorem Gb{n k:Nat}(hk:k≤(av MB n).length):kz n k≤n:=by
 have:=eu MB k _ hk;rw[bD (by decide)] at this;have a:=Nat.le_mul_of_pos_left (ofD MB ((av MB n).drop k)) (Nat.pow_pos (n:=k) (show 0< MB by decide));unfold kz;omega
theorem Gc{n k:Nat}(hk:k≤(av MB n).length):kz n k=0↔k=(av MB n).length:=by
 constructor;intro e;have:=Fn (b:=MB) (by decide) n k;rw[show ofD MB ((av MB n).drop k)=0 from e,cM,List.drop_eq_nil_iff] at this;omega;intro e;unfold kz;rw[e,List.drop_length];rfl
def fe(a b:Int):Int:=if a< b then -1 else if b< a then 1 else 0
theorem mj{a b:Int}(h:a< b):fe a b= -1:=by simp[fe,h]
theorem n5{a b:Int}(h:b< a):fe a b=1:=by simp[fe];omega
theorem Eg{a b:Int}(h:a=b):fe a b=0:=by simp[fe];omega
theorem tQ{a b:Int}:fe a b≠0↔a≠b:=by unfold fe;split <;>(try split)<;> omega
theorem nK{b i x y:Nat}{l m:List Nat}(hl:∀d∈l,d< b)(hx:l[i]?=some x)(hy:m[i]?=some y)(hd:l.drop (i+1)=m.drop (i+1))(hlt:x< y):ofD b l< ofD b m:=by
 have e:i< l.length:=(List.getElem?_eq_some_iff.1 hx).1;have c:i< m.length:=(List.getElem?_eq_some_iff.1 hy).1;rw[eu b i l (by omega),eu b i m (by omega),la b hx,la b hy,hd]
 have h1:ofD b (l.take i)< b^ i:=by
  have:=gc (b:=b) (l:=l.take i) fun d hd=>hl d (List.mem_of_mem_take hd);rwa[List.length_take,Nat.min_eq_left (by omega)] at this
 have a:b^ i* (x+b* ofD b (m.drop (i+1))+1)≤b^ i* (y+b* ofD b (m.drop (i+1))):=Nat.mul_le_mul_left _ (by omega);rw[Nat.mul_add _ _ 1] at a;omega
theorem qt(s t:List Nat)(x:Nat)(i:Nat)(hi:i=s.length):(s++x::t)[i]?=some x:=by subst hi;simp
theorem pI(s t:List Nat)(x v:Nat)(i:Nat)(hi:i=s.length):(s++x::t).set i v=(s++[v])++t:=by
 subst hi;rw[List.set_append_right _ _ (Nat.le_refl _)];simp
theorem gC{l:List Nat}{i x:Nat}(h:l[i]?=some x):l.drop i=x::l.drop (i+1):=by
 rw[List.drop_eq_getElem_cons (List.getElem?_eq_some_iff.1 h).1,(List.getElem?_eq_some_iff.1 h).2]
abbrev UB:Nat:=32768
def iE(l:List Nat):List (List AV):=l.map fun(d:Nat)=>[i64 d]
def hv(l:List Nat):Nat:=ofD UB l.reverse
def zd(n:Nat):List Nat:=(av UB n).reverse
def zZ(z:Int):List AV:=[i64 (sgZ z),.arr (iE (zd z.natAbs))]
def gI:List Nat→List Nat
 |[]=>[]
 |d::l=>if d=0 then gI l else d::l
@[simp] theorem rN (l:List Nat):(iE l).length=l.length:=by simp[iE]
theorem kT{l:List Nat}{i d:Nat}(h:l[i]?=some d):(iE l)[i]?=some [i64 d]:=by simp[iE,h]
theorem iE_take(l:List Nat)(k:Nat):(iE l).take k=iE (l.take k):=by simp[iE]
theorem nO(l m:List Nat):iE (l++m)=iE l++iE m:=by simp[iE]
theorem pe(l:List Nat)(i d:Nat):(iE l).set i [i64 d]=iE (l.set i d):=by simp[iE,List.map_set]
theorem jG(k:Nat):List.replicate k [i64 0]=iE (List.replicate k 0):=by simp[iE]
theorem fT(l:List Nat):(iE l).all (·.all AV.one)=true:=by
 simp only[iE,List.all_map,List.all_eq_true];intro d _;rfl
theorem lZ(l:List Nat):∀e∈iE l,e.length=1:=by intro e a;simp[iE] at a;obtain⟨d,_,rfl⟩:=a;rfl
theorem dN(l:List Nat):∀e∈iE l,∀c∈e,Closed c:=by
 intro e a c hc;simp[iE] at a;obtain⟨d,_,rfl⟩:=a;simp at hc;subst hc;exact ah _
theorem fv(l:List Nat):Closed (.arr (iE l)):=aK (dN l)
theorem gF(z:Int):∀c∈zZ z,Closed c:=ac (ah _) (ac (fv _) ag)
theorem dc(z:Int):Closed (.agg (zZ z)):=aB (gF z)
theorem Bx(m:List Nat)(d:Nat):fL (m++[d])=if d=0 then fL m else m++[d]:=by
 induction m with
 |nil=>simp[fL]
 |cons a m b=>
  rw[List.cons_append,fL,b];by_cases hd:d=0;rw[if_pos hd,if_pos hd];rfl;rw[if_neg hd,if_neg hd];cases m <;> rfl
theorem zo(l:List Nat):gI l=(fL l.reverse).reverse:=by
 induction l with
 |nil=>rfl
 |cons d l a=>
  rw[gI,List.reverse_cons,Bx];split;exact a;simp
theorem gu{l:List Nat}(h:∀d∈l,d< UB):gI l=zd (hv l):=by
 rw[zo,jW (b:=UB) (by decide) (fun d a=>h d (List.mem_reverse.1 a))];rfl
theorem lr(n:Nat):hv (zd n)=n:=by unfold hv zd;rw[List.reverse_reverse,bD (by decide)]
theorem jU(n:Nat):∀d∈zd n,d< UB:=fun d a=>dZ (by decide) n d (List.mem_reverse.1 a)
theorem da(n:Nat):(zd n).length=(av UB n).length:=List.length_reverse
theorem qq(d:Nat)(l:List Nat):hv (d::l)=hv l+UB^ l.length* d:=by
 unfold hv;rw[List.reverse_cons,iu,List.length_reverse]
theorem qp(l:List Nat)(d:Nat):hv (l++[d])=hv l* UB+d:=by
 unfold hv;simp[ofD];rw[Nat.mul_comm,Nat.add_comm]
theorem uS:hv []=0:=rfl
theorem pv:zd 0=[]:=by unfold zd;rw[cM];rfl
theorem zd_eq_nil{n:Nat}:zd n=[]↔n=0:=by
 unfold zd;rw[List.reverse_eq_nil_iff];exact jr (by decide)
theorem uk{l:List Nat}(h:∀d∈l,d< UB):gI l=[]↔hv l=0:=by rw[gu h];exact zd_eq_nil
theorem zZ_zero:zZ 0=[i64 0,.arr []]:=by unfold zZ;show [i64 0,AV.arr (iE (zd 0))]=_;rw[pv];rfl
theorem DV{l:List Nat}(h:∀d∈l,d< UB):hv l< UB^ l.length:=by
 have:=gc (b:=UB) (l:=l.reverse) fun d a=>h d (List.mem_reverse.1 a);rwa[List.length_reverse] at this
theorem AEval.lenI{P:Program}{id:Nat}{ev:Operand→Option AV}{hp:Nat→Option ABlk}{c:Call}{x:Operand}{T:Nat}{d:Nat×Nat}{l:List Nat}(hc:c.callee= .builtin .len)(ha:c.args= #[x])(ht:c.argTypes= #[T])(hx:ev x=some (.arr (iE l)))(he:eG P T=some d):
    AEval P id ev hp (.call c) ⟨.v (.int .i64 (l.length:Nat)),[]⟩ []:= .len hc ha ht hx (by simp[rK]) he
abbrev RQ:=Rat×Bool
def rok(x:RQ):Prop:=x.2=true→x.1=0
def rC(x:RQ):List AV:=zZ x.1.num++zZ (if x.2 then 0 else(x.1.den:Int))
def rq(q:Rat):RQ:=(q,false)
theorem uC(q:Rat):rok (rq q):=fun h=>by cases h
@[simp] theorem rC_length (x:RQ):(rC x).length=4:=rfl
theorem gG(x:RQ):∀c∈rC x,Closed c:=fun c hc=>(List.mem_append.1 hc).elim (gF _ c) (gF _ c)
theorem lG(x:RQ):Closed (.agg (rC x)):=aB (gG x)
theorem rC_rq(q:Rat):rC (rq q)=zZ q.num++zZ (q.den:Int):=rfl
def rE(l:List RQ):List (List AV):=l.map rC
@[simp] theorem rE_length (l:List RQ):(rE l).length=l.length:=by simp[rE]
theorem rE_get{l:List RQ}{i:Nat}{q:RQ}(h:l[i]?=some q):(rE l)[i]?=some (rC q):=by simp[rE,h]
theorem rE_take(l:List RQ)(k:Nat):(rE l).take k=rE (l.take k):=by simp[rE]
theorem fP(l:List RQ):(rE l).all (·.all AV.one)=true:=by
 simp only[rE,List.all_map,List.all_eq_true];intro q _;rfl
theorem xT(l:List RQ):∀e∈rE l,e.length=4:=by
 intro e a;obtain⟨q,_,rfl⟩:=List.mem_map.1 a;rfl
theorem jQ(l:List RQ):∀e∈rE l,∀c∈e,Closed c:=by
 intro e a c hc;obtain⟨q,_,rfl⟩:=List.mem_map.1 a;exact gG q c hc
theorem fJ(l:List RQ):Closed (.arr (rE l)):=aK (jQ l)
theorem AEval.lenR{P:Program}{id:Nat}{ev:Operand→Option AV}{hp:Nat→Option ABlk}{c:Call}{x:Operand}{T:Nat}{d:Nat×Nat}{l:List RQ}(hc:c.callee= .builtin .len)(ha:c.args= #[x])(ht:c.argTypes= #[T])(hx:ev x=some (.arr (rE l)))(he:eG P T=some d):
    AEval P id ev hp (.call c) ⟨.v (.int .i64 (l.length:Nat)),[]⟩ []:= .len hc ha ht hx (by simp[rK]) he
theorem Ey{n:Int}{d:Nat}(hd:0< d):sgZ (mkRat n d).num=sgZ n:=by
 rw[jN hd];have hg:0< Nat.gcd n.natAbs d:=Nat.gcd_pos_of_pos_right _ hd;have h1:n≠0→0< n.natAbs/ Nat.gcd n.natAbs d:=fun h=>Nat.div_pos (Nat.gcd_le_left _ (by omega)) hg;unfold sgZ sgn;by_cases h0:n=0;subst h0;simp;have:=h1 h0;by_cases hn:n< 0;simp[hn,h0];omega;simp[hn,h0];omega
theorem pq(n d:Int)(hd:d< 0):Rat.divInt n d=mkRat (-n) d.natAbs:=by
 obtain⟨m,rfl⟩:∃m:Nat,d=Int.negSucc m:=⟨d.natAbs- 1,by omega⟩;rfl
theorem pp(n d:Int)(hd:0< d):Rat.divInt n d=mkRat n d.natAbs:=by
 obtain⟨m,rfl⟩:∃m:Nat,d=(m:Int):=⟨d.natAbs,by omega⟩;rfl
theorem mc(a b:Rat):a/ b=Rat.divInt (a.num* b.den) (a.den* b.num):=by
 rw[Rat.div_def,Rat.inv_def]
 conv=>lhs;rw[←Rat.num_divInt_den a]
 rw[Rat.divInt_mul_divInt]
abbrev nQ(n:Nat):Rat:=((n:Int):Rat)
theorem nQ_eq(n:Nat):nQ n=mkRat n 1:=(Rat.mkRat_one n).symm
theorem nQ_zero{n:Nat}:nQ n=0↔n=0:=by simp
theorem mA{n k:Nat}(h:bl n≤k)(hk:1≤k):qs (nQ n)≤k:=by
 refine Nat.max_le.2 ⟨?_,?_⟩;show bl ((n:Int)).natAbs≤k;rwa[Int.natAbs_natCast];show bl 1≤k;rw[jD];grind
theorem Gz(a b:Nat):nQ a* nQ b=nQ (a* b):=by grind
theorem nQ_sub{a b:Nat}(h:b≤a):nQ a- nQ b=nQ (a- b):=by
 rw[←Rat.intCast_sub];congr 1;omega
theorem x9(a b:Nat)(hb:b≠0):nQ a/ nQ b=mkRat a b:=by
 rw[mc];simp
theorem wH(a b:Nat)(hb:b≠0)(h:b∣a):mkRat a b=nQ (a/ b):=by
 obtain⟨k,rfl⟩:=h;rw[Nat.mul_div_cancel_left _ (by omega),nQ_eq,Rat.mkRat_eq_iff hb (by decide),Int.natCast_mul,Int.mul_comm (b:Int)];simp
theorem z7(a b:Nat)(hb:b≠0):(mkRat a b).floor=((a/ b:Nat):Int):=by
 have h:=lc (n:=(a:Int)) (d:=b) (by omega);rw[Int.natAbs_natCast] at h;rw[Rat.floor_def,h.1,h.2,←Int.natCast_ediv,←Int.natCast_ediv,Nat.div_div_eq_div_mul,Nat.mul_div_cancel' (Nat.gcd_dvd_right a b)]
def iy:List Rat→Nat→Nat
 |[],d=>d
 |c::l,d=>iy l (Nat.lcm d c.den)
def iF(c:Rat)(D:Nat):Nat:=c.num.natAbs* (D/ c.den)
def iM(D:Nat):List Rat→Nat→Nat
 |[],n=>n
 |c::l,n=>iM D l (Nat.gcd n (iF c D))
def bO(p:List Rat):List Rat:=aL (aj p) (nQ (iy (aj p) 1) / nQ (iM (iy (aj p) 1) (aj p) 0))
def uL(p:List Rat):Prop:=(p.length+4) * mxL p≤34359738368∧p.length≤274877906944
instance (p:List Rat):Decidable (uL p):=inferInstanceAs (Decidable (_∧_))
theorem DQ{a b:Nat}(ha:a≠0)(hb:b≠0):Nat.lcm a b≠0:=by simp_all
theorem qS:∀(l:List Rat) {d:Nat},d≠0→iy l d≠0
 |[],_,h=>h
 |c::l,_,h=>qS l (DQ h c.den_nz)
theorem lB:∀(l:List Rat) (d:Nat),d∣iy l d∧∀c∈l,c.den∣iy l d
 |[],d=>⟨Nat.dvd_refl d,fun _ h=>by cases h⟩
 |c::l,d=>by
  obtain⟨h1,b⟩:=lB l (Nat.lcm d c.den);refine⟨Nat.dvd_trans (Nat.dvd_lcm_left d c.den) h1,fun x a=>?_⟩;rcases List.mem_cons.1 a with rfl|a
  exact Nat.dvd_trans (Nat.dvd_lcm_right d x.den) h1;exact b x a
theorem bl_lcm(a b:Nat):bl (Nat.lcm a b)≤bl a+bl b:=
 Nat.le_trans (fw _ _) (ja a b)
theorem yR{s:Nat}:∀(l:List Rat) (d:Nat),bdL l s→bl (iy l d)≤bl d+l.length* s
 |[],d,_=>by simp[iy]
 |c::l,d,h=>by
  have h1:=yR l (Nat.lcm d c.den) fun q a=>h q (List.mem_cons_of_mem _ a);have b:=bl_lcm d c.den;have f:=ea c;have e:=h c (List.mem_cons_self ..);rw[List.length_cons,Nat.add_mul];unfold iy;omega
theorem qj(c:Rat)(D:Nat)(h:c.den∣D):eF (c* nQ D)=nQ (iF c D):=by
 obtain⟨k,rfl⟩:=h;have a:=c.den_nz
 have e:c* nQ (c.den* k)=((c.num* (k:Int):Int):Rat):=by
  rw[nJ];show mkRat (c.num* ((c.den* k:Nat):Int)) (c.den* 1)=_;rw[show((c.num* (k:Int):Int):Rat)=mkRat (c.num* k) 1 from(Rat.mkRat_one _).symm,Rat.mkRat_eq_iff (by omega) (by decide)];grind
 rw[e];unfold eF iF;show mkRat (((c.num* (k:Int)).natAbs:Nat):Int) 1=_;rw[Nat.mul_div_cancel_left _ (by omega),Int.natAbs_mul,Int.natAbs_natCast,nQ_eq]
theorem qi(D:Nat):∀(l:List Rat) (n:Nat),iM D l n∣n∧∀c∈l,iM D l n∣iF c D
 |[],n=>⟨Nat.dvd_refl n,fun _ h=>by cases h⟩
 |c::l,n=>by
  obtain⟨h1,b⟩:=qi D l (Nat.gcd n (iF c D));refine⟨Nat.dvd_trans h1 (Nat.gcd_dvd_left _ _),fun x a=>?_⟩;rcases List.mem_cons.1 a with rfl|a
  exact Nat.dvd_trans h1 (Nat.gcd_dvd_right _ _);exact b x a
theorem yl{c:Rat}{D:Nat}(h:c.den∣D)(hD:D≠0)(hc:c≠0):iF c D≠0:=by
 obtain⟨k,rfl⟩:=h;unfold iF;rw[Nat.mul_div_cancel_left _ c.den_pos];have h1:c.num≠0:=fun e=>hc (Rat.num_eq_zero.1 e);refine Nat.mul_ne_zero (by omega) fun e=>hD (by grind)
theorem ym(c:Rat)(D:Nat):bl (iF c D)≤qs c+bl D:=by
 have h1:=ja c.num.natAbs (D/ c.den);have a:=fw D c.den;have b:=dV c;unfold iF;omega
theorem kL(p:List Rat):(aN p).length≤p.length- 1:=by
 have:=bJ (aW (p.length- 1) fun i=>coP p (i+1) * ((i+1:Nat):Int));simpa[aN] using this
def vW(f:Nat)(p:List Rat):Option (List Rat):=
 if smL p∧p.length≤274877906944 then(pf f p (aN p)).bind fun g=>if aj g≠[]∧kG p g then some (cC (ca p g).1) else none
 else none
def boL(lead:Rat):List Rat→Rat→Rat
 |[],m=>m
 |c::l,m=>boL lead l (dH [m,eF (c/ lead)])
def cf(p:List Rat):Rat:=boL (aF p) ((aj p).take ((aj p).length- 1)) 0+1
def p8(p:List Rat):Prop:=mxL p≤34359738368∧p.length≤274877906944
instance (p:List Rat):Decidable (p8 p):=inferInstanceAs (Decidable (_∧_))
theorem BU(q:Rat):qs (eF q)=qs q:=by
 unfold qs;rw[Bm,Bn,Int.natAbs_natCast]
theorem yf{l:List Rat}{n:Nat}(h:bdL l n)(hn:1≤n):qs (dH l)≤n:=by
 unfold dH
 have a:∀(d:Int→Bool) (l:List Rat) (o:Rat),qs o≤n→bdL l n→qs (l.foldl (fun o y=>if d (dy y o) then y else o) o)≤n:=by
  intro d l
  induction l with
  |nil=>intro o e _;exact e
  |cons y l g=>
   intro o e f;refine g _ ?_ fun q b=>f q (List.mem_cons_of_mem _ b);show qs (if d (dy y o)=true then y else o)≤n;split;exact f y (List.mem_cons_self ..);exact e
 cases l with
 |nil=>exact Nat.le_trans (by decide:qs 0≤1) hn
 |cons x l=>exact a (fun c=>decide (0< c)) l x (h x (List.mem_cons_self ..)) fun q b=>h q (List.mem_cons_of_mem _ b)
theorem B8(p:List Rat):aF (aj p)=aF p:=by unfold aF;rw[cn]
def chL:List Int→Int→Int→Int
 |[],n,_=>n
 |s::l,n,last=>if s≠0 then chL l (if s= -last then n+1 else n) s else chL l n last
def nk(f:Nat):Nat→List Rat→List Rat→List (List Rat)→Option (List (List Rat))
 |0,_,_,_=>none
 |k+1,last,next,acc=>
  if aj next=[] then some acc
  else if uL next∧kG last (bO next)∧aj (bO next)≠[] then nk f k (bO next) (aL (ca last (bO next)).2 (-1)) (acc++[bO next])
  else none
def lR(f:Nat)(p:List Rat):Option (List (List Rat)):=
 if smL p∧uL p∧aj p≠[] then nk f f (bO p) (aN p) [bO p] else none
def cE(l:List (List Rat)):List (List AV):=l.map fun p=>[.arr (pE p)]
@[simp] theorem cE_length (l:List (List Rat)):(cE l).length=l.length:=by simp[cE]
theorem CY{l:List (List Rat)}{i:Nat}{p:List Rat}(h:l[i]?=some p):(cE l)[i]?=some [.arr (pE p)]:=by simp[cE,h]
theorem fV(l:List (List Rat)):(cE l).all (·.all AV.one)=true:=by
 simp only[cE,List.all_map,List.all_eq_true];intro q _;rfl
theorem jR(l:List (List Rat)):∀e∈cE l,∀c∈e,Closed c:=by
 intro e a c hc;obtain⟨q,_,rfl⟩:=List.mem_map.1 a;rw[List.mem_singleton.1 hc];exact aC q
theorem n7(l:List (List Rat)):Closed (.arr (cE l)):=aK (jR l)
theorem cE_snoc(l:List (List Rat))(p:List Rat):cE (l++[p])=cE l++[[.arr (pE p)]]:=by simp[cE]
theorem AEval.lenC{P:Program}{id:Nat}{ev:Operand→Option AV}{hp:Nat→Option ABlk}{c:Call}{x:Operand}{T:Nat}{d:Nat×Nat}{l:List (List Rat)}(hc:c.callee= .builtin .len)(ha:c.args= #[x])(ht:c.argTypes= #[T])(hx:ev x=some (.arr (cE l)))(he:eG P T=some d):
    AEval P id ev hp (.call c) ⟨.v (.int .i64 (l.length:Nat)),[]⟩ []:= .len hc ha ht hx (by simp[rK]) he
structure Cnt where
 p:List Rat
 ch:List (List Rat)
 far:Int
def kC(c:Cnt):List AV:=[.arr (pE c.p),.arr (cE c.ch),i64 c.far]
abbrev kA(c:Cnt):AV:= .aptr [kC c] 0 0
theorem xf(c:Cnt):∀x∈kC c,Closed x:=ac (aC _) (ac (n7 _) (ac (ah _) ag))
theorem ig(c:Cnt):Closed (kA c):=bt (xf c)
def sgI(q:List Rat):Int:=if cN q % 2=1 then -sgZ (aF q).num else sgZ (aF q).num
def sgE(x:Rat)(q:List Rat):Int:=sgZ (af q x).num
theorem nD(z:Int): -1≤sgZ z∧sgZ z≤1:=by
 unfold sgZ;split;omega;split <;> omega
theorem sgI_abs(q:List Rat): -1≤sgI q∧sgI q≤1:=by
 have:=nD (aF q).num;unfold sgI;split <;> omega
theorem vG:∀(l:List Int) (n last:Int),n≤chL l n last∧chL l n last≤n+l.length
 |[],n,_=>⟨Int.le_refl _,by simp[chL]⟩
 |s::l,n,last=>by
  unfold chL;split;split;have:=vG l (n+1) s;simp only[List.length_cons];omega;have:=vG l n s;simp only[List.length_cons];omega;have:=vG l n last;simp only[List.length_cons];omega
def wD(c:Cnt):Prop:=(∀q∈c.ch,aj q≠[]∧q.length≤274877906944)∧c.ch.length≤274877906944∧c.far=chL (c.ch.map sgI) 0 0
instance (c:Cnt):Decidable (wD c):=inferInstanceAs (Decidable (_∧_∧_))
def fZ(f:Nat)(p:List Rat):Option Cnt:=
 (vW f p).bind fun s=>(lR f s).bind fun ch=>if wD ⟨s,ch,chL (ch.map sgI) 0 0⟩ then some ⟨s,ch,chL (ch.map sgI) 0 0⟩ else none
def bU(c:Cnt)(x:Rat):Int:=c.far- chL (c.ch.map (sgE x)) 0 0
def pW(c:Cnt)(x:Rat):Prop:=wD c∧∀q∈c.ch,eW q x
instance (c:Cnt) (x:Rat):Decidable (pW c x):=inferInstanceAs (Decidable (_∧_))
def aZ(c:Cnt)(x:Rat):Int:=if af c.p x=0 then bU c x- 1 else bU c x
def oe(c:Cnt)(x:Rat):Prop:=pW c x∧eW c.p x
instance (c:Cnt) (x:Rat):Decidable (oe c x):=inferInstanceAs (Decidable (_∧_))
def Ih(c:Cnt):Int:=bU c (cf c.p)
def okAll(c:Cnt):Prop:=p8 c.p∧aj c.p≠[]∧pW c (cf c.p)
instance (c:Cnt):Decidable (okAll c):=inferInstanceAs (Decidable (_∧_∧_))
theorem kZ{c:Cnt}{x:Rat}(h:wD c): -274877906944≤bU c x∧bU c x≤274877906944:=by
 have h1:=vG (c.ch.map sgI) 0 0;have a:=vG (c.ch.map (sgE x)) 0 0;have b:=h.2.1;rw[←h.2.2] at h1;simp only[List.length_map] at h1 a;unfold bU;omega
abbrev plA(c:Cnt)(i:Int):AV:= .aptr [[kA c,i64 i]] 0 0
theorem dz(c:Cnt)(i:Int):Closed (plA c i):=bt (ac (ig c) (ac (ah _) ag))
def plC(c:Cnt)(i:Int)(x:Rat):Int:=if i< aZ c x then -1 else if aZ c x=i∧aZ c x< bU c x then 0 else 1
theorem Fu{c:Cnt}{x:Rat}(h:wD c): -274877906945≤aZ c x∧aZ c x≤274877906944:=by
 have:=kZ (x:=x) h;unfold aZ;split <;> omega
def biM(c:Cnt)(i:Int)(step:Rat):Nat→Rat→Rat→Option Rat
 |0,_,_=>none
 |f+1,lo,hi=>
  if sm lo∧sm hi∧sm (hi- lo) then
   if 0< dy (hi- lo) 1 then
    if qs (((lo+hi) / 2).floor:Rat)+qs step≤549755813888∧oe c ((((lo+hi) / 2).floor:Rat) * step) then
     if 0≤plC c i ((((lo+hi) / 2).floor:Rat) * step) then biM c i step f (((lo+hi) / 2).floor:Rat) hi
     else biM c i step f lo (((lo+hi) / 2).floor:Rat)
    else none
   else some lo
  else none
def inK(a v:Rat)(out zeros:List Rat):Rat:=(v- af out a) / af zeros a
def okIn(a v:Rat)(out zeros:List Rat):Prop:=sm a∧sm v∧eW out a∧eW zeros a∧af zeros a≠0∧sm (inK a v out zeros)∧smL out∧smL zeros∧smL (aL zeros (inK a v out zeros))∧fl zeros [-a,1]∧out.length≤274877906944
instance (a v:Rat) (out zeros:List Rat):Decidable (okIn a v out zeros):=inferInstanceAs (Decidable (_∧_∧_∧_∧_∧_∧_∧_∧_∧_∧_))
theorem jL(i:Nat):coP [] i=0:=rfl
theorem dx(a:Rat)(l:List Rat):coP (a::l) 0=a:=rfl
theorem dj(a:Rat)(l:List Rat)(i:Nat):coP (a::l) (i+1)=coP l i:=rfl
theorem b9(l:List Rat)(i:Nat):coP (aj l) i=coP l i:=by
 induction l generalizing i with
 |nil=>rfl
 |cons a l b=>
  rw[eR];split
  ·rename_i h
   have c:∀j,coP l j=0:=fun j=>by rw[←b j,h];rfl
   split
   ·rename_i ha
    cases i with
    |zero=>rw[ha];rfl
    |succ i=>rw[dj,c];rfl
   cases i with
   |zero=>rfl
   |succ i=>rw[dj,dj,c];rfl
  cases i with
  |zero=>rfl
  |succ i=>rw[dj,dj,b]
theorem coP_tab(n:Nat)(f:Nat→Rat)(i:Nat):coP (aW n f) i=if i< n then f i else 0:=by
 unfold coP aW;grind
theorem eP(p q:List Rat)(i:Nat):coP (fO p q) i=coP p i+coP q i:=by
 unfold fO;rw[b9,coP_tab];split;rfl
 ·rw[d8 (by omega),d8 (by omega)];grind
theorem cO(p:List Rat)(k:Rat)(i:Nat):coP (aL p k) i=coP p i* k:=by
 unfold aL;rw[b9,coP_tab];split;rfl
 ·rw[d8 (by omega)];grind
theorem gE(p q:List Rat)(i:Nat):coP (ci p q) i=coP p i- coP q i:=by
 unfold ci;rw[eP,cO];grind
theorem lE(a:Rat)(i:Nat):coP (b6 a) i=if i=0 then a else 0:=by
 unfold b6;rw[b9];cases i <;> rfl
theorem ed(p:List Rat)(i:Nat):coP (aN p) i=coP p (i+1) * ((i+1:Nat):Int):=by
 unfold aN;rw[b9,coP_tab];split;rfl
 ·rw[d8 (by omega)];grind
theorem fH(p:List Rat)(i:Nat):coP (ax p) i=if i=0 then 0 else coP p (i- 1) / ((i:Nat):Int):=by
 unfold ax;rw[b9,coP_tab];split;rfl
 ·rw[if_neg (by omega),d8 (by omega),Rat.div_def,Rat.zero_mul]
theorem jV{p q:List Rat}(h:∀i,coP p i=coP q i):aj p=aj q:=by
 induction p generalizing q with
 |nil=>
  induction q with
  |nil=>rfl
  |cons b q c=>
   have hb:b=0:=(h 0).symm;rw[eR,←c fun i=>h (i+1),if_pos hb];rfl
 |cons a p c=>
  cases q with
  |nil=>
   have ha:a=0:=h 0;rw[eR,c (q:=[]) fun i=>h (i+1),if_pos ha];rfl
  |cons b q=>
   have d:a=b:=h 0;rw[eR,eR,c (q:=q) fun i=>h (i+1),d]
theorem trim_iff{p q:List Rat}:aj p=aj q↔∀i,coP p i=coP q i:=
 ⟨fun h i=>by rw[←b9 p,h,b9],jV⟩
theorem trim_nil_iff{p:List Rat}:aj p=[]↔∀i,coP p i=0:=
 ⟨fun h i=>by rw[←b9 p,h];rfl,fun h=>jV (q:=[]) h⟩
theorem aM(x:Rat):af [] x=0:=rfl
theorem aE(a:Rat)(l:List Rat)(x:Rat):af (a::l) x=af l x* x+a:=rfl
theorem mb{p:List Rat}(h:∀i,coP p i=0)(x:Rat):af p x=0:=by
 induction p with
 |nil=>rfl
 |cons a p b=>
  have ha:a=0:=h 0;rw[aE,b fun i=>h (i+1)];grind
theorem iU{p q:List Rat}(h:∀i,coP p i=coP q i)(x:Rat):af p x=af q x:=by
 induction p generalizing q with
 |nil=>exact(mb (fun i=>(h i).symm) x).symm
 |cons a p d=>
  cases q with
  |nil=>exact mb h x
  |cons b q=>
   have c:a=b:=h 0;rw[aE,aE,d (q:=q) fun i=>h (i+1),c]
theorem cb(p:List Rat)(x:Rat):af (aj p) x=af p x:=iU (b9 p) x
def ku:List Rat→List Rat→List Rat
 |[],q=>q
 |p,[]=>p
 |a::p,b::q=>(a+b)::ku p q
def eU(p:List Rat)(k:Rat):List Rat:=p.map (· * k)
def mV:List Rat→List Rat→List Rat
 |[],_=>[]
 |a::p,q=>ku (eU q a) (0::mV p q)
theorem iC(p q:List Rat)(i:Nat):coP (ku p q) i=coP p i+coP q i:=by
 induction p generalizing q i with
 |nil=>rw[ku,jL];grind
 |cons a p c=>
  cases q with
  |nil=>rw[ku,jL]; · grind
        grind
  |cons b q=>
   cases i with
   |zero=>rfl
   |succ i=>exact c q i
theorem gi(p:List Rat)(k:Rat)(i:Nat):coP (eU p k) i=coP p i* k:=by
 induction p generalizing i with
 |nil=>show(0:Rat)=0* k;grind
 |cons a p b=>
  cases i with
  |zero=>rfl
  |succ i=>exact b i
theorem fG(p q:List Rat)(x:Rat):af (ku p q) x=af p x+af q x:=by
 induction p generalizing q with
 |nil=>rw[ku,aM];grind
 |cons a p c=>
  cases q with
  |nil=>rw[ku,aM]; · grind
        grind
  |cons b q=>rw[ku,aE,aE,aE];grind
theorem dT(p:List Rat)(k x:Rat):af (eU p k) x=af p x* k:=by
 induction p with
 |nil=>show(0:Rat)=0* k;grind
 |cons a p b=>show af (eU p k) x* x+a* k=_;rw[aE];grind
theorem pn(p q:List Rat)(x:Rat):af (mV p q) x=af p x* af q x:=by
 induction p with
 |nil=>show(0:Rat)=0* _;grind
 |cons a p b=>rw[mV,fG,dT,aE,aE];grind
theorem ey(p q:List Rat)(x:Rat):af (fO p q) x=af p x+af q x:=by
 rw[←fG];exact iU (fun i=>by rw[eP,iC]) x
theorem aR(p:List Rat)(k x:Rat):af (aL p k) x=af p x* k:=by
 rw[←dT];exact iU (fun i=>by rw[cO,gi]) x
theorem dF(p q:List Rat)(x:Rat):af (ci p q) x=af p x- af q x:=by
 unfold ci;rw[ey,aR];grind
theorem kK(a x:Rat):af (b6 a) x=a:=by
 rw[b6,cb];show 0* x+a=a;grind
def eO(p q:List Rat):Nat→Nat→Rat
 |0,_=>0
 |i+1,n=>eO p q i n+(if i≤n then coP p i* coP q (n- i) else 0)
theorem AZ(o:List Rat)(a:Rat)(q:List Rat)(i:Nat)(h:∀k,k< q.length→i+k< o.length):∀k n,k≤q.length→coP (j2 o a q i k) n=coP o n+(if i≤n∧n< i+k then a* coP q (n- i) else 0)
 |0,n,_=>by show coP o n=_;grind
 |k+1,n,hk=>by
  rw[j2,sx,zG];by_cases hn:n=i+k;subst hn;rw[if_pos ⟨rfl,h k (by omega)⟩,uB o a q i k (i+k) (by omega),if_pos (by omega),show i+k- i=k by omega];rw[AZ o a q i h k n (by omega)];grind
theorem A2(p q:List Rat)(n:Nat):∀i,i≤p.length→coP (fz p q i) n=eO p q i n
 |0,_=>by
  show coP (List.replicate _ 0) n=0;unfold coP;grind
 |i+1,hi=>by
  have a:=A2 p q n i (by omega);rw[fz,eO];split
  ·grind
  rw[AZ _ _ _ _ (fun k b=>by rw[mU];omega) _ _ (Nat.le_refl _),a];by_cases h1:i≤n;rw[if_pos h1];by_cases h2:n< i+q.length;rw[if_pos ⟨h1,h2⟩];rw[d8 (p:=q) (by omega)];grind;grind
theorem vo(a:Rat)(p q:List Rat)(n:Nat):∀i,eO (a::p) q (i+1) n=a* coP q n+(match n with|0=>0|m+1=>eO p q i m)
 |0=>by
  show(0:Rat)+(if 0≤n then coP (a::p) 0* coP q (n- 0) else 0)=_;rw[dx];cases n <;> simp[eO,Rat.add_zero,Rat.zero_add]
 |i+1=>by
  rw[eO,vo a p q n i];cases n with
  |zero=>grind
  |succ m=>
   show a* coP q (m+1)+eO p q i m+_=a* coP q (m+1)+(eO p q i m+_);by_cases h:i≤m;rw[dj];grind;grind
theorem vq(p q:List Rat)(n:Nat):coP (mV p q) n=eO p q p.length n:=by
 induction p generalizing n with
 |nil=>rfl
 |cons a p b=>
  rw[mV,iC,gi,List.length_cons,vo];cases n with
  |zero=>rw[dx];grind
  |succ m=>rw[dj];grind
theorem n4(p q:List Rat)(n:Nat):coP (aJ p q) n=coP (mV p q) n:=by
 unfold aJ;split
 ·rename_i h
  rcases h with rfl|rfl
  rfl;rw[vq]
  have:∀i,eO p [] i n=0:=by
   intro i
   induction i with
   |zero=>rfl
   |succ i a=>rw[eO,jL];grind
  rw[this];rfl
 rw[b9,A2 _ _ _ _ (Nat.le_refl _),vq]
theorem ba(p q:List Rat)(x:Rat):af (aJ p q) x=af p x* af q x:=by
 rw[←pn];exact iU (n4 p q) x
def od:List Rat→Rat→List Rat
 |[],_=>[]
 |[_],_=>[]
 |_::b::l,r=>af (b::l) r::od (b::l) r
theorem ny(p:List Rat)(r x:Rat):af p x=af (od p r) x* (x- r)+af p r:=by
 induction p with
 |nil=>show(0:Rat)=0* _+0;grind
 |cons a l c=>
  cases l with
  |nil=>show 0* x+a=0* (x- r)+(0* r+a);grind
  |cons b l=>
   rw[od,aE a,aE a,aE (af (b::l) r)];grind
theorem zk(p:List Rat)(r:Rat):(od p r).length=p.length- 1:=by
 induction p with
 |nil=>rfl
 |cons a l c=>
  cases l with
  |nil=>rfl
  |cons b l=>rw[od,List.length_cons,c];simp
theorem o8:∀(n:Nat) (p xs:List Rat),p.length≤n→n≤xs.length→xs.Nodup→(∀x∈xs,af p x=0)→∀x,af p x=0
 |0,p,_,hp,_,_,_,x=>by
  have:p=[]:=List.length_eq_zero_iff.1 (by omega);rw[this];rfl
 |n+1,p,xs,hp,hx,hnd,hz,x=>by
  cases xs with
  |nil=>grind
  |cons r xs=>
   rw[List.nodup_cons] at hnd;have c:=hz r (List.mem_cons_self ..)
   have a:=o8 n (od p r) xs (by rw[zk];omega) (by grind) hnd.2 fun y b=>by
    have h1:=ny p r y;grind
   rw[ny p r x];grind
theorem qN{p:List Rat}(h:∀x,af p x=0):∀i,coP p i=0:=by
 induction p with
 |nil=>intro i;rfl
 |cons a p c=>
  have ha:a=0:=by
   have:=h 0;rw[aE] at this;grind
  have hp:∀x,af p x=0:=by
   -- at all places but 0,so at all
   refine o8 p.length p ((List.range p.length).map fun i=>(((i+1:Nat):Int):Rat)) (Nat.le_refl _) (by simp) ?_ ?_;refine List.Pairwise.map _ (fun i j g=>?_) List.nodup_range;intro e;have:=Rat.intCast_inj.1 e;omega;intro x f;obtain⟨i,_,rfl⟩:=List.mem_map.1 f;have h1:=h (((i+1:Nat):Int):Rat);rw[aE] at h1;have d:af p (((i+1:Nat):Int):Rat) * (((i+1:Nat):Int):Rat)=0:=by grind
   rcases Rat.mul_eq_zero.1 d with b|b
   exact b;have:=Rat.intCast_inj.1 (b.trans Rat.intCast_zero.symm);omega
  intro i;cases i with
  |zero=>exact ha
  |succ i=>exact c hp i
theorem jo{p q:List Rat}(h:∀x,af p x=af q x):aj p=aj q:=by
 refine jV fun i=>?_;have:=qN (p:=ci p q) (fun x=>by rw[dF];grind) i;rw[gE] at this;grind
theorem EI(p q:List Rat)(hp:p≠[]):(aJ p q).length≤p.length+q.length- 1:=by
 unfold aJ;split;simp;have:=bJ (fz p q p.length);rwa[mU] at this
theorem ru{p:List Rat}{k:Rat}{s t:Nat}(hp:bdL p s)(hs:1≤s)(hk:qs k≤t):bdL (aL p k) (s+t):=
 iX fun i=>by
  rw[cO];have h1:=dh (coP p i) k;have a:=fy hp hs i;omega
theorem El{p q:List Rat}{s t:Nat}(hp:bdL p s)(hq:bdL q t)(hs:1≤s)(ht:1≤t):bdL (fO p q) (s+t+1):=
 iX fun i=>by
  rw[eP];have h1:=fQ (coP p i) (coP q i);have a:=fy hp hs i;have b:=fy hq ht i;omega
def dvE:List Rat→Rat→Rat
 |[],_=>0
 |_::l,x=>af l x+dvE l x* x
theorem eg(a:Rat)(l:List Rat)(x:Rat):dvE (a::l) x=af l x+dvE l x* x:=rfl
theorem AJ{p:List Rat}(h:∀i,coP p i=0)(x:Rat):dvE p x=0:=by
 induction p with
 |nil=>rfl
 |cons a p b=>rw[eg,b fun i=>h (i+1),mb fun i=>h (i+1)];grind
theorem D9{p q:List Rat}(h:∀i,coP p i=coP q i)(x:Rat):dvE p x=dvE q x:=by
 induction p generalizing q with
 |nil=>exact(AJ (fun i=>(h i).symm) x).symm
 |cons a p c=>
  cases q with
  |nil=>exact AJ h x
  |cons b q=>rw[eg,eg,c (q:=q) fun i=>h (i+1),iU (q:=q) fun i=>h (i+1)]
theorem qQ(p q:List Rat)(x:Rat):dvE (ku p q) x=dvE p x+dvE q x:=by
 induction p generalizing q with
 |nil=>show dvE q x=0+dvE q x;grind
 |cons a p c=>
  cases q with
  |nil=>rw[ku]; · show _=_+(0:Rat);grind
        grind
  |cons b q=>rw[ku,eg,eg,eg,fG];grind
theorem iV(p:List Rat)(k x:Rat):dvE (eU p k) x=dvE p x* k:=by
 induction p with
 |nil=>show(0:Rat)=0* k;grind
 |cons a p b=>show af (eU p k) x+dvE (eU p k) x* x=_;rw[eg,dT];grind
theorem HI(p q:List Rat)(x:Rat):dvE (mV p q) x=dvE p x* af q x+af p x* dvE q x:=by
 induction p with
 |nil=>show(0:Rat)=0* _+0* _;grind
 |cons a p b=>rw[mV,qQ,iV,eg,eg,pn,aE];grind
def AP:List Rat→List Rat
 |[]=>[]
 |_::l=>ku l (0::AP l)
theorem po(p:List Rat)(x:Rat):af (AP p) x=dvE p x:=by
 induction p with
 |nil=>rfl
 |cons a p b=>rw[AP,fG,aE,eg];grind
theorem HU(p:List Rat)(i:Nat):coP (AP p) i=coP p (i+1) * ((i+1:Nat):Int):=by
 induction p generalizing i with
 |nil=>show(0:Rat)=0* _;grind
 |cons a p b=>
  rw[AP,iC,dj];cases i with
  |zero=>rw[dx];grind
  |succ i=>rw[dj];grind
theorem bR(p:List Rat)(x:Rat):af (aN p) x=dvE p x:=by
 rw[←po];exact iU (fun i=>by rw[ed,HU]) x
theorem qO(p q:List Rat)(x:Rat):dvE (aJ p q) x=dvE p x* af q x+af p x* dvE q x:=by
 rw[←HI];exact D9 (n4 p q) x
theorem tg(p:List Rat):aj (aN (ax p))=aj p:=jV fun i=>by
 rw[ed,fH]
 have h:(((i+1:Nat):Int):Rat)≠0:=by
  intro e;have h1:((i+1:Nat):Int)=0:=Rat.intCast_inj.1 (e.trans Rat.intCast_zero.symm);omega
 grind
theorem w4(o:List Rat)(x v:Rat):∀j,j< o.length→af (o.set j v) x=af o x+(v- coP o j) * x^ j:=by
 induction o with
 |nil=>grind
 |cons a o b=>
  intro j h;cases j with
  |zero=>rw[List.set_cons_zero,aE,aE,dx];grind
  |succ j=>rw[List.set_cons_succ,aE,aE,dj];grind
theorem vf(q:List Rat)(x:Rat)(m:Nat)(h:m< q.length):af (q.take (m+1)) x=af (q.take m) x+coP q m* x^ m:=by
 induction q generalizing m with
 |nil=>cases h
 |cons a q b=>
  cases m with
  |zero=>rw[List.take_succ_cons,Rat.pow_zero];show 0* x+a=0+a* 1;grind
  |succ m=>rw[List.take_succ_cons,List.take_succ_cons,aE,aE,dj];grind
theorem mL(x:Rat)(n:Nat):∀m,x^ (n+m)=x^ n* x^ m
 :=by grind
theorem vh(o:List Rat)(k:Rat)(q:List Rat)(n:Nat)(x:Rat)(h:n+q.length≤o.length):∀m,m≤q.length→af (f9 o k q n m) x=af o x- k* x^ n* af (q.take m) x
 |0,_=>by rw[f9];show _=_- _* 0;grind
 |m+1,hm=>by
  rw[f9,zn,w4 _ _ _ _ (by rw[hZ];omega),vh o k q n x h m (by omega),vf q x m (by omega)];grind
theorem HQ(o:List Rat)(k:Rat)(q:List Rat)(n m:Nat)(hm:m< q.length)(h:n+q.length≤o.length):coP (f9 o k q n q.length) (n+m)=coP o (n+m)- k* coP q m:=by
 have:∀j,m< j→j≤q.length→coP (f9 o k q n j) (n+m)=coP o (n+m)- k* coP q m:=by
  intro j
  induction j with
  |zero=>grind
  |succ j a=>
   intro h1 b;rw[f9,n3];by_cases e:m=j;subst e;rw[if_pos ⟨rfl,by rw[hZ];omega⟩,mK o k q n m (n+m) (by omega)];grind
 grind
theorem xc(q:List Rat)(lead:Rat)(hq:q≠[])(hl:coP q (q.length- 1)=lead)(hl0:lead≠0)(x:Rat):∀c u o,(∀i,i< c→coP u i=0)→c≤u.length→c+q.length≤o.length+1→(∀j,c+q.length- 1≤j→coP o j=0)→
    af (jq q lead c u o).1 x* af q x+af (jq q lead c u o).2 x=af u x* af q x+af o x∧∀j,q.length- 1≤j→coP (jq q lead c u o).2 j=0
 |0,u,o,_,_,_,h4=>⟨rfl,fun j e=>h4 j (by omega)⟩
 |n+1,u,o,h1,h2,h3,h4=>by
  have b:=List.length_pos_iff.2 hq;rw[jq];obtain⟨k,d⟩:∃k,k=coP o (n+q.length- 1) / lead:=⟨_,rfl⟩;rw[←d];have a:k* lead=coP o (n+q.length- 1):=by grind
  have f:coP u n=0:=h1 n (by omega)
  have g:af (if k=0 then o else f9 o k q n q.length) x=af o x- k* x^ n* af q x:=by
   by_cases h0:k=0;rw[if_pos h0,h0];grind;rw[if_neg h0,vh o k q n x (by omega) _ (Nat.le_refl _),List.take_length]
  obtain⟨e1,e2⟩:=xc q lead hq hl hl0 x n (u.set n k) (if k=0 then o else f9 o k q n q.length) (fun i h=>by
   rw[tO,if_neg (by omega)];grind) (by grind) (by split <;>(try simp)<;> omega) (fun j e=>by
   by_cases h0:k=0;rw[if_pos h0];by_cases hj':j=n+q.length- 1;rw[hj',←a,h0];grind;exact h4 j (by omega);rw[if_neg h0];by_cases hj':j=n+q.length- 1;have:=HQ o k q n (q.length- 1) (by omega) (by omega);rw[hj',show n+q.length- 1=n+(q.length- 1) by omega,this,hl,a,show n+(q.length- 1)=n+q.length- 1 by omega];grind;rw[mK o k q n q.length j (by omega)];grind)
  refine⟨?_,e2⟩;rw[e1,g,w4 u x k n (by omega),f];grind
theorem pz{p:List Rat}{n:Nat}(h:∀j,n≤j→coP p j=0):(aj p).length≤n:=by
 apply Nat.le_of_not_lt;intro c;have h1:=cX (l:=p) (n:=(aj p).length- 1) (by omega);have b:aj p≠[]:=fun e=>by grind
 have a:=h ((aj p).length- 1) (by omega);rw[←b9] at a;unfold coP at a;rw[List.getD_eq_getElem?_getD,h1] at a;exact cY b a
theorem nY(p q:List Rat)(hq:aj q≠[]):(∀x,af (ca p q).1 x* af q x+af (ca p q).2 x=af p x)∧(aj (ca p q).2).length< (aj q).length:=by
 have b:=List.length_pos_iff.2 hq
 have d:coP (aj q) ((aj q).length- 1)=aF q:=by
  have:=cX (l:=q) (n:=(aj q).length- 1) (by omega);unfold coP;grind
 have c:∀i m,coP (List.replicate m 0) i=0:=fun i m=>by
  unfold coP;grind
 have a:=fun x (h:(aj q).length≤(aj p).length+1)=>xc (aj q) (aF q) hq d (cY hq) x ((aj p).length+1- (aj q).length) (List.replicate ((aj p).length+1- (aj q).length) 0) (aj p)
  (fun i _=>c i _) (by simp) (by omega) (fun j f=>d8 (by omega))
 by_cases h:(aj q).length≤(aj p).length+1;refine⟨fun x=>?_,?_⟩;have e:=(a x h).1;unfold ca;rw[cb,cb,←cb q,e,mb (fun i=>c i _),cb p];grind;have e:=(a 0 h).2;unfold ca;rw[cn];have:=pz e;omega;unfold ca;rw[show(aj p).length+1- (aj q).length=0 by omega];refine⟨fun x=>?_,?_⟩;rw[jq,cb,cb,cb];show 0* _+_=_;grind;rw[jq,cn,cn];omega
section
variable (p q r:List Rat)(a b:Rat)
end
def ab(x:Rat):Rat:=if x< 0 then -x else x
theorem cW(x:Rat):0≤ab x:=by unfold ab;grind
theorem ab_le{x c:Rat}:ab x≤c↔ -c≤x∧x≤c:=by unfold ab;grind
theorem gO(x y:Rat):ab (x+y)≤ab x+ab y:=by unfold ab;grind
theorem sI(x:Rat):ab (-x)=ab x:=by unfold ab;grind
theorem cJ(x y:Rat):ab (x* y)=ab x* ab y:=by
 have c:∀a b:Rat,0≤a→0≤b→ab (a* b)=a* b:=fun a b ha hb=>by
  have:=Rat.mul_nonneg ha hb;unfold ab;grind
 by_cases hx:x< 0;by_cases hy:y< 0;have:=c (-x) (-y) (by grind) (by grind);rw[show x* y= -x* -y by grind,this];unfold ab;rw[if_pos hx,if_pos hy];have:=c (-x) y (by grind) (by grind);rw[show x* y= -(-x* y) by grind,sI,this];unfold ab;rw[if_pos hx,if_neg hy];by_cases hy:y< 0;have:=c x (-y) (by grind) (by grind);rw[show x* y= -(x* -y) by grind,sI,this];unfold ab;rw[if_neg hx,if_pos hy];have:=c x y (by grind) (by grind);rw[this];unfold ab;grind
theorem dr{a b c d:Rat}(h1:a≤b)(h2:c≤d)(h3:0≤c)(h4:0≤b):a* c≤b* d:=by
 have e1:=Rat.mul_le_mul_of_nonneg_right h1 h3;have e2:=Rat.mul_le_mul_of_nonneg_left h2 h4;grind
def bV(R:Rat):List Rat→Rat
 |[]=>0
 |a::l=>bV R l* R+ab a
theorem lM{R:Rat}(hR:0≤R):∀l,0≤bV R l
 |[]=>by simp[bV]
 |a::l=>by
  have h1:=Rat.mul_nonneg (lM hR l) hR;have b:=cW a;rw[bV];grind
theorem fu{R x:Rat}(hR:0≤R)(hx:ab x≤R):∀l,ab (af l x)≤bV R l
 |[]=>by rw[aM,bV];decide
 |a::l=>by
  have h1:=fu hR hx l;have c:=dr h1 hx (cW x) (lM hR l);have b:=gO (af l x* x) a;rw[cJ] at b;rw[aE,bV];grind
def bL(R:Rat):List Rat→Rat
 |[]=>0
 |_::l=>bL R l* R+bV R l
theorem rg{R:Rat}(hR:0≤R):∀l,0≤bL R l
 |[]=>by simp[bL]
 |a::l=>by
  have h1:=Rat.mul_nonneg (rg hR l) hR;have b:=lM hR l;rw[bL];grind
theorem ie{R x y:Rat}(hR:0≤R)(hx:ab x≤R)(hy:ab y≤R):∀l,ab (af l y- af l x)≤bL R l* ab (y- x)
 |[]=>by
  rw[aM,aM,bL,Rat.zero_mul];decide+kernel
 |a::l=>by
  have h1:=ie hR hx hy l;have c:=fu hR hx l;have e:af (a::l) y- af (a::l) x=(af l y- af l x) * y+af l x* (y- x):=by rw[aE,aE];grind
  have d:=gO ((af l y- af l x) * y) (af l x* (y- x));rw[cJ,cJ] at d;have b:=cW (y- x);have g:=dr h1 hy (cW y) (Rat.mul_nonneg (rg hR l) b);have f:=Rat.mul_le_mul_of_nonneg_right c b;rw[bL];grind
def bT(R:Rat):List Rat→Rat
 |[]=>0
 |_::l=>bT R l* R+bL R l
theorem Bj{R:Rat}(hR:0≤R):∀l,0≤bT R l
 |[]=>by simp[bT]
 |a::l=>by
  have h1:=Rat.mul_nonneg (Bj hR l) hR;have b:=rg hR l;rw[bT];grind
theorem nX{R x y:Rat}(hR:0≤R)(hx:ab x≤R)(hy:ab y≤R):∀l,ab (af l y- af l x- (y- x) * dvE l x)≤bT R l* (ab (y- x) * ab (y- x))
 |[]=>by
  rw[aM,aM,bT,show dvE [] x=0 from rfl,Rat.zero_mul,Rat.mul_zero];decide+kernel
 |a::l=>by
  have h1:=nX hR hx hy l;have c:=ie hR hx hy l;have e:af (a::l) y- af (a::l) x- (y- x) * dvE (a::l) x=(af l y- af l x- (y- x) * dvE l x) * x+(af l y- af l x) * (y- x):=by rw[aE,aE,eg];grind
  have d:=gO ((af l y- af l x- (y- x) * dvE l x) * x) ((af l y- af l x) * (y- x));rw[cJ,cJ] at d;have b:=cW (y- x);have g:=dr h1 hx (cW x) (Rat.mul_nonneg (Bj hR l) (Rat.mul_nonneg b b));have f:=Rat.mul_le_mul_of_nonneg_right c b;rw[e,bT];grind
end Go.Abs
