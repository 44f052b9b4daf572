/- Part V12 of the proof. -/
import Derived.Test.YtkhclghbcicapaaGreatDoorV11
set_option linter.all false
namespace Go.Abs
def af:List Rat→Rat→Rat
 |[],_=>0
 |a::l,x=>af l x* x+a
def my(l:List Rat)(k:Nat):Option (List AV):=if k< l.length then some [i64 ((l.length- 1- k:Nat):Int),.agg (qC (coP l (l.length- 1- k)))] else none
theorem tG{l:List Rat}{k:Nat}(h:k< l.length):l.drop (l.length- (k+1))=coP l (l.length- 1- k)::l.drop (l.length- k):=by
 have h1:l.length- (k+1)< l.length:=by omega
 rw[List.drop_eq_getElem_cons h1,show l.length- (k+1)+1=l.length- k by omega];congr 1;have:=cK h1;rw[List.getElem?_eq_getElem h1] at this;rw[show l.length- 1- k=l.length- (k+1) by omega];exact Option.some.inj this
theorem n4{x:Rat}{s t:Nat}(hx:qs x≤t):∀{l:List Rat},bdL l s→qs (af l x)≤l.length* (s+t+1)+1
 |[],_=>by show qs 0≤_;exact Nat.le_trans (by decide:qs 0≤1) (Nat.le_add_left 1 _)
 |a::l,h=>by
  have d:=n4 (l:=l) hx fun q b=>h q (List.mem_cons_of_mem _ b);have ha:=h a (List.mem_cons_self ..);have h1:=fX (af l x* x) a;have c:=dk (af l x) x;show qs (af l x* x+a)≤(l.length+1) * (s+t+1)+1;rw[Nat.add_mul,Nat.one_mul];omega
def fe(p:List Rat)(x:Rat):Prop:=p.length* (mxL p+qs x+1)+mxL p+qs x+2≤137438953472∧p.length≤274877906944
instance (p:List Rat) (x:Rat):Decidable (fe p x):=inferInstanceAs (Decidable (_∧_))
theorem DW{p:List Rat}{x:Rat}(h:fe p x)(k:Nat)(hk:k< p.length):qs (af (p.drop (p.length- k)) x)+qs x≤549755813888∧qs (af (p.drop (p.length- k)) x* x)+qs (coP p (p.length- 1- k))≤549755813888:=by
 have h1:=n4 (t:=qs x) (Nat.le_refl _) (l:=p.drop (p.length- k)) (s:=mxL p) fun q a=>fj p q (List.mem_of_mem_drop a);have b:=dk (af (p.drop (p.length- k)) x) x;have c:=fI (fj p) (fo p) (p.length- 1- k);have d:=h.1;have e:(p.drop (p.length- k)).length* (mxL p+qs x+1)≤p.length* (mxL p+qs x+1):=Nat.mul_le_mul_right _ (by simp);omega
theorem wE{p:List Rat}{x:Rat}(h:fe p x):sm (af p x):=by
 have h1:=n4 (t:=qs x) (Nat.le_refl _) (fj p);have a:=h.1;unfold sm;omega
abbrev Sp:=Rat×Rat
def fM(a b:Sp):List Rat:=[a.1* b.1,a.1* b.2,a.2* b.1,a.2* b.2]
def iC(a b:Sp):Sp:=(eV (fM a b),dM (fM a b))
def AO(a b:Sp):Sp:=(a.1+b.1,a.2+b.2)
def smS(a:Sp):Prop:=sm a.1∧sm a.2
instance (a:Sp):Decidable (smS a):=inferInstanceAs (Decidable (_∧_))
def ovP(v0 s:Sp):List Rat→Sp
 |[]=>v0
 |a::l=>AO (iC (ovP v0 s l) s) (a,a)
def Dh(v0 s:Sp):List Rat→Prop
 |[]=>smS v0
 |a::l=>Dh v0 s l∧smL (fM (ovP v0 s l) s)∧sm a∧smS (AO (iC (ovP v0 s l) s) (a,a))
instance okOv_dec (v0 s:Sp):(l:List Rat)→Decidable (Dh v0 s l)
 |[]=>inferInstanceAs (Decidable (smS v0))
 |a::l=> @instDecidableAnd _ _ (okOv_dec v0 s l) (inferInstanceAs (Decidable (_∧_∧_)))
theorem okOv_sm{v0 s:Sp}:∀{l:List Rat},Dh v0 s l→smS (ovP v0 s l)
 |[],h=>h
 |_::_,h=>h.2.2.2
theorem xW{v0 s:Sp}:∀{l:List Rat} (n:Nat),Dh v0 s l→Dh v0 s (l.drop n)
 |_,0,h=>h
 |[],_+1,h=>h
 |_::_,n+1,h=>xW n h.1
def dl(p:List Rat)(s:Sp):Sp:=if¬dB s.1 s.2≤0∨aj p=[] then(0,0) else ovP (aF p,aF p) s ((aj p).take ((aj p).length- 1))
def vZ(p:List Rat)(s:Sp):Prop:=smL p∧smS s∧p.length≤274877906944∧Dh (aF p,aF p) s ((aj p).take ((aj p).length- 1))
instance (p:List Rat) (s:Sp):Decidable (vZ p s):=inferInstanceAs (Decidable (_∧_∧_∧_))
def fx(p q:List Rat):Prop:=p.length* (mxL p+mxL q+1)+1≤137438953472∧mxL q≤137438953472∧p.length≤274877906944∧q.length≤274877906944
instance (p q:List Rat):Decidable (fx p q):=inferInstanceAs (Decidable (_∧_∧_∧_))
theorem nJ{p q:List Rat}(h:fx p q):smL (aJ p q):=
 eP (zu (fj p) (fj q) (fo p) (fo q)) h.1
theorem kU(p q:List Rat):(fV p q).length≤max p.length q.length:=by
 have:=bO (aW (max p.length q.length) fun i=>coP p i+coP q i);simpa[fV] using this
theorem lQ(p q:List Rat):(aJ p q).length≤p.length+q.length:=by
 unfold aJ;split;simp;have:=bO (fJ p q p.length);rw[nK] at this;omega
theorem kP(a:Rat):(b9 a).length≤1:=bO [a]
def ca(q:List Rat):List Rat→List Rat
 |[]=>[]
 |a::l=>fV (aJ (ca q l) q) (b9 a)
def iu(q:List Rat):List Rat→Prop
 |[]=>True
 |a::l=>iu q l∧fx (ca q l) q∧sm a∧(aJ (ca q l) q).length≤274877906944
instance okComp_dec (q:List Rat):(l:List Rat)→Decidable (iu q l)
 |[]=>inferInstanceAs (Decidable True)
 |a::l=> @instDecidableAnd _ _ (okComp_dec q l) (inferInstanceAs (Decidable (_∧_∧_)))
theorem ui{q:List Rat}:∀{l:List Rat} (n:Nat),iu q l→iu q (l.drop n)
 |_,0,h=>h
 |[],_+1,h=>h
 |_::_,n+1,h=>ui n h.1
theorem iQ(b:Nat)(s:List Nat)(v:Nat):ofD b (s++[v])=ofD b s+b^ s.length* v:=by rw[iv];simp[ofD]
theorem dt{α:Type}{l:List α}{k:Nat}{x:α}(h:l[k]?=some x):l.take (k+1)=l.take k++[x]:=by
 rw[List.take_add_one,h];rfl
theorem dc(b:Nat){l:List Nat}{k d:Nat}(h:l[k]?=some d):ofD b (l.take (k+1))=ofD b (l.take k)+b^ k* d:=by
 have a:k< l.length:=(List.getElem?_eq_some_iff.1 h).1;rw[dt h,iQ,List.length_take,Nat.min_eq_left (by omega)]
theorem fy(b:Nat)(l:List Nat)(k:Nat):ofD b (l.take (k+1))=ofD b (l.take k)+b^ k* (l[k]?.getD 0):=by
 cases h:l[k]? with
 |some d=>exact dc b h
 |none=>rw[List.getElem?_eq_none_iff] at h;rw[List.take_of_length_le (by omega),List.take_of_length_le (by omega)];simp
theorem iP(b:Nat){l:List Nat}{k:Nat}(h:l.length≤k):ofD b (l.take k)=ofD b l:=by rw[List.take_of_length_le h]
theorem lP(b:Nat){l:List Nat}{k d:Nat}(h:l[k]?=some d):ofD b (l.drop k)=d+b* ofD b (l.drop (k+1)):=by
 rw[List.drop_eq_getElem_cons (List.getElem?_eq_some_iff.1 h).1,ofD];grind
theorem rf(b:Nat):∀{l:List Nat} {j d:Nat} (v:Nat),l[j]?=some d→ofD b (l.set j v)+b^ j* d=ofD b l+b^ j* v
 |[],_,_,_,h=>by grind
 |x::l,0,d,v,h=>by simp at h;simp[ofD];omega
 |x::l,j+1,d,v,h=>by
  simp only[List.getElem?_cons_succ] at h;have:=rf b v h;rw[List.set_cons_succ,ofD,ofD];grind
theorem uO{l:List Nat}{j v:Nat}{p:Nat→Prop}(h:∀d∈l,p d)(hv:p v):∀d∈l.set j v,p d:=by grind
theorem FN{α:Type}{cs vs:List α}(h:vs.length=cs.length):fL cs 0 vs=vs:=by
 apply List.ext_getElem?;intro j;rw[fq];grind
theorem A2{α:Type}{cs vs:List α}(h:vs.length≤cs.length):fL cs 0 vs=vs++cs.drop vs.length:=by
 apply List.ext_getElem?;intro j;rw[fq];grind
theorem AW(s:List Nat)(m v i:Nat)(hi:i=s.length):(s++List.replicate (m+1) 0).set i v=(s++[v])++List.replicate m 0:=by
 subst hi;grind
theorem Bu(s:List Nat)(m i:Nat)(hi:i=s.length):(s++List.replicate (m+1) 0)[i]?=some 0:=by grind
theorem cV{b n i d:Nat}(hb:1< b)(h:(av b n)[i]?=some d):d< b:=ee hb n d (List.mem_of_getElem? h)
theorem D3{n:Nat}(h0:0< n)(h:n< MB):av MB n=[n]:=by
 rw[fU (by decide) h0,Nat.div_eq_of_lt h,cP,Nat.mod_eq_of_lt h]
theorem GF{b:Nat}(hb:1< b)(n k:Nat):(av b n).drop k=av b (ofD b ((av b n).drop k)):=by
 symm;refine wH hb ⟨fun d a=>ee hb n d (List.mem_of_mem_drop a),?_⟩;by_cases hk:k< (av b n).length;rw[List.getLast?_drop,if_neg (by omega)];exact tJ hb n;grind
theorem ur{b n:Nat}(hb:1< b):b^ ((av b n).length- 1)≤n∨n=0:=by
 rcases Nat.eq_zero_or_pos n with h|h
 exact .inr h;have a:av b n≠[]:=fun e=>by have:=(jR hb).1 e;omega
 have c:=tJ hb n;obtain⟨s,x,e⟩:∃s x,av b n=s++[x]:=⟨_,_,(List.dropLast_concat_getLast a).symm⟩;have h1:=bG hb n;rw[e,iQ] at h1;rw[e] at c;simp at c;rw[e];simp;have:b^ s.length* 1≤b^ s.length* x:=Nat.mul_le_mul_left _ (by omega);omega
theorem kj{b m n:Nat}(hb:1< b)(h:(av b m).length< (av b n).length):m< n:=by
 have h1:=gG (b:=b) (ee hb m);rw[bG hb] at h1;rcases ur (n:=n) hb with a|a
 have:b^ (av b m).length≤b^ ((av b n).length- 1):=Nat.pow_le_pow_right (by omega) (by omega);omega;subst a;rw[cP] at h;grind
theorem Bo{b m n:Nat}(hb:1< b)(h:m≤n):(av b m).length≤(av b n).length:=by
 rcases Nat.lt_or_ge (av b n).length (av b m).length with h1|h1
 have:=kj hb h1;omega;grind
def k7(n k:Nat):Nat:=ofD MB ((av MB n).drop k)
def xo(n k:Nat):List Nat:=(av MB n).take k
theorem vN(n:Nat):k7 n 0=n:=bG (by decide) n
theorem jc(n:Nat):xo n 0=[]:=rfl
theorem HL(n:Nat):xo n (av MB n).length=av MB n:=List.take_length
theorem nE{n k:Nat}(h:k≤(av MB n).length):(xo n k).length=k:=by simp[xo,Nat.min_eq_left h]
theorem vO{n k:Nat}(h:k< (av MB n).length):k7 n (k+1)=k7 n k/ MB∧xo n (k+1)=xo n k++[k7 n k % MB]:=by
 have a:(av MB n)[k]?=some (av MB n)[k]:=List.getElem?_eq_getElem h;have h1:=lP MB a;have b:(av MB n)[k]< MB:=cV (by decide) a;constructor;unfold k7;rw[h1,Nat.add_mul_div_left _ _ (by decide),Nat.div_eq_of_lt b];omega;unfold xo k7;rw[dt a,h1,Nat.add_mul_mod_self_left,Nat.mod_eq_of_lt b]
theorem Hy{n k:Nat}(hk:k≤(av MB n).length):k7 n k≤n:=by
 have:=eD MB k _ hk;rw[bG (by decide)] at this;have a:=Nat.le_mul_of_pos_left (ofD MB ((av MB n).drop k)) (Nat.pow_pos (n:=k) (show 0< MB by decide));unfold k7;omega
theorem Hz{n k:Nat}(hk:k≤(av MB n).length):k7 n k=0↔k=(av MB n).length:=by
 constructor;intro e;have:=GF (b:=MB) (by decide) n k;rw[show ofD MB ((av MB n).drop k)=0 from e,cP,List.drop_eq_nil_iff] at this;omega;intro e;unfold k7;rw[e,List.drop_length];rfl
def fm(a b:Int):Int:=if a< b then -1 else if b< a then 1 else 0
theorem mY{a b:Int}(h:a< b):fm a b= -1:=by simp[fm,h]
theorem oU{a b:Int}(h:b< a):fm a b=1:=by simp[fm];omega
theorem Fw{a b:Int}(h:a=b):fm a b=0:=by simp[fm];omega
theorem u4{a b:Int}:fm a b≠0↔a≠b:=by unfold fm;split <;>(try split)<;> omega
theorem oC{b i x y:Nat}{l m:List Nat}(hl:∀d∈l,d< b)(hx:l[i]?=some x)(hy:m[i]?=some y)(hd:l.drop (i+1)=m.drop (i+1))(hlt:x< y):ofD b l< ofD b m:=by
 have c:i< l.length:=(List.getElem?_eq_some_iff.1 hx).1;have e:i< m.length:=(List.getElem?_eq_some_iff.1 hy).1;rw[eD b i l (by omega),eD b i m (by omega),lP b hx,lP b hy,hd]
 have h1:ofD b (l.take i)< b^ i:=by
  have:=gG (b:=b) (l:=l.take i) fun d hd=>hl d (List.mem_of_mem_take hd);rwa[List.length_take,Nat.min_eq_left (by omega)] at this
 have a:b^ i* (x+b* ofD b (m.drop (i+1))+1)≤b^ i* (y+b* ofD b (m.drop (i+1))):=Nat.mul_le_mul_left _ (by omega);rw[Nat.mul_add _ _ 1] at a;omega
theorem rF(s t:List Nat)(x:Nat)(i:Nat)(hi:i=s.length):(s++x::t)[i]?=some x:=by subst hi;simp
theorem qJ(s t:List Nat)(x v:Nat)(i:Nat)(hi:i=s.length):(s++x::t).set i v=(s++[v])++t:=by
 subst hi;rw[List.set_append_right _ _ (Nat.le_refl _)];simp
theorem gU{l:List Nat}{i x:Nat}(h:l[i]?=some x):l.drop i=x::l.drop (i+1):=by
 rw[List.drop_eq_getElem_cons (List.getElem?_eq_some_iff.1 h).1,(List.getElem?_eq_some_iff.1 h).2]
abbrev UB:Nat:=32768
def iE(l:List Nat):List (List AV):=l.map fun(d:Nat)=>[i64 d]
def hv(l:List Nat):Nat:=ofD UB l.reverse
def zd(n:Nat):List Nat:=(av UB n).reverse
def zZ(z:Int):List AV:=[i64 (sgZ z),.arr (iE (zd z.natAbs))]
def ie:List Nat→List Nat
 |[]=>[]
 |d::l=>if d=0 then ie l else d::l
@[simp] theorem tj (l:List Nat):(iE l).length=l.length:=by simp[iE]
theorem lC{l:List Nat}{i d:Nat}(h:l[i]?=some d):(iE l)[i]?=some [i64 d]:=by simp[iE,h]
theorem iE_take(l:List Nat)(k:Nat):(iE l).take k=iE (l.take k):=by simp[iE]
theorem oF(l m:List Nat):iE (l++m)=iE l++iE m:=by simp[iE]
theorem qe(l:List Nat)(i d:Nat):(iE l).set i [i64 d]=iE (l.set i d):=by simp[iE,List.map_set]
theorem j6(k:Nat):List.replicate k [i64 0]=iE (List.replicate k 0):=by simp[iE]
theorem gd(l:List Nat):(iE l).all (·.all AV.one)=true:=by
 simp only[iE,List.all_map,List.all_eq_true];intro d _;rfl
theorem mO(l:List Nat):∀e∈iE l,e.length=1:=by intro e a;simp[iE] at a;obtain⟨d,_,rfl⟩:=a;rfl
theorem dR(l:List Nat):∀e∈iE l,∀c∈e,Closed c:=by
 intro e a c hc;simp[iE] at a;obtain⟨d,_,rfl⟩:=a;simp at hc;subst hc;exact ah _
theorem fF(l:List Nat):Closed (.arr (iE l)):=aK (dR l)
theorem gY(z:Int):∀c∈zZ z,Closed c:=ac (ah _) (ac (fF _) ag)
theorem dh(z:Int):Closed (.agg (zZ z)):=aB (gY z)
theorem CO(m:List Nat)(d:Nat):fS (m++[d])=if d=0 then fS m else m++[d]:=by
 induction m with
 |nil=>simp[fS]
 |cons a m b=>
  rw[List.cons_append,fS,b];by_cases hd:d=0;rw[if_pos hd,if_pos hd];rfl;rw[if_neg hd,if_neg hd];cases m <;> rfl
theorem AN(l:List Nat):ie l=(fS l.reverse).reverse:=by
 induction l with
 |nil=>rfl
 |cons d l a=>
  rw[ie,List.reverse_cons,CO];split;exact a;simp
theorem gQ{l:List Nat}(h:∀d∈l,d< UB):ie l=zd (hv l):=by
 rw[AN,kD (b:=UB) (by decide) (fun d a=>h d (List.mem_reverse.1 a))];rfl
theorem lW(n:Nat):hv (zd n)=n:=by unfold hv zd;rw[List.reverse_reverse,bG (by decide)]
theorem ky(n:Nat):∀d∈zd n,d< UB:=fun d a=>ee (by decide) n d (List.mem_reverse.1 a)
theorem dd(n:Nat):(zd n).length=(av UB n).length:=List.length_reverse
theorem rA(d:Nat)(l:List Nat):hv (d::l)=hv l+UB^ l.length* d:=by
 unfold hv;rw[List.reverse_cons,iQ,List.length_reverse]
theorem rz(l:List Nat)(d:Nat):hv (l++[d])=hv l* UB+d:=by
 unfold hv;simp[ofD];rw[Nat.mul_comm,Nat.add_comm]
theorem wg:hv []=0:=rfl
theorem qy:zd 0=[]:=by unfold zd;rw[cP];rfl
theorem zd_eq_nil{n:Nat}:zd n=[]↔n=0:=by
 unfold zd;rw[List.reverse_eq_nil_iff];exact jR (by decide)
theorem vx{l:List Nat}(h:∀d∈l,d< UB):ie l=[]↔hv l=0:=by rw[gQ h];exact zd_eq_nil
theorem zZ_zero:zZ 0=[i64 0,.arr []]:=by unfold zZ;show [i64 0,AV.arr (iE (zd 0))]=_;rw[qy];rfl
theorem E8{l:List Nat}(h:∀d∈l,d< UB):hv l< UB^ l.length:=by
 have:=gG (b:=UB) (l:=l.reverse) fun d a=>h d (List.mem_reverse.1 a);rwa[List.length_reverse] at this
theorem AEval.lenI{P:Program}{id:Nat}{ev:Operand→Option AV}{hp:Nat→Option ABlk}{c:Call}{x:Operand}{T:Nat}{d:Nat×Nat}{l:List Nat}(hc:c.callee= .builtin .len)(ha:c.args= #[x])(ht:c.argTypes= #[T])(hx:ev x=some (.arr (iE l)))(he:eO P T=some d):
    AEval P id ev hp (.call c) ⟨.v (.int .i64 (l.length:Nat)),[]⟩ []:= .len hc ha ht hx (by simp[tg]) he
abbrev RQ:=Rat×Bool
def rok(x:RQ):Prop:=x.2=true→x.1=0
def rC(x:RQ):List AV:=zZ x.1.num++zZ (if x.2 then 0 else(x.1.den:Int))
def rq(q:Rat):RQ:=(q,false)
theorem vM(q:Rat):rok (rq q):=fun h=>by cases h
@[simp] theorem rC_length (x:RQ):(rC x).length=4:=rfl
theorem hZ(x:RQ):∀c∈rC x,Closed c:=fun c hc=>(List.mem_append.1 hc).elim (gY _ c) (gY _ c)
theorem mn(x:RQ):Closed (.agg (rC x)):=aB (hZ x)
theorem rC_rq(q:Rat):rC (rq q)=zZ q.num++zZ (q.den:Int):=rfl
def rE(l:List RQ):List (List AV):=l.map rC
@[simp] theorem rE_length (l:List RQ):(rE l).length=l.length:=by simp[rE]
theorem rE_get{l:List RQ}{i:Nat}{q:RQ}(h:l[i]?=some q):(rE l)[i]?=some (rC q):=by simp[rE,h]
theorem rE_take(l:List RQ)(k:Nat):(rE l).take k=rE (l.take k):=by simp[rE]
theorem fW(l:List RQ):(rE l).all (·.all AV.one)=true:=by
 simp only[rE,List.all_map,List.all_eq_true];intro q _;rfl
theorem zc(l:List RQ):∀e∈rE l,e.length=4:=by
 intro e a;obtain⟨q,_,rfl⟩:=List.mem_map.1 a;rfl
theorem kr(l:List RQ):∀e∈rE l,∀c∈e,Closed c:=by
 intro e a c hc;obtain⟨q,_,rfl⟩:=List.mem_map.1 a;exact hZ q c hc
theorem fQ(l:List RQ):Closed (.arr (rE l)):=aK (kr l)
theorem AEval.lenR{P:Program}{id:Nat}{ev:Operand→Option AV}{hp:Nat→Option ABlk}{c:Call}{x:Operand}{T:Nat}{d:Nat×Nat}{l:List RQ}(hc:c.callee= .builtin .len)(ha:c.args= #[x])(ht:c.argTypes= #[T])(hx:ev x=some (.arr (rE l)))(he:eO P T=some d):
    AEval P id ev hp (.call c) ⟨.v (.int .i64 (l.length:Nat)),[]⟩ []:= .len hc ha ht hx (by simp[tg]) he
theorem FM{n:Int}{d:Nat}(hd:0< d):sgZ (mkRat n d).num=sgZ n:=by
 rw[ki hd];have hg:0< Nat.gcd n.natAbs d:=Nat.gcd_pos_of_pos_right _ hd;have h1:n≠0→0< n.natAbs/ Nat.gcd n.natAbs d:=fun h=>Nat.div_pos (Nat.gcd_le_left _ (by omega)) hg;unfold sgZ sgn;by_cases h0:n=0;subst h0;simp;have:=h1 h0;by_cases hn:n< 0;simp[hn,h0];omega;simp[hn,h0];omega
theorem qp(n d:Int)(hd:d< 0):Rat.divInt n d=mkRat (-n) d.natAbs:=by
 obtain⟨m,rfl⟩:∃m:Nat,d=Int.negSucc m:=⟨d.natAbs- 1,by omega⟩;rfl
theorem qo(n d:Int)(hd:0< d):Rat.divInt n d=mkRat n d.natAbs:=by
 obtain⟨m,rfl⟩:∃m:Nat,d=(m:Int):=⟨d.natAbs,by omega⟩;rfl
theorem mU(a b:Rat):a/ b=Rat.divInt (a.num* b.den) (a.den* b.num):=by
 rw[Rat.div_def,Rat.inv_def]
 conv=>lhs;rw[←Rat.num_divInt_den a]
 rw[Rat.divInt_mul_divInt]
abbrev nQ(n:Nat):Rat:=((n:Int):Rat)
theorem nQ_eq(n:Nat):nQ n=mkRat n 1:=(Rat.mkRat_one n).symm
theorem nQ_zero{n:Nat}:nQ n=0↔n=0:=by simp
theorem nk{n k:Nat}(h:bl n≤k)(hk:1≤k):qs (nQ n)≤k:=by
 refine Nat.max_le.2 ⟨?_,?_⟩;show bl ((n:Int)).natAbs≤k;rwa[Int.natAbs_natCast];show bl 1≤k;rw[j2];grind
theorem HZ(a b:Nat):nQ a* nQ b=nQ (a* b):=by grind
theorem nQ_sub{a b:Nat}(h:b≤a):nQ a- nQ b=nQ (a- b):=by
 rw[←Rat.intCast_sub];congr 1;omega
theorem zp(a b:Nat)(hb:b≠0):nQ a/ nQ b=mkRat a b:=by
 rw[mU];simp
theorem x9(a b:Nat)(hb:b≠0)(h:b∣a):mkRat a b=nQ (a/ b):=by
 obtain⟨k,rfl⟩:=h;rw[Nat.mul_div_cancel_left _ (by omega),nQ_eq,Rat.mkRat_eq_iff hb (by decide),Int.natCast_mul,Int.mul_comm (b:Int)];simp
theorem Bn(a b:Nat)(hb:b≠0):(mkRat a b).floor=((a/ b:Nat):Int):=by
 have h:=lR (n:=(a:Int)) (d:=b) (by omega);rw[Int.natAbs_natCast] at h;rw[Rat.floor_def,h.1,h.2,←Int.natCast_ediv,←Int.natCast_ediv,Nat.div_div_eq_div_mul,Nat.mul_div_cancel' (Nat.gcd_dvd_right a b)]
def iT:List Rat→Nat→Nat
 |[],d=>d
 |c::l,d=>iT l (Nat.lcm d c.den)
def iZ(c:Rat)(D:Nat):Nat:=c.num.natAbs* (D/ c.den)
def jg(D:Nat):List Rat→Nat→Nat
 |[],n=>n
 |c::l,n=>jg D l (Nat.gcd n (iZ c D))
def bU(p:List Rat):List Rat:=aL (aj p) (nQ (iT (aj p) 1) / nQ (jg (iT (aj p) 1) (aj p) 0))
def vY(p:List Rat):Prop:=(p.length+4) * mxL p≤34359738368∧p.length≤274877906944
instance (p:List Rat):Decidable (vY p):=inferInstanceAs (Decidable (_∧_))
theorem E3{a b:Nat}(ha:a≠0)(hb:b≠0):Nat.lcm a b≠0:=by simp_all
theorem sd:∀(l:List Rat) {d:Nat},d≠0→iT l d≠0
 |[],_,h=>h
 |c::l,_,h=>sd l (E3 h c.den_nz)
theorem mc:∀(l:List Rat) (d:Nat),d∣iT l d∧∀c∈l,c.den∣iT l d
 |[],d=>⟨Nat.dvd_refl d,fun _ h=>by cases h⟩
 |c::l,d=>by
  obtain⟨h1,b⟩:=mc l (Nat.lcm d c.den);refine⟨Nat.dvd_trans (Nat.dvd_lcm_left d c.den) h1,fun x a=>?_⟩;rcases List.mem_cons.1 a with rfl|a
  exact Nat.dvd_trans (Nat.dvd_lcm_right d x.den) h1;exact b x a
theorem bl_lcm(a b:Nat):bl (Nat.lcm a b)≤bl a+bl b:=
 Nat.le_trans (fG _ _) (jz a b)
theorem Al{s:Nat}:∀(l:List Rat) (d:Nat),bdL l s→bl (iT l d)≤bl d+l.length* s
 |[],d,_=>by simp[iT]
 |c::l,d,h=>by
  have h1:=Al l (Nat.lcm d c.den) fun q a=>h q (List.mem_cons_of_mem _ a);have b:=bl_lcm d c.den;have e:=ei c;have f:=h c (List.mem_cons_self ..);rw[List.length_cons,Nat.add_mul];unfold iT;omega
theorem rm(c:Rat)(D:Nat)(h:c.den∣D):eN (c* nQ D)=nQ (iZ c D):=by
 obtain⟨k,rfl⟩:=h;have a:=c.den_nz
 have e:c* nQ (c.den* k)=((c.num* (k:Int):Int):Rat):=by
  rw[oz];show mkRat (c.num* ((c.den* k:Nat):Int)) (c.den* 1)=_;rw[show((c.num* (k:Int):Int):Rat)=mkRat (c.num* k) 1 from(Rat.mkRat_one _).symm,Rat.mkRat_eq_iff (by omega) (by decide)];grind
 rw[e];unfold eN iZ;show mkRat (((c.num* (k:Int)).natAbs:Nat):Int) 1=_;rw[Nat.mul_div_cancel_left _ (by omega),Int.natAbs_mul,Int.natAbs_natCast,nQ_eq]
theorem rl(D:Nat):∀(l:List Rat) (n:Nat),jg D l n∣n∧∀c∈l,jg D l n∣iZ c D
 |[],n=>⟨Nat.dvd_refl n,fun _ h=>by cases h⟩
 |c::l,n=>by
  obtain⟨h1,b⟩:=rl D l (Nat.gcd n (iZ c D));refine⟨Nat.dvd_trans h1 (Nat.gcd_dvd_left _ _),fun x a=>?_⟩;rcases List.mem_cons.1 a with rfl|a
  exact Nat.dvd_trans h1 (Nat.gcd_dvd_right _ _);exact b x a
theorem zH{c:Rat}{D:Nat}(h:c.den∣D)(hD:D≠0)(hc:c≠0):iZ c D≠0:=by
 obtain⟨k,rfl⟩:=h;unfold iZ;rw[Nat.mul_div_cancel_left _ c.den_pos];have h1:c.num≠0:=fun e=>hc (Rat.num_eq_zero.1 e);refine Nat.mul_ne_zero (by omega) fun e=>hD (by grind)
theorem zJ(c:Rat)(D:Nat):bl (iZ c D)≤qs c+bl D:=by
 have h1:=jz c.num.natAbs (D/ c.den);have a:=fG D c.den;have b:=dZ c;unfold iZ;omega
theorem li(p:List Rat):(aN p).length≤p.length- 1:=by
 have:=bO (aW (p.length- 1) fun i=>coP p (i+1) * ((i+1:Nat):Int));simpa[aN] using this
def xk(f:Nat)(p:List Rat):Option (List Rat):=
 if smL p∧p.length≤274877906944 then(qf f p (aN p)).bind fun g=>if aj g≠[]∧la p g then some (cI (cf p g).1) else none
 else none
def boL(lead:Rat):List Rat→Rat→Rat
 |[],m=>m
 |c::l,m=>boL lead l (dM [m,eN (c/ lead)])
def cj(p:List Rat):Rat:=boL (aF p) ((aj p).take ((aj p).length- 1)) 0+1
def rc(p:List Rat):Prop:=mxL p≤34359738368∧p.length≤274877906944
instance (p:List Rat):Decidable (rc p):=inferInstanceAs (Decidable (_∧_))
theorem Db(q:Rat):qs (eN q)=qs q:=by
 unfold qs;rw[CB,CC,Int.natAbs_natCast]
theorem zx{l:List Rat}{n:Nat}(h:bdL l n)(hn:1≤n):qs (dM l)≤n:=by
 unfold dM
 have b:∀(e:Int→Bool) (l:List Rat) (o:Rat),qs o≤n→bdL l n→qs (l.foldl (fun o y=>if e (dB y o) then y else o) o)≤n:=by
  intro e l
  induction l with
  |nil=>intro o d _;exact d
  |cons y l g=>
   intro o d f;refine g _ ?_ fun q a=>f q (List.mem_cons_of_mem _ a);show qs (if e (dB y o)=true then y else o)≤n;split;exact f y (List.mem_cons_self ..);exact d
 cases l with
 |nil=>exact Nat.le_trans (by decide:qs 0≤1) hn
 |cons x l=>exact b (fun c=>decide (0< c)) l x (h x (List.mem_cons_self ..)) fun q a=>h q (List.mem_cons_of_mem _ a)
theorem Do(p:List Rat):aF (aj p)=aF p:=by unfold aF;rw[cw]
def chL:List Int→Int→Int→Int
 |[],n,_=>n
 |s::l,n,last=>if s≠0 then chL l (if s= -last then n+1 else n) s else chL l n last
def oa(f:Nat):Nat→List Rat→List Rat→List (List Rat)→Option (List (List Rat))
 |0,_,_,_=>none
 |k+1,last,next,acc=>
  if aj next=[] then some acc
  else if vY next∧la last (bU next)∧aj (bU next)≠[] then oa f k (bU next) (aL (cf last (bU next)).2 (-1)) (acc++[bU next])
  else none
def mG(f:Nat)(p:List Rat):Option (List (List Rat)):=
 if smL p∧vY p∧aj p≠[] then oa f f (bU p) (aN p) [bU p] else none
def cE(l:List (List Rat)):List (List AV):=l.map fun p=>[.arr (pE p)]
@[simp] theorem cE_length (l:List (List Rat)):(cE l).length=l.length:=by simp[cE]
theorem Eb{l:List (List Rat)}{i:Nat}{p:List Rat}(h:l[i]?=some p):(cE l)[i]?=some [.arr (pE p)]:=by simp[cE,h]
theorem gi(l:List (List Rat)):(cE l).all (·.all AV.one)=true:=by
 simp only[cE,List.all_map,List.all_eq_true];intro q _;rfl
theorem ku(l:List (List Rat)):∀e∈cE l,∀c∈e,Closed c:=by
 intro e a c hc;obtain⟨q,_,rfl⟩:=List.mem_map.1 a;rw[List.mem_singleton.1 hc];exact aC q
theorem oW(l:List (List Rat)):Closed (.arr (cE l)):=aK (ku l)
theorem cE_snoc(l:List (List Rat))(p:List Rat):cE (l++[p])=cE l++[[.arr (pE p)]]:=by simp[cE]
theorem AEval.lenC{P:Program}{id:Nat}{ev:Operand→Option AV}{hp:Nat→Option ABlk}{c:Call}{x:Operand}{T:Nat}{d:Nat×Nat}{l:List (List Rat)}(hc:c.callee= .builtin .len)(ha:c.args= #[x])(ht:c.argTypes= #[T])(hx:ev x=some (.arr (cE l)))(he:eO P T=some d):
    AEval P id ev hp (.call c) ⟨.v (.int .i64 (l.length:Nat)),[]⟩ []:= .len hc ha ht hx (by simp[tg]) he
structure Cnt where
 p:List Rat
 ch:List (List Rat)
 far:Int
def kC(c:Cnt):List AV:=[.arr (pE c.p),.arr (cE c.ch),i64 c.far]
abbrev kA(c:Cnt):AV:= .aptr [kC c] 0 0
theorem yC(c:Cnt):∀x∈kC c,Closed x:=ac (aC _) (ac (oW _) (ac (ah _) ag))
theorem iH(c:Cnt):Closed (kA c):=bC (yC c)
def sgI(q:List Rat):Int:=if cQ q % 2=1 then -sgZ (aF q).num else sgZ (aF q).num
def sgE(x:Rat)(q:List Rat):Int:=sgZ (af q x).num
theorem oo(z:Int): -1≤sgZ z∧sgZ z≤1:=by
 unfold sgZ;split;omega;split <;> omega
theorem sgI_abs(q:List Rat): -1≤sgI q∧sgI q≤1:=by
 have:=oo (aF q).num;unfold sgI;split <;> omega
theorem w7:∀(l:List Int) (n last:Int),n≤chL l n last∧chL l n last≤n+l.length
 |[],n,_=>⟨Int.le_refl _,by simp[chL]⟩
 |s::l,n,last=>by
  unfold chL;split;split;have:=w7 l (n+1) s;simp only[List.length_cons];omega;have:=w7 l n s;simp only[List.length_cons];omega;have:=w7 l n last;simp only[List.length_cons];omega
def xY(c:Cnt):Prop:=(∀q∈c.ch,aj q≠[]∧q.length≤274877906944)∧c.ch.length≤274877906944∧c.far=chL (c.ch.map sgI) 0 0
instance (c:Cnt):Decidable (xY c):=inferInstanceAs (Decidable (_∧_∧_))
def gx(f:Nat)(p:List Rat):Option Cnt:=
 (xk f p).bind fun s=>(mG f s).bind fun ch=>if xY ⟨s,ch,chL (ch.map sgI) 0 0⟩ then some ⟨s,ch,chL (ch.map sgI) 0 0⟩ else none
def bZ(c:Cnt)(x:Rat):Int:=c.far- chL (c.ch.map (sgE x)) 0 0
def qW(c:Cnt)(x:Rat):Prop:=xY c∧∀q∈c.ch,fe q x
instance (c:Cnt) (x:Rat):Decidable (qW c x):=inferInstanceAs (Decidable (_∧_))
def aZ(c:Cnt)(x:Rat):Int:=if af c.p x=0 then bZ c x- 1 else bZ c x
def pa(c:Cnt)(x:Rat):Prop:=qW c x∧fe c.p x
instance (c:Cnt) (x:Rat):Decidable (pa c x):=inferInstanceAs (Decidable (_∧_))
def JA(c:Cnt):Int:=bZ c (cj c.p)
def okAll(c:Cnt):Prop:=rc c.p∧aj c.p≠[]∧qW c (cj c.p)
instance (c:Cnt):Decidable (okAll c):=inferInstanceAs (Decidable (_∧_∧_))
theorem lI{c:Cnt}{x:Rat}(h:xY c): -274877906944≤bZ c x∧bZ c x≤274877906944:=by
 have h1:=w7 (c.ch.map sgI) 0 0;have a:=w7 (c.ch.map (sgE x)) 0 0;have b:=h.2.1;rw[←h.2.2] at h1;simp only[List.length_map] at h1 a;unfold bZ;omega
abbrev plA(c:Cnt)(i:Int):AV:= .aptr [[kA c,i64 i]] 0 0
theorem dC(c:Cnt)(i:Int):Closed (plA c i):=bC (ac (iH c) (ac (ah _) ag))
def plC(c:Cnt)(i:Int)(x:Rat):Int:=if i< aZ c x then -1 else if aZ c x=i∧aZ c x< bZ c x then 0 else 1
theorem GN{c:Cnt}{x:Rat}(h:xY c): -274877906945≤aZ c x∧aZ c x≤274877906944:=by
 have:=lI (x:=x) h;unfold aZ;split <;> omega
def biM(c:Cnt)(i:Int)(step:Rat):Nat→Rat→Rat→Option Rat
 |0,_,_=>none
 |f+1,lo,hi=>
  if sm lo∧sm hi∧sm (hi- lo) then
   if 0< dB (hi- lo) 1 then
    if qs (((lo+hi) / 2).floor:Rat)+qs step≤549755813888∧pa c ((((lo+hi) / 2).floor:Rat) * step) then
     if 0≤plC c i ((((lo+hi) / 2).floor:Rat) * step) then biM c i step f (((lo+hi) / 2).floor:Rat) hi
     else biM c i step f lo (((lo+hi) / 2).floor:Rat)
    else none
   else some lo
  else none
def inK(a v:Rat)(out zeros:List Rat):Rat:=(v- af out a) / af zeros a
def okIn(a v:Rat)(out zeros:List Rat):Prop:=sm a∧sm v∧fe out a∧fe zeros a∧af zeros a≠0∧sm (inK a v out zeros)∧smL out∧smL zeros∧smL (aL zeros (inK a v out zeros))∧fx zeros [-a,1]∧out.length≤274877906944
instance (a v:Rat) (out zeros:List Rat):Decidable (okIn a v out zeros):=inferInstanceAs (Decidable (_∧_∧_∧_∧_∧_∧_∧_∧_∧_∧_))
theorem kf(i:Nat):coP [] i=0:=rfl
theorem dA(a:Rat)(l:List Rat):coP (a::l) 0=a:=rfl
theorem dm(a:Rat)(l:List Rat)(i:Nat):coP (a::l) (i+1)=coP l i:=rfl
theorem ce(l:List Rat)(i:Nat):coP (aj l) i=coP l i:=by
 induction l generalizing i with
 |nil=>rfl
 |cons a l b=>
  rw[e8];split
  ·rename_i h
   have c:∀j,coP l j=0:=fun j=>by rw[←b j,h];rfl
   split
   ·rename_i ha
    cases i with
    |zero=>rw[ha];rfl
    |succ i=>rw[dm,c];rfl
   cases i with
   |zero=>rfl
   |succ i=>rw[dm,dm,c];rfl
  cases i with
  |zero=>rfl
  |succ i=>rw[dm,dm,b]
theorem coP_tab(n:Nat)(f:Nat→Rat)(i:Nat):coP (aW n f) i=if i< n then f i else 0:=by
 unfold coP aW;grind
theorem eX(p q:List Rat)(i:Nat):coP (fV p q) i=coP p i+coP q i:=by
 unfold fV;rw[ce,coP_tab];split;rfl
 ·rw[ef (by omega),ef (by omega)];grind
theorem cS(p:List Rat)(k:Rat)(i:Nat):coP (aL p k) i=coP p i* k:=by
 unfold aL;rw[ce,coP_tab];split;rfl
 ·rw[ef (by omega)];grind
theorem gX(p q:List Rat)(i:Nat):coP (cn p q) i=coP p i- coP q i:=by
 unfold cn;rw[eX,cS];grind
theorem mh(a:Rat)(i:Nat):coP (b9 a) i=if i=0 then a else 0:=by
 unfold b9;rw[ce];cases i <;> rfl
theorem ek(p:List Rat)(i:Nat):coP (aN p) i=coP p (i+1) * ((i+1:Nat):Int):=by
 unfold aN;rw[ce,coP_tab];split;rfl
 ·rw[ef (by omega)];grind
theorem fP(p:List Rat)(i:Nat):coP (ax p) i=if i=0 then 0 else coP p (i- 1) / ((i:Nat):Int):=by
 unfold ax;rw[ce,coP_tab];split;rfl
 ·rw[if_neg (by omega),ef (by omega),Rat.div_def,Rat.zero_mul]
theorem kz{p q:List Rat}(h:∀i,coP p i=coP q i):aj p=aj q:=by
 induction p generalizing q with
 |nil=>
  induction q with
  |nil=>rfl
  |cons b q c=>
   have hb:b=0:=(h 0).symm;rw[e8,←c fun i=>h (i+1),if_pos hb];rfl
 |cons a p c=>
  cases q with
  |nil=>
   have ha:a=0:=h 0;rw[e8,c (q:=[]) fun i=>h (i+1),if_pos ha];rfl
  |cons b q=>
   have d:a=b:=h 0;rw[e8,e8,c (q:=q) fun i=>h (i+1),d]
theorem trim_iff{p q:List Rat}:aj p=aj q↔∀i,coP p i=coP q i:=
 ⟨fun h i=>by rw[←ce p,h,ce],kz⟩
theorem trim_nil_iff{p:List Rat}:aj p=[]↔∀i,coP p i=0:=
 ⟨fun h i=>by rw[←ce p,h];rfl,fun h=>kz (q:=[]) h⟩
theorem aM(x:Rat):af [] x=0:=rfl
theorem aE(a:Rat)(l:List Rat)(x:Rat):af (a::l) x=af l x* x+a:=rfl
theorem mT{p:List Rat}(h:∀i,coP p i=0)(x:Rat):af p x=0:=by
 induction p with
 |nil=>rfl
 |cons a p b=>
  have ha:a=0:=h 0;rw[aE,b fun i=>h (i+1)];grind
theorem jp{p q:List Rat}(h:∀i,coP p i=coP q i)(x:Rat):af p x=af q x:=by
 induction p generalizing q with
 |nil=>exact(mT (fun i=>(h i).symm) x).symm
 |cons a p d=>
  cases q with
  |nil=>exact mT h x
  |cons b q=>
   have c:a=b:=h 0;rw[aE,aE,d (q:=q) fun i=>h (i+1),c]
theorem cg(p:List Rat)(x:Rat):af (aj p) x=af p x:=jp (ce p) x
def kY:List Rat→List Rat→List Rat
 |[],q=>q
 |p,[]=>p
 |a::p,b::q=>(a+b)::kY p q
def fb(p:List Rat)(k:Rat):List Rat:=p.map (· * k)
def nM:List Rat→List Rat→List Rat
 |[],_=>[]
 |a::p,q=>kY (fb q a) (0::nM p q)
theorem iX(p q:List Rat)(i:Nat):coP (kY p q) i=coP p i+coP q i:=by
 induction p generalizing q i with
 |nil=>rw[kY,kf];grind
 |cons a p c=>
  cases q with
  |nil=>rw[kY,kf]; · grind
        grind
  |cons b q=>
   cases i with
   |zero=>rfl
   |succ i=>exact c q i
theorem gM(p:List Rat)(k:Rat)(i:Nat):coP (fb p k) i=coP p i* k:=by
 induction p generalizing i with
 |nil=>show(0:Rat)=0* k;grind
 |cons a p b=>
  cases i with
  |zero=>rfl
  |succ i=>exact b i
theorem fO(p q:List Rat)(x:Rat):af (kY p q) x=af p x+af q x:=by
 induction p generalizing q with
 |nil=>rw[kY,aM];grind
 |cons a p c=>
  cases q with
  |nil=>rw[kY,aM]; · grind
        grind
  |cons b q=>rw[kY,aE,aE,aE];grind
theorem dX(p:List Rat)(k x:Rat):af (fb p k) x=af p x* k:=by
 induction p with
 |nil=>show(0:Rat)=0* k;grind
 |cons a p b=>show af (fb p k) x* x+a* k=_;rw[aE];grind
theorem qm(p q:List Rat)(x:Rat):af (nM p q) x=af p x* af q x:=by
 induction p with
 |nil=>show(0:Rat)=0* _;grind
 |cons a p b=>rw[nM,fO,dX,aE,aE];grind
theorem eF(p q:List Rat)(x:Rat):af (fV p q) x=af p x+af q x:=by
 rw[←fO];exact jp (fun i=>by rw[eX,iX]) x
theorem aR(p:List Rat)(k x:Rat):af (aL p k) x=af p x* k:=by
 rw[←dX];exact jp (fun i=>by rw[cS,gM]) x
theorem dJ(p q:List Rat)(x:Rat):af (cn p q) x=af p x- af q x:=by
 unfold cn;rw[eF,aR];grind
theorem lh(a x:Rat):af (b9 a) x=a:=by
 rw[b9,cg];show 0* x+a=a;grind
def eW(p q:List Rat):Nat→Nat→Rat
 |0,_=>0
 |i+1,n=>eW p q i n+(if i≤n then coP p i* coP q (n- i) else 0)
theorem Cb(o:List Rat)(a:Rat)(q:List Rat)(i:Nat)(h:∀k,k< q.length→i+k< o.length):∀k n,k≤q.length→coP (kJ o a q i k) n=coP o n+(if i≤n∧n< i+k then a* coP q (n- i) else 0)
 |0,n,_=>by show coP o n=_;grind
 |k+1,n,hk=>by
  rw[kJ,tP,A5];by_cases hn:n=i+k;subst hn;rw[if_pos ⟨rfl,h k (by omega)⟩,vL o a q i k (i+k) (by omega),if_pos (by omega),show i+k- i=k by omega];rw[Cb o a q i h k n (by omega)];grind
theorem Cd(p q:List Rat)(n:Nat):∀i,i≤p.length→coP (fJ p q i) n=eW p q i n
 |0,_=>by
  show coP (List.replicate _ 0) n=0;unfold coP;grind
 |i+1,hi=>by
  have a:=Cd p q n i (by omega);rw[fJ,eW];split
  ·grind
  rw[Cb _ _ _ _ (fun k b=>by rw[nK];omega) _ _ (Nat.le_refl _),a];by_cases h1:i≤n;rw[if_pos h1];by_cases h2:n< i+q.length;rw[if_pos ⟨h1,h2⟩];rw[ef (p:=q) (by omega)];grind;grind
theorem wN(a:Rat)(p q:List Rat)(n:Nat):∀i,eW (a::p) q (i+1) n=a* coP q n+(match n with|0=>0|m+1=>eW p q i m)
 |0=>by
  show(0:Rat)+(if 0≤n then coP (a::p) 0* coP q (n- 0) else 0)=_;rw[dA];cases n <;> simp[eW,Rat.add_zero,Rat.zero_add]
 |i+1=>by
  rw[eW,wN a p q n i];cases n with
  |zero=>grind
  |succ m=>
   show a* coP q (m+1)+eW p q i m+_=a* coP q (m+1)+(eW p q i m+_);by_cases h:i≤m;rw[dm];grind;grind
theorem wP(p q:List Rat)(n:Nat):coP (nM p q) n=eW p q p.length n:=by
 induction p generalizing n with
 |nil=>rfl
 |cons a p b=>
  rw[nM,iX,gM,List.length_cons,wN];cases n with
  |zero=>rw[dA];grind
  |succ m=>rw[dm];grind
theorem oT(p q:List Rat)(n:Nat):coP (aJ p q) n=coP (nM p q) n:=by
 unfold aJ;split
 ·rename_i h
  rcases h with rfl|rfl
  rfl;rw[wP]
  have:∀i,eW p [] i n=0:=by
   intro i
   induction i with
   |zero=>rfl
   |succ i a=>rw[eW,kf];grind
  rw[this];rfl
 rw[ce,Cd _ _ _ _ (Nat.le_refl _),wP]
theorem bh(p q:List Rat)(x:Rat):af (aJ p q) x=af p x* af q x:=by
 rw[←qm];exact jp (oT p q) x
def o9:List Rat→Rat→List Rat
 |[],_=>[]
 |[_],_=>[]
 |_::b::l,r=>af (b::l) r::o9 (b::l) r
theorem oj(p:List Rat)(r x:Rat):af p x=af (o9 p r) x* (x- r)+af p r:=by
 induction p with
 |nil=>show(0:Rat)=0* _+0;grind
 |cons a l c=>
  cases l with
  |nil=>show 0* x+a=0* (x- r)+(0* r+a);grind
  |cons b l=>
   rw[o9,aE a,aE a,aE (af (b::l) r)];grind
theorem AL(p:List Rat)(r:Rat):(o9 p r).length=p.length- 1:=by
 induction p with
 |nil=>rfl
 |cons a l c=>
  cases l with
  |nil=>rfl
  |cons b l=>rw[o9,List.length_cons,c];simp
theorem pW:∀(n:Nat) (p xs:List Rat),p.length≤n→n≤xs.length→xs.Nodup→(∀x∈xs,af p x=0)→∀x,af p x=0
 |0,p,_,hp,_,_,_,x=>by
  have:p=[]:=List.length_eq_zero_iff.1 (by omega);rw[this];rfl
 |n+1,p,xs,hp,hx,hnd,hz,x=>by
  cases xs with
  |nil=>grind
  |cons r xs=>
   rw[List.nodup_cons] at hnd;have b:=hz r (List.mem_cons_self ..)
   have a:=pW n (o9 p r) xs (by rw[AL];omega) (by grind) hnd.2 fun y c=>by
    have h1:=oj p r y;grind
   rw[oj p r x];grind
theorem rY{p:List Rat}(h:∀x,af p x=0):∀i,coP p i=0:=by
 induction p with
 |nil=>intro i;rfl
 |cons a p f=>
  have ha:a=0:=by
   have:=h 0;rw[aE] at this;grind
  have hp:∀x,af p x=0:=by
   -- at all places but 0,so at all
   refine pW p.length p ((List.range p.length).map fun i=>(((i+1:Nat):Int):Rat)) (Nat.le_refl _) (by simp) ?_ ?_;refine List.Pairwise.map _ (fun i j g=>?_) List.nodup_range;intro e;have:=Rat.intCast_inj.1 e;omega;intro x d;obtain⟨i,_,rfl⟩:=List.mem_map.1 d;have h1:=h (((i+1:Nat):Int):Rat);rw[aE] at h1;have c:af p (((i+1:Nat):Int):Rat) * (((i+1:Nat):Int):Rat)=0:=by grind
   rcases Rat.mul_eq_zero.1 c with b|b
   exact b;have:=Rat.intCast_inj.1 (b.trans Rat.intCast_zero.symm);omega
  intro i;cases i with
  |zero=>exact ha
  |succ i=>exact f hp i
theorem jO{p q:List Rat}(h:∀x,af p x=af q x):aj p=aj q:=by
 refine kz fun i=>?_;have:=rY (p:=cn p q) (fun x=>by rw[dJ];grind) i;rw[gX] at this;grind
theorem FZ(p q:List Rat)(hp:p≠[]):(aJ p q).length≤p.length+q.length- 1:=by
 unfold aJ;split;simp;have:=bO (fJ p q p.length);rwa[nK] at this
theorem sR{p:List Rat}{k:Rat}{s t:Nat}(hp:bdL p s)(hs:1≤s)(hk:qs k≤t):bdL (aL p k) (s+t):=
 js fun i=>by
  rw[cS];have h1:=dk (coP p i) k;have a:=fI hp hs i;omega
theorem FB{p q:List Rat}{s t:Nat}(hp:bdL p s)(hq:bdL q t)(hs:1≤s)(ht:1≤t):bdL (fV p q) (s+t+1):=
 js fun i=>by
  rw[eX];have h1:=fX (coP p i) (coP q i);have a:=fI hp hs i;have b:=fI hq ht i;omega
def dvE:List Rat→Rat→Rat
 |[],_=>0
 |_::l,x=>af l x+dvE l x* x
theorem eu(a:Rat)(l:List Rat)(x:Rat):dvE (a::l) x=af l x+dvE l x* x:=rfl
theorem BY{p:List Rat}(h:∀i,coP p i=0)(x:Rat):dvE p x=0:=by
 induction p with
 |nil=>rfl
 |cons a p b=>rw[eu,b fun i=>h (i+1),mT fun i=>h (i+1)];grind
theorem Fo{p q:List Rat}(h:∀i,coP p i=coP q i)(x:Rat):dvE p x=dvE q x:=by
 induction p generalizing q with
 |nil=>exact(BY (fun i=>(h i).symm) x).symm
 |cons a p c=>
  cases q with
  |nil=>exact BY h x
  |cons b q=>rw[eu,eu,c (q:=q) fun i=>h (i+1),jp (q:=q) fun i=>h (i+1)]
theorem r9(p q:List Rat)(x:Rat):dvE (kY p q) x=dvE p x+dvE q x:=by
 induction p generalizing q with
 |nil=>show dvE q x=0+dvE q x;grind
 |cons a p c=>
  cases q with
  |nil=>rw[kY]; · show _=_+(0:Rat);grind
        grind
  |cons b q=>rw[kY,eu,eu,eu,fO];grind
theorem jq(p:List Rat)(k x:Rat):dvE (fb p k) x=dvE p x* k:=by
 induction p with
 |nil=>show(0:Rat)=0* k;grind
 |cons a p b=>show af (fb p k) x+dvE (fb p k) x* x=_;rw[eu,dX];grind
theorem I2(p q:List Rat)(x:Rat):dvE (nM p q) x=dvE p x* af q x+af p x* dvE q x:=by
 induction p with
 |nil=>show(0:Rat)=0* _+0* _;grind
 |cons a p b=>rw[nM,r9,jq,eu,eu,qm,aE];grind
def B5:List Rat→List Rat
 |[]=>[]
 |_::l=>kY l (0::B5 l)
theorem qn(p:List Rat)(x:Rat):af (B5 p) x=dvE p x:=by
 induction p with
 |nil=>rfl
 |cons a p b=>rw[B5,fO,aE,eu];grind
theorem Jd(p:List Rat)(i:Nat):coP (B5 p) i=coP p (i+1) * ((i+1:Nat):Int):=by
 induction p generalizing i with
 |nil=>show(0:Rat)=0* _;grind
 |cons a p b=>
  rw[B5,iX,dm];cases i with
  |zero=>rw[dA];grind
  |succ i=>rw[dm];grind
theorem bY(p:List Rat)(x:Rat):af (aN p) x=dvE p x:=by
 rw[←qn];exact jp (fun i=>by rw[ek,Jd]) x
theorem rZ(p q:List Rat)(x:Rat):dvE (aJ p q) x=dvE p x* af q x+af p x* dvE q x:=by
 rw[←I2];exact Fo (oT p q) x
theorem uA(p:List Rat):aj (aN (ax p))=aj p:=kz fun i=>by
 rw[ek,fP]
 have h:(((i+1:Nat):Int):Rat)≠0:=by
  intro e;have h1:((i+1:Nat):Int)=0:=Rat.intCast_inj.1 (e.trans Rat.intCast_zero.symm);omega
 grind
theorem yr(o:List Rat)(x v:Rat):∀j,j< o.length→af (o.set j v) x=af o x+(v- coP o j) * x^ j:=by
 induction o with
 |nil=>grind
 |cons a o b=>
  intro j h;cases j with
  |zero=>rw[List.set_cons_zero,aE,aE,dA];grind
  |succ j=>rw[List.set_cons_succ,aE,aE,dm];grind
theorem wD(q:List Rat)(x:Rat)(m:Nat)(h:m< q.length):af (q.take (m+1)) x=af (q.take m) x+coP q m* x^ m:=by
 induction q generalizing m with
 |nil=>cases h
 |cons a q b=>
  cases m with
  |zero=>rw[List.take_succ_cons,Rat.pow_zero];show 0* x+a=0+a* 1;grind
  |succ m=>rw[List.take_succ_cons,List.take_succ_cons,aE,aE,dm];grind
theorem nC(x:Rat)(n:Nat):∀m,x^ (n+m)=x^ n* x^ m
 :=by grind
theorem wF(o:List Rat)(k:Rat)(q:List Rat)(n:Nat)(x:Rat)(h:n+q.length≤o.length):∀m,m≤q.length→af (gE o k q n m) x=af o x- k* x^ n* af (q.take m) x
 |0,_=>by rw[gE];show _=_- _* 0;grind
 |m+1,hm=>by
  rw[gE,AM,yr _ _ _ _ (by rw[iD];omega),wF o k q n x h m (by omega),wD q x m (by omega)];grind
theorem Ja(o:List Rat)(k:Rat)(q:List Rat)(n m:Nat)(hm:m< q.length)(h:n+q.length≤o.length):coP (gE o k q n q.length) (n+m)=coP o (n+m)- k* coP q m:=by
 have:∀j,m< j→j≤q.length→coP (gE o k q n j) (n+m)=coP o (n+m)- k* coP q m:=by
  intro j
  induction j with
  |zero=>grind
  |succ j b=>
   intro h1 a;rw[gE,oR];by_cases e:m=j;subst e;rw[if_pos ⟨rfl,by rw[iD];omega⟩,nB o k q n m (n+m) (by omega)];grind
 grind
theorem yz(q:List Rat)(lead:Rat)(hq:q≠[])(hl:coP q (q.length- 1)=lead)(hl0:lead≠0)(x:Rat):∀c u o,(∀i,i< c→coP u i=0)→c≤u.length→c+q.length≤o.length+1→(∀j,c+q.length- 1≤j→coP o j=0)→
    af (jQ q lead c u o).1 x* af q x+af (jQ q lead c u o).2 x=af u x* af q x+af o x∧∀j,q.length- 1≤j→coP (jQ q lead c u o).2 j=0
 |0,u,o,_,_,_,h4=>⟨rfl,fun j d=>h4 j (by omega)⟩
 |n+1,u,o,h1,h2,h3,h4=>by
  have b:=List.length_pos_iff.2 hq;rw[jQ];obtain⟨k,f⟩:∃k,k=coP o (n+q.length- 1) / lead:=⟨_,rfl⟩;rw[←f];have a:k* lead=coP o (n+q.length- 1):=by grind
  have e:coP u n=0:=h1 n (by omega)
  have g:af (if k=0 then o else gE o k q n q.length) x=af o x- k* x^ n* af q x:=by
   by_cases h0:k=0;rw[if_pos h0,h0];grind;rw[if_neg h0,wF o k q n x (by omega) _ (Nat.le_refl _),List.take_length]
  obtain⟨e1,e2⟩:=yz q lead hq hl hl0 x n (u.set n k) (if k=0 then o else gE o k q n q.length) (fun i h=>by
   rw[uZ,if_neg (by omega)];grind) (by grind) (by split <;>(try simp)<;> omega) (fun j d=>by
   by_cases h0:k=0;rw[if_pos h0];by_cases hj':j=n+q.length- 1;rw[hj',←a,h0];grind;exact h4 j (by omega);rw[if_neg h0];by_cases hj':j=n+q.length- 1;have:=Ja o k q n (q.length- 1) (by omega) (by omega);rw[hj',show n+q.length- 1=n+(q.length- 1) by omega,this,hl,a,show n+(q.length- 1)=n+q.length- 1 by omega];grind;rw[nB o k q n q.length j (by omega)];grind)
  refine⟨?_,e2⟩;rw[e1,g,yr u x k n (by omega),e];grind
theorem qB{p:List Rat}{n:Nat}(h:∀j,n≤j→coP p j=0):(aj p).length≤n:=by
 apply Nat.le_of_not_lt;intro c;have h1:=c8 (l:=p) (n:=(aj p).length- 1) (by omega);have b:aj p≠[]:=fun e=>by grind
 have a:=h ((aj p).length- 1) (by omega);rw[←ce] at a;unfold coP at a;rw[List.getD_eq_getElem?_getD,h1] at a;exact c9 b a
theorem oO(p q:List Rat)(hq:aj q≠[]):(∀x,af (cf p q).1 x* af q x+af (cf p q).2 x=af p x)∧(aj (cf p q).2).length< (aj q).length:=by
 have b:=List.length_pos_iff.2 hq
 have d:coP (aj q) ((aj q).length- 1)=aF q:=by
  have:=c8 (l:=q) (n:=(aj q).length- 1) (by omega);unfold coP;grind
 have c:∀i m,coP (List.replicate m 0) i=0:=fun i m=>by
  unfold coP;grind
 have a:=fun x (h:(aj q).length≤(aj p).length+1)=>yz (aj q) (aF q) hq d (c9 hq) x ((aj p).length+1- (aj q).length) (List.replicate ((aj p).length+1- (aj q).length) 0) (aj p)
  (fun i _=>c i _) (by simp) (by omega) (fun j f=>ef (by omega))
 by_cases h:(aj q).length≤(aj p).length+1;refine⟨fun x=>?_,?_⟩;have e:=(a x h).1;unfold cf;rw[cg,cg,←cg q,e,mT (fun i=>c i _),cg p];grind;have e:=(a 0 h).2;unfold cf;rw[cw];have:=qB e;omega;unfold cf;rw[show(aj p).length+1- (aj q).length=0 by omega];refine⟨fun x=>?_,?_⟩;rw[jQ,cg,cg,cg];show 0* _+_=_;grind;rw[jQ,cw,cw];omega
section
variable (p q r:List Rat)(a b:Rat)
end
def ab(x:Rat):Rat:=if x< 0 then -x else x
theorem cZ(x:Rat):0≤ab x:=by unfold ab;grind
theorem ab_le{x c:Rat}:ab x≤c↔ -c≤x∧x≤c:=by unfold ab;grind
theorem ik(x y:Rat):ab (x+y)≤ab x+ab y:=by unfold ab;grind
theorem tX(x:Rat):ab (-x)=ab x:=by unfold ab;grind
theorem cM(x y:Rat):ab (x* y)=ab x* ab y:=by
 have c:∀a b:Rat,0≤a→0≤b→ab (a* b)=a* b:=fun a b ha hb=>by
  have:=Rat.mul_nonneg ha hb;unfold ab;grind
 by_cases hx:x< 0;by_cases hy:y< 0;have:=c (-x) (-y) (by grind) (by grind);rw[show x* y= -x* -y by grind,this];unfold ab;rw[if_pos hx,if_pos hy];have:=c (-x) y (by grind) (by grind);rw[show x* y= -(-x* y) by grind,tX,this];unfold ab;rw[if_pos hx,if_neg hy];by_cases hy:y< 0;have:=c x (-y) (by grind) (by grind);rw[show x* y= -(x* -y) by grind,tX,this];unfold ab;rw[if_neg hx,if_pos hy];have:=c x y (by grind) (by grind);rw[this];unfold ab;grind
theorem dw{a b c d:Rat}(h1:a≤b)(h2:c≤d)(h3:0≤c)(h4:0≤b):a* c≤b* d:=by
 have e1:=Rat.mul_le_mul_of_nonneg_right h1 h3;have e2:=Rat.mul_le_mul_of_nonneg_left h2 h4;grind
def bV(R:Rat):List Rat→Rat
 |[]=>0
 |a::l=>bV R l* R+ab a
theorem mA{R:Rat}(hR:0≤R):∀l,0≤bV R l
 |[]=>by simp[bV]
 |a::l=>by
  have h1:=Rat.mul_nonneg (mA hR l) hR;have b:=cZ a;rw[bV];grind
theorem fE{R x:Rat}(hR:0≤R)(hx:ab x≤R):∀l,ab (af l x)≤bV R l
 |[]=>by rw[aM,bV];decide
 |a::l=>by
  have h1:=fE hR hx l;have c:=dw h1 hx (cZ x) (mA hR l);have b:=ik (af l x* x) a;rw[cM] at b;rw[aE,bV];grind
def bL(R:Rat):List Rat→Rat
 |[]=>0
 |_::l=>bL R l* R+bV R l
theorem sE{R:Rat}(hR:0≤R):∀l,0≤bL R l
 |[]=>by simp[bL]
 |a::l=>by
  have h1:=Rat.mul_nonneg (sE hR l) hR;have b:=mA hR l;rw[bL];grind
theorem iG{R x y:Rat}(hR:0≤R)(hx:ab x≤R)(hy:ab y≤R):∀l,ab (af l y- af l x)≤bL R l* ab (y- x)
 |[]=>by
  rw[aM,aM,bL,Rat.zero_mul];decide+kernel
 |a::l=>by
  have h1:=iG hR hx hy l;have c:=fE hR hx l;have e:af (a::l) y- af (a::l) x=(af l y- af l x) * y+af l x* (y- x):=by rw[aE,aE];grind
  have d:=ik ((af l y- af l x) * y) (af l x* (y- x));rw[cM,cM] at d;have b:=cZ (y- x);have f:=dw h1 hy (cZ y) (Rat.mul_nonneg (sE hR l) b);have g:=Rat.mul_le_mul_of_nonneg_right c b;rw[bL];grind
def bT(R:Rat):List Rat→Rat
 |[]=>0
 |_::l=>bT R l* R+bL R l
theorem Cy{R:Rat}(hR:0≤R):∀l,0≤bT R l
 |[]=>by simp[bT]
 |a::l=>by
  have h1:=Rat.mul_nonneg (Cy hR l) hR;have b:=sE hR l;rw[bT];grind
theorem oM{R x y:Rat}(hR:0≤R)(hx:ab x≤R)(hy:ab y≤R):∀l,ab (af l y- af l x- (y- x) * dvE l x)≤bT R l* (ab (y- x) * ab (y- x))
 |[]=>by
  rw[aM,aM,bT,show dvE [] x=0 from rfl,Rat.zero_mul,Rat.mul_zero];decide+kernel
 |a::l=>by
  have h1:=oM hR hx hy l;have c:=iG hR hx hy l;have e:af (a::l) y- af (a::l) x- (y- x) * dvE (a::l) x=(af l y- af l x- (y- x) * dvE l x) * x+(af l y- af l x) * (y- x):=by rw[aE,aE,eu];grind
  have d:=ik ((af l y- af l x- (y- x) * dvE l x) * x) ((af l y- af l x) * (y- x));rw[cM,cM] at d;have b:=cZ (y- x);have f:=dw h1 hx (cZ x) (Rat.mul_nonneg (Cy hR l) (Rat.mul_nonneg b b));have g:=Rat.mul_le_mul_of_nonneg_right c b;rw[e,bT];grind
end Go.Abs
